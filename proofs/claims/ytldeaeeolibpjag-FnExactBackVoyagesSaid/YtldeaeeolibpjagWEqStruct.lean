-- the kit's words, without the theorems that this claim never names (xprune.py)
import Derived.Test.YtldeaeeolibpjagWWords
import Derived.Laws.StructEq
namespace Go.Proofs.YtldeaeeolibpjagW.PrintWords
open Go.RowKit
section
variable {P : Program} {d : Nat} {xs ys : Array Value} {f : Field} {fs : List Field} {a b : Value} {r s : Bool} {w : World}
end
end Go.Proofs.YtldeaeeolibpjagW.PrintWords
