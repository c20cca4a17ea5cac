-- the kit's words, without the theorems that this claim never names (xprune.py)
import Derived.Test.YtjllgibfcnkgpagWWords
import Derived.Laws.StructEq
/-! ### 53. '==' of structs as_ one Bool -/
namespace Go.Proofs.YtjllgibfcnkgpagW.PrintWords
open Go.RowKit
section
variable {P : Program} {d : Nat} {xs ys : Array Value} {f : Field} {fs : List Field} {a b : Value} {r s : Bool} {w : World}
end
end Go.Proofs.YtjllgibfcnkgpagW.PrintWords
