-- the kit's words, without the theorems that this claim never names (xprune.py)
import Derived.Test.YtldeaeeolibpjagWInv
import Derived.Test.YtldeaeeolibpjagWFootNe
namespace Go.Proofs.YtldeaeeolibpjagW.PrintWords
open Go.RowKit
end Go.Proofs.YtldeaeeolibpjagW.PrintWords
namespace Go.Proofs.YtldeaeeolibpjagW.PrintLast
section
variable {ops : Array Oper} {a : Act} {o og : Oper} {g : Nat} {t : Tmp} {u : Bool}
end
end Go.Proofs.YtldeaeeolibpjagW.PrintLast
