-- the kit's words, without the theorems that this claim never names (xprune.py)
import Derived.Test.YtldeaeeolibpjaaWInv
import Derived.Test.YtldeaeeolibpjaaWFootNe
namespace Go.Proofs.YtldeaeeolibpjaaW.PrintWords
open Go.RowKit
end Go.Proofs.YtldeaeeolibpjaaW.PrintWords
namespace Go.Proofs.YtldeaeeolibpjaaW.PrintLast
section
variable {ops : Array Oper} {a : Act} {o og : Oper} {g : Nat} {t : Tmp} {u : Bool}
end
end Go.Proofs.YtldeaeeolibpjaaW.PrintLast
