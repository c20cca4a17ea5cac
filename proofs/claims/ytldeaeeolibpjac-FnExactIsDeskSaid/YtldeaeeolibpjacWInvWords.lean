-- the kit's words, without the theorems that this claim never names (xprune.py)
import Derived.Test.YtldeaeeolibpjacWInv
import Derived.Test.YtldeaeeolibpjacWFootNe
namespace Go.Proofs.YtldeaeeolibpjacW.PrintWords
open Go.RowKit
end Go.Proofs.YtldeaeeolibpjacW.PrintWords
namespace Go.Proofs.YtldeaeeolibpjacW.PrintLast
section
variable {ops : Array Oper} {a : Act} {o og : Oper} {g : Nat} {t : Tmp} {u : Bool}
end
end Go.Proofs.YtldeaeeolibpjacW.PrintLast
