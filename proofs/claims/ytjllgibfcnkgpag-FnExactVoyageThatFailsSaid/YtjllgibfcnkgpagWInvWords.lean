-- the kit's words, without the theorems that this claim never names (xprune.py)
import Derived.Test.YtjllgibfcnkgpagWInv
import Derived.Test.YtjllgibfcnkgpagWFootNe
namespace Go.Proofs.YtjllgibfcnkgpagW.PrintWords
open Go.RowKit
end Go.Proofs.YtjllgibfcnkgpagW.PrintWords
namespace Go.Proofs.YtjllgibfcnkgpagW.PrintLast
section
variable {ops : Array Oper} {a : Act} {o og : Oper} {g : Nat} {t : Tmp} {u : Bool}
end
end Go.Proofs.YtjllgibfcnkgpagW.PrintLast
