-- the kit's words, without the theorems that this claim never names (xprune.py)
import Derived.Test.YtjllgibfcnkgpahWInv
import Derived.Test.YtjllgibfcnkgpahWFootNe
namespace Go.Proofs.YtjllgibfcnkgpahW.PrintWords
open Go.RowKit
end Go.Proofs.YtjllgibfcnkgpahW.PrintWords
namespace Go.Proofs.YtjllgibfcnkgpahW.PrintLast
section
variable {ops : Array Oper} {a : Act} {o og : Oper} {g : Nat} {t : Tmp} {u : Bool}
end
end Go.Proofs.YtjllgibfcnkgpahW.PrintLast
