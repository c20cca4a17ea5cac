-- the kit's words, without the theorems that this claim never names (xprune.py)
import Derived.Test.YtjllgibfcnkgpafWInv
import Derived.Test.YtjllgibfcnkgpafWFootNe
namespace Go.Proofs.YtjllgibfcnkgpafW.PrintWords
open Go.RowKit
end Go.Proofs.YtjllgibfcnkgpafW.PrintWords
namespace Go.Proofs.YtjllgibfcnkgpafW.PrintLast
section
variable {ops : Array Oper} {a : Act} {o og : Oper} {g : Nat} {t : Tmp} {u : Bool}
end
end Go.Proofs.YtjllgibfcnkgpafW.PrintLast
