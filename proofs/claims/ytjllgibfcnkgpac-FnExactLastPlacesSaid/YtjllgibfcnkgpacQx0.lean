-- by wip/xprint.py, a program of this session over the kit's print: not trusted, Lean checks it.
import Derived.Test.YtjllgibfcnkgpacProg
import Derived.Below
import Derived.Deep.Draws
import Derived.Deep.AppendLies
import Derived.Maps.AppendAt
import Derived.OwnWalk
import Derived.Laws.BytesArg
import Derived.Laws.MakeOwn
import Derived.Laws.OwnMore
import Derived.Deep.OwnRows
import Derived.Tactics
import Derived.Lib.ConvBytes
import Derived.Laws.Slices
import Derived.WalkKit
import Derived.KernelRfl
import Derived.RowKit3
import Derived.Deep.LoopGhost
import Derived.Deep.QuietTactic
import Derived.BigQuiet
import Derived.WideLaws
import Derived.Deep.DeepCutAuto
import Derived.Deep.CutBlock
import Derived.Deep.RegionHeld3
import Derived.Laws.Rows
import Derived.Lib.AppendStr
import Derived.ArgAppend
import Derived.Laws.IdiomCopy
import Derived.OrdersHeld
import Derived.Laws.BitsLemmas
import Derived.RowKit
import Derived.Test.YtjllgibfcnkgpacWWords
import Derived.Test.YtjllgibfcnkgpacWLast
import Derived.Test.YtjllgibfcnkgpacWTab
import Derived.Test.YtjllgibfcnkgpacWFour
import Derived.Test.YtjllgibfcnkgpacWQPut
import Derived.Test.YtjllgibfcnkgpacWApart
import Derived.Test.YtjllgibfcnkgpacWArr
import Derived.Test.YtjllgibfcnkgpacWZeros
import Derived.Test.YtjllgibfcnkgpacWFoot
import Derived.Test.YtjllgibfcnkgpacWKept
import Derived.Test.YtjllgibfcnkgpacWShare
import Derived.Test.YtjllgibfcnkgpacWN
import Derived.Test.YtjllgibfcnkgpacWFootNe
import Derived.Test.YtjllgibfcnkgpacWAt
import Derived.Test.YtjllgibfcnkgpacWEqStruct
import Derived.Test.YtjllgibfcnkgpacWRepsOne
import Derived.Test.YtjllgibfcnkgpacWInv
import Derived.Test.YtjllgibfcnkgpacWInvWords
import Derived.Test.YtjllgibfcnkgpacWGuard
import Derived.Test.YtjllgibfcnkgpacWNEv
import Derived.Test.YtjllgibfcnkgpacWMore
namespace Go.Proofs.Ytjllgibfcnkgpac.Q
open Go.RowKit Go.Proofs.YtjllgibfcnkgpacW.PrintWords Go.Proofs.YtjllgibfcnkgpacW.PrintLast Go.Proofs.YtjllgibfcnkgpacW.PrintMore
attribute [local go_sem] max2_int min2_int max_two min_two max_three min_three max_four min_four   -- for this text's walks alone
set_option linter.unusedVariables false
set_option linter.unusedSimpArgs false



def errW : Option Int → Value
  | none => .nilIface
  | some c => .iface 0 (.int .i64 c)
theorem errW_none : errW none = .nilIface := rfl
theorem errW_some (c : Int) : errW (some c) = .iface 0 (.int .i64 c) := rfl

theorem info3 : (Try.prog.info? 3).map (fun i => (i.zero, i.size, i.bytes)) = some (some (.int .i64 0), 1, 8) := by kernel_rfl
-- the values' own types

end Go.Proofs.Ytjllgibfcnkgpac.Q
