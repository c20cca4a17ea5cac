-- by wip/xprint.py, a program of this session over the kit's print: not trusted, Lean checks it.
import Derived.Test.YtjllgibfcnkgpaeProg
import Derived.Below
import Derived.Deep.Draws
import Derived.Deep.AppendLies
import Derived.Maps.AppendAt
import Derived.OwnWalk
import Derived.Laws.BytesArg
import Derived.Laws.MakeOwn
import Derived.Laws.OwnMore
import Derived.Deep.OwnRows
import Derived.Tactics
import Derived.Lib.ConvBytes
import Derived.Laws.Slices
import Derived.WalkKit
import Derived.KernelRfl
import Derived.RowKit3
import Derived.Deep.LoopGhost
import Derived.Deep.QuietTactic
import Derived.BigQuiet
import Derived.WideLaws
import Derived.Deep.DeepCutAuto
import Derived.Deep.CutBlock
import Derived.Deep.RegionHeld3
import Derived.Laws.Rows
import Derived.Lib.AppendStr
import Derived.ArgAppend
import Derived.Laws.IdiomCopy
import Derived.OrdersHeld
import Derived.Laws.BitsLemmas
import Derived.RowKit
import Derived.Test.YtjllgibfcnkgpaeWWords
import Derived.Test.YtjllgibfcnkgpaeWLast
import Derived.Test.YtjllgibfcnkgpaeWTab
import Derived.Test.YtjllgibfcnkgpaeWFour
import Derived.Test.YtjllgibfcnkgpaeWQPut
import Derived.Test.YtjllgibfcnkgpaeWApart
import Derived.Test.YtjllgibfcnkgpaeWArr
import Derived.Test.YtjllgibfcnkgpaeWZeros
import Derived.Test.YtjllgibfcnkgpaeWFoot
import Derived.Test.YtjllgibfcnkgpaeWKept
import Derived.Test.YtjllgibfcnkgpaeWShare
import Derived.Test.YtjllgibfcnkgpaeWN
import Derived.Test.YtjllgibfcnkgpaeWFootNe
import Derived.Test.YtjllgibfcnkgpaeWAt
import Derived.Test.YtjllgibfcnkgpaeWEqStruct
import Derived.Test.YtjllgibfcnkgpaeWRepsOne
import Derived.Test.YtjllgibfcnkgpaeWInv
import Derived.Test.YtjllgibfcnkgpaeWInvWords
import Derived.Test.YtjllgibfcnkgpaeWGuard
import Derived.Test.YtjllgibfcnkgpaeWNEv
import Derived.Test.YtjllgibfcnkgpaeWMore
namespace Go.Proofs.Ytjllgibfcnkgpae.Q
open Go.RowKit Go.Proofs.YtjllgibfcnkgpaeW.PrintWords Go.Proofs.YtjllgibfcnkgpaeW.PrintLast Go.Proofs.YtjllgibfcnkgpaeW.PrintMore
attribute [local go_sem] max2_int min2_int max_two min_two max_three min_three max_four min_four   -- for this text's walks alone
set_option linter.unusedVariables false
set_option linter.unusedSimpArgs false



def errW : Option Int → Value
  | none => .nilIface
  | some c => .iface 0 (.int .i64 c)
theorem errW_none : errW none = .nilIface := rfl
theorem errW_some (c : Int) : errW (some c) = .iface 0 (.int .i64 c) := rfl

theorem info3 : (Try.prog.info? 3).map (fun i => (i.zero, i.size, i.bytes)) = some (some (.int .i64 0), 1, 8) := by kernel_rfl
-- the values' own types

end Go.Proofs.Ytjllgibfcnkgpae.Q
