import Derived.Test.YtjllgibfcnkgpahXShort
import Derived.Test.YtjllgibfcnkgpahQx0
import Derived.Test.YtjllgibfcnkgpahQx1
import Derived.Test.YtjllgibfcnkgpahQx5
import Derived.Test.YtjllgibfcnkgpahQx6
import Derived.Test.YtjllgibfcnkgpahQx18
import Derived.Test.YtjllgibfcnkgpahQx19
import Derived.Test.YtjllgibfcnkgpahQx20
import Derived.Test.YtjllgibfcnkgpahQx21
import Derived.Test.YtjllgibfcnkgpahXMark
import Derived.Test.YtjllgibfcnkgpahQx22s0
import Derived.Test.YtjllgibfcnkgpahQx22s1
-- by wip/xprint.py, a program of this session over the kit's print: not trusted, Lean checks it.
namespace Go.Proofs.Ytjllgibfcnkgpah.Q
open Go.RowKit Go.Proofs.YtjllgibfcnkgpahW.PrintWords Go.Proofs.YtjllgibfcnkgpahW.PrintLast Go.Proofs.YtjllgibfcnkgpahW.PrintMore
attribute [local go_sem] max2_int min2_int max_two min_two max_three min_three max_four min_four   -- for this text's walks alone
set_option linter.unusedVariables false
set_option linter.unusedSimpArgs false

set_option maxHeartbeats 8000000 in
set_option maxRecDepth 100000 in
theorem laws_FnExactSailAll.calls (k : Nat) (a0_0 : Int) (a0_1 : Int) (a0_2 : Int) (A1_0 : Option Addr) (c1_0 : Nat) (l1_0 : List Int) (a1_1 : Int) (A2 : Option Addr) (c2 : Nat) (l2 : List (S46)) (r : Bool) (w : World) (hr1_0 : Kd.C (Kd.int .i64) w A1_0 l1_0.length l1_0) (hc1_0 : l1_0.length ≤ c1_0) (hr2 : Kd.C k46 w A2 l2.length l2) (hc2 : l2.length ≤ c2) (h : laws_FnExactSailAll.f k a0_0 a0_1 a0_2 l1_0 a1_1 l2 = some r) : Calls Try.prog 3 #[.agg #[.int .i64 a0_0, .int .i64 a0_1, .int .i64 a0_2], .agg #[.slice A1_0 l1_0.length c1_0, .int .i64 a1_1], .slice A2 l2.length c2] w fun e w' => e = .returned (.bool r) ∧ Below w.heap.size w w' :=
  (laws_FnExactSailAll.callsA.go ⟨laws_FnExactSailAll.callsB⟩) k a0_0 a0_1 a0_2 A1_0 c1_0 l1_0 a1_1 A2 c2 l2 r w hr1_0 hc1_0 hr2 hc2 h
/-- THE ONE PURE STATEMENT of laws_FnExactSailAll. -/
def laws_FnExactSailAll.Pure : Prop := ∀ (a0_0 : Int) (a0_1 : Int) (a0_2 : Int) (l1_0 : List Int) (a1_1 : Int) (l2 : List (S46)), (Lit.int .i64 a0_0).wf = true → (Lit.int .i64 a0_1).wf = true → (Lit.int .i64 a0_2).wf = true → (l1_0.length ≤ maxLen ∧ ∀ z ∈ l1_0, (Lit.int .i64 z).wf = true) → (Lit.int .i64 a1_1).wf = true → (l2.length ≤ maxLen ∧ ∀ z ∈ l2, ((Lit.int .i64 z.f0).wf = true ∧ (z.f1.length ≤ maxLen ∧ ∀ zz ∈ z.f1, (Lit.int .i64 zz).wf = true))) → ∃ k, laws_FnExactSailAll.f k a0_0 a0_1 a0_2 l1_0 a1_1 l2 = some true

end Go.Proofs.Ytjllgibfcnkgpah.Q
