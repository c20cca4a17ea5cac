import Derived.Test.YtjllgibfcnkgpafXShort
import Derived.Test.YtjllgibfcnkgpafQx0
import Derived.Test.YtjllgibfcnkgpafQx1
import Derived.Test.YtjllgibfcnkgpafQx5
import Derived.Test.YtjllgibfcnkgpafQx17
import Derived.Test.YtjllgibfcnkgpafQx18s0
import Derived.Test.YtjllgibfcnkgpafQx18s1
import Derived.Test.YtjllgibfcnkgpafQx18s2
-- by wip/xprint.py, a program of this session over the kit's print: not trusted, Lean checks it.
namespace Go.Proofs.Ytjllgibfcnkgpaf.Q
open Go.RowKit Go.Proofs.YtjllgibfcnkgpafW.PrintWords Go.Proofs.YtjllgibfcnkgpafW.PrintLast Go.Proofs.YtjllgibfcnkgpafW.PrintMore
attribute [local go_sem] max2_int min2_int max_two min_two max_three min_three max_four min_four   -- for this text's walks alone
set_option linter.unusedVariables false
set_option linter.unusedSimpArgs false

set_option maxHeartbeats 8000000 in
set_option maxRecDepth 100000 in
theorem laws_FnExactSail.calls (k : Nat) (a0_0 : Int) (a0_1 : Int) (a0_2 : Int) (A1_0 : Option Addr) (c1_0 : Nat) (l1_0 : List Int) (a1_1 : Int) (a2_0 : Int) (A2_1 : Option Addr) (c2_1 : Nat) (l2_1 : List Int) (r : Bool) (w : World) (hr1_0 : Kd.C (Kd.int .i64) w A1_0 l1_0.length l1_0) (hc1_0 : l1_0.length ≤ c1_0) (hr2_1 : Kd.C (Kd.int .i64) w A2_1 l2_1.length l2_1) (hc2_1 : l2_1.length ≤ c2_1) (h : laws_FnExactSail.f k a0_0 a0_1 a0_2 l1_0 a1_1 a2_0 l2_1 = some r) : Calls Try.prog 3 #[.agg #[.int .i64 a0_0, .int .i64 a0_1, .int .i64 a0_2], .agg #[.slice A1_0 l1_0.length c1_0, .int .i64 a1_1], .agg #[.int .i64 a2_0, .slice A2_1 l2_1.length c2_1]] w fun e w' => e = .returned (.bool r) ∧ Below w.heap.size w w' :=
  (laws_FnExactSail.callsA.go ⟨laws_FnExactSail.callsB.go ⟨laws_FnExactSail.callsC⟩⟩) k a0_0 a0_1 a0_2 A1_0 c1_0 l1_0 a1_1 a2_0 A2_1 c2_1 l2_1 r w hr1_0 hc1_0 hr2_1 hc2_1 h
/-- THE ONE PURE STATEMENT of laws_FnExactSail. -/
def laws_FnExactSail.Pure : Prop := ∀ (a0_0 : Int) (a0_1 : Int) (a0_2 : Int) (l1_0 : List Int) (a1_1 : Int) (a2_0 : Int) (l2_1 : List Int), (Lit.int .i64 a0_0).wf = true → (Lit.int .i64 a0_1).wf = true → (Lit.int .i64 a0_2).wf = true → (l1_0.length ≤ maxLen ∧ ∀ z ∈ l1_0, (Lit.int .i64 z).wf = true) → (Lit.int .i64 a1_1).wf = true → (Lit.int .i64 a2_0).wf = true → (l2_1.length ≤ maxLen ∧ ∀ z ∈ l2_1, (Lit.int .i64 z).wf = true) → ∃ k, laws_FnExactSail.f k a0_0 a0_1 a0_2 l1_0 a1_1 a2_0 l2_1 = some true

end Go.Proofs.Ytjllgibfcnkgpaf.Q
