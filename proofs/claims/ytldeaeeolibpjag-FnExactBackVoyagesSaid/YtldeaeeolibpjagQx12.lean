-- by wip/xprint.py, a program of this session over the kit's print: not trusted, Lean checks it.
import Derived.Test.YtldeaeeolibpjagXShort
import Derived.Test.YtldeaeeolibpjagQx0
import Derived.Test.YtldeaeeolibpjagQx7
namespace Go.Proofs.Ytldeaeeolibpjag.Q
open Go.RowKit Go.Proofs.YtldeaeeolibpjagW.PrintWords Go.Proofs.YtldeaeeolibpjagW.PrintLast Go.Proofs.YtldeaeeolibpjagW.PrintMore
attribute [local go_sem] max2_int min2_int max_two min_two max_three min_three max_four min_four   -- for this text's walks alone
set_option linter.unusedVariables false
set_option linter.unusedSimpArgs false

/-! ### impl_areIn_1: function 50 -/
def impl_areIn_1.f (a0 : Int) (a1_0 : Int) (a2_0 : Int) : Option (Bool) := (impl_in.f a0 a1_0 a2_0).bind fun t224 => (some (!t224))
set_option maxHeartbeats 8000000 in
set_option maxRecDepth 100000 in
theorem impl_areIn_1.calls (a0 : Int) (gb501 : Nat) (a1_0 : Int) (gb502 : Nat) (a2_0 : Int) (r : Bool) (w : World) (hb501 : w.heap[gb501]? = some (.cells #[.int .i64 a1_0] 3 (0, 0))) (hb502 : w.heap[gb502]? = some (.cells #[.int .i64 a2_0] 3 (0, 0))) (hn501_502 : gb501 ≠ gb502) (h : impl_areIn_1.f a0 a1_0 a2_0 = some r) :
  Calls Try.prog 50 #[.int .i64 a0, .pointer (some ⟨gb501, 0, none⟩), .pointer (some ⟨gb502, 0, none⟩)] w fun e w' => e = .returned (.bool r) ∧ Drawn0 w w' := by
 have BK501 := X.A hb501
 clear hb501
 have NB501_502 := X.A hn501_502
 have BK502 := X.A hb502
 clear hb502
 have NB502_501 := X.A hn501_502.symm
 have H : ((impl_in.f a0 a1_0 a2_0).bind fun t224 => (some (!t224))) = some r := h
 clear h
 replace H := Option.bind_eq_some_iff.mp H
 obtain ⟨t224, A40, H⟩ := H
 replace H : (some (!t224)) = some r := H
 have A4 := X.A A40
 clear A40
 obtain rfl := Option.some.inj H
 have hnb5 := NB501_502.out
 have hnc5 := NB502_501.out
 have hcz6_0 : w.cell? ⟨gb501, 0, none⟩ = some (.int .i64 a1_0) := (blk_cell BK501.out 0).trans rfl
 have hfz6_0 := blk_frozen BK501.out 0
 have hcz7_0 : w.cell? ⟨gb502, 0, none⟩ = some (.int .i64 a2_0) := (blk_cell BK502.out 0).trans rfl
 have hfz7_0 := blk_frozen BK502.out 0
 go_enter Try.func50, Try.ntmps50
 go_wp2_with (first | ((with_reducible refine gate_callee (f := 37) rfl ?_); refine goesL_ (some 8) rfl rfl Try.func37 (by kernel_rfl) rfl #[.int .i64 a0, .int .i64 a1_0, .int .i64 a2_0] rfl X.M ?_; (with_reducible refine (impl_in.calls a0 a1_0 a2_0 t224 _ A4.out).mono ?_); rintro e w' ⟨rfl, ⟨nd, rfl⟩⟩; refine ⟨_, rfl, ?_⟩))
 go_ret
 exact ⟨by first | rfl | (simp; done) | (simp [*]; done), by repeat (first | exact Drawn0.refl _ | apply Drawn0.step)⟩

end Go.Proofs.Ytldeaeeolibpjag.Q
