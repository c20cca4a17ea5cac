/- The given row of the law FnCouplesCalm: whatever is given, it answers true. Conditions: none of ours. -/
import Derived.Test.YtanlmanifpknoaaOk
import Derived.WalkKit
import Derived.ProofKit
import Derived.OpenShut
import Derived.ShutString
import Derived.ChangeOld
import Derived.Below
import Derived.SizedLaws
namespace Go.Proofs.Ytanlmanifpknoaa.QfnCouplesCalm
open Go.ChangeShapes Go.WideShapes Go.ChangeAt Go.RowKit Go.Proofs.Ytanlmanifpknoaa
open Go.ChangeMaps (open_string shut_string)
set_option linter.unusedVariables false
theorem wfB_mk (ts : List Ev.T) (h : Ev.wfB ts) : (ts.headD .nil).cells = ts ∧ ts.all Ev.T.one = true := by
  obtain ⟨n, rfl, _⟩ := h; exact ⟨rfl, rfl⟩
theorem own : ownKnob Try.prog.godebug = none := by kernel_rfl
theorem laidOut : laidOutB Try.prog = true := by kernel_rfl
theorem walk (w : World) (t0 t1 : List Ev.T)  (v0 : Value) (v1 : Value) (h0 : Ev.wfBs t0) (h1 : Ev.wfBs t1) (k0 : Ev.TRs w (fun m => m < w.heap.size) t0 [v0]) (k1 : Ev.TRs w (fun m => m < w.heap.size) t1 [v1]) :
    Calls Try.prog 4 #[v0, v1] w fun e w' => e = .returned (.bool true) ∧ Below w.heap.size w w' := by
  obtain ⟨Z0, Z1, rfl, rfl, hr⟩ := Ev.r4_top h0 h1
  have kz0 : Ev.TR w (fun m => m < w.heap.size) Z0 v0 := k0.2 0 _ _ rfl rfl
  have kz1 : Ev.TR w (fun m => m < w.heap.size) Z1 v1 := k1.2 0 _ _ rfl rfl
  exact Ev.top_true («as» := [v0, v1]) Ev.envOk hr rfl (fun i x v hx hv => by
    cases i with
    | zero => simp at hx hv; subst hx hv; exact kz0
    | succ i =>
     cases i with
     | zero => simp at hx hv; subst hx hv; exact kz1
     | succ i =>
      simp at hx)
set_option maxRecDepth 100000 in
set_option maxHeartbeats 4000000 in
theorem lifted (os : Os) (started : os.Started) (H : Type) (enc : TypeId × Value → H) :
    ReturnsInHanded {} Try.checked os 4 .any (Rows.fnCouplesCalmSpec.pre6 enc Try.prog Try.f4 Rows.fnCouplesCalmRow.domain false) (Rows.fnCouplesCalmSpec.post enc Try.prog Try.f4 false true false false) := by
  refine returnsInHanded_of_change_sized (C := Try.checked) own started (by kernel_rfl) Try.func4
    (ChangeSpec.witness6 (enc := enc) (C := Try.checked) false ⟨#[], #[.slice none 0 0, .slice none 0 0], []⟩ 8 (by kernel_rfl) (by kernel_rfl) (by kernel_rfl) (by kernel_rfl)) ?_
  intro W base args ds gs before hval0 hW hcnd hsz0 _
  have hval : ∀ (j : Nat) t v, Try.f4.params[j]? = some t → args[j]? = some v → Value.okWide Try.prog W .any base t v := hval0
  have hW' := hW
  obtain ⟨p, q, hA0, hV, rfl, hfz, hnd⟩ := hW
  have hA : DataW.TrodAll enc Try.prog W 0 (fun _ => true) true Try.f4.params.toList args.toList ds p := hA0
  rw [Try.params4] at hA hval
  obtain ⟨v0, vs0, d0, ds0, p0, q0, hargs, rfl, rfl, h0, r0⟩ := trodAll_cons hA
  obtain ⟨v1, vs1, d1, ds1, p1, q1, rfl, rfl, rfl, h1, r1⟩ := trodAll_cons r0
  obtain ⟨rfl, rfl, rfl⟩ := trodAll_nil r1
  obtain rfl : args = #[v0, v1] := by cases args; simp_all
  obtain ⟨rfl, rfl⟩ := trodVars_none hV
  have k0 := h0
  have lt0 : ∀ x ∈ p0, x.block < W.heap.size := by obtain ⟨m, hm⟩ := k0; exact DataW.trod_lt m _ _ _ hm
  obtain ⟨aa0, len0, cap0, rfl⟩ := okWide_slice Try.underlying22 (hval 0 22 v0 rfl rfl)
  obtain ⟨fuel0, hf0⟩ := h0
  obtain ⟨ts0, _, hTR0, hts0⟩ := (Ev.opn_slice (fun x => x.headD .nil) Try.underlying22 (by kernel_rfl) (by decide) (Ev.opn_int Try.underlying5) wfB_mk) _ _ _ hf0
  have k1 := h1
  have lt1 : ∀ x ∈ p1, x.block < W.heap.size := by obtain ⟨m, hm⟩ := k1; exact DataW.trod_lt m _ _ _ hm
  obtain ⟨aa1, len1, cap1, rfl⟩ := okWide_slice Try.underlying22 (hval 1 22 v1 rfl rfl)
  obtain ⟨fuel1, hf1⟩ := h1
  obtain ⟨ts1, _, hTR1, hts1⟩ := (Ev.opn_slice (fun x => x.headD .nil) Try.underlying22 (by kernel_rfl) (by decide) (Ev.opn_int Try.underlying5) wfB_mk) _ _ _ hf1
  clear hA0 hval0 hsz0
  refine (walk W ts0 ts1  _ _ hts0 hts1 hTR0 hTR1).mono fun e W' ⟨he, bel⟩ => ?_
  subst he
  exact ⟨_, rfl, _, _, _, [], _, [], hW', trodAll_mk1 (shut_bool Try.underlying4 _), (trodAll_cons_mk (Below.trod laidOut (by kernel_rfl) (of_decide_eq_true (by kernel_rfl)) k0 bel lt0) (trodAll_cons_mk (Below.trod laidOut (by kernel_rfl) (of_decide_eq_true (by kernel_rfl)) k1 bel lt1) trodAll_mk0)), rfl, bel.frame _, fun h => by cases h⟩
theorem over : Rows.fnCouplesCalmRow.holds Try.pinned (OpenSpec.ofChange Rows.fnCouplesCalmSpec) :=
  OpenClaim.holds_of_wide 4 Try.f4 rfl rfl rfl rfl rfl rfl rfl ⟨rfl, rfl, rfl, rfl, rfl⟩ rfl rfl rfl rfl rfl (by kernel_rfl) Try.func4 (by kernel_rfl)
    (of_decide_eq_true (by kernel_rfl)) (by unfold Func.isWrapper; first | (rw [if_pos (by decide +kernel)]; kernel_rfl) | (rw [if_neg (by decide +kernel)]; exact ⟨rfl, rfl⟩))
    (fun os started H enc _ => lifted os started H enc)
theorem proved : Rows.FnCouplesCalmSaid := over
#print axioms proved
end Go.Proofs.Ytanlmanifpknoaa.QfnCouplesCalm
namespace Go.Proofs.Ytanlmanifpknoaa
/-- The row, under a short name, for the claim. -/
theorem fnCouplesCalm_holds : Rows.FnCouplesCalmSaid := QfnCouplesCalm.proved
end Go.Proofs.Ytanlmanifpknoaa
