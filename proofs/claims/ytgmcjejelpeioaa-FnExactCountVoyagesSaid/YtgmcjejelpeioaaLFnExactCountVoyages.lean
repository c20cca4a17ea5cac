/- The given row of the law FnExactCountVoyages: whatever isles are given, it answers true. Conditions: none of ours. -/
import Derived.Test.YtgmcjejelpeioaaOk
import Derived.WalkKit
import Derived.ProofKit
import Derived.OpenShut
import Derived.ShutString
import Derived.ChangeOld
import Derived.Below
import Derived.SizedLaws
namespace Go.Proofs.Ytgmcjejelpeioaa.QfnExactCountVoyages
open Go.ChangeShapes Go.WideShapes Go.ChangeAt Go.RowKit Go.Proofs.Ytgmcjejelpeioaa
open Go.ChangeMaps (open_string shut_string)
set_option linter.unusedVariables false
theorem own : ownKnob Try.prog.godebug = none := by kernel_rfl
theorem laidOut : laidOutB Try.prog = true := by kernel_rfl
theorem walk (ts : List Ev.T) (cs : Array Value) (w : World) (hts : ∃ t0 t1 t2, ts = t0 ++ (t1 ++ t2) ∧ (∃ n, t0 = [.int .i64 n] ∧ (Lit.int .i64 n).wf = true) ∧ (∃ n, t1 = [.int .i64 n] ∧ (Lit.int .i64 n).wf = true) ∧ (∃ n, t2 = [.int .i64 n] ∧ (Lit.int .i64 n).wf = true)) (hTR : Ev.TRs w (fun m => m < w.heap.size) ts cs.toList) :
    Calls Try.prog 6 #[.agg cs] w fun e w' => e = .returned (.bool true) ∧ Below w.heap.size w w' := by
  obtain ⟨_, _, _, rfl, ⟨a, rfl, _⟩, ⟨b, rfl, _⟩, ⟨c, rfl, _⟩⟩ := hts
  have h := Ev.opn_agg hTR
  exact Ev.top_true Ev.envOk (Ev.r6 a b c) rfl (fun i x v hx hv => by
    cases i with
    | zero => simp at hx hv; subst hx hv; exact h
    | succ i => simp at hx)
set_option maxRecDepth 100000 in
theorem lifted (os : Os) (started : os.Started) (H : Type) (enc : TypeId × Value → H) :
    ReturnsInHanded {} Try.checked os 6 .any (Rows.fnExactCountVoyagesSpec.pre6 enc Try.prog Try.f6 Rows.fnExactCountVoyagesRow.domain false) (Rows.fnExactCountVoyagesSpec.post enc Try.prog Try.f6 false true false false) := by
  refine returnsInHanded_of_change_sized (C := Try.checked) own started (by kernel_rfl) Try.func6
    (ChangeSpec.witness6 (enc := enc) (C := Try.checked) false ⟨#[], #[.agg #[.int .i64 0, .int .i64 0, .int .i64 0]], []⟩ 8 (by kernel_rfl) (by kernel_rfl) (by kernel_rfl) (by kernel_rfl)) ?_
  intro W base args ds gs before hval0 hW hcnd hsz0 _
  have hval : ∀ (j : Nat) t v, Try.f6.params[j]? = some t → args[j]? = some v → Value.okWide Try.prog W .any base t v := hval0
  have hW' := hW
  obtain ⟨p, q, hA0, hV, rfl, hfz, hnd⟩ := hW
  have hA : DataW.TrodAll enc Try.prog W 0 (fun _ => true) true Try.f6.params.toList args.toList ds p := hA0
  rw [Try.params6] at hA hval
  obtain ⟨v0, vs0, d0, ds0, p0, q0, hargs, rfl, rfl, h0, r0⟩ := trodAll_cons hA
  obtain ⟨rfl, rfl, rfl⟩ := trodAll_nil r0
  obtain rfl : args = #[v0] := by cases args; simp_all
  obtain ⟨rfl, rfl⟩ := trodVars_none hV
  have k0 := h0
  have lt0 : ∀ x ∈ p0, x.block < W.heap.size := by obtain ⟨m, hm⟩ := k0; exact DataW.trod_lt m _ _ _ hm
  obtain ⟨cs0, rfl, _⟩ := okWide_struct Try.underlying23 (hval 0 23 v0 rfl rfl)
  obtain ⟨fuel0, hf0⟩ := h0
  obtain ⟨ts, _, hTR, hts⟩ := (Ev.opn_struct3 Try.underlying23 rfl rfl rfl (by kernel_rfl) (by kernel_rfl) (by kernel_rfl) (by kernel_rfl) (Ev.opn_int Try.underlying3) (Ev.opn_int Try.underlying3) (Ev.opn_int Try.underlying3)) _ _ _ hf0
  clear hA0 hval0 hsz0
  refine (walk ts cs0 W hts hTR).mono fun e W' ⟨he, bel⟩ => ?_
  subst he
  exact ⟨_, rfl, _, _, _, [], _, [], hW', trodAll_mk1 (shut_bool Try.underlying4 _), (trodAll_cons_mk (Below.trod laidOut (by kernel_rfl) (of_decide_eq_true (by kernel_rfl)) k0 bel lt0) trodAll_mk0), rfl, bel.frame _, fun h => by cases h⟩
theorem over : Rows.fnExactCountVoyagesRow.holds Try.pinned (OpenSpec.ofChange Rows.fnExactCountVoyagesSpec) :=
  OpenClaim.holds_of_wide 6 Try.f6 rfl rfl rfl rfl rfl rfl rfl ⟨rfl, rfl, rfl, rfl, rfl⟩ rfl rfl rfl rfl rfl (by kernel_rfl) Try.func6 (by kernel_rfl)
    (of_decide_eq_true (by kernel_rfl)) (by unfold Func.isWrapper; first | (rw [if_pos (by decide +kernel)]; kernel_rfl) | (rw [if_neg (by decide +kernel)]; exact ⟨rfl, rfl⟩))
    (fun os started H enc _ => lifted os started H enc)
theorem proved : Rows.FnExactCountVoyagesSaid := over
#print axioms proved
end Go.Proofs.Ytgmcjejelpeioaa.QfnExactCountVoyages
namespace Go.Proofs.Ytgmcjejelpeioaa
/-- The row, under a short name, for the claim. -/
theorem fnExactCountVoyages_holds : Rows.FnExactCountVoyagesSaid := QfnExactCountVoyages.proved
end Go.Proofs.Ytgmcjejelpeioaa
