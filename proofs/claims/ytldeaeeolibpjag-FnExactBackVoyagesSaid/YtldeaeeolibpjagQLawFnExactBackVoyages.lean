/- The given row of the law FnExactBackVoyages, out of the contract of its Go function and its plain statement. Conditions: none of ours. -/
import Derived.Test.YtldeaeeolibpjagRows
import Derived.Test.YtldeaeeolibpjagQx26
import Derived.Test.YtldeaeeolibpjagXOpen
import Derived.Test.YtldeaeeolibpjagPureFnExactBackVoyages
import Derived.WalkKit
import Derived.ProofKit
import Derived.OpenShut
import Derived.ShutString
import Derived.ChangeOld
import Derived.Below
import Derived.SizedLaws
import Derived.Test.YtldeaeeolibpjagWSized
namespace Go.Proofs.Ytldeaeeolibpjag.QfnExactBackVoyages
open Go.ChangeShapes Go.WideShapes Go.ChangeAt Go.RowKit Go.Proofs.Ytldeaeeolibpjag Go.Proofs.Ytldeaeeolibpjag.Q Go.Proofs.YtldeaeeolibpjagW.PrintWords
open Go.ChangeMaps (open_string shut_string)
set_option linter.unusedVariables false
theorem own : ownKnob Try.prog.godebug = none := by kernel_rfl
theorem laidOut : laidOutB Try.prog = true := by kernel_rfl
theorem walk (P : laws_FnExactBackVoyages.Pure) (a0_0 : Int) (a0_1 : Int) (a0_2 : Int) (Al1 : Option Addr) (cl1 : Nat) (l1 : List (S38)) (w : World) (wa0_0 : (Lit.int .i64 a0_0).wf = true) (wa0_1 : (Lit.int .i64 a0_1).wf = true) (wa0_2 : (Lit.int .i64 a0_2).wf = true) (hrl1 : Kd.C k38 w Al1 l1.length l1) (hcl1 : l1.length ≤ cl1) (wl1 : (l1.length ≤ maxLen ∧ ∀ z ∈ l1, ((Lit.int .i64 z.f0).wf = true ∧ (z.f1.length ≤ maxLen ∧ ∀ zz ∈ z.f1, (Lit.int .i64 zz).wf = true)))) :
    Calls Try.prog 3 #[.agg #[.int .i64 a0_0, .int .i64 a0_1, .int .i64 a0_2], .slice Al1 l1.length cl1] w fun e w' => e = .returned (.bool true) ∧ Below w.heap.size w w' := by
  obtain ⟨k, h⟩ := P a0_0 a0_1 a0_2 l1 wa0_0 wa0_1 wa0_2 wl1
  refine (laws_FnExactBackVoyages.calls k a0_0 a0_1 a0_2 _ _ l1 true w hrl1 hcl1 h).mono ?_
  rintro e w' ⟨rfl, hd⟩
  exact ⟨rfl, hd⟩
set_option maxRecDepth 100000 in
theorem lifted (os : Os) (started : os.Started) (H : Type) (enc : TypeId × Value → H) :
    ReturnsInHanded {} Try.checked os 3 .any (Rows.fnExactBackVoyagesSpec.pre6 enc Try.prog Try.f3 Rows.fnExactBackVoyagesRow.domain false) (Rows.fnExactBackVoyagesSpec.post enc Try.prog Try.f3 false true false false) := by
  refine returnsInHanded_of_change_sized (C := Try.checked) own started (by kernel_rfl) Try.func3
    (ChangeSpec.witness6 (enc := enc) (C := Try.checked) false ⟨#[], #[.agg #[.int .i64 0, .int .i64 0, .int .i64 0], .slice none 0 0], []⟩ 8 (by kernel_rfl) (by kernel_rfl) (by kernel_rfl) (by kernel_rfl)) ?_
  intro W base args ds gs before hval0 hW hcnd hsz0 _
  have hval : ∀ (j : Nat) t v, Try.f3.params[j]? = some t → args[j]? = some v → Value.okWide Try.prog W .any base t v := hval0
  have hW' := hW
  obtain ⟨p, q, hA0, hV, rfl, hfz, hnd⟩ := hW
  have hA : DataW.TrodAll enc Try.prog W 0 (fun _ => true) true Try.f3.params.toList args.toList ds p := hA0
  rw [Try.params3] at hA hval
  obtain ⟨v0, vs0, d0, ds0, p0, q0, hargs, rfl, rfl, h0, r0⟩ := trodAll_cons hA
  obtain ⟨v1, vs1, d1, ds1, p1, q1, rfl, rfl, rfl, h1, r1⟩ := trodAll_cons r0
  obtain ⟨rfl, rfl, rfl⟩ := trodAll_nil r1
  obtain rfl : args = #[v0, v1] := by cases args; simp_all
  obtain ⟨rfl, rfl⟩ := trodVars_none hV
  have k0 := h0
  have lt0 : ∀ x ∈ p0, x.block < W.heap.size := by obtain ⟨m, hm⟩ := k0; exact DataW.trod_lt m _ _ _ hm
  obtain ⟨cs0, rfl, _⟩ := okWide_struct Try.underlying23 (hval 0 23 v0 rfl rfl)
  obtain ⟨fuel0, hf0⟩ := h0
  obtain ⟨x0, K0, W0⟩ := (show X.Op enc Try.prog W 0 (fun _ => true) true 23 _ _ from (X.op_struct3 Try.underlying23 rfl rfl rfl (by kernel_rfl) (by kernel_rfl) (by kernel_rfl) (by kernel_rfl) (X.op_int Try.underlying3) (X.op_int Try.underlying3) (X.op_int Try.underlying3))) _ _ _ hf0
  obtain ⟨a0_0, a0_1, a0_2⟩ := x0
  obtain ⟨wa0_0, wa0_1, wa0_2⟩ := W0
  obtain ⟨_, _, hcs, rfl, ⟨_, _, rfl, rfl, rfl⟩⟩ := K0
  obtain rfl : cs0 = #[.int .i64 a0_0, .int .i64 a0_1, .int .i64 a0_2] := by
    apply Array.toList_inj.1
    simpa [Value.cells] using hcs
  clear hcs
  have k1 := h1
  have lt1 : ∀ x ∈ p1, x.block < W.heap.size := by obtain ⟨m, hm⟩ := k1; exact DataW.trod_lt m _ _ _ hm
  obtain ⟨aa1, len1, cap1, rfl⟩ := okWide_slice Try.underlying24 (hval 1 24 v1 rfl rfl)
  obtain ⟨fuel1, hf1⟩ := h1
  obtain ⟨x1, K1, W1⟩ := (show X.Op enc Try.prog W 0 (fun _ => true) true 24 _ _ from (X.op_slice Try.underlying24 (by kernel_rfl) (X.op_iso (β := S38) (f := fun x : S38 => (x.f0, x.f1)) (fun y => ⟨y.1, y.2⟩) (fun y => rfl) (X.op_struct2 Try.underlying38 rfl rfl (by kernel_rfl) (by kernel_rfl) (by kernel_rfl) (X.op_int Try.underlying3) (X.op_slice Try.underlying36 (by kernel_rfl) (X.op_int Try.underlying3)))))) _ _ _ hf1
  obtain ⟨l1, rfl⟩ : ∃ z, z = x1 := ⟨_, rfl⟩
  have wl1 := W1
  obtain ⟨Al1, cl1, hcs, hcl1, hrl1⟩ := K1
  have hcs' : Value.slice aa1 len1 cap1 = .slice Al1 l1.length cl1 := by simpa [Value.cells] using hcs
  obtain ⟨ea_, el_, ec_⟩ := Value.slice.inj hcs'
  have ea_ := ea_.symm
  have ec_ := ec_.symm
  subst ea_ el_ ec_
  clear hcs'
  clear hcs
  clear hA0 hval0 hsz0
  refine (walk Pure.FnExactBackVoyages a0_0 a0_1 a0_2 Al1 cl1 l1 W wa0_0 wa0_1 wa0_2 hrl1 hcl1 wl1).mono fun e W' ⟨he, bel⟩ => ?_
  subst he
  exact ⟨_, rfl, _, _, _, [], _, [], hW', trodAll_mk1 (shut_bool Try.underlying4 _), (trodAll_cons_mk (Below.trod laidOut (by kernel_rfl) (of_decide_eq_true (by kernel_rfl)) k0 bel lt0) (trodAll_cons_mk (Below.trod laidOut (by kernel_rfl) (of_decide_eq_true (by kernel_rfl)) k1 bel lt1) trodAll_mk0)), rfl, bel.frame _, fun h => by cases h⟩
theorem over : Rows.fnExactBackVoyagesRow.holds Try.pinned (OpenSpec.ofChange Rows.fnExactBackVoyagesSpec) :=
  OpenClaim.holds_of_wide 3 Try.f3 rfl rfl rfl rfl rfl rfl rfl ⟨rfl, rfl, rfl, rfl, rfl⟩ rfl rfl rfl rfl rfl (by kernel_rfl) Try.func3 (by kernel_rfl)
    (of_decide_eq_true (by kernel_rfl)) (by unfold Func.isWrapper; first | (rw [if_pos (by decide +kernel)]; kernel_rfl) | (rw [if_neg (by decide +kernel)]; exact ⟨rfl, rfl⟩))
    (fun os started H enc _ => lifted os started H enc)
theorem proved : Rows.FnExactBackVoyagesSaid := over
#print axioms proved
end Go.Proofs.Ytldeaeeolibpjag.QfnExactBackVoyages
namespace Go.Proofs.Ytldeaeeolibpjag
/-- The row, under a short name, for the claim. -/
theorem fnExactBackVoyages_holds : Rows.FnExactBackVoyagesSaid := QfnExactBackVoyages.proved
end Go.Proofs.Ytldeaeeolibpjag
