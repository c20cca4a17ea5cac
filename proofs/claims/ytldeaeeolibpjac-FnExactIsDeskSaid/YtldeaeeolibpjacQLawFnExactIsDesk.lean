/- The given row of the law FnExactIsDesk, out of the contract of its Go function and its plain statement. Conditions: none of ours. -/
import Derived.Test.YtldeaeeolibpjacRows
import Derived.Test.YtldeaeeolibpjacQx12
import Derived.Test.YtldeaeeolibpjacXOpen
import Derived.Test.YtldeaeeolibpjacPureFnExactIsDesk
import Derived.WalkKit
import Derived.ProofKit
import Derived.OpenShut
import Derived.ShutString
import Derived.ChangeOld
import Derived.Below
import Derived.SizedLaws
import Derived.Test.YtldeaeeolibpjacWSized
namespace Go.Proofs.Ytldeaeeolibpjac.QfnExactIsDesk
open Go.ChangeShapes Go.WideShapes Go.ChangeAt Go.RowKit Go.Proofs.Ytldeaeeolibpjac Go.Proofs.Ytldeaeeolibpjac.Q Go.Proofs.YtldeaeeolibpjacW.PrintWords
open Go.ChangeMaps (open_string shut_string)
set_option linter.unusedVariables false
theorem own : ownKnob Try.prog.godebug = none := by kernel_rfl
theorem laidOut : laidOutB Try.prog = true := by kernel_rfl
theorem walk (P : laws_FnExactIsDesk.Pure) (Al0_0 : Option Addr) (cl0_0 : Nat) (l0_0 : List Int) (a0_1 : Int) (Al0_2 : Option Addr) (cl0_2 : Nat) (l0_2 : List Bool) (a0_3 : Bool) (a0_4 : Int) (Al0_5 : Option Addr) (cl0_5 : Nat) (l0_5 : List (List Int)) (a0_6 : Int) (Al0_7 : Option Addr) (cl0_7 : Nat) (l0_7 : List Int) (Al0_8 : Option Addr) (cl0_8 : Nat) (l0_8 : List Bool) (a0_9 : Int) (w : World) (hrl0_0 : Kd.C (Kd.int .i64) w Al0_0 l0_0.length l0_0) (hcl0_0 : l0_0.length ≤ cl0_0) (wl0_0 : (l0_0.length ≤ maxLen ∧ ∀ z ∈ l0_0, (Lit.int .i64 z).wf = true)) (wa0_1 : (Lit.int .i64 a0_1).wf = true) (hrl0_2 : Kd.C Kd.bool w Al0_2 l0_2.length l0_2) (hcl0_2 : l0_2.length ≤ cl0_2) (wl0_2 : (l0_2.length ≤ maxLen ∧ ∀ z ∈ l0_2, True)) (wa0_4 : (Lit.int .i64 a0_4).wf = true) (hrl0_5 : Kd.C (Kd.slice 3 (Kd.int .i64)) w Al0_5 l0_5.length l0_5) (hcl0_5 : l0_5.length ≤ cl0_5) (wl0_5 : (l0_5.length ≤ maxLen ∧ ∀ z ∈ l0_5, (z.length ≤ maxLen ∧ ∀ zz ∈ z, (Lit.int .i64 zz).wf = true))) (wa0_6 : (Lit.int .i64 a0_6).wf = true) (hrl0_7 : Kd.C (Kd.int .i64) w Al0_7 l0_7.length l0_7) (hcl0_7 : l0_7.length ≤ cl0_7) (wl0_7 : (l0_7.length ≤ maxLen ∧ ∀ z ∈ l0_7, (Lit.int .i64 z).wf = true)) (hrl0_8 : Kd.C Kd.bool w Al0_8 l0_8.length l0_8) (hcl0_8 : l0_8.length ≤ cl0_8) (wl0_8 : (l0_8.length ≤ maxLen ∧ ∀ z ∈ l0_8, True)) (wa0_9 : (Lit.int .i64 a0_9).wf = true) :
    Calls Try.prog 3 #[.agg #[.slice Al0_0 l0_0.length cl0_0, .int .i64 a0_1, .slice Al0_2 l0_2.length cl0_2, .bool a0_3, .int .i64 a0_4, .slice Al0_5 l0_5.length cl0_5, .int .i64 a0_6, .slice Al0_7 l0_7.length cl0_7, .slice Al0_8 l0_8.length cl0_8, .int .i64 a0_9]] w fun e w' => e = .returned (.bool true) ∧ Below w.heap.size w w' := by
  obtain ⟨k, h⟩ := P l0_0 a0_1 l0_2 a0_3 a0_4 l0_5 a0_6 l0_7 l0_8 a0_9 wl0_0 wa0_1 wl0_2 wa0_4 wl0_5 wa0_6 wl0_7 wl0_8 wa0_9
  refine (laws_FnExactIsDesk.calls k _ _ l0_0 a0_1 _ _ l0_2 a0_3 a0_4 _ _ l0_5 a0_6 _ _ l0_7 _ _ l0_8 a0_9 true w hrl0_0 hcl0_0 hrl0_2 hcl0_2 hrl0_5 hcl0_5 hrl0_7 hcl0_7 hrl0_8 hcl0_8 h).mono ?_
  rintro e w' ⟨rfl, hd⟩
  exact ⟨rfl, hd⟩
set_option maxRecDepth 100000 in
theorem lifted (os : Os) (started : os.Started) (H : Type) (enc : TypeId × Value → H) :
    ReturnsInHanded {} Try.checked os 3 .any (Rows.fnExactIsDeskSpec.pre6 enc Try.prog Try.f3 Rows.fnExactIsDeskRow.domain false) (Rows.fnExactIsDeskSpec.post enc Try.prog Try.f3 false true false false) := by
  refine returnsInHanded_of_change_sized (C := Try.checked) own started (by kernel_rfl) Try.func3
    (ChangeSpec.witness6 (enc := enc) (C := Try.checked) false ⟨#[], #[.agg #[.slice none 0 0, .int .i64 0, .slice none 0 0, .bool false, .int .i64 0, .slice none 0 0, .int .i64 0, .slice none 0 0, .slice none 0 0, .int .i64 0]], []⟩ 8 (by kernel_rfl) (by kernel_rfl) (by kernel_rfl) (by kernel_rfl)) ?_
  intro W base args ds gs before hval0 hW hcnd hsz0 _
  have hval : ∀ (j : Nat) t v, Try.f3.params[j]? = some t → args[j]? = some v → Value.okWide Try.prog W .any base t v := hval0
  have hW' := hW
  obtain ⟨p, q, hA0, hV, rfl, hfz, hnd⟩ := hW
  have hA : DataW.TrodAll enc Try.prog W 0 (fun _ => true) true Try.f3.params.toList args.toList ds p := hA0
  rw [Try.params3] at hA hval
  obtain ⟨v0, vs0, d0, ds0, p0, q0, hargs, rfl, rfl, h0, r0⟩ := trodAll_cons hA
  obtain ⟨rfl, rfl, rfl⟩ := trodAll_nil r0
  obtain rfl : args = #[v0] := by cases args; simp_all
  obtain ⟨rfl, rfl⟩ := trodVars_none hV
  have k0 := h0
  have lt0 : ∀ x ∈ p0, x.block < W.heap.size := by obtain ⟨m, hm⟩ := k0; exact DataW.trod_lt m _ _ _ hm
  obtain ⟨cs0, rfl, _⟩ := okWide_struct Try.underlying34 (hval 0 34 v0 rfl rfl)
  obtain ⟨fuel0, hf0⟩ := h0
  obtain ⟨x0, K0, W0⟩ := (show X.Op enc Try.prog W 0 (fun _ => true) true 34 _ _ from (X.op_struct4 Try.underlying34 rfl rfl rfl rfl (by kernel_rfl) (by kernel_rfl) (by kernel_rfl) (by kernel_rfl) (by kernel_rfl) (X.op_struct2 Try.underlying24 rfl rfl (by kernel_rfl) (by kernel_rfl) (by kernel_rfl) (X.op_slice Try.underlying22 (by kernel_rfl) (X.op_int Try.underlying3)) (X.op_int Try.underlying3)) (X.op_struct2 Try.underlying27 rfl rfl (by kernel_rfl) (by kernel_rfl) (by kernel_rfl) (X.op_slice Try.underlying25 (by kernel_rfl) (X.op_bool Try.underlying4)) (X.op_bool Try.underlying4)) (X.op_struct3 Try.underlying30 rfl rfl rfl (by kernel_rfl) (by kernel_rfl) (by kernel_rfl) (by kernel_rfl) (X.op_int Try.underlying3) (X.op_slice Try.underlying28 (by kernel_rfl) (X.op_slice Try.underlying22 (by kernel_rfl) (X.op_int Try.underlying3))) (X.op_int Try.underlying3)) (X.op_struct3 Try.underlying32 rfl rfl rfl (by kernel_rfl) (by kernel_rfl) (by kernel_rfl) (by kernel_rfl) (X.op_slice Try.underlying22 (by kernel_rfl) (X.op_int Try.underlying3)) (X.op_slice Try.underlying25 (by kernel_rfl) (X.op_bool Try.underlying4)) (X.op_int Try.underlying3)))) _ _ _ hf0
  obtain ⟨⟨l0_0, a0_1⟩, ⟨l0_2, a0_3⟩, ⟨a0_4, l0_5, a0_6⟩, ⟨l0_7, l0_8, a0_9⟩⟩ := x0
  obtain ⟨⟨wl0_0, wa0_1⟩, ⟨wl0_2, wa0_3⟩, ⟨wa0_4, wl0_5, wa0_6⟩, ⟨wl0_7, wl0_8, wa0_9⟩⟩ := W0
  obtain ⟨_, _, hcs, ⟨_, _, rfl, ⟨Al0_0, cl0_0, rfl, hcl0_0, hrl0_0⟩, rfl⟩, ⟨_, _, rfl, ⟨_, _, rfl, ⟨Al0_2, cl0_2, rfl, hcl0_2, hrl0_2⟩, rfl⟩, ⟨_, _, rfl, ⟨_, _, rfl, rfl, ⟨_, _, rfl, ⟨Al0_5, cl0_5, rfl, hcl0_5, hrl0_5⟩, rfl⟩⟩, ⟨_, _, rfl, ⟨Al0_7, cl0_7, rfl, hcl0_7, hrl0_7⟩, ⟨_, _, rfl, ⟨Al0_8, cl0_8, rfl, hcl0_8, hrl0_8⟩, rfl⟩⟩⟩⟩⟩ := K0
  obtain rfl : cs0 = #[.slice Al0_0 l0_0.length cl0_0, .int .i64 a0_1, .slice Al0_2 l0_2.length cl0_2, .bool a0_3, .int .i64 a0_4, .slice Al0_5 l0_5.length cl0_5, .int .i64 a0_6, .slice Al0_7 l0_7.length cl0_7, .slice Al0_8 l0_8.length cl0_8, .int .i64 a0_9] := by
    apply Array.toList_inj.1
    simpa [Value.cells] using hcs
  clear hcs
  clear hA0 hval0 hsz0
  refine (walk Pure.FnExactIsDesk Al0_0 cl0_0 l0_0 a0_1 Al0_2 cl0_2 l0_2 a0_3 a0_4 Al0_5 cl0_5 l0_5 a0_6 Al0_7 cl0_7 l0_7 Al0_8 cl0_8 l0_8 a0_9 W hrl0_0 hcl0_0 wl0_0 wa0_1 hrl0_2 hcl0_2 wl0_2 wa0_4 hrl0_5 hcl0_5 wl0_5 wa0_6 hrl0_7 hcl0_7 wl0_7 hrl0_8 hcl0_8 wl0_8 wa0_9).mono fun e W' ⟨he, bel⟩ => ?_
  subst he
  exact ⟨_, rfl, _, _, _, [], _, [], hW', trodAll_mk1 (shut_bool Try.underlying4 _), (trodAll_cons_mk (Below.trod laidOut (by kernel_rfl) (of_decide_eq_true (by kernel_rfl)) k0 bel lt0) trodAll_mk0), rfl, bel.frame _, fun h => by cases h⟩
theorem over : Rows.fnExactIsDeskRow.holds Try.pinned (OpenSpec.ofChange Rows.fnExactIsDeskSpec) :=
  OpenClaim.holds_of_wide 3 Try.f3 rfl rfl rfl rfl rfl rfl rfl ⟨rfl, rfl, rfl, rfl, rfl⟩ rfl rfl rfl rfl rfl (by kernel_rfl) Try.func3 (by kernel_rfl)
    (of_decide_eq_true (by kernel_rfl)) (by unfold Func.isWrapper; first | (rw [if_pos (by decide +kernel)]; kernel_rfl) | (rw [if_neg (by decide +kernel)]; exact ⟨rfl, rfl⟩))
    (fun os started H enc _ => lifted os started H enc)
theorem proved : Rows.FnExactIsDeskSaid := over
#print axioms proved
end Go.Proofs.Ytldeaeeolibpjac.QfnExactIsDesk
namespace Go.Proofs.Ytldeaeeolibpjac
/-- The row, under a short name, for the claim. -/
theorem fnExactIsDesk_holds : Rows.FnExactIsDeskSaid := QfnExactIsDesk.proved
end Go.Proofs.Ytldeaeeolibpjac
