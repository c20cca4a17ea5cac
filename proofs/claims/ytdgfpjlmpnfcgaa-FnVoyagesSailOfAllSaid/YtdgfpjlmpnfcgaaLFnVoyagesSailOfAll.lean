/- The given row of the law FnVoyagesSailOfAll: whatever is given, it answers true. Conditions: none of ours. -/
import Derived.Test.YtdgfpjlmpnfcgaaOk
import Derived.WalkKit
import Derived.ProofKit
import Derived.OpenShut
import Derived.ShutString
import Derived.ChangeOld
import Derived.Below
import Derived.SizedLaws
namespace Go.Proofs.Ytdgfpjlmpnfcgaa.QfnVoyagesSailOfAll
open Go.ChangeShapes Go.WideShapes Go.ChangeAt Go.RowKit Go.Proofs.Ytdgfpjlmpnfcgaa
open Go.ChangeMaps (open_string shut_string)
set_option linter.unusedVariables false
theorem wfI_mk (ts : List Ev.T) (h : Ev.wfI ts) : (ts.headD .nil).cells = ts ∧ ts.all Ev.T.one = true := by
  obtain ⟨n, rfl, _⟩ := h; exact ⟨rfl, rfl⟩
theorem wfG_mk (ts : List Ev.T) (h : Ev.wfG ts) : (Ev.T.agg ts).cells = ts ∧ ts.all Ev.T.one = true := by
  obtain ⟨_, _, rfl, ⟨n, rfl, _⟩, h⟩ := h
  refine ⟨rfl, ?_⟩
  rcases h with rfl | ⟨els, rfl, _⟩ <;> rfl
theorem own : ownKnob Try.prog.godebug = none := by kernel_rfl
theorem laidOut : laidOutB Try.prog = true := by kernel_rfl
theorem walk (w : World) (t0 t1 t2 t3 t4 t5 t6 t7 t8 : List Ev.T) (cs0 cs1 cs2 cs3 cs4 cs5 cs6 cs8 : Array Value) (v7 : Value) (h0 : Ev.wfW t0) (h1 : Ev.wfP t1) (h2 : Ev.wfW t2) (h3 : Ev.wfP t3) (h4 : Ev.wfG t4) (h5 : Ev.wfW t5) (h6 : Ev.wfP t6) (h7 : Ev.wfGs t7) (h8 : Ev.wfW t8) (k0 : Ev.TRs w (fun m => m < w.heap.size) t0 cs0.toList) (k1 : Ev.TRs w (fun m => m < w.heap.size) t1 cs1.toList) (k2 : Ev.TRs w (fun m => m < w.heap.size) t2 cs2.toList) (k3 : Ev.TRs w (fun m => m < w.heap.size) t3 cs3.toList) (k4 : Ev.TRs w (fun m => m < w.heap.size) t4 cs4.toList) (k5 : Ev.TRs w (fun m => m < w.heap.size) t5 cs5.toList) (k6 : Ev.TRs w (fun m => m < w.heap.size) t6 cs6.toList) (k7 : Ev.TRs w (fun m => m < w.heap.size) t7 [v7]) (k8 : Ev.TRs w (fun m => m < w.heap.size) t8 cs8.toList) :
    Calls Try.prog 3 #[.agg cs0, .agg cs1, .agg cs2, .agg cs3, .agg cs4, .agg cs5, .agg cs6, v7, .agg cs8] w fun e w' => e = .returned (.bool true) ∧ Below w.heap.size w w' := by
  obtain ⟨Z, rfl, hr⟩ := Ev.r3_top h0 h1 h2 h3 h4 h5 h6 h7 h8
  have kz : Ev.TR w (fun m => m < w.heap.size) Z v7 := k7.2 0 _ _ rfl rfl
  exact Ev.top_true («as» := [.agg cs0, .agg cs1, .agg cs2, .agg cs3, .agg cs4, .agg cs5, .agg cs6, v7, .agg cs8]) Ev.envOk hr rfl (fun i x v hx hv => by
    cases i with
    | zero => simp at hx hv; subst hx hv; exact Ev.opn_agg k0
    | succ i =>
     cases i with
     | zero => simp at hx hv; subst hx hv; exact Ev.opn_agg k1
     | succ i =>
      cases i with
      | zero => simp at hx hv; subst hx hv; exact Ev.opn_agg k2
      | succ i =>
       cases i with
       | zero => simp at hx hv; subst hx hv; exact Ev.opn_agg k3
       | succ i =>
        cases i with
        | zero => simp at hx hv; subst hx hv; exact Ev.opn_agg k4
        | succ i =>
         cases i with
         | zero => simp at hx hv; subst hx hv; exact Ev.opn_agg k5
         | succ i =>
          cases i with
          | zero => simp at hx hv; subst hx hv; exact Ev.opn_agg k6
          | succ i =>
           cases i with
           | zero => simp at hx hv; subst hx hv; exact kz
           | succ i =>
            cases i with
            | zero => simp at hx hv; subst hx hv; exact Ev.opn_agg k8
            | succ i =>
             simp at hx)
set_option maxRecDepth 100000 in
set_option maxHeartbeats 4000000 in
theorem lifted (os : Os) (started : os.Started) (H : Type) (enc : TypeId × Value → H) :
    ReturnsInHanded {} Try.checked os 3 .any (Rows.fnVoyagesSailOfAllSpec.pre6 enc Try.prog Try.f3 Rows.fnVoyagesSailOfAllRow.domain false) (Rows.fnVoyagesSailOfAllSpec.post enc Try.prog Try.f3 false true false false) := by
  refine returnsInHanded_of_change_sized (C := Try.checked) own started (by kernel_rfl) Try.func3
    (ChangeSpec.witness6 (enc := enc) (C := Try.checked) false ⟨#[], #[.agg #[.int .i64 0, .int .i64 0, .int .i64 0], .agg #[.slice none 0 0, .int .i64 0], .agg #[.int .i64 0, .int .i64 0, .int .i64 0], .agg #[.slice none 0 0, .int .i64 0], .agg #[.int .i64 0, .slice none 0 0], .agg #[.int .i64 0, .int .i64 0, .int .i64 0], .agg #[.slice none 0 0, .int .i64 0], .slice none 0 0, .agg #[.int .i64 0, .int .i64 0, .int .i64 0]], []⟩ 8 (by kernel_rfl) (by kernel_rfl) (by kernel_rfl) (by kernel_rfl)) ?_
  intro W base args ds gs before hval0 hW hcnd hsz0 _
  have hval : ∀ (j : Nat) t v, Try.f3.params[j]? = some t → args[j]? = some v → Value.okWide Try.prog W .any base t v := hval0
  have hW' := hW
  obtain ⟨p, q, hA0, hV, rfl, hfz, hnd⟩ := hW
  have hA : DataW.TrodAll enc Try.prog W 0 (fun _ => true) true Try.f3.params.toList args.toList ds p := hA0
  rw [Try.params3] at hA hval
  obtain ⟨v0, vs0, d0, ds0, p0, q0, hargs, rfl, rfl, h0, r0⟩ := trodAll_cons hA
  obtain ⟨v1, vs1, d1, ds1, p1, q1, rfl, rfl, rfl, h1, r1⟩ := trodAll_cons r0
  obtain ⟨v2, vs2, d2, ds2, p2, q2, rfl, rfl, rfl, h2, r2⟩ := trodAll_cons r1
  obtain ⟨v3, vs3, d3, ds3, p3, q3, rfl, rfl, rfl, h3, r3⟩ := trodAll_cons r2
  obtain ⟨v4, vs4, d4, ds4, p4, q4, rfl, rfl, rfl, h4, r4⟩ := trodAll_cons r3
  obtain ⟨v5, vs5, d5, ds5, p5, q5, rfl, rfl, rfl, h5, r5⟩ := trodAll_cons r4
  obtain ⟨v6, vs6, d6, ds6, p6, q6, rfl, rfl, rfl, h6, r6⟩ := trodAll_cons r5
  obtain ⟨v7, vs7, d7, ds7, p7, q7, rfl, rfl, rfl, h7, r7⟩ := trodAll_cons r6
  obtain ⟨v8, vs8, d8, ds8, p8, q8, rfl, rfl, rfl, h8, r8⟩ := trodAll_cons r7
  obtain ⟨rfl, rfl, rfl⟩ := trodAll_nil r8
  obtain rfl : args = #[v0, v1, v2, v3, v4, v5, v6, v7, v8] := by cases args; simp_all
  obtain ⟨rfl, rfl⟩ := trodVars_none hV
  have k0 := h0
  have lt0 : ∀ x ∈ p0, x.block < W.heap.size := by obtain ⟨m, hm⟩ := k0; exact DataW.trod_lt m _ _ _ hm
  obtain ⟨cs0, rfl, _⟩ := okWide_struct Try.underlying23 (hval 0 23 v0 rfl rfl)
  obtain ⟨fuel0, hf0⟩ := h0
  obtain ⟨ts0, _, hTR0, hts0⟩ := (Ev.opn_struct3 Try.underlying23 rfl rfl rfl (by kernel_rfl) (by kernel_rfl) (by kernel_rfl) (by kernel_rfl) (Ev.opn_int Try.underlying3) (Ev.opn_int Try.underlying3) (Ev.opn_int Try.underlying3)) _ _ _ hf0
  have k1 := h1
  have lt1 : ∀ x ∈ p1, x.block < W.heap.size := by obtain ⟨m, hm⟩ := k1; exact DataW.trod_lt m _ _ _ hm
  obtain ⟨cs1, rfl, _⟩ := okWide_struct Try.underlying26 (hval 1 26 v1 rfl rfl)
  obtain ⟨fuel1, hf1⟩ := h1
  obtain ⟨ts1, _, hTR1, hts1⟩ := (Ev.opn_struct2 Try.underlying26 rfl rfl (by kernel_rfl) (by kernel_rfl) (by kernel_rfl) (Ev.opn_slice (fun x => x.headD .nil) Try.underlying24 (by kernel_rfl) (by decide) (Ev.opn_int Try.underlying3) wfI_mk) (Ev.opn_int Try.underlying3)) _ _ _ hf1
  have k2 := h2
  have lt2 : ∀ x ∈ p2, x.block < W.heap.size := by obtain ⟨m, hm⟩ := k2; exact DataW.trod_lt m _ _ _ hm
  obtain ⟨cs2, rfl, _⟩ := okWide_struct Try.underlying23 (hval 2 23 v2 rfl rfl)
  obtain ⟨fuel2, hf2⟩ := h2
  obtain ⟨ts2, _, hTR2, hts2⟩ := (Ev.opn_struct3 Try.underlying23 rfl rfl rfl (by kernel_rfl) (by kernel_rfl) (by kernel_rfl) (by kernel_rfl) (Ev.opn_int Try.underlying3) (Ev.opn_int Try.underlying3) (Ev.opn_int Try.underlying3)) _ _ _ hf2
  have k3 := h3
  have lt3 : ∀ x ∈ p3, x.block < W.heap.size := by obtain ⟨m, hm⟩ := k3; exact DataW.trod_lt m _ _ _ hm
  obtain ⟨cs3, rfl, _⟩ := okWide_struct Try.underlying26 (hval 3 26 v3 rfl rfl)
  obtain ⟨fuel3, hf3⟩ := h3
  obtain ⟨ts3, _, hTR3, hts3⟩ := (Ev.opn_struct2 Try.underlying26 rfl rfl (by kernel_rfl) (by kernel_rfl) (by kernel_rfl) (Ev.opn_slice (fun x => x.headD .nil) Try.underlying24 (by kernel_rfl) (by decide) (Ev.opn_int Try.underlying3) wfI_mk) (Ev.opn_int Try.underlying3)) _ _ _ hf3
  have k4 := h4
  have lt4 : ∀ x ∈ p4, x.block < W.heap.size := by obtain ⟨m, hm⟩ := k4; exact DataW.trod_lt m _ _ _ hm
  obtain ⟨cs4, rfl, _⟩ := okWide_struct Try.underlying28 (hval 4 28 v4 rfl rfl)
  obtain ⟨fuel4, hf4⟩ := h4
  obtain ⟨ts4, _, hTR4, hts4⟩ := (Ev.opn_struct2 Try.underlying28 rfl rfl (by kernel_rfl) (by kernel_rfl) (by kernel_rfl) (Ev.opn_int Try.underlying3) (Ev.opn_slice (fun x => x.headD .nil) Try.underlying24 (by kernel_rfl) (by decide) (Ev.opn_int Try.underlying3) wfI_mk)) _ _ _ hf4
  have k5 := h5
  have lt5 : ∀ x ∈ p5, x.block < W.heap.size := by obtain ⟨m, hm⟩ := k5; exact DataW.trod_lt m _ _ _ hm
  obtain ⟨cs5, rfl, _⟩ := okWide_struct Try.underlying23 (hval 5 23 v5 rfl rfl)
  obtain ⟨fuel5, hf5⟩ := h5
  obtain ⟨ts5, _, hTR5, hts5⟩ := (Ev.opn_struct3 Try.underlying23 rfl rfl rfl (by kernel_rfl) (by kernel_rfl) (by kernel_rfl) (by kernel_rfl) (Ev.opn_int Try.underlying3) (Ev.opn_int Try.underlying3) (Ev.opn_int Try.underlying3)) _ _ _ hf5
  have k6 := h6
  have lt6 : ∀ x ∈ p6, x.block < W.heap.size := by obtain ⟨m, hm⟩ := k6; exact DataW.trod_lt m _ _ _ hm
  obtain ⟨cs6, rfl, _⟩ := okWide_struct Try.underlying26 (hval 6 26 v6 rfl rfl)
  obtain ⟨fuel6, hf6⟩ := h6
  obtain ⟨ts6, _, hTR6, hts6⟩ := (Ev.opn_struct2 Try.underlying26 rfl rfl (by kernel_rfl) (by kernel_rfl) (by kernel_rfl) (Ev.opn_slice (fun x => x.headD .nil) Try.underlying24 (by kernel_rfl) (by decide) (Ev.opn_int Try.underlying3) wfI_mk) (Ev.opn_int Try.underlying3)) _ _ _ hf6
  have k7 := h7
  have lt7 : ∀ x ∈ p7, x.block < W.heap.size := by obtain ⟨m, hm⟩ := k7; exact DataW.trod_lt m _ _ _ hm
  obtain ⟨aa7, len7, cap7, rfl⟩ := okWide_slice Try.underlying29 (hval 7 29 v7 rfl rfl)
  obtain ⟨fuel7, hf7⟩ := h7
  obtain ⟨ts7, _, hTR7, hts7⟩ := (Ev.opn_slice .agg Try.underlying29 (by kernel_rfl) (by decide) (Ev.opn_struct2 Try.underlying28 rfl rfl (by kernel_rfl) (by kernel_rfl) (by kernel_rfl) (Ev.opn_int Try.underlying3) (Ev.opn_slice (fun x => x.headD .nil) Try.underlying24 (by kernel_rfl) (by decide) (Ev.opn_int Try.underlying3) wfI_mk)) wfG_mk) _ _ _ hf7
  have k8 := h8
  have lt8 : ∀ x ∈ p8, x.block < W.heap.size := by obtain ⟨m, hm⟩ := k8; exact DataW.trod_lt m _ _ _ hm
  obtain ⟨cs8, rfl, _⟩ := okWide_struct Try.underlying23 (hval 8 23 v8 rfl rfl)
  obtain ⟨fuel8, hf8⟩ := h8
  obtain ⟨ts8, _, hTR8, hts8⟩ := (Ev.opn_struct3 Try.underlying23 rfl rfl rfl (by kernel_rfl) (by kernel_rfl) (by kernel_rfl) (by kernel_rfl) (Ev.opn_int Try.underlying3) (Ev.opn_int Try.underlying3) (Ev.opn_int Try.underlying3)) _ _ _ hf8
  clear hA0 hval0 hsz0
  refine (walk W ts0 ts1 ts2 ts3 ts4 ts5 ts6 ts7 ts8 cs0 cs1 cs2 cs3 cs4 cs5 cs6 cs8 _ hts0 hts1 hts2 hts3 hts4 hts5 hts6 hts7 hts8 hTR0 hTR1 hTR2 hTR3 hTR4 hTR5 hTR6 hTR7 hTR8).mono fun e W' ⟨he, bel⟩ => ?_
  subst he
  exact ⟨_, rfl, _, _, _, [], _, [], hW', trodAll_mk1 (shut_bool Try.underlying4 _), (trodAll_cons_mk (Below.trod laidOut (by kernel_rfl) (of_decide_eq_true (by kernel_rfl)) k0 bel lt0) (trodAll_cons_mk (Below.trod laidOut (by kernel_rfl) (of_decide_eq_true (by kernel_rfl)) k1 bel lt1) (trodAll_cons_mk (Below.trod laidOut (by kernel_rfl) (of_decide_eq_true (by kernel_rfl)) k2 bel lt2) (trodAll_cons_mk (Below.trod laidOut (by kernel_rfl) (of_decide_eq_true (by kernel_rfl)) k3 bel lt3) (trodAll_cons_mk (Below.trod laidOut (by kernel_rfl) (of_decide_eq_true (by kernel_rfl)) k4 bel lt4) (trodAll_cons_mk (Below.trod laidOut (by kernel_rfl) (of_decide_eq_true (by kernel_rfl)) k5 bel lt5) (trodAll_cons_mk (Below.trod laidOut (by kernel_rfl) (of_decide_eq_true (by kernel_rfl)) k6 bel lt6) (trodAll_cons_mk (Below.trod laidOut (by kernel_rfl) (of_decide_eq_true (by kernel_rfl)) k7 bel lt7) (trodAll_cons_mk (Below.trod laidOut (by kernel_rfl) (of_decide_eq_true (by kernel_rfl)) k8 bel lt8) trodAll_mk0))))))))), rfl, bel.frame _, fun h => by cases h⟩
theorem over : Rows.fnVoyagesSailOfAllRow.holds Try.pinned (OpenSpec.ofChange Rows.fnVoyagesSailOfAllSpec) :=
  OpenClaim.holds_of_wide 3 Try.f3 rfl rfl rfl rfl rfl rfl rfl ⟨rfl, rfl, rfl, rfl, rfl⟩ rfl rfl rfl rfl rfl (by kernel_rfl) Try.func3 (by kernel_rfl)
    (of_decide_eq_true (by kernel_rfl)) (by unfold Func.isWrapper; first | (rw [if_pos (by decide +kernel)]; kernel_rfl) | (rw [if_neg (by decide +kernel)]; exact ⟨rfl, rfl⟩))
    (fun os started H enc _ => lifted os started H enc)
theorem proved : Rows.FnVoyagesSailOfAllSaid := over
#print axioms proved
end Go.Proofs.Ytdgfpjlmpnfcgaa.QfnVoyagesSailOfAll
namespace Go.Proofs.Ytdgfpjlmpnfcgaa
/-- The row, under a short name, for the claim. -/
theorem fnVoyagesSailOfAll_holds : Rows.FnVoyagesSailOfAllSaid := QfnVoyagesSailOfAll.proved
end Go.Proofs.Ytdgfpjlmpnfcgaa
