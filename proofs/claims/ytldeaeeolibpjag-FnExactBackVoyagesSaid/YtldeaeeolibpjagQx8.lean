-- by wip/xprint.py, a program of this session over the kit's print: not trusted, Lean checks it.
import Derived.Test.YtldeaeeolibpjagXShort
import Derived.Test.YtldeaeeolibpjagQx0
import Derived.WalkSpells
namespace Go.Proofs.Ytldeaeeolibpjag.Q
open Go.RowKit Go.Proofs.YtldeaeeolibpjagW.PrintWords Go.Proofs.YtldeaeeolibpjagW.PrintLast Go.Proofs.YtldeaeeolibpjagW.PrintMore
attribute [local go_sem] max2_int min2_int max_two min_two max_three min_three max_four min_four   -- for this text's walks alone
set_option linter.unusedVariables false
set_option linter.unusedSimpArgs false

/-! ### slices_Clone_int_int: function 25 (by hand: Clone.lean) -/
-- IMPORT: Derived.WalkSpells
-- INFO: 3
def slices_Clone_int_int.f (l0 : List Int) : Option (List Int) := if (l0.length : Int) ≤ 17592186044416 then some l0 else none
set_option maxHeartbeats 400000 in
set_option maxRecDepth 100000 in
theorem slices_Clone_int_int.calls (A0 : Option Addr) (c0 : Nat) (l0 : List Int) (r : List Int) (w : World) (hr0 : Kd.C (Kd.int .i64) w A0 l0.length l0) (hc0 : l0.length ≤ c0) (h : slices_Clone_int_int.f l0 = some r) :
  Calls Try.prog 25 #[.slice A0 l0.length c0] w fun e w' => ∃ v0_ : Value, e = .returned (v0_) ∧ Kd.R (Kd.int .i64) 3 w' w.heap.size (fun _ => True) v0_ r ∧ Below w.heap.size w w' := by
 have hb0 : (l0.length : Int) ≤ 17592186044416 := by
  unfold slices_Clone_int_int.f at h
  split at h
  ·assumption
  ·cases h
 obtain rfl : l0 = r := by
  unfold slices_Clone_int_int.f at h
  rw [if_pos hb0] at h
  exact Option.some.inj h
 have HL := X.A hb0
 clear h hb0
 cases A0 with
 | none =>
  obtain rfl : l0 = [] := by
   cases l0 with
   | nil => rfl
   | cons x l =>
    obtain ⟨_, _, h3⟩ := hr0
    obtain ⟨ad, had, _⟩ := h3 (by simp)
    cases had
  clear hr0
  have heq := fun (W : World) => Lib.run_eql_slice_nil (P := Try.prog) W 36 3 none 0 c0 0 0 Try.underlying36
  go_enter Try.func25, Try.ntmps25
  go_wp2
  go_ret
  exact ⟨_, rfl, Kd.R_nil _ _ _ _ _, Below.refl _ _⟩
 | some ad =>
  have HR0 := X.A hr0
  have HC0 := X.A hc0
  clear hr0 hc0
  have heq := fun (W : World) => Lib.run_eql_slice_nil (P := Try.prog) W 36 3 (some ad) l0.length c0 0 0 Try.underlying36
  go_enter Try.func25, Try.ntmps25
  go_wp2_with (first
   | ((with_reducible refine gate_dst (N := 5) rfl ?_); refine Kd.R_lit (Kd.int .i64) _ 3 ?hg (N := 5) ?hd (xs := ([] : List Int)) (inner := []) (ok := fun _ => True) (okp := fun _ => True) ?hr ?hp (fun _ hk => hk) trivial (Below.refl _ _) (Nat.le_refl _) (by simp) ?_; (case hd => rfl); (case hg => rfl); (case hr => exact X.R); (case hp => exact (Reps.none _ _)); intro v162 w4 ho5 hb hg_ hnew_; clear hg_ hnew_; have HO := X.A ho5; have HB := X.A hb; clear ho5 hb)
   | ((with_reducible refine gate_builtin (b := .append) (xs := #[.tmp 5, .tmp 6]) rfl ?_); at_builtin; refine Kd.R_append_row (fun x => Value.int .i64 x) (0 : Int) (h1 := fun _ => rfl) (w0 := w) w.heap.size rfl (.tmp 5) (.tmp 6) 36 3 (.int .i64 0) 8 rfl Try.underlying36 info3 rfl (by decide) v162 [] l0 (some ad) l0.length c0 (fun _ => True) rfl rfl (fun _ _ => trivial) HO.out (Kd.C_below HR0.out HB.out) HB.out HB.out.size ?aL ?_; (case aL => have := HL.out; simp; omega); intro v2 w5 ho2 hb2 hg2 hat; clear hat; have HO2 := X.A ho2; have HB2 := X.A hb2; clear ho2 hb2 hg2))
  go_ret
  exact ⟨v2, rfl, (by have h2 := HO2.out; rw [List.nil_append] at h2; exact h2), HB2.out⟩

end Go.Proofs.Ytldeaeeolibpjag.Q
