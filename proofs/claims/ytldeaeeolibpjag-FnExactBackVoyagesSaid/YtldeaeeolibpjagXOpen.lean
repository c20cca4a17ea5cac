/- What reads as data of a Go type reads as a plain value of the print's kinds: whole numbers, bools, strings, slices, structs in line; for whatever program and world. -/
import Derived.ProofKit
import Derived.Deep.Slices
import Derived.Test.YtldeaeeolibpjagWWords
set_option linter.unusedVariables false
namespace Go.Proofs.Ytldeaeeolibpjag.X
open Go.RowKit Go.Proofs.YtldeaeeolibpjagW.PrintWords Go.Deep
variable {H : Type} {enc : TypeId × Value → H} {P : Program} {w : World} {base : Nat} {spare : Nat → Bool} {held : Bool}

/-- Whatever reads as data of type t holds a value of kind d. -/
def Op {H : Type} (enc : TypeId × Value → H) (P : Program) (w : World) (base : Nat) (spare : Nat → Bool) (held : Bool) (t : TypeId) {α : Type} (d : Kd α) (wf : α → Prop) : Prop :=
  ∀ (fuel : Nat) (cs : List Value) (x : DataW H × List MemPlace), DataW.trod enc P w base spare held fuel t cs = some x → ∃ a, d.K w a cs ∧ wf a

theorem op_int {t : TypeId} {k : IntKind} (h : P.underlying t = some (.int k)) : Op enc P w base spare held t (Kd.int k) (fun a => (Lit.int k a).wf = true) := by
  intro fuel cs x hx
  obtain ⟨n, rfl, _, hw⟩ := DataW.trod_int h hx
  exact ⟨n, rfl, hw⟩
theorem op_bool {t : TypeId} (h : P.underlying t = some .bool) : Op enc P w base spare held t Kd.bool (fun _ => True) := by
  intro fuel cs x hx
  obtain ⟨n, rfl, _⟩ := DataW.trod_bool h hx
  exact ⟨n, rfl, trivial⟩
theorem op_string {t : TypeId} (h : P.underlying t = some .string) : Op enc P w base spare held t Kd.string (fun s => s.size ≤ maxLen) := by
  intro fuel cs x hx
  obtain ⟨n, rfl, _, hw⟩ := DataW.trod_string h hx
  exact ⟨n, rfl, hw⟩
theorem list_of {α : Type} (Q : Nat → α → Prop) : ∀ n, (∀ i, i < n → ∃ a, Q i a) → ∃ l : List α, l.length = n ∧ ∀ j p, l[j]? = some p → Q j p
  | 0, _ => ⟨[], rfl, fun j p h => by simp at h⟩
  | n + 1, h => by
    obtain ⟨l, hl, hq⟩ := list_of Q n (fun i hi => h i (by omega))
    obtain ⟨a, ha⟩ := h n (by omega)
    refine ⟨l ++ [a], by simp [hl], fun j p hj => ?_⟩
    rcases Nat.lt_or_ge j n with h1 | h1
    · rw [List.getElem?_append_left (by omega)] at hj; exact hq j p hj
    · have hlt := (List.getElem?_eq_some_iff.1 hj).1
      simp at hlt
      have : j = n := by omega
      subst this
      rw [List.getElem?_append_right (by omega), hl] at hj
      simp at hj
      subst hj
      exact ha
theorem op_slice {α : Type} {d : Kd α} {wf : α → Prop} {t e : TypeId} (h : P.underlying t = some (.slice e)) (hs : P.cellsOf e = d.sz) (ho : Op enc P w base spare held e d wf) :
    Op enc P w base spare held t (Kd.slice e d) (fun l => l.length ≤ maxLen ∧ ∀ a ∈ l, wf a) := by
  intro fuel cs x hx
  rcases open_slice h hx with ⟨rfl, rfl⟩ | ⟨a, len, cap, m, n, D, Pl, rfl, hb, hl, hm, hmm, rfl, hi⟩
  · refine ⟨[], ⟨none, 0, rfl, Nat.le_refl _, rfl, by simp, fun hp => absurd hp (by simp)⟩, by simp, by simp⟩
  · have hlm : len ≤ m := by
      rw [hmm]; split <;> omega
    obtain ⟨l, hll, hq⟩ := list_of (fun i (y : α) => (∃ cs', w.cells? base (a.add (i * d.sz)) d.sz = some cs' ∧ d.K w y cs') ∧ wf y) len (fun i hlt => by
      obtain ⟨cs', h1, h2⟩ := hi i (by omega)
      obtain ⟨y, h3, h4⟩ := ho _ _ _ h2
      rw [hs] at h1
      exact ⟨y, ⟨cs', h1, h3⟩, h4⟩)
    have hml : maxLen = 9223372036854775807 := rfl
    refine ⟨l, ⟨some a, cap, by rw [hll], by omega, rfl, by omega, fun _ => ⟨a, rfl, fun j p hj => ?_⟩⟩, by omega, fun y hy => ?_⟩
    · obtain ⟨⟨cs', h1, h2⟩, _⟩ := hq j p hj
      obtain ⟨_, hcl, hcc⟩ := World.cells?_some h1
      refine ⟨cs', hcl, h2, fun i u hu => ?_⟩
      have hlt : i < d.sz := by
        have := (List.getElem?_eq_some_iff.1 hu).1
        omega
      have := hcc i hlt
      rw [hu] at this
      rw [← this]
      congr 1
      rw [Addr.add_add]
    · obtain ⟨j, hj⟩ := List.getElem?_of_mem hy
      exact (hq j y hj).2
theorem op_iso {α β : Type} {d : Kd α} {wf : α → Prop} {t : TypeId} {f : β → α} (g : α → β) (hg : ∀ y, f (g y) = y) (h : Op enc P w base spare held t d wf) : Op enc P w base spare held t (Kd.iso d f) (fun x => wf (f x)) := by
  intro fuel cs x hx
  obtain ⟨a, h1, h2⟩ := h fuel cs x hx
  exact ⟨g a, show d.K w (f (g a)) cs by rw [hg]; exact h1, show wf (f (g a)) by rw [hg]; exact h2⟩
theorem op_struct1 {α0 : Type} {d0 : Kd α0} {wf0 : α0 → Prop} {t : TypeId} {f0 : Field} (hs : P.underlying t = some (.struct #[f0])) (o0 : f0.offset = 0)
    (c0 : P.cellsOf f0.type = d0.sz) (c : P.cellsOf t = d0.sz) (h0 : Op enc P w base spare held f0.type d0 wf0) :
    Op enc P w base spare held t d0 wf0 := by
  intro fuel cs x hx
  obtain ⟨xs, n, _, _, hl, hxl, hf⟩ := DataW.trod_struct hs hx
  have h := hf 0 f0 rfl
  rw [o0, c0, List.drop_zero, List.take_of_length_le (by omega), List.getElem?_eq_getElem (by rw [hxl]; simp)] at h
  exact h0 _ _ _ h
theorem op_struct2 {α0 α1 : Type} {d0 : Kd α0} {d1 : Kd α1} {wf0 : α0 → Prop} {wf1 : α1 → Prop} {t : TypeId} {f0 f1 : Field} (hs : P.underlying t = some (.struct #[f0, f1])) (o0 : f0.offset = 0) (o1 : f1.offset = d0.sz)
    (c0 : P.cellsOf f0.type = d0.sz) (c1 : P.cellsOf f1.type = d1.sz) (c : P.cellsOf t = d0.sz + d1.sz) (h0 : Op enc P w base spare held f0.type d0 wf0) (h1 : Op enc P w base spare held f1.type d1 wf1) :
    Op enc P w base spare held t (Kd.pair d0 d1) (fun x => wf0 x.1 ∧ wf1 x.2) := by
  intro fuel cs x hx
  obtain ⟨xs, n, _, _, hl, hxl, hf⟩ := DataW.trod_struct hs hx
  have e0 := hf 0 f0 rfl
  have e1 := hf 1 f1 rfl
  rw [o0, c0, List.drop_zero, List.getElem?_eq_getElem (by rw [hxl]; simp)] at e0
  rw [o1, c1, List.getElem?_eq_getElem (by rw [hxl]; simp)] at e1
  obtain ⟨a0, k0, w0⟩ := h0 _ _ _ e0
  obtain ⟨a1, k1, w1⟩ := h1 _ _ _ e1
  refine ⟨(a0, a1), ⟨_, _, ?_, k0, k1⟩, w0, w1⟩
  rw [List.take_of_length_le (l := cs.drop d0.sz) (by simp; omega), List.take_append_drop]
theorem op_struct3 {α0 α1 α2 : Type} {d0 : Kd α0} {d1 : Kd α1} {d2 : Kd α2} {wf0 : α0 → Prop} {wf1 : α1 → Prop} {wf2 : α2 → Prop} {t : TypeId} {f0 f1 f2 : Field} (hs : P.underlying t = some (.struct #[f0, f1, f2])) (o0 : f0.offset = 0) (o1 : f1.offset = d0.sz) (o2 : f2.offset = d0.sz + d1.sz)
    (c0 : P.cellsOf f0.type = d0.sz) (c1 : P.cellsOf f1.type = d1.sz) (c2 : P.cellsOf f2.type = d2.sz) (c : P.cellsOf t = d0.sz + (d1.sz + d2.sz)) (h0 : Op enc P w base spare held f0.type d0 wf0) (h1 : Op enc P w base spare held f1.type d1 wf1) (h2 : Op enc P w base spare held f2.type d2 wf2) :
    Op enc P w base spare held t (Kd.pair d0 (Kd.pair d1 d2)) (fun x => wf0 x.1 ∧ wf1 x.2.1 ∧ wf2 x.2.2) := by
  intro fuel cs x hx
  obtain ⟨xs, n, _, _, hl, hxl, hf⟩ := DataW.trod_struct hs hx
  have e0 := hf 0 f0 rfl
  have e1 := hf 1 f1 rfl
  have e2 := hf 2 f2 rfl
  rw [o0, c0, List.drop_zero, List.getElem?_eq_getElem (by rw [hxl]; simp)] at e0
  rw [o1, c1, List.getElem?_eq_getElem (by rw [hxl]; simp)] at e1
  rw [o2, c2, List.getElem?_eq_getElem (by rw [hxl]; simp)] at e2
  obtain ⟨a0, k0, w0⟩ := h0 _ _ _ e0
  obtain ⟨a1, k1, w1⟩ := h1 _ _ _ e1
  obtain ⟨a2, k2, w2⟩ := h2 _ _ _ e2
  refine ⟨(a0, a1, a2), ⟨_, _, ?_, k0, _, _, rfl, k1, k2⟩, w0, w1, w2⟩
  rw [List.take_of_length_le (l := cs.drop (d0.sz + d1.sz)) (by simp; omega), ← List.drop_drop, List.take_append_drop, List.take_append_drop]
theorem op_struct4 {α0 α1 α2 α3 : Type} {d0 : Kd α0} {d1 : Kd α1} {d2 : Kd α2} {d3 : Kd α3} {wf0 : α0 → Prop} {wf1 : α1 → Prop} {wf2 : α2 → Prop} {wf3 : α3 → Prop} {t : TypeId} {f0 f1 f2 f3 : Field} (hs : P.underlying t = some (.struct #[f0, f1, f2, f3])) (o0 : f0.offset = 0) (o1 : f1.offset = d0.sz) (o2 : f2.offset = d0.sz + d1.sz) (o3 : f3.offset = d0.sz + d1.sz + d2.sz)
    (c0 : P.cellsOf f0.type = d0.sz) (c1 : P.cellsOf f1.type = d1.sz) (c2 : P.cellsOf f2.type = d2.sz) (c3 : P.cellsOf f3.type = d3.sz) (c : P.cellsOf t = d0.sz + (d1.sz + (d2.sz + d3.sz))) (h0 : Op enc P w base spare held f0.type d0 wf0) (h1 : Op enc P w base spare held f1.type d1 wf1) (h2 : Op enc P w base spare held f2.type d2 wf2) (h3 : Op enc P w base spare held f3.type d3 wf3) :
    Op enc P w base spare held t (Kd.pair d0 (Kd.pair d1 (Kd.pair d2 d3))) (fun x => wf0 x.1 ∧ wf1 x.2.1 ∧ wf2 x.2.2.1 ∧ wf3 x.2.2.2) := by
  intro fuel cs x hx
  obtain ⟨xs, n, _, _, hl, hxl, hf⟩ := DataW.trod_struct hs hx
  have e0 := hf 0 f0 rfl
  have e1 := hf 1 f1 rfl
  have e2 := hf 2 f2 rfl
  have e3 := hf 3 f3 rfl
  rw [o0, c0, List.drop_zero, List.getElem?_eq_getElem (by rw [hxl]; simp)] at e0
  rw [o1, c1, List.getElem?_eq_getElem (by rw [hxl]; simp)] at e1
  rw [o2, c2, List.getElem?_eq_getElem (by rw [hxl]; simp)] at e2
  rw [o3, c3, List.getElem?_eq_getElem (by rw [hxl]; simp)] at e3
  obtain ⟨a0, k0, w0⟩ := h0 _ _ _ e0
  obtain ⟨a1, k1, w1⟩ := h1 _ _ _ e1
  obtain ⟨a2, k2, w2⟩ := h2 _ _ _ e2
  obtain ⟨a3, k3, w3⟩ := h3 _ _ _ e3
  refine ⟨(a0, a1, a2, a3), ⟨_, _, ?_, k0, _, _, rfl, k1, _, _, rfl, k2, k3⟩, w0, w1, w2, w3⟩
  rw [List.take_of_length_le (l := cs.drop (d0.sz + d1.sz + d2.sz)) (by simp; omega), ← List.drop_drop (i := d2.sz), List.take_append_drop, ← List.drop_drop (i := d1.sz), List.take_append_drop, List.take_append_drop]
end Go.Proofs.Ytldeaeeolibpjag.X
