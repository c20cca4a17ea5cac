/- The evaluator and what it gives of the functions, part 2. No conditions of ours: a law's row is in YtdgfpjlmpnfcgaaLFnVoyagesSail. -/
import Derived.Test.YtdgfpjlmpnfcgaaE1
import Derived.DataReads
import Derived.Deep.Slices
import Derived.IntWalk
import Derived.ProofKit
namespace Go.Proofs.Ytdgfpjlmpnfcgaa.Ev
open Go Go.RowKit Go.Deep
set_option linter.unusedVariables false
set_option linter.unusedSimpArgs false
def TRs (w : World) (F : Nat → Prop) (ts : List T) (cs : List Value) : Prop := cs.length = ts.length ∧ ∀ (i : Nat) x a, ts[i]? = some x → cs[i]? = some a → TR w F x a
theorem TRs.one {w : World} {F : Nat → Prop} {t : T} {v : Value} (h : TR w F t v) : TRs w F [t] [v] := ⟨rfl, fun i x a hx ha => by
  cases i with
  | zero => simp at hx ha; subst hx ha; exact h
  | succ i => simp at hx⟩
theorem TRs.app {w : World} {F : Nat → Prop} {ts us : List T} {cs ds : List Value} (h : TRs w F ts cs) (k : TRs w F us ds) : TRs w F (ts ++ us) (cs ++ ds) := by
  refine ⟨by rw [List.length_append, List.length_append, h.1, k.1], fun i x a hx ha => ?_⟩
  rcases Nat.lt_or_ge i ts.length with h1 | h1
  · rw [List.getElem?_append_left h1] at hx
    rw [List.getElem?_append_left (h.1 ▸ h1)] at ha
    exact h.2 i x a hx ha
  · rw [List.getElem?_append_right h1] at hx
    rw [List.getElem?_append_right (h.1 ▸ h1), h.1] at ha
    exact k.2 _ x a hx ha

section
variable {H : Type} {enc : TypeId × Value → H} {P : Program} {w : World} {base : Nat} {spare : Nat → Bool} {held : Bool}
def Opn {H : Type} (enc : TypeId × Value → H) (P : Program) (w : World) (base : Nat) (spare : Nat → Bool) (held : Bool) (t : TypeId) (n : Nat) (wf : List T → Prop) : Prop :=
  ∀ (fuel : Nat) (cs : List Value) (x : DataW H × List MemPlace), DataW.trod enc P w base spare held fuel t cs = some x → ∃ ts, ts.length = n ∧ TRs w (fun m => m < w.heap.size) ts cs ∧ wf ts
theorem opn_int {t : TypeId} {k : IntKind} (h : P.underlying t = some (.int k)) : Opn enc P w base spare held t 1 (fun ts => ∃ n, ts = [.int k n] ∧ (Lit.int k n).wf = true) := by
  intro fuel cs x hx
  obtain ⟨n, rfl, _, hw⟩ := DataW.trod_int h hx
  exact ⟨[.int k n], rfl, .one (.int k n), n, rfl, hw⟩
theorem opn_bool {t : TypeId} (h : P.underlying t = some .bool) : Opn enc P w base spare held t 1 (fun ts => ∃ b, ts = [.bool b]) := by
  intro fuel cs x hx
  obtain ⟨n, rfl, _⟩ := DataW.trod_bool h hx
  exact ⟨[.bool n], rfl, .one (.bool n), n, rfl⟩
theorem opn_string {t : TypeId} (h : P.underlying t = some .string) : Opn enc P w base spare held t 1 (fun ts => ∃ s, ts = [.str s] ∧ s.size ≤ maxLen) := by
  intro fuel cs x hx
  obtain ⟨s, rfl, _, hw⟩ := DataW.trod_string h hx
  exact ⟨[.str s], rfl, .one (.str s), s, rfl, hw⟩
theorem opn_struct2 {n0 n1 : Nat} {wf0 wf1 : List T → Prop} {t : TypeId} {f0 f1 : Field} (hs : P.underlying t = some (.struct #[f0, f1])) (o0 : f0.offset = 0) (o1 : f1.offset = n0)
    (c0 : P.cellsOf f0.type = n0) (c1 : P.cellsOf f1.type = n1) (c : P.cellsOf t = n0 + n1) (h0 : Opn enc P w base spare held f0.type n0 wf0) (h1 : Opn enc P w base spare held f1.type n1 wf1) :
    Opn enc P w base spare held t (n0 + n1) (fun ts => ∃ t0 t1, ts = t0 ++ t1 ∧ wf0 t0 ∧ wf1 t1) := by
  intro fuel cs x hx
  obtain ⟨xs, n, _, _, hl, hxl, hf⟩ := DataW.trod_struct hs hx
  have e0 := hf 0 f0 rfl
  have e1 := hf 1 f1 rfl
  rw [o0, c0, List.drop_zero, List.getElem?_eq_getElem (by rw [hxl]; simp)] at e0
  rw [o1, c1, List.getElem?_eq_getElem (by rw [hxl]; simp)] at e1
  obtain ⟨t0, l0, k0, w0⟩ := h0 _ _ _ e0
  obtain ⟨t1, l1, k1, w1⟩ := h1 _ _ _ e1
  refine ⟨t0 ++ t1, by simp [l0, l1], ?_, t0, t1, rfl, w0, w1⟩
  have := k0.app k1
  rwa [List.take_of_length_le (l := cs.drop n0) (by simp; omega), List.take_append_drop] at this
theorem opn_struct3 {n0 n1 n2 : Nat} {wf0 wf1 wf2 : List T → Prop} {t : TypeId} {f0 f1 f2 : Field} (hs : P.underlying t = some (.struct #[f0, f1, f2])) (o0 : f0.offset = 0) (o1 : f1.offset = n0) (o2 : f2.offset = n0 + n1)
    (c0 : P.cellsOf f0.type = n0) (c1 : P.cellsOf f1.type = n1) (c2 : P.cellsOf f2.type = n2) (c : P.cellsOf t = n0 + (n1 + n2)) (h0 : Opn enc P w base spare held f0.type n0 wf0) (h1 : Opn enc P w base spare held f1.type n1 wf1) (h2 : Opn enc P w base spare held f2.type n2 wf2) :
    Opn enc P w base spare held t (n0 + (n1 + n2)) (fun ts => ∃ t0 t1 t2, ts = t0 ++ (t1 ++ t2) ∧ wf0 t0 ∧ wf1 t1 ∧ wf2 t2) := by
  intro fuel cs x hx
  obtain ⟨xs, n, _, _, hl, hxl, hf⟩ := DataW.trod_struct hs hx
  have e0 := hf 0 f0 rfl
  have e1 := hf 1 f1 rfl
  have e2 := hf 2 f2 rfl
  rw [o0, c0, List.drop_zero, List.getElem?_eq_getElem (by rw [hxl]; simp)] at e0
  rw [o1, c1, List.getElem?_eq_getElem (by rw [hxl]; simp)] at e1
  rw [o2, c2, List.getElem?_eq_getElem (by rw [hxl]; simp)] at e2
  obtain ⟨t0, l0, k0, w0⟩ := h0 _ _ _ e0
  obtain ⟨t1, l1, k1, w1⟩ := h1 _ _ _ e1
  obtain ⟨t2, l2, k2, w2⟩ := h2 _ _ _ e2
  refine ⟨t0 ++ (t1 ++ t2), by simp [l0, l1, l2], ?_, t0, t1, t2, rfl, w0, w1, w2⟩
  have := k0.app (k1.app k2)
  rwa [List.take_of_length_le (l := cs.drop (n0 + n1)) (by simp; omega), ← List.drop_drop, List.take_append_drop, List.take_append_drop] at this
theorem opn_agg {w : World} {ts : List T} {cs : Array Value} {F : Nat → Prop} (h : TRs w F ts cs.toList) : TR w F (.agg ts) (.agg cs) := by
  have := TR.agg ts cs.toList h.1 h.2
  simpa using this
end
end Go.Proofs.Ytdgfpjlmpnfcgaa.Ev
namespace Go.Proofs.Ytdgfpjlmpnfcgaa.Ev
open Go Go.RowKit Go.Deep
set_option linter.unusedVariables false
set_option linter.unusedSimpArgs false
section
variable {H : Type} {enc : TypeId × Value → H} {P : Program} {w : World} {base : Nat} {spare : Nat → Bool} {held : Bool}
theorem add_none (b off m : Nat) : (⟨b, off, none⟩ : Addr).add m = ⟨b, off + m, none⟩ := by
  unfold Addr.add
  split
  · subst_vars; rfl
  · rfl
theorem opn_slice {e t : TypeId} {sz : Nat} {wf : List T → Prop} (mk : List T → T) (ht : P.underlying t = some (.slice e)) (hc : P.cellsOf e = sz) (h0 : 0 < sz) (he : Opn enc P w base spare held e sz wf) (hmk : ∀ ts, wf ts → (mk ts).cells = ts ∧ ts.all T.one = true) :
    Opn enc P w base spare held t 1 (fun ts => ts = [.nil] ∨ ∃ els : List (List T), ts = [.lst sz (els.map mk)] ∧ ∀ x ∈ els, wf x) := by
  intro fuel cs x hx
  rcases DataW.trod_slice ht hx with ⟨rfl, _⟩ | ⟨a, len, cap, elems, rest, n, _, rfl, _, hb, hlc, _, hl, hel, _, _⟩
  · exact ⟨[.nil], rfl, .one .nil, .inl rfl⟩
  · rw [hc] at hel
    have key : ∀ i, i < len → ∃ (ts : List T), (∃ cs : List Value, w.cells? base (a.add (i * sz)) sz = some cs ∧ TRs w (fun m => m < w.heap.size) ts cs) ∧ ts.length = sz ∧ wf ts := fun i hi => by
      have h1 := hel i hi
      rw [List.getElem?_eq_getElem (by omega)] at h1
      obtain ⟨cs, h2, h3⟩ := Option.bind_eq_some_iff.1 h1
      obtain ⟨ts, k1, k2, k3⟩ := he _ _ _ h3
      exact ⟨ts, ⟨cs, h2, k2⟩, k1, k3⟩
    obtain ⟨f, hf⟩ : ∃ f : Nat → List T, ∀ i, i < len → (∃ cs : List Value, w.cells? base (a.add (i * sz)) sz = some cs ∧ TRs w (fun m => m < w.heap.size) (f i) cs) ∧ (f i).length = sz ∧ wf (f i) :=
      ⟨fun i => if h : i < len then (key i h).choose else [], fun i hi => by simp only [dif_pos hi]; exact (key i hi).choose_spec⟩
    refine ⟨[.lst sz (((List.range len).map f).map mk)], rfl, .one ?_, .inr ⟨_, rfl, fun x hx => ?_⟩⟩
    · cases len with
      | zero => exact .lst0 sz (some a) cap
      | succ m =>
        have cell : ∀ i, i < m + 1 → ∀ j v, (∃ cs : List Value, w.cells? base (a.add (i * sz)) sz = some cs ∧ cs[j]? = some v) → j < sz → w.cell? ((a.add (i * sz)).add j) = some v := fun i hi j v ⟨cs, h1, h2⟩ hj => by
          rw [(World.cells?_some h1).2.2 j hj]; exact h2
        have some0 : ∀ i, i < m + 1 → ∀ j, j < sz → ∃ v, w.cell? ((a.add (i * sz)).add j) = some v := fun i hi j hj => by
          obtain ⟨⟨cs, h1, h2⟩, h3, _⟩ := hf i hi
          have hlen := (World.cells?_some h1).2.1
          exact ⟨cs[j]'(by omega), cell i hi j _ ⟨cs, h1, by rw [List.getElem?_eq_getElem]⟩ hj⟩
        obtain ⟨v0, hv0⟩ := some0 0 (by omega) 0 h0
        have hsp : a.spot = none := by
          have := World.cell?_spot hv0
          simpa [Addr.add] using this
        obtain ⟨b, off, spot⟩ := a
        simp only at hsp
        subst hsp
        have hblk : ∃ c el fr, w.heap[b]? = some (.cells c el fr) := by
          unfold World.cell? at hv0
          rw [add_none, add_none] at hv0
          simp only at hv0
          split at hv0
          · rename_i c el fr h; exact ⟨c, el, fr, h⟩
          · cases hv0
        obtain ⟨c, el, fr, hB⟩ := hblk
        have hcell : ∀ o, w.cell? ⟨b, o, none⟩ = c[o]? := fun o => by unfold World.cell?; rw [hB]; rfl
        have hlt : b < w.heap.size := by
          rcases Nat.lt_or_ge b w.heap.size with h | h
          · exact h
          · rw [Array.getElem?_eq_none h] at hB; cases hB
        have hxl : (((List.range (m + 1)).map f).map mk).length = m + 1 := by simp
        have hget : ∀ (i : Nat) x, (((List.range (m + 1)).map f).map mk)[i]? = some x → i < m + 1 ∧ x = mk (f i) := fun i x hx => by
          have hi : i < m + 1 := by have := (List.getElem?_eq_some_iff.1 hx).1; omega
          refine ⟨hi, ?_⟩
          simp [hi] at hx
          exact hx.symm
        have := TR.lst (w := w) (F := fun m => m < w.heap.size) sz (((List.range (m + 1)).map f).map mk) b off cap c hlt ⟨el, fr, hB⟩ (by
            rw [hxl]
            obtain ⟨v, hv⟩ := some0 m (by omega) (sz - 1) (by omega)
            rw [add_none, add_none, hcell] at hv
            have := (Array.getElem?_eq_some_iff.1 hv).1
            rw [Nat.succ_mul]
            omega) (by rw [hxl]; exact hlc) (fun i x hx => by
            obtain ⟨hi, rfl⟩ := hget i x hx
            obtain ⟨_, h3, h4⟩ := hf i hi
            obtain ⟨h5, h6⟩ := hmk _ h4
            unfold T.el
            rw [h5, h3, h6]
            simp) (fun i x j y hx hy => by
            obtain ⟨hi, rfl⟩ := hget i x hx
            obtain ⟨⟨cs, h1, h2⟩, h3, h4⟩ := hf i hi
            rw [(hmk _ h4).1] at hy
            have hj : j < sz := by have := (List.getElem?_eq_some_iff.1 hy).1; omega
            have hlen := (World.cells?_some h1).2.1
            have hv : cs[j]? = some (cs[j]'(by omega)) := by rw [List.getElem?_eq_getElem]
            have h6 := cell i hi j _ ⟨cs, h1, hv⟩ hj
            rw [add_none, add_none, hcell] at h6
            have h7 : c.getD (off + i * sz + j) undef = cs[j]'(by omega) := by
              rw [Array.getD_eq_getD_getElem?, h6]; rfl
            rw [h7]
            exact h2.2 j y _ hy hv)
        rw [hxl] at this
        exact this
    · obtain ⟨i, hi, rfl⟩ := List.mem_map.1 hx
      exact (hf i (List.mem_range.1 hi)).2.2
end
end Go.Proofs.Ytdgfpjlmpnfcgaa.Ev
namespace Go.Proofs.Ytdgfpjlmpnfcgaa.Ev
def ir41_c : C := (.seq (.reg false [] [⟨(some 1), none, (.box (.v 0))⟩, ⟨(some 2), none, (.mv (.k (.bool false)))⟩]) (.seq (.reg false [] [⟨(some 3), none, (.fad 0 (.v 1))⟩, ⟨(some 4), none, (.ld false 1 (.v 3))⟩, ⟨(some 5), none, (.call 68 [(.v 4), (.k (.int .i64 1)), (.k (.int .i64 3))])⟩, ⟨(some 6), none, (.mv (.v 5))⟩, ⟨(some 7), (some (6, true)), (.fad 1 (.v 1))⟩, ⟨(some 8), (some (6, true)), (.ld false 1 (.v 7))⟩, ⟨(some 9), (some (6, true)), (.call 68 [(.v 8), (.k (.int .i64 1)), (.k (.int .i64 3))])⟩, ⟨(some 10), none, (.pick (.v 6) (.v 9) (.k (.bool false)))⟩, ⟨(some 11), none, (.mv (.v 10))⟩, ⟨(some 12), (some (11, true)), (.fad 2 (.v 1))⟩, ⟨(some 13), (some (11, true)), (.ld false 1 (.v 12))⟩, ⟨(some 14), (some (11, true)), (.call 68 [(.v 13), (.k (.int .i64 0)), (.k (.int .i64 2))])⟩, ⟨(some 15), none, (.pick (.v 11) (.v 14) (.k (.bool false)))⟩, ⟨(some 2), none, (.mv (.v 15))⟩]) .ret))
def ir41 : Fn := ⟨.own, 1, 16, [(.tmp 2)], ir41_c⟩
def ir50_d0 : C := (.seq (.seq (.reg false [] [⟨(some 8), none, (.fad 0 (.v 5))⟩, ⟨(some 9), none, (.ld false 1 (.v 8))⟩, ⟨(some 10), none, (.len 1 (.v 9))⟩, ⟨(some 11), none, (.fad 0 (.v 2))⟩, ⟨(some 12), none, (.ld false 1 (.v 11))⟩, ⟨(some 13), none, (.bin .mul .none (.k (.int .i64 2)) (.v 12))⟩, ⟨(some 14), none, (.bin .lss .none (.v 10) (.v 13))⟩]) (.cond (.v 14) .skip (.exit 0))) (.block 1 (.reg false [] [⟨(some 15), none, (.fad 0 (.v 5))⟩, ⟨(some 16), none, (.ld false 1 (.v 15))⟩, ⟨(some 17), none, (.mv (.v 1))⟩, ⟨(some 18), none, (.bsl false 1 1 (.int .i64 0) [(0, (.v 17))])⟩, ⟨(some 19), none, (.app false 1 (.v 16) (.v 18))⟩, ⟨(some 20), none, (.fad 0 (.v 5))⟩, ⟨none, none, (.st 1 (.v 20) (.v 19))⟩])))
def ir50_b0 : C := ir50_d0
def ir50_l0 : C := .loop true [1, 2, 4, 5] ir50_b0
def ir50_c : C := (.seq (.reg false [] [⟨(some 2), none, (.box (.v 0))⟩, ⟨(some 4), none, (.alc 2 [.nil, (.int .i64 0)])⟩]) (.seq (.reg false [] [⟨(some 6), none, (.mv (.v 1))⟩, ⟨(some 7), none, (.bld [.nil, (.int .i64 0)] [(1, (1, (.v 6)))])⟩, ⟨(some 5), none, (.alc 2 [.nil, (.int .i64 0)])⟩, ⟨none, none, (.st 2 (.v 5) (.v 7))⟩]) (.seq (.block 0 ir50_l0) (.seq (.reg false [] [⟨(some 21), none, (.ld true 2 (.v 5))⟩, ⟨none, none, (.st 2 (.v 4) (.v 21))⟩]) .ret))))
def ir50 : Fn := ⟨.own, 2, 22, [(.cell 4 true 2)], ir50_c⟩
def ir12_c : C := (.seq (.reg false [] [⟨(some 1), none, (.box (.v 0))⟩, ⟨(some 2), none, (.mv (.k (.bool false)))⟩]) (.seq (.reg false [] [⟨(some 3), none, (.fad 0 (.v 1))⟩, ⟨(some 4), none, (.ld false 1 (.v 3))⟩, ⟨(some 5), none, (.call 40 [(.v 4), (.k (.int .i64 1)), (.k (.int .i64 3))])⟩, ⟨(some 6), none, (.mv (.v 5))⟩, ⟨(some 7), (some (6, true)), (.fad 1 (.v 1))⟩, ⟨(some 8), (some (6, true)), (.ld false 1 (.v 7))⟩, ⟨(some 9), (some (6, true)), (.call 40 [(.v 8), (.k (.int .i64 1)), (.k (.int .i64 3))])⟩, ⟨(some 10), none, (.pick (.v 6) (.v 9) (.k (.bool false)))⟩, ⟨(some 11), none, (.mv (.v 10))⟩, ⟨(some 12), (some (11, true)), (.fad 2 (.v 1))⟩, ⟨(some 13), (some (11, true)), (.ld false 1 (.v 12))⟩, ⟨(some 14), (some (11, true)), (.call 40 [(.v 13), (.k (.int .i64 0)), (.k (.int .i64 2))])⟩, ⟨(some 15), none, (.pick (.v 11) (.v 14) (.k (.bool false)))⟩, ⟨(some 2), none, (.mv (.v 15))⟩]) .ret))
def ir12 : Fn := ⟨.own, 1, 16, [(.tmp 2)], ir12_c⟩
def ir34_d0 : C := (.seq (.reg false [] [⟨(some 43), none, (.bin .lss .none (.v 42) (.v 41))⟩]) (.seq (.cond (.v 43) .skip (.exit 4)) (.seq (.block 5 (.seq (.reg false [] [⟨(some 44), none, (.ixa 1 (.v 40) (.v 42))⟩, ⟨(some 45), none, (.ld false 1 (.v 44))⟩, ⟨(some 11), none, (.mv (.v 45))⟩]) (.seq (.reg false [] [⟨(some 46), none, (.mv (.v 9))⟩, ⟨(some 47), none, (.mv (.v 11))⟩, ⟨(some 48), none, (.bld [(.int .i64 0), .nil] [(0, (1, (.v 46))), (1, (1, (.v 47)))])⟩, ⟨(some 12), none, (.alc 2 [(.int .i64 0), .nil])⟩, ⟨none, none, (.st 2 (.v 12) (.v 48))⟩]) (.seq (.reg false [] [⟨(some 49), none, (.ld true 3 (.v 2))⟩, ⟨(some 50), none, (.ld true 2 (.v 3))⟩, ⟨(some 51), none, (.ld true 2 (.v 12))⟩, ⟨(some 52), none, (.call 45 [(.v 49), (.v 50), (.v 51)])⟩]) (.cond (.v 52) (.reg false [] [⟨(some 53), none, (.mv (.v 8))⟩, ⟨(some 54), none, (.ld true 2 (.v 12))⟩, ⟨(some 55), none, (.bsl false 2 1 (.agg [(.int .i64 0), .nil]) [(0, (.v 54))])⟩, ⟨(some 56), none, (.app false 2 (.v 53) (.v 55))⟩, ⟨(some 8), none, (.mv (.v 56))⟩]) .skip))))) (.reg false [] [⟨(some 57), none, (.bin .add .none (.v 42) (.k (.int .i64 1)))⟩, ⟨(some 42), none, (.mv (.v 57))⟩]))))
def ir34_b0 : C := ir34_d0
def ir34_l0 : C := .loop true [2, 3, 5, 8, 9, 40, 41, 42] ir34_b0
def ir34_d1 : C := (.seq (.seq (.reg false [] [⟨(some 30), none, (.mv (.v 9))⟩, ⟨(some 31), none, (.fad 2 (.v 2))⟩, ⟨(some 32), none, (.ld false 1 (.v 31))⟩, ⟨(some 33), none, (.bin .add .none (.v 32) (.k (.int .i64 1)))⟩, ⟨(some 34), none, (.bin .leq .none (.v 30) (.v 33))⟩]) (.cond (.v 34) .skip (.exit 2))) (.seq (.block 3 (.seq (.reg false [] [⟨(some 37), none, (.mv (.v 5))⟩, ⟨(some 38), none, (.fad 1 (.v 2))⟩, ⟨(some 39), none, (.ld false 1 (.v 38))⟩, ⟨(some 40), none, (.call 61 [(.v 37), (.k .nil), (.k (.int .i64 0)), (.v 39)])⟩, ⟨(some 41), none, (.len 1 (.v 40))⟩, ⟨(some 42), none, (.mv (.k (.int .i64 0)))⟩]) (.block 4 ir34_l0))) (.reg false [] [⟨(some 35), none, (.mv (.v 9))⟩, ⟨(some 36), none, (.bin .add .none (.v 35) (.k (.int .i64 1)))⟩, ⟨(some 9), none, (.mv (.v 36))⟩])))
def ir34_b1 : C := ir34_d1
def ir34_l1 : C := .loop true [2, 3, 5, 8, 9] ir34_b1
def ir34_d2 : C := (.seq (.reg false [] [⟨(some 17), none, (.bin .lss .none (.v 16) (.v 15))⟩]) (.seq (.cond (.v 17) .skip (.exit 0)) (.seq (.block 1 (.seq (.reg false [] [⟨(some 18), none, (.mv (.v 16))⟩, ⟨(some 19), none, (.ixa 1 (.v 14) (.v 16))⟩, ⟨(some 20), none, (.ld false 1 (.v 19))⟩, ⟨(some 6), none, (.mv (.v 18))⟩, ⟨(some 7), none, (.mv (.v 20))⟩]) (.seq (.reg false [] [⟨(some 21), none, (.mv (.v 7))⟩, ⟨(some 22), none, (.fad 1 (.v 3))⟩, ⟨(some 23), none, (.ld false 1 (.v 22))⟩, ⟨(some 24), none, (.bin .eql .none (.v 21) (.v 23))⟩]) (.cond (.v 24) (.reg false [] [⟨(some 25), none, (.mv (.v 5))⟩, ⟨(some 26), none, (.mv (.v 6))⟩, ⟨(some 27), none, (.bsl false 1 1 (.int .i64 0) [(0, (.v 26))])⟩, ⟨(some 28), none, (.app false 1 (.v 25) (.v 27))⟩, ⟨(some 5), none, (.mv (.v 28))⟩]) .skip)))) (.reg false [] [⟨(some 29), none, (.bin .add .none (.v 16) (.k (.int .i64 1)))⟩, ⟨(some 16), none, (.mv (.v 29))⟩]))))
def ir34_b2 : C := ir34_d2
def ir34_l2 : C := .loop true [2, 3, 5, 14, 15, 16] ir34_b2
def ir34_c : C := (.seq (.reg false [] [⟨(some 2), none, (.box (.v 0))⟩, ⟨(some 3), none, (.box (.v 1))⟩, ⟨(some 4), none, (.mv (.k .nil))⟩]) (.seq (.reg false [] [⟨(some 5), none, (.mv (.k .nil))⟩]) (.seq (.seq (.reg false [] [⟨(some 13), none, (.fad 0 (.v 3))⟩, ⟨(some 14), none, (.ld false 1 (.v 13))⟩, ⟨(some 15), none, (.len 1 (.v 14))⟩, ⟨(some 16), none, (.mv (.k (.int .i64 0)))⟩]) (.block 0 ir34_l2)) (.seq (.reg false [] [⟨(some 8), none, (.mv (.k .nil))⟩]) (.seq (.seq (.reg false [] [⟨(some 9), none, (.mv (.k (.int .i64 0)))⟩]) (.block 2 ir34_l1)) (.seq (.reg false [] [⟨(some 58), none, (.mv (.v 8))⟩, ⟨(some 4), none, (.mv (.v 58))⟩]) .ret))))))
def ir34 : Fn := ⟨.ownF, 2, 59, [(.tmp 4)], ir34_c⟩
def ir46_d0 : C := (.seq (.reg false [] [⟨(some 18), none, (.bin .lss .none (.v 17) (.v 16))⟩]) (.seq (.cond (.v 18) .skip (.exit 0)) (.seq (.block 1 (.seq (.reg false [] [⟨(some 19), none, (.ixa 1 (.v 15) (.v 17))⟩, ⟨(some 20), none, (.ld false 1 (.v 19))⟩, ⟨(some 7), none, (.mv (.v 20))⟩]) (.reg false [] [⟨(some 21), none, (.fad 0 (.v 5))⟩, ⟨(some 22), none, (.ld false 1 (.v 21))⟩, ⟨(some 23), none, (.mv (.v 7))⟩, ⟨(some 24), none, (.fad 0 (.v 3))⟩, ⟨(some 25), none, (.ld false 1 (.v 24))⟩, ⟨(some 26), none, (.ixa 1 (.v 22) (.v 23))⟩, ⟨none, none, (.st 1 (.v 26) (.v 25))⟩]))) (.reg false [] [⟨(some 27), none, (.bin .add .none (.v 17) (.k (.int .i64 1)))⟩, ⟨(some 17), none, (.mv (.v 27))⟩]))))
def ir46_b0 : C := ir46_d0
def ir46_l0 : C := .loop true [3, 4, 5, 15, 16, 17] ir46_b0
def ir46_c : C := (.seq (.reg false [] [⟨(some 2), none, (.box (.v 0))⟩, ⟨(some 3), none, (.box (.v 1))⟩, ⟨(some 4), none, (.alc 2 [.nil, (.int .i64 0)])⟩]) (.seq (.reg true [0, 1, 3, 0, 8, 31, 0, 127] [⟨(some 8), none, (.fad 0 (.v 2))⟩, ⟨(some 9), none, (.ld false 1 (.v 8))⟩, ⟨(some 10), none, (.call 75 [(.v 9)])⟩, ⟨(some 11), none, (.fad 0 (.v 3))⟩, ⟨(some 12), none, (.ld false 1 (.v 11))⟩, ⟨(some 13), none, (.bld [.nil, (.int .i64 0)] [(0, (1, (.v 10))), (1, (1, (.v 12)))])⟩, ⟨(some 5), none, (.alc 2 [.nil, (.int .i64 0)])⟩, ⟨none, none, (.st 2 (.v 5) (.v 13))⟩]) (.seq (.seq (.reg false [] [⟨(some 14), none, (.fad 1 (.v 3))⟩, ⟨(some 15), none, (.ld false 1 (.v 14))⟩, ⟨(some 16), none, (.len 1 (.v 15))⟩, ⟨(some 17), none, (.mv (.k (.int .i64 0)))⟩]) (.block 0 ir46_l0)) (.seq (.reg false [] [⟨(some 28), none, (.ld true 2 (.v 5))⟩, ⟨none, none, (.st 2 (.v 4) (.v 28))⟩]) .ret))))
def ir46 : Fn := ⟨.own, 2, 29, [(.cell 4 true 2)], ir46_c⟩
def ir32_d0 : C := (.seq (.reg false [] [⟨(some 17), none, (.bin .lss .none (.v 16) (.v 15))⟩]) (.seq (.cond (.v 17) .skip (.exit 0)) (.seq (.block 1 (.seq (.reg false [] [⟨(some 18), none, (.mv (.v 16))⟩, ⟨(some 7), none, (.alc 1 [(.int .i64 0)])⟩, ⟨none, none, (.st 1 (.v 7) (.v 18))⟩]) (.seq (.seq (.reg false [] [⟨(some 19), none, (.ld false 1 (.v 7))⟩, ⟨(some 20), none, (.fad 1 (.v 3))⟩, ⟨(some 21), none, (.ld false 1 (.v 20))⟩, ⟨(some 22), none, (.bin .eql .none (.v 19) (.v 21))⟩]) (.cond (.v 22) (.exit 1) .skip)) (.reg false [] [⟨(some 23), none, (.mv (.v 6))⟩, ⟨(some 24), none, (.fad 1 (.v 2))⟩, ⟨(some 25), none, (.ld false 1 (.v 24))⟩, ⟨(some 26), none, (.mkf 59 [] [(.v 2), (.v 3), (.v 7), (.v 5)])⟩, ⟨(some 27), none, (.call 58 [(.v 23), (.v 25), (.v 26)])⟩])))) (.reg false [] [⟨(some 28), none, (.bin .add .none (.v 16) (.k (.int .i64 1)))⟩, ⟨(some 16), none, (.mv (.v 28))⟩]))))
def ir32_b0 : C := ir32_d0
def ir32_l0 : C := .loop true [2, 3, 5, 6, 15, 16] ir32_b0
def ir32_c : C := (.seq (.reg false [] [⟨(some 2), none, (.box (.v 0))⟩, ⟨(some 3), none, (.box (.v 1))⟩, ⟨(some 4), none, (.mv (.k .nil))⟩]) (.seq (.reg false [] [⟨(some 8), none, (.bsl false 2 0 (.agg [(.int .i64 0), .nil]) [])⟩, ⟨(some 5), none, (.alc 1 [.nil])⟩, ⟨none, none, (.st 1 (.v 5) (.v 8))⟩]) (.seq (.reg false [] [⟨(some 9), none, (.ld true 2 (.v 3))⟩, ⟨(some 10), none, (.fad 1 (.v 3))⟩, ⟨(some 11), none, (.ld false 1 (.v 10))⟩, ⟨(some 12), none, (.call 57 [(.v 9), (.v 11)])⟩, ⟨(some 6), none, (.mv (.v 12))⟩]) (.seq (.seq (.reg false [] [⟨(some 13), none, (.ld true 3 (.v 2))⟩, ⟨(some 14), none, (.call 51 [(.v 13)])⟩, ⟨(some 15), none, (.bin .add .none (.v 14) (.k (.int .i64 1)))⟩, ⟨(some 16), none, (.mv (.k (.int .i64 0)))⟩]) (.block 0 ir32_l0)) (.seq (.reg false [] [⟨(some 29), none, (.ld false 1 (.v 5))⟩, ⟨(some 4), none, (.mv (.v 29))⟩]) .ret)))))
def ir32 : Fn := ⟨.ownF, 2, 30, [(.tmp 4)], ir32_c⟩
def ir43_d0 : C := (.seq (.reg false [] [⟨(some 18), none, (.bin .lss .none (.v 17) (.v 16))⟩]) (.seq (.cond (.v 18) .skip (.exit 0)) (.seq (.block 1 (.seq (.reg false [] [⟨(some 19), none, (.ixa 1 (.v 15) (.v 17))⟩, ⟨(some 20), none, (.ld false 1 (.v 19))⟩, ⟨(some 9), none, (.mv (.v 20))⟩]) (.reg false [] [⟨(some 21), none, (.fad 0 (.v 7))⟩, ⟨(some 22), none, (.ld false 1 (.v 21))⟩, ⟨(some 23), none, (.mv (.v 9))⟩, ⟨(some 24), none, (.mv (.v 1))⟩, ⟨(some 25), none, (.ixa 1 (.v 22) (.v 23))⟩, ⟨none, none, (.st 1 (.v 25) (.v 24))⟩]))) (.reg false [] [⟨(some 26), none, (.bin .add .none (.v 17) (.k (.int .i64 1)))⟩, ⟨(some 17), none, (.mv (.v 26))⟩]))))
def ir43_b0 : C := ir43_d0
def ir43_l0 : C := .loop true [1, 6, 7, 15, 16, 17] ir43_b0
def ir43_c : C := (.seq (.reg false [] [⟨(some 3), none, (.box (.v 0))⟩, ⟨(some 6), none, (.alc 2 [.nil, (.int .i64 0)])⟩]) (.seq (.reg false [] [⟨(some 10), none, (.fad 0 (.v 3))⟩, ⟨(some 11), none, (.ld false 1 (.v 10))⟩, ⟨(some 12), none, (.call 72 [(.v 11)])⟩, ⟨(some 13), none, (.mv (.v 1))⟩, ⟨(some 14), none, (.bld [.nil, (.int .i64 0)] [(0, (1, (.v 12))), (1, (1, (.v 13)))])⟩, ⟨(some 7), none, (.alc 2 [.nil, (.int .i64 0)])⟩, ⟨none, none, (.st 2 (.v 7) (.v 14))⟩]) (.seq (.seq (.reg false [] [⟨(some 15), none, (.mv (.v 2))⟩, ⟨(some 16), none, (.len 1 (.v 15))⟩, ⟨(some 17), none, (.mv (.k (.int .i64 0)))⟩]) (.block 0 ir43_l0)) (.seq (.reg false [] [⟨(some 27), none, (.ld true 2 (.v 7))⟩, ⟨none, none, (.st 2 (.v 6) (.v 27))⟩]) .ret))))
def ir43 : Fn := ⟨.own, 3, 28, [(.cell 6 true 2)], ir43_c⟩
def ir49_c : C := (.seq (.reg false [] [⟨(some 2), none, (.box (.v 0))⟩, ⟨(some 4), none, (.alc 2 [.nil, (.int .i64 0)])⟩]) (.seq (.reg false [] [⟨(some 5), none, (.mv (.v 1))⟩, ⟨(some 6), none, (.bsl false 1 1 (.int .i64 0) [(0, (.v 5))])⟩, ⟨(some 7), none, (.ld true 3 (.v 2))⟩, ⟨(some 8), none, (.call 66 [(.v 7)])⟩, ⟨(some 9), none, (.call 76 [(.v 6), (.v 8)])⟩, ⟨(some 10), none, (.mv (.v 1))⟩, ⟨(some 11), none, (.bld [.nil, (.int .i64 0)] [(0, (1, (.v 9))), (1, (1, (.v 10)))])⟩, ⟨none, none, (.st 2 (.v 4) (.v 11))⟩]) .ret))
def ir49 : Fn := ⟨.own, 2, 12, [(.cell 4 true 2)], ir49_c⟩
def ir51_c : C := (.seq (.reg false [] [⟨(some 1), none, (.box (.v 0))⟩, ⟨(some 2), none, (.mv (.k (.int .i64 0)))⟩]) (.seq (.reg false [] [⟨(some 3), none, (.fad 2 (.v 1))⟩, ⟨(some 4), none, (.ld false 1 (.v 3))⟩, ⟨(some 5), none, (.bin .add .none (.v 4) (.k (.int .i64 1)))⟩, ⟨(some 2), none, (.mv (.v 5))⟩]) .ret))
def ir51 : Fn := ⟨.own, 1, 6, [(.tmp 2)], ir51_c⟩
def ir61_d0 : C := (.seq (.seq (.reg false [] [⟨(some 25), none, (.mv (.v 10))⟩, ⟨(some 26), none, (.mv (.v 0))⟩, ⟨(some 27), none, (.len 1 (.v 26))⟩, ⟨(some 28), none, (.bin .lss .none (.v 25) (.v 27))⟩]) (.cond (.v 28) .skip (.exit 0))) (.seq (.block 1 (.reg true [0, 0, 0, 4, 0, 0, 48, 112, 240, 508, 0, 1024, 0, 8190, 16383, 32767] [⟨(some 31), none, (.mv (.v 9))⟩, ⟨(some 32), none, (.mv (.v 0))⟩, ⟨(some 33), none, (.mv (.v 1))⟩, ⟨(some 34), none, (.call 75 [(.v 33)])⟩, ⟨(some 35), none, (.mv (.v 0))⟩, ⟨(some 36), none, (.mv (.v 10))⟩, ⟨(some 37), none, (.ixa 1 (.v 35) (.v 36))⟩, ⟨(some 38), none, (.ld false 1 (.v 37))⟩, ⟨(some 39), none, (.bsl false 1 1 (.int .i64 0) [(0, (.v 38))])⟩, ⟨(some 40), none, (.app false 1 (.v 34) (.v 39))⟩, ⟨(some 41), none, (.mv (.v 10))⟩, ⟨(some 42), none, (.bin .add .none (.v 41) (.k (.int .i64 1)))⟩, ⟨(some 43), none, (.mv (.v 3))⟩, ⟨(some 44), none, (.call 61 [(.v 32), (.v 40), (.v 42), (.v 43)])⟩, ⟨(some 45), none, (.app false 1 (.v 31) (.v 44))⟩, ⟨(some 9), none, (.mv (.v 45))⟩])) (.reg false [] [⟨(some 29), none, (.mv (.v 10))⟩, ⟨(some 30), none, (.bin .add .none (.v 29) (.k (.int .i64 1)))⟩, ⟨(some 10), none, (.mv (.v 30))⟩])))
def ir61_b0 : C := ir61_d0
def ir61_l0 : C := .loop true [0, 1, 3, 9, 10] ir61_b0
def ir61_c : C := (.seq (.reg false [] [⟨(some 8), none, (.mv (.k .nil))⟩]) (.seq (.reg false [] [⟨(some 9), none, (.mv (.k .nil))⟩]) (.seq (.seq (.reg false [] [⟨(some 11), none, (.mv (.v 1))⟩, ⟨(some 12), none, (.len 1 (.v 11))⟩, ⟨(some 13), none, (.bin .gtr .none (.v 12) (.k (.int .i64 0)))⟩]) (.cond (.v 13) (.reg false [] [⟨(some 14), none, (.mv (.v 9))⟩, ⟨(some 15), none, (.mv (.v 1))⟩, ⟨(some 16), none, (.call 75 [(.v 15)])⟩, ⟨(some 17), none, (.bsl false 1 1 .nil [(0, (.v 16))])⟩, ⟨(some 18), none, (.app false 1 (.v 14) (.v 17))⟩, ⟨(some 9), none, (.mv (.v 18))⟩]) .skip)) (.seq (.seq (.reg false [] [⟨(some 19), none, (.mv (.v 1))⟩, ⟨(some 20), none, (.len 1 (.v 19))⟩, ⟨(some 21), none, (.mv (.v 3))⟩, ⟨(some 22), none, (.bin .eql .none (.v 20) (.v 21))⟩]) (.cond (.v 22) (.seq (.reg false [] [⟨(some 23), none, (.mv (.v 9))⟩, ⟨(some 8), none, (.mv (.v 23))⟩]) .ret) .skip)) (.seq (.seq (.reg false [] [⟨(some 24), none, (.mv (.v 2))⟩, ⟨(some 10), none, (.mv (.v 24))⟩]) (.block 0 ir61_l0)) (.seq (.reg false [] [⟨(some 46), none, (.mv (.v 9))⟩, ⟨(some 8), none, (.mv (.v 46))⟩]) .ret))))))
def ir61 : Fn := ⟨.ownF, 4, 47, [(.tmp 8)], ir61_c⟩
def ir45_d0 : C := (.seq (.reg false [] [⟨(some 46), none, (.bin .lss .none (.v 45) (.v 44))⟩]) (.seq (.cond (.v 46) .skip (.exit 0)) (.seq (.block 1 (.seq (.reg false [] [⟨(some 47), none, (.ixa 1 (.v 43) (.v 45))⟩, ⟨(some 48), none, (.ld false 1 (.v 47))⟩, ⟨(some 8), none, (.mv (.v 48))⟩]) (.seq (.reg true [0, 1, 0, 7, 15, 0, 32, 127] [⟨(some 49), none, (.fad 0 (.v 4))⟩, ⟨(some 50), none, (.ld false 1 (.v 49))⟩, ⟨(some 51), none, (.mv (.v 8))⟩, ⟨(some 52), none, (.ixa 1 (.v 50) (.v 51))⟩, ⟨(some 53), none, (.ld false 1 (.v 52))⟩, ⟨(some 54), none, (.fad 1 (.v 4))⟩, ⟨(some 55), none, (.ld false 1 (.v 54))⟩, ⟨(some 56), none, (.bin .neq .none (.v 53) (.v 55))⟩]) (.cond (.v 56) (.seq (.reg false [] [⟨(some 6), none, (.mv (.k (.bool false)))⟩]) .ret) .skip)))) (.reg false [] [⟨(some 57), none, (.bin .add .none (.v 45) (.k (.int .i64 1)))⟩, ⟨(some 45), none, (.mv (.v 57))⟩]))))
def ir45_b0 : C := ir45_d0
def ir45_l0 : C := .loop true [3, 4, 5, 43, 44, 45] ir45_b0
def ir45_c : C := (.seq (.reg false [] [⟨(some 3), none, (.box (.v 0))⟩, ⟨(some 4), none, (.box (.v 1))⟩, ⟨(some 5), none, (.box (.v 2))⟩, ⟨(some 6), none, (.mv (.k (.bool false)))⟩]) (.seq (.seq (.reg false [] [⟨(some 9), none, (.fad 0 (.v 5))⟩, ⟨(some 10), none, (.ld false 1 (.v 9))⟩, ⟨(some 11), none, (.fad 2 (.v 3))⟩, ⟨(some 12), none, (.ld false 1 (.v 11))⟩, ⟨(some 13), none, (.bin .add .none (.v 12) (.k (.int .i64 1)))⟩, ⟨(some 14), none, (.call 68 [(.v 10), (.k (.int .i64 0)), (.v 13)])⟩, ⟨(some 15), none, (.un .not (.v 14))⟩, ⟨(some 16), none, (.mv (.v 15))⟩, ⟨(some 17), (some (16, false)), (.fad 0 (.v 5))⟩, ⟨(some 18), (some (16, false)), (.ld false 1 (.v 17))⟩, ⟨(some 19), (some (16, false)), (.fad 1 (.v 4))⟩, ⟨(some 20), (some (16, false)), (.ld false 1 (.v 19))⟩, ⟨(some 21), (some (16, false)), (.bin .eql .none (.v 18) (.v 20))⟩, ⟨(some 22), none, (.pick (.v 16) (.k (.bool true)) (.v 21))⟩, ⟨(some 23), none, (.mv (.v 22))⟩, ⟨(some 24), (some (23, false)), (.fad 1 (.v 5))⟩, ⟨(some 25), (some (23, false)), (.ld false 1 (.v 24))⟩, ⟨(some 26), (some (23, false)), (.len 1 (.v 25))⟩, ⟨(some 27), (some (23, false)), (.fad 1 (.v 3))⟩, ⟨(some 28), (some (23, false)), (.ld false 1 (.v 27))⟩, ⟨(some 29), (some (23, false)), (.call 68 [(.v 26), (.k (.int .i64 1)), (.v 28)])⟩, ⟨(some 30), (some (23, false)), (.un .not (.v 29))⟩, ⟨(some 31), none, (.pick (.v 23) (.k (.bool true)) (.v 30))⟩, ⟨(some 32), none, (.mv (.v 31))⟩, ⟨(some 33), (some (32, false)), (.fad 1 (.v 5))⟩, ⟨(some 34), (some (32, false)), (.ld false 1 (.v 33))⟩, ⟨(some 35), (some (32, false)), (.fad 0 (.v 4))⟩, ⟨(some 36), (some (32, false)), (.ld false 1 (.v 35))⟩, ⟨(some 37), (some (32, false)), (.len 1 (.v 36))⟩, ⟨(some 38), (some (32, false)), (.bin .sub .none (.v 37) (.k (.int .i64 1)))⟩, ⟨(some 39), (some (32, false)), (.call 73 [(.v 34), (.k (.int .i64 0)), (.v 38)])⟩, ⟨(some 40), (some (32, false)), (.un .not (.v 39))⟩, ⟨(some 41), none, (.pick (.v 32) (.k (.bool true)) (.v 40))⟩]) (.cond (.v 41) (.seq (.reg false [] [⟨(some 6), none, (.mv (.k (.bool false)))⟩]) .ret) .skip)) (.seq (.seq (.reg false [] [⟨(some 42), none, (.fad 1 (.v 5))⟩, ⟨(some 43), none, (.ld false 1 (.v 42))⟩, ⟨(some 44), none, (.len 1 (.v 43))⟩, ⟨(some 45), none, (.mv (.k (.int .i64 0)))⟩]) (.block 0 ir45_l0)) (.seq (.reg true [0, 1, 0, 4, 12, 31, 63, 127, 127, 127, 895, 2047, 4095, 8191] [⟨(some 58), none, (.fad 0 (.v 3))⟩, ⟨(some 59), none, (.ld false 1 (.v 58))⟩, ⟨(some 60), none, (.fad 1 (.v 5))⟩, ⟨(some 61), none, (.ld false 1 (.v 60))⟩, ⟨(some 62), none, (.call 74 [(.v 61)])⟩, ⟨(some 63), none, (.call 64 [(.v 59), (.v 62)])⟩, ⟨(some 64), none, (.mv (.v 63))⟩, ⟨(some 65), (some (64, true)), (.ld true 3 (.v 3))⟩, ⟨(some 66), (some (64, true)), (.ld true 2 (.v 4))⟩, ⟨(some 67), (some (64, true)), (.ld true 2 (.v 5))⟩, ⟨(some 68), (some (64, true)), (.call 46 [(.v 66), (.v 67)])⟩, ⟨(some 69), (some (64, true)), (.call 37 [(.v 65), (.v 68)])⟩, ⟨(some 70), none, (.pick (.v 64) (.v 69) (.k (.bool false)))⟩, ⟨(some 6), none, (.mv (.v 70))⟩]) .ret))))
def ir45 : Fn := ⟨.own, 3, 71, [(.tmp 6)], ir45_c⟩
def ir75_c : C := (.seq (.reg false [] [⟨(some 2), none, (.mv (.k .nil))⟩]) (.seq (.reg false [] [⟨(some 3), none, (.bsl false 1 0 (.int .i64 0) [])⟩, ⟨(some 4), none, (.mv (.v 0))⟩, ⟨(some 5), none, (.app false 1 (.v 3) (.v 4))⟩, ⟨(some 2), none, (.mv (.v 5))⟩]) .ret))
def ir75 : Fn := ⟨.own, 1, 6, [(.tmp 2)], ir75_c⟩
def ir66_c : C := (.seq (.reg false [] [⟨(some 1), none, (.box (.v 0))⟩, ⟨(some 2), none, (.mv (.k (.int .i64 0)))⟩]) (.seq (.reg false [] [⟨(some 3), none, (.fad 0 (.v 1))⟩, ⟨(some 4), none, (.ld false 1 (.v 3))⟩, ⟨(some 5), none, (.bin .mul .none (.k (.int .i64 2)) (.v 4))⟩, ⟨(some 2), none, (.mv (.v 5))⟩]) .ret))
def ir66 : Fn := ⟨.own, 1, 6, [(.tmp 2)], ir66_c⟩
def ir57_d0 : C := (.seq (.reg false [] [⟨(some 13), none, (.bin .lss .none (.v 12) (.v 11))⟩]) (.seq (.cond (.v 13) .skip (.exit 0)) (.seq (.block 1 (.seq (.reg false [] [⟨(some 14), none, (.mv (.v 12))⟩, ⟨(some 15), none, (.ixa 1 (.v 10) (.v 12))⟩, ⟨(some 16), none, (.ld false 1 (.v 15))⟩, ⟨(some 6), none, (.mv (.v 14))⟩, ⟨(some 7), none, (.mv (.v 16))⟩]) (.seq (.reg false [] [⟨(some 17), none, (.mv (.v 7))⟩, ⟨(some 18), none, (.mv (.v 1))⟩, ⟨(some 19), none, (.bin .eql .none (.v 17) (.v 18))⟩]) (.cond (.v 19) (.reg false [] [⟨(some 20), none, (.mv (.v 5))⟩, ⟨(some 21), none, (.mv (.v 6))⟩, ⟨(some 22), none, (.bsl false 1 1 (.int .i64 0) [(0, (.v 21))])⟩, ⟨(some 23), none, (.app false 1 (.v 20) (.v 22))⟩, ⟨(some 5), none, (.mv (.v 23))⟩]) .skip)))) (.reg false [] [⟨(some 24), none, (.bin .add .none (.v 12) (.k (.int .i64 1)))⟩, ⟨(some 12), none, (.mv (.v 24))⟩]))))
def ir57_b0 : C := ir57_d0
def ir57_l0 : C := .loop true [1, 5, 10, 11, 12] ir57_b0
def ir57_c : C := (.seq (.reg false [] [⟨(some 2), none, (.box (.v 0))⟩, ⟨(some 4), none, (.mv (.k .nil))⟩]) (.seq (.reg false [] [⟨(some 8), none, (.bsl false 1 0 (.int .i64 0) [])⟩, ⟨(some 5), none, (.mv (.v 8))⟩]) (.seq (.seq (.reg false [] [⟨(some 9), none, (.fad 0 (.v 2))⟩, ⟨(some 10), none, (.ld false 1 (.v 9))⟩, ⟨(some 11), none, (.len 1 (.v 10))⟩, ⟨(some 12), none, (.mv (.k (.int .i64 0)))⟩]) (.block 0 ir57_l0)) (.seq (.reg false [] [⟨(some 25), none, (.mv (.v 5))⟩, ⟨(some 4), none, (.mv (.v 25))⟩]) .ret))))
def ir57 : Fn := ⟨.own, 2, 26, [(.tmp 4)], ir57_c⟩
def ir58_c : C := (.seq (.reg false [] [⟨(some 3), none, (.box (.v 0))⟩, ⟨(some 4), none, (.box (.v 1))⟩, ⟨(some 5), none, (.box (.v 2))⟩]) (.seq (.reg false [] [⟨(some 6), none, (.alc 1 [.nilf])⟩]) (.seq (.reg false [] [⟨(some 7), none, (.mkf 81 [] [(.v 3), (.v 4), (.v 5), (.v 6)])⟩, ⟨none, none, (.st 1 (.v 6) (.v 7))⟩]) (.reg false [] [⟨(some 8), none, (.ld false 1 (.v 6))⟩, ⟨(some 9), none, (.callv (.v 8) [(.k (.int .i64 0)), (.k .nil)])⟩]))))
def ir58 : Fn := ⟨.ref, 3, 10, [], ir58_c⟩
def ir59_c : C := (.seq (.reg true [0, 1, 3, 7, 7, 7, 7, 119, 255, 511] [⟨(some 6), none, (.mv (.v 0))⟩, ⟨(some 7), none, (.call 60 [(.v 6)])⟩, ⟨(some 8), none, (.mv (.v 7))⟩, ⟨(some 9), (some (8, true)), (.ld true 3 (.v 1))⟩, ⟨(some 10), (some (8, true)), (.ld true 2 (.v 2))⟩, ⟨(some 11), (some (8, true)), (.ld false 1 (.v 3))⟩, ⟨(some 12), (some (8, true)), (.mv (.v 0))⟩, ⟨(some 13), (some (8, true)), (.call 43 [(.v 10), (.v 11), (.v 12)])⟩, ⟨(some 14), (some (8, true)), (.call 35 [(.v 9), (.v 13)])⟩, ⟨(some 15), none, (.pick (.v 8) (.v 14) (.k (.bool false)))⟩]) (.cond (.v 15) (.reg false [] [⟨(some 16), none, (.ld false 1 (.v 4))⟩, ⟨(some 17), none, (.ld false 1 (.v 3))⟩, ⟨(some 18), none, (.mv (.v 0))⟩, ⟨(some 19), none, (.bld [(.int .i64 0), .nil] [(0, (1, (.v 17))), (1, (1, (.v 18)))])⟩, ⟨(some 20), none, (.bsl false 2 1 (.agg [(.int .i64 0), .nil]) [(0, (.v 19))])⟩, ⟨(some 21), none, (.app false 2 (.v 16) (.v 20))⟩, ⟨none, none, (.st 1 (.v 4) (.v 21))⟩]) .skip))
def ir59 : Fn := ⟨.ref, 5, 22, [], ir59_c⟩
def ir60_d0 : C := (.seq (.reg false [] [⟨(some 8), none, (.bin .lss .none (.v 7) (.v 6))⟩]) (.seq (.cond (.v 8) .skip (.exit 0)) (.seq (.block 1 (.seq (.reg false [] [⟨(some 9), none, (.ixa 1 (.v 5) (.v 7))⟩, ⟨(some 10), none, (.ld false 1 (.v 9))⟩, ⟨(some 4), none, (.mv (.v 10))⟩]) (.seq (.seq (.reg false [] [⟨(some 11), none, (.mv (.v 4))⟩, ⟨(some 12), none, (.bin .rem .none (.v 11) (.k (.int .i64 2)))⟩, ⟨(some 13), none, (.bin .eql .none (.v 12) (.k (.int .i64 0)))⟩, ⟨(some 14), none, (.mv (.v 13))⟩, ⟨(some 15), (some (14, false)), (.mv (.v 0))⟩, ⟨(some 16), (some (14, false)), (.mv (.v 4))⟩, ⟨(some 17), (some (14, false)), (.bin .sub .none (.v 16) (.k (.int .i64 1)))⟩, ⟨(some 18), (some (14, false)), (.call 67 [(.v 15), (.v 17)])⟩, ⟨(some 19), none, (.pick (.v 14) (.k (.bool true)) (.v 18))⟩]) (.cond (.v 19) (.exit 1) .skip)) (.seq (.reg false [] [⟨(some 20), none, (.mv (.v 0))⟩, ⟨(some 21), none, (.call 70 [(.v 20), (.k (.clo 82 [] []))])⟩]) (.cond (.v 21) (.seq (.reg false [] [⟨(some 2), none, (.mv (.k (.bool false)))⟩]) .ret) .skip))))) (.reg false [] [⟨(some 22), none, (.bin .add .none (.v 7) (.k (.int .i64 1)))⟩, ⟨(some 7), none, (.mv (.v 22))⟩]))))
def ir60_b0 : C := ir60_d0
def ir60_l0 : C := .loop true [0, 5, 6, 7] ir60_b0
def ir60_c : C := (.seq (.reg false [] [⟨(some 2), none, (.mv (.k (.bool false)))⟩]) (.seq (.seq (.reg false [] [⟨(some 5), none, (.mv (.v 0))⟩, ⟨(some 6), none, (.len 1 (.v 5))⟩, ⟨(some 7), none, (.mv (.k (.int .i64 0)))⟩]) (.block 0 ir60_l0)) (.seq (.reg false [] [⟨(some 2), none, (.mv (.k (.bool true)))⟩]) .ret)))
def ir60 : Fn := ⟨.own, 1, 23, [(.tmp 2)], ir60_c⟩
def ir35_d0 : C := (.seq (.reg false [] [⟨(some 10), none, (.bin .lss .none (.v 9) (.v 8))⟩]) (.seq (.cond (.v 10) .skip (.exit 0)) (.seq (.block 1 (.seq (.reg false [] [⟨(some 11), none, (.mv (.v 9))⟩, ⟨(some 5), none, (.mv (.v 11))⟩]) (.seq (.reg false [] [⟨(some 12), none, (.ld true 2 (.v 3))⟩, ⟨(some 13), none, (.mv (.v 5))⟩, ⟨(some 14), none, (.call 57 [(.v 12), (.v 13)])⟩, ⟨(some 15), none, (.call 60 [(.v 14)])⟩, ⟨(some 16), none, (.un .not (.v 15))⟩]) (.cond (.v 16) (.seq (.reg false [] [⟨(some 4), none, (.mv (.k (.bool false)))⟩]) .ret) .skip)))) (.reg false [] [⟨(some 17), none, (.bin .add .none (.v 9) (.k (.int .i64 1)))⟩, ⟨(some 9), none, (.mv (.v 17))⟩]))))
def ir35_b0 : C := ir35_d0
def ir35_l0 : C := .loop true [3, 8, 9] ir35_b0
def ir35_c : C := (.seq (.reg false [] [⟨(some 2), none, (.box (.v 0))⟩, ⟨(some 3), none, (.box (.v 1))⟩, ⟨(some 4), none, (.mv (.k (.bool false)))⟩]) (.seq (.seq (.reg false [] [⟨(some 6), none, (.ld true 3 (.v 2))⟩, ⟨(some 7), none, (.call 51 [(.v 6)])⟩, ⟨(some 8), none, (.bin .add .none (.v 7) (.k (.int .i64 1)))⟩, ⟨(some 9), none, (.mv (.k (.int .i64 0)))⟩]) (.block 0 ir35_l0)) (.seq (.reg false [] [⟨(some 4), none, (.mv (.k (.bool true)))⟩]) .ret)))
def ir35 : Fn := ⟨.own, 2, 18, [(.tmp 4)], ir35_c⟩
def ir76_d0 : C := (.seq (.seq (.reg false [] [⟨(some 34), none, (.mv (.v 8))⟩, ⟨(some 35), none, (.mv (.v 7))⟩, ⟨(some 36), none, (.len 1 (.v 35))⟩, ⟨(some 37), none, (.bin .lss .none (.v 34) (.v 36))⟩]) (.cond (.v 37) .skip (.exit 0))) (.block 1 (.reg true [0, 0, 0, 6, 0, 0, 48, 126, 255, 511] [⟨(some 38), none, (.mv (.v 8))⟩, ⟨(some 39), none, (.mv (.v 7))⟩, ⟨(some 40), none, (.mv (.v 8))⟩, ⟨(some 41), none, (.slc 1 (.v 39) (some (.v 40)) none)⟩, ⟨(some 42), none, (.mv (.v 7))⟩, ⟨(some 43), none, (.mv (.v 8))⟩, ⟨(some 44), none, (.slc 1 (.v 42) none (some (.v 43)))⟩, ⟨(some 45), none, (.cpy 1 (.v 41) (.v 44))⟩, ⟨(some 46), none, (.bin .add .none (.v 38) (.v 45))⟩, ⟨(some 8), none, (.mv (.v 46))⟩])))
def ir76_b0 : C := ir76_d0
def ir76_l0 : C := .loop true [7, 8] ir76_b0
def ir76_c : C := (.seq (.reg false [] [⟨(some 4), none, (.mv (.k .nil))⟩]) (.seq (.seq (.reg false [] [⟨(some 9), none, (.mv (.v 1))⟩, ⟨(some 10), none, (.bin .lss .none (.v 9) (.k (.int .i64 0)))⟩]) (.cond (.v 10) (.reg false [] [⟨(some 11), none, .bad⟩, ⟨none, none, .bad⟩]) .skip)) (.seq (.reg false [] [⟨(some 13), none, (.mv (.v 0))⟩, ⟨(some 14), none, (.len 1 (.v 13))⟩, ⟨(some 15), none, (.cnv (.int .u64) (.v 14))⟩, ⟨(some 16), none, (.mv (.v 1))⟩, ⟨(some 17), none, (.cnv (.int .u64) (.v 16))⟩, ⟨(some 18), none, (.call 86 [(.v 15), (.v 17)])⟩, ⟨(some 12), none, (.mv (.v 18))⟩, ⟨(some 19), none, (.ext (.v 12) 0)⟩, ⟨(some 20), none, (.ext (.v 12) 1)⟩, ⟨(some 5), none, (.mv (.v 19))⟩, ⟨(some 6), none, (.mv (.v 20))⟩]) (.seq (.seq (.reg false [] [⟨(some 21), none, (.mv (.v 5))⟩, ⟨(some 22), none, (.bin .gtr .none (.v 21) (.k (.int .u64 0)))⟩, ⟨(some 23), none, (.mv (.v 22))⟩, ⟨(some 24), (some (23, false)), (.mv (.v 6))⟩, ⟨(some 25), (some (23, false)), (.bin .gtr .none (.v 24) (.k (.int .u64 9223372036854775807)))⟩, ⟨(some 26), none, (.pick (.v 23) (.k (.bool true)) (.v 25))⟩]) (.cond (.v 26) (.reg false [] [⟨(some 27), none, .bad⟩, ⟨none, none, .bad⟩]) .skip)) (.seq (.reg false [] [⟨(some 28), none, (.mv (.v 6))⟩, ⟨(some 29), none, (.cnv (.int .i64) (.v 28))⟩, ⟨(some 30), none, (.mks 1 (.int .i64 0) (.v 29) (.v 29))⟩, ⟨(some 7), none, (.mv (.v 30))⟩]) (.seq (.reg false [] [⟨(some 31), none, (.mv (.v 7))⟩, ⟨(some 32), none, (.mv (.v 0))⟩, ⟨(some 33), none, (.cpy 1 (.v 31) (.v 32))⟩, ⟨(some 8), none, (.mv (.v 33))⟩]) (.seq (.block 0 ir76_l0) (.seq (.reg false [] [⟨(some 47), none, (.mv (.v 7))⟩, ⟨(some 4), none, (.mv (.v 47))⟩]) .ret))))))))
def ir76 : Fn := ⟨.own, 2, 48, [(.tmp 4)], ir76_c⟩
def ir73_d0 : C := (.seq (.reg false [] [⟨(some 12), none, (.bin .lss .none (.v 11) (.v 10))⟩]) (.seq (.cond (.v 12) .skip (.exit 0)) (.seq (.block 1 (.seq (.reg false [] [⟨(some 13), none, (.mv (.v 11))⟩, ⟨(some 14), none, (.ixa 1 (.v 9) (.v 11))⟩, ⟨(some 15), none, (.ld false 1 (.v 14))⟩, ⟨(some 7), none, (.mv (.v 13))⟩, ⟨(some 8), none, (.mv (.v 15))⟩]) (.seq (.reg false [] [⟨(some 16), none, (.mv (.v 8))⟩, ⟨(some 17), none, (.mv (.v 1))⟩, ⟨(some 18), none, (.mv (.v 2))⟩, ⟨(some 19), none, (.call 68 [(.v 16), (.v 17), (.v 18)])⟩, ⟨(some 20), none, (.un .not (.v 19))⟩, ⟨(some 21), none, (.mv (.v 20))⟩, ⟨(some 22), (some (21, false)), (.mv (.v 7))⟩, ⟨(some 23), (some (21, false)), (.bin .gtr .none (.v 22) (.k (.int .i64 0)))⟩, ⟨(some 24), (some (21, false)), (.mv (.v 23))⟩, ⟨(some 25), (some (24, true)), (.mv (.v 0))⟩, ⟨(some 26), (some (24, true)), (.mv (.v 7))⟩, ⟨(some 27), (some (24, true)), (.bin .sub .none (.v 26) (.k (.int .i64 1)))⟩, ⟨(some 28), (some (24, true)), (.ixa 1 (.v 25) (.v 27))⟩, ⟨(some 29), (some (24, true)), (.ld false 1 (.v 28))⟩, ⟨(some 30), (some (24, true)), (.mv (.v 8))⟩, ⟨(some 31), (some (24, true)), (.bin .geq .none (.v 29) (.v 30))⟩, ⟨(some 32), (some (21, false)), (.pick (.v 24) (.v 31) (.k (.bool false)))⟩, ⟨(some 33), none, (.pick (.v 21) (.k (.bool true)) (.v 32))⟩]) (.cond (.v 33) (.seq (.reg false [] [⟨(some 6), none, (.mv (.k (.bool false)))⟩]) .ret) .skip)))) (.reg false [] [⟨(some 34), none, (.bin .add .none (.v 11) (.k (.int .i64 1)))⟩, ⟨(some 11), none, (.mv (.v 34))⟩]))))
def ir73_b0 : C := ir73_d0
def ir73_l0 : C := .loop true [0, 1, 2, 9, 10, 11] ir73_b0
def ir73_c : C := (.seq (.reg false [] [⟨(some 6), none, (.mv (.k (.bool false)))⟩]) (.seq (.seq (.reg false [] [⟨(some 9), none, (.mv (.v 0))⟩, ⟨(some 10), none, (.len 1 (.v 9))⟩, ⟨(some 11), none, (.mv (.k (.int .i64 0)))⟩]) (.block 0 ir73_l0)) (.seq (.reg false [] [⟨(some 6), none, (.mv (.k (.bool true)))⟩]) .ret)))
def ir73 : Fn := ⟨.own, 3, 35, [(.tmp 6)], ir73_c⟩
def ir64_d0 : C := (.seq (.seq (.reg false [] [⟨(some 18), none, (.mv (.v 6))⟩, ⟨(some 19), none, (.mv (.v 0))⟩, ⟨(some 20), none, (.bin .lss .none (.v 18) (.v 19))⟩]) (.cond (.v 20) .skip (.exit 2))) (.seq (.block 3 (.seq (.reg false [] [⟨(some 23), none, (.mv (.v 1))⟩, ⟨(some 24), none, (.mv (.v 6))⟩, ⟨(some 25), none, (.bin .mul .none (.k (.int .i64 2)) (.v 24))⟩, ⟨(some 26), none, (.bin .shr .none (.v 23) (.v 25))⟩, ⟨(some 27), none, (.bin .rem .none (.v 26) (.k (.int .i64 2)))⟩, ⟨(some 28), none, (.bin .eql .none (.v 27) (.k (.int .i64 1)))⟩]) (.cond (.v 28) (.seq (.reg false [] [⟨(some 4), none, (.mv (.k (.bool false)))⟩]) .ret) .skip))) (.reg false [] [⟨(some 21), none, (.mv (.v 6))⟩, ⟨(some 22), none, (.bin .add .none (.v 21) (.k (.int .i64 1)))⟩, ⟨(some 6), none, (.mv (.v 22))⟩])))
def ir64_b0 : C := ir64_d0
def ir64_l0 : C := .loop true [0, 1, 5, 6] ir64_b0
def ir64_d1 : C := (.seq (.seq (.reg false [] [⟨(some 7), none, (.mv (.v 5))⟩, ⟨(some 8), none, (.mv (.v 0))⟩, ⟨(some 9), none, (.bin .lss .none (.v 7) (.v 8))⟩]) (.cond (.v 9) .skip (.exit 0))) (.seq (.block 1 (.seq (.seq (.reg false [] [⟨(some 12), none, (.mv (.v 1))⟩, ⟨(some 13), none, (.mv (.v 5))⟩, ⟨(some 14), none, (.bin .mul .none (.k (.int .i64 2)) (.v 13))⟩, ⟨(some 15), none, (.bin .shr .none (.v 12) (.v 14))⟩, ⟨(some 16), none, (.bin .rem .none (.v 15) (.k (.int .i64 4)))⟩, ⟨(some 17), none, (.bin .neq .none (.v 16) (.k (.int .i64 2)))⟩]) (.cond (.v 17) (.exit 1) .skip)) (.seq (.reg false [] [⟨(some 6), none, (.mv (.k (.int .i64 0)))⟩]) (.block 2 ir64_l0)))) (.reg false [] [⟨(some 10), none, (.mv (.v 5))⟩, ⟨(some 11), none, (.bin .add .none (.v 10) (.k (.int .i64 1)))⟩, ⟨(some 5), none, (.mv (.v 11))⟩])))
def ir64_b1 : C := ir64_d1
def ir64_l1 : C := .loop true [0, 1, 5] ir64_b1
def ir64_c : C := (.seq (.reg false [] [⟨(some 4), none, (.mv (.k (.bool false)))⟩]) (.seq (.seq (.reg false [] [⟨(some 5), none, (.mv (.k (.int .i64 0)))⟩]) (.block 0 ir64_l1)) (.seq (.reg false [] [⟨(some 4), none, (.mv (.k (.bool true)))⟩]) .ret)))
def ir64 : Fn := ⟨.own, 2, 29, [(.tmp 4)], ir64_c⟩
def ir74_d0 : C := (.seq (.reg false [] [⟨(some 9), none, (.bin .lss .none (.v 8) (.v 7))⟩]) (.seq (.cond (.v 9) .skip (.exit 0)) (.seq (.block 1 (.seq (.reg false [] [⟨(some 10), none, (.ixa 1 (.v 6) (.v 8))⟩, ⟨(some 11), none, (.ld false 1 (.v 10))⟩, ⟨(some 5), none, (.mv (.v 11))⟩]) (.reg false [] [⟨(some 12), none, (.mv (.v 3))⟩, ⟨(some 13), none, (.mv (.v 5))⟩, ⟨(some 14), none, (.bin .shl .none (.k (.int .i64 1)) (.v 13))⟩, ⟨(some 15), none, (.bin .or .none (.v 12) (.v 14))⟩, ⟨(some 3), none, (.mv (.v 15))⟩]))) (.reg false [] [⟨(some 16), none, (.bin .add .none (.v 8) (.k (.int .i64 1)))⟩, ⟨(some 8), none, (.mv (.v 16))⟩]))))
def ir74_b0 : C := ir74_d0
def ir74_l0 : C := .loop true [3, 6, 7, 8] ir74_b0
def ir74_c : C := (.seq (.reg false [] [⟨(some 2), none, (.mv (.k (.int .i64 0)))⟩]) (.seq (.reg false [] [⟨(some 3), none, (.mv (.k (.int .i64 0)))⟩]) (.seq (.seq (.reg false [] [⟨(some 6), none, (.mv (.v 0))⟩, ⟨(some 7), none, (.len 1 (.v 6))⟩, ⟨(some 8), none, (.mv (.k (.int .i64 0)))⟩]) (.block 0 ir74_l0)) (.seq (.reg false [] [⟨(some 17), none, (.mv (.v 3))⟩, ⟨(some 2), none, (.mv (.v 17))⟩]) .ret))))
def ir74 : Fn := ⟨.own, 1, 18, [(.tmp 2)], ir74_c⟩
def ir37_d0 : C := (.seq (.reg false [] [⟨(some 20), none, (.bin .lss .none (.v 19) (.v 18))⟩]) (.seq (.cond (.v 20) .skip (.exit 2)) (.seq (.block 3 (.seq (.reg false [] [⟨(some 21), none, (.mv (.v 19))⟩, ⟨(some 22), none, (.ixa 1 (.v 17) (.v 19))⟩, ⟨(some 23), none, (.ld false 1 (.v 22))⟩, ⟨(some 7), none, (.mv (.v 21))⟩, ⟨(some 8), none, (.mv (.v 23))⟩]) (.seq (.reg false [] [⟨(some 24), none, (.mv (.v 8))⟩, ⟨(some 25), none, (.mv (.v 5))⟩, ⟨(some 26), none, (.bin .eql .none (.v 24) (.v 25))⟩]) (.cond (.v 26) (.reg false [] [⟨(some 27), none, (.mv (.v 6))⟩, ⟨(some 28), none, (.mv (.v 7))⟩, ⟨(some 29), none, (.bin .shl .none (.k (.int .i64 1)) (.v 28))⟩, ⟨(some 30), none, (.bin .or .none (.v 27) (.v 29))⟩, ⟨(some 6), none, (.mv (.v 30))⟩]) .skip)))) (.reg false [] [⟨(some 31), none, (.bin .add .none (.v 19) (.k (.int .i64 1)))⟩, ⟨(some 19), none, (.mv (.v 31))⟩]))))
def ir37_b0 : C := ir37_d0
def ir37_l0 : C := .loop true [2, 3, 5, 6, 17, 18, 19] ir37_b0
def ir37_d1 : C := (.seq (.seq (.reg false [] [⟨(some 9), none, (.mv (.v 5))⟩, ⟨(some 10), none, (.fad 2 (.v 2))⟩, ⟨(some 11), none, (.ld false 1 (.v 10))⟩, ⟨(some 12), none, (.bin .add .none (.v 11) (.k (.int .i64 1)))⟩, ⟨(some 13), none, (.bin .leq .none (.v 9) (.v 12))⟩]) (.cond (.v 13) .skip (.exit 0))) (.seq (.block 1 (.seq (.reg false [] [⟨(some 6), none, (.mv (.k (.int .i64 0)))⟩]) (.seq (.seq (.reg false [] [⟨(some 16), none, (.fad 0 (.v 3))⟩, ⟨(some 17), none, (.ld false 1 (.v 16))⟩, ⟨(some 18), none, (.len 1 (.v 17))⟩, ⟨(some 19), none, (.mv (.k (.int .i64 0)))⟩]) (.block 2 ir37_l0)) (.seq (.reg false [] [⟨(some 32), none, (.fad 0 (.v 2))⟩, ⟨(some 33), none, (.ld false 1 (.v 32))⟩, ⟨(some 34), none, (.mv (.v 6))⟩, ⟨(some 35), none, (.call 64 [(.v 33), (.v 34)])⟩, ⟨(some 36), none, (.un .not (.v 35))⟩]) (.cond (.v 36) (.seq (.reg false [] [⟨(some 4), none, (.mv (.k (.bool false)))⟩]) .ret) .skip))))) (.reg false [] [⟨(some 14), none, (.mv (.v 5))⟩, ⟨(some 15), none, (.bin .add .none (.v 14) (.k (.int .i64 1)))⟩, ⟨(some 5), none, (.mv (.v 15))⟩])))
def ir37_b1 : C := ir37_d1
def ir37_l1 : C := .loop true [2, 3, 5] ir37_b1
def ir37_c : C := (.seq (.reg false [] [⟨(some 2), none, (.box (.v 0))⟩, ⟨(some 3), none, (.box (.v 1))⟩, ⟨(some 4), none, (.mv (.k (.bool false)))⟩]) (.seq (.seq (.reg false [] [⟨(some 5), none, (.mv (.k (.int .i64 0)))⟩]) (.block 0 ir37_l1)) (.seq (.reg false [] [⟨(some 4), none, (.mv (.k (.bool true)))⟩]) .ret)))
def ir37 : Fn := ⟨.own, 2, 37, [(.tmp 4)], ir37_c⟩
def ir81_d0 : C := (.seq (.seq (.reg false [] [⟨(some 11), none, (.mv (.v 8))⟩, ⟨(some 12), none, (.ld false 1 (.v 2))⟩, ⟨(some 13), none, (.len 1 (.v 12))⟩, ⟨(some 14), none, (.bin .lss .none (.v 11) (.v 13))⟩, ⟨(some 15), none, (.mv (.v 14))⟩, ⟨(some 16), (some (15, true)), (.mv (.v 1))⟩, ⟨(some 17), (some (15, true)), (.len 1 (.v 16))⟩, ⟨(some 18), (some (15, true)), (.ld false 1 (.v 3))⟩, ⟨(some 19), (some (15, true)), (.bin .lss .none (.v 17) (.v 18))⟩, ⟨(some 20), none, (.pick (.v 15) (.v 19) (.k (.bool false)))⟩]) (.cond (.v 20) .skip (.exit 0))) (.seq (.block 1 (.seq (.reg true [0, 1, 0, 0, 12, 28, 60, 127, 255] [⟨(some 23), none, (.mv (.v 1))⟩, ⟨(some 24), none, (.call 72 [(.v 23)])⟩, ⟨(some 25), none, (.ld false 1 (.v 2))⟩, ⟨(some 26), none, (.mv (.v 8))⟩, ⟨(some 27), none, (.ixa 1 (.v 25) (.v 26))⟩, ⟨(some 28), none, (.ld false 1 (.v 27))⟩, ⟨(some 29), none, (.bsl false 1 1 (.int .i64 0) [(0, (.v 28))])⟩, ⟨(some 30), none, (.app false 1 (.v 24) (.v 29))⟩, ⟨(some 9), none, (.mv (.v 30))⟩]) (.seq (.reg false [] [⟨(some 31), none, (.ld false 1 (.v 4))⟩, ⟨(some 32), none, (.mv (.v 9))⟩, ⟨(some 33), none, (.callv (.v 31) [(.v 32)])⟩]) (.reg false [] [⟨(some 34), none, (.ld false 1 (.v 5))⟩, ⟨(some 35), none, (.mv (.v 8))⟩, ⟨(some 36), none, (.bin .add .none (.v 35) (.k (.int .i64 1)))⟩, ⟨(some 37), none, (.mv (.v 9))⟩, ⟨(some 38), none, (.callv (.v 34) [(.v 36), (.v 37)])⟩])))) (.reg false [] [⟨(some 21), none, (.mv (.v 8))⟩, ⟨(some 22), none, (.bin .add .none (.v 21) (.k (.int .i64 1)))⟩, ⟨(some 8), none, (.mv (.v 22))⟩])))
def ir81_b0 : C := ir81_d0
def ir81_l0 : C := .loop false [1, 2, 3, 4, 5, 8] ir81_b0
def ir81_c : C := (.seq (.reg false [] [⟨(some 10), none, (.mv (.v 0))⟩, ⟨(some 8), none, (.mv (.v 10))⟩]) (.block 0 ir81_l0))
def ir81 : Fn := ⟨.ref, 6, 39, [], ir81_c⟩
def ir67_c : C := (.seq (.reg false [] [⟨(some 4), none, (.mv (.k (.bool false)))⟩]) (.seq (.reg false [] [⟨(some 5), none, (.mv (.v 0))⟩, ⟨(some 6), none, (.mv (.v 1))⟩, ⟨(some 7), none, (.call 84 [(.v 5), (.v 6)])⟩, ⟨(some 8), none, (.bin .geq .none (.v 7) (.k (.int .i64 0)))⟩, ⟨(some 4), none, (.mv (.v 8))⟩]) .ret))
def ir67 : Fn := ⟨.own, 2, 9, [(.tmp 4)], ir67_c⟩
def ir70_c : C := (.seq (.reg false [] [⟨(some 4), none, (.mv (.k (.bool false)))⟩]) (.seq (.reg false [] [⟨(some 5), none, (.mv (.v 0))⟩, ⟨(some 6), none, (.mv (.v 1))⟩, ⟨(some 7), none, (.call 85 [(.v 5), (.v 6)])⟩, ⟨(some 8), none, (.bin .geq .none (.v 7) (.k (.int .i64 0)))⟩, ⟨(some 4), none, (.mv (.v 8))⟩]) .ret))
def ir70 : Fn := ⟨.own, 2, 9, [(.tmp 4)], ir70_c⟩
def ir82_c : C := (.seq (.reg false [] [⟨(some 2), none, (.mv (.k (.bool false)))⟩]) (.seq (.reg false [] [⟨(some 3), none, (.mv (.v 0))⟩, ⟨(some 4), none, (.bin .rem .none (.v 3) (.k (.int .i64 2)))⟩, ⟨(some 5), none, (.bin .eql .none (.v 4) (.k (.int .i64 0)))⟩, ⟨(some 2), none, (.mv (.v 5))⟩]) .ret))
def ir82 : Fn := ⟨.own, 1, 6, [(.tmp 2)], ir82_c⟩
def ir86_c : C := (.seq (.reg false [] [⟨(some 4), none, (.mv (.k (.int .u64 0)))⟩, ⟨(some 5), none, (.mv (.k (.int .u64 0)))⟩]) (.seq (.cond (.k (.bool false)) (.seq (.reg false [] [⟨(some 11), none, (.mv (.v 0))⟩, ⟨(some 12), none, (.cnv (.int .u32) (.v 11))⟩, ⟨(some 13), none, (.mv (.v 1))⟩, ⟨(some 14), none, (.cnv (.int .u32) (.v 13))⟩, ⟨(some 15), none, (.call 87 [(.v 12), (.v 14)])⟩, ⟨(some 10), none, (.mv (.v 15))⟩, ⟨(some 16), none, (.ext (.v 10) 0)⟩, ⟨(some 17), none, (.ext (.v 10) 1)⟩, ⟨(some 6), none, (.mv (.v 16))⟩, ⟨(some 7), none, (.mv (.v 17))⟩]) (.seq (.reg false [] [⟨(some 18), none, (.mv (.v 6))⟩, ⟨(some 19), none, (.cnv (.int .u64) (.v 18))⟩, ⟨(some 20), none, (.mv (.v 7))⟩, ⟨(some 21), none, (.cnv (.int .u64) (.v 20))⟩, ⟨(some 4), none, (.mv (.v 19))⟩, ⟨(some 5), none, (.mv (.v 21))⟩]) .ret)) .skip) (.seq (.reg false [] [⟨(some 23), none, (.mv (.v 0))⟩, ⟨(some 24), none, (.mv (.v 1))⟩, ⟨(some 25), none, (.call 88 [(.v 23), (.v 24)])⟩, ⟨(some 22), none, (.mv (.v 25))⟩, ⟨(some 26), none, (.ext (.v 22) 0)⟩, ⟨(some 27), none, (.ext (.v 22) 1)⟩, ⟨(some 8), none, (.mv (.v 26))⟩, ⟨(some 9), none, (.mv (.v 27))⟩]) (.seq (.reg false [] [⟨(some 28), none, (.mv (.v 8))⟩, ⟨(some 29), none, (.mv (.v 9))⟩, ⟨(some 4), none, (.mv (.v 28))⟩, ⟨(some 5), none, (.mv (.v 29))⟩]) .ret))))
def ir86 : Fn := ⟨.own, 2, 30, [(.tmp 4), (.tmp 5)], ir86_c⟩
def ir84_d0 : C := (.seq (.reg false [] [⟨(some 9), none, (.bin .lss .none (.v 8) (.v 7))⟩]) (.seq (.cond (.v 9) .skip (.exit 0)) (.seq (.block 1 (.seq (.reg false [] [⟨(some 10), none, (.mv (.v 8))⟩, ⟨(some 5), none, (.mv (.v 10))⟩]) (.seq (.reg false [] [⟨(some 11), none, (.mv (.v 1))⟩, ⟨(some 12), none, (.mv (.v 0))⟩, ⟨(some 13), none, (.mv (.v 5))⟩, ⟨(some 14), none, (.ixa 1 (.v 12) (.v 13))⟩, ⟨(some 15), none, (.ld false 1 (.v 14))⟩, ⟨(some 16), none, (.bin .eql .none (.v 11) (.v 15))⟩]) (.cond (.v 16) (.seq (.reg false [] [⟨(some 17), none, (.mv (.v 5))⟩, ⟨(some 4), none, (.mv (.v 17))⟩]) .ret) .skip)))) (.reg false [] [⟨(some 18), none, (.bin .add .none (.v 8) (.k (.int .i64 1)))⟩, ⟨(some 8), none, (.mv (.v 18))⟩]))))
def ir84_b0 : C := ir84_d0
def ir84_l0 : C := .loop true [0, 1, 7, 8] ir84_b0
def ir84_c : C := (.seq (.reg false [] [⟨(some 4), none, (.mv (.k (.int .i64 0)))⟩]) (.seq (.seq (.reg false [] [⟨(some 6), none, (.mv (.v 0))⟩, ⟨(some 7), none, (.len 1 (.v 6))⟩, ⟨(some 8), none, (.mv (.k (.int .i64 0)))⟩]) (.block 0 ir84_l0)) (.seq (.reg false [] [⟨(some 4), none, (.mv (.k (.int .i64 (-1))))⟩]) .ret)))
def ir84 : Fn := ⟨.own, 2, 19, [(.tmp 4)], ir84_c⟩
def ir85_d0 : C := (.seq (.reg false [] [⟨(some 9), none, (.bin .lss .none (.v 8) (.v 7))⟩]) (.seq (.cond (.v 9) .skip (.exit 0)) (.seq (.block 1 (.seq (.reg false [] [⟨(some 10), none, (.mv (.v 8))⟩, ⟨(some 5), none, (.mv (.v 10))⟩]) (.seq (.reg false [] [⟨(some 11), none, (.mv (.v 1))⟩, ⟨(some 12), none, (.mv (.v 0))⟩, ⟨(some 13), none, (.mv (.v 5))⟩, ⟨(some 14), none, (.ixa 1 (.v 12) (.v 13))⟩, ⟨(some 15), none, (.ld false 1 (.v 14))⟩, ⟨(some 16), none, (.callv (.v 11) [(.v 15)])⟩]) (.cond (.v 16) (.seq (.reg false [] [⟨(some 17), none, (.mv (.v 5))⟩, ⟨(some 4), none, (.mv (.v 17))⟩]) .ret) .skip)))) (.reg false [] [⟨(some 18), none, (.bin .add .none (.v 8) (.k (.int .i64 1)))⟩, ⟨(some 8), none, (.mv (.v 18))⟩]))))
def ir85_b0 : C := ir85_d0
def ir85_l0 : C := .loop true [0, 1, 7, 8] ir85_b0
def ir85_c : C := (.seq (.reg false [] [⟨(some 4), none, (.mv (.k (.int .i64 0)))⟩]) (.seq (.seq (.reg false [] [⟨(some 6), none, (.mv (.v 0))⟩, ⟨(some 7), none, (.len 1 (.v 6))⟩, ⟨(some 8), none, (.mv (.k (.int .i64 0)))⟩]) (.block 0 ir85_l0)) (.seq (.reg false [] [⟨(some 4), none, (.mv (.k (.int .i64 (-1))))⟩]) .ret)))
def ir85 : Fn := ⟨.own, 2, 19, [(.tmp 4)], ir85_c⟩
def ir88_c : C := (.seq (.reg false [] [⟨(some 4), none, (.mv (.k (.int .u64 0)))⟩, ⟨(some 5), none, (.mv (.k (.int .u64 0)))⟩]) (.seq (.reg false [] [⟨(some 14), none, (.mv (.v 0))⟩, ⟨(some 15), none, (.bin .and .none (.v 14) (.k (.int .u64 4294967295)))⟩, ⟨(some 6), none, (.mv (.v 15))⟩]) (.seq (.reg false [] [⟨(some 16), none, (.mv (.v 0))⟩, ⟨(some 17), none, (.bin .shr .none (.v 16) (.k (.int .u64 32)))⟩, ⟨(some 7), none, (.mv (.v 17))⟩]) (.seq (.reg false [] [⟨(some 18), none, (.mv (.v 1))⟩, ⟨(some 19), none, (.bin .and .none (.v 18) (.k (.int .u64 4294967295)))⟩, ⟨(some 8), none, (.mv (.v 19))⟩]) (.seq (.reg false [] [⟨(some 20), none, (.mv (.v 1))⟩, ⟨(some 21), none, (.bin .shr .none (.v 20) (.k (.int .u64 32)))⟩, ⟨(some 9), none, (.mv (.v 21))⟩]) (.seq (.reg false [] [⟨(some 22), none, (.mv (.v 6))⟩, ⟨(some 23), none, (.mv (.v 8))⟩, ⟨(some 24), none, (.bin .mul .none (.v 22) (.v 23))⟩, ⟨(some 10), none, (.mv (.v 24))⟩]) (.seq (.reg false [] [⟨(some 25), none, (.mv (.v 7))⟩, ⟨(some 26), none, (.mv (.v 8))⟩, ⟨(some 27), none, (.bin .mul .none (.v 25) (.v 26))⟩, ⟨(some 28), none, (.mv (.v 10))⟩, ⟨(some 29), none, (.bin .shr .none (.v 28) (.k (.int .u64 32)))⟩, ⟨(some 30), none, (.bin .add .none (.v 27) (.v 29))⟩, ⟨(some 11), none, (.mv (.v 30))⟩]) (.seq (.reg false [] [⟨(some 31), none, (.mv (.v 11))⟩, ⟨(some 32), none, (.bin .and .none (.v 31) (.k (.int .u64 4294967295)))⟩, ⟨(some 12), none, (.mv (.v 32))⟩]) (.seq (.reg false [] [⟨(some 33), none, (.mv (.v 11))⟩, ⟨(some 34), none, (.bin .shr .none (.v 33) (.k (.int .u64 32)))⟩, ⟨(some 13), none, (.mv (.v 34))⟩]) (.seq (.reg false [] [⟨(some 35), none, (.mv (.v 12))⟩, ⟨(some 36), none, (.mv (.v 6))⟩, ⟨(some 37), none, (.mv (.v 9))⟩, ⟨(some 38), none, (.bin .mul .none (.v 36) (.v 37))⟩, ⟨(some 39), none, (.bin .add .none (.v 35) (.v 38))⟩, ⟨(some 12), none, (.mv (.v 39))⟩]) (.seq (.reg false [] [⟨(some 40), none, (.mv (.v 7))⟩, ⟨(some 41), none, (.mv (.v 9))⟩, ⟨(some 42), none, (.bin .mul .none (.v 40) (.v 41))⟩, ⟨(some 43), none, (.mv (.v 13))⟩, ⟨(some 44), none, (.bin .add .none (.v 42) (.v 43))⟩, ⟨(some 45), none, (.mv (.v 12))⟩, ⟨(some 46), none, (.bin .shr .none (.v 45) (.k (.int .u64 32)))⟩, ⟨(some 47), none, (.bin .add .none (.v 44) (.v 46))⟩, ⟨(some 4), none, (.mv (.v 47))⟩]) (.seq (.reg false [] [⟨(some 48), none, (.mv (.v 0))⟩, ⟨(some 49), none, (.mv (.v 1))⟩, ⟨(some 50), none, (.bin .mul .none (.v 48) (.v 49))⟩, ⟨(some 5), none, (.mv (.v 50))⟩]) .ret))))))))))))
def ir88 : Fn := ⟨.own, 2, 51, [(.tmp 4), (.tmp 5)], ir88_c⟩
def ir68_c : C := (.seq (.reg false [] [⟨(some 6), none, (.mv (.k (.bool false)))⟩]) (.seq (.reg false [] [⟨(some 7), none, (.mv (.v 0))⟩, ⟨(some 8), none, (.mv (.v 1))⟩, ⟨(some 9), none, (.bin .geq .none (.v 7) (.v 8))⟩, ⟨(some 10), none, (.mv (.v 9))⟩, ⟨(some 11), (some (10, true)), (.mv (.v 0))⟩, ⟨(some 12), (some (10, true)), (.mv (.v 2))⟩, ⟨(some 13), (some (10, true)), (.bin .leq .none (.v 11) (.v 12))⟩, ⟨(some 14), none, (.pick (.v 10) (.v 13) (.k (.bool false)))⟩, ⟨(some 6), none, (.mv (.v 14))⟩]) .ret))
def ir68 : Fn := ⟨.own, 3, 15, [(.tmp 6)], ir68_c⟩
def ir40_c : C := (.seq (.reg false [] [⟨(some 6), none, (.mv (.k (.bool false)))⟩]) (.seq (.reg false [] [⟨(some 7), none, (.mv (.v 1))⟩, ⟨(some 8), none, (.mv (.v 0))⟩, ⟨(some 9), none, (.bin .leq .none (.v 7) (.v 8))⟩, ⟨(some 10), none, (.mv (.v 9))⟩, ⟨(some 11), (some (10, true)), (.mv (.v 0))⟩, ⟨(some 12), (some (10, true)), (.mv (.v 2))⟩, ⟨(some 13), (some (10, true)), (.bin .leq .none (.v 11) (.v 12))⟩, ⟨(some 14), none, (.pick (.v 10) (.v 13) (.k (.bool false)))⟩, ⟨(some 6), none, (.mv (.v 14))⟩]) .ret))
def ir40 : Fn := ⟨.own, 3, 15, [(.tmp 6)], ir40_c⟩
def ir4_d0 : C := (.seq (.reg false [] [⟨(some 156), none, (.bin .lss .none (.v 155) (.v 154))⟩]) (.seq (.cond (.v 156) .skip (.exit 0)) (.seq (.block 1 (.seq (.reg false [] [⟨(some 157), none, (.mv (.v 155))⟩, ⟨(some 158), none, (.ixa 2 (.v 153) (.v 155))⟩, ⟨(some 159), none, (.ld true 2 (.v 158))⟩, ⟨(some 16), none, (.alc 2 [(.int .i64 0), .nil])⟩, ⟨(some 15), none, (.mv (.v 157))⟩, ⟨none, none, (.st 2 (.v 16) (.v 159))⟩]) (.seq (.reg false [] [⟨(some 161), none, (.ld true 3 (.v 5))⟩, ⟨(some 162), none, (.ld true 2 (.v 6))⟩, ⟨(some 163), none, (.ld true 2 (.v 16))⟩, ⟨(some 164), none, (.call 14 [(.v 161), (.v 162), (.v 163)])⟩, ⟨(some 160), none, (.mv (.v 164))⟩, ⟨(some 165), none, (.ext (.v 160) 0)⟩, ⟨(some 166), none, (.ext (.v 160) 1)⟩, ⟨(some 17), none, (.alc 2 [.nil, (.int .i64 0)])⟩, ⟨none, none, (.st 2 (.v 17) (.v 165))⟩, ⟨(some 18), none, (.mv (.v 166))⟩]) (.seq (.reg false [] [⟨(some 168), none, (.ld true 3 (.v 5))⟩, ⟨(some 169), none, (.ld true 2 (.v 17))⟩, ⟨(some 170), none, (.call 7 [(.v 168), (.v 169)])⟩, ⟨(some 167), none, (.mv (.v 170))⟩, ⟨(some 171), none, (.ext (.v 167) 0)⟩, ⟨(some 172), none, (.ext (.v 167) 1)⟩, ⟨(some 19), none, (.mv (.v 171))⟩, ⟨(some 20), none, (.mv (.v 172))⟩]) (.seq (.reg false [] [⟨(some 174), none, (.ld true 3 (.v 5))⟩, ⟨(some 175), none, (.ld true 2 (.v 17))⟩, ⟨(some 176), none, (.fad 1 (.v 6))⟩, ⟨(some 177), none, (.ld false 1 (.v 176))⟩, ⟨(some 178), none, (.fad 1 (.v 16))⟩, ⟨(some 179), none, (.ld false 1 (.v 178))⟩, ⟨(some 180), none, (.bld [(.int .i64 0), .nil] [(0, (1, (.v 177))), (1, (1, (.v 179)))])⟩, ⟨(some 181), none, (.call 14 [(.v 174), (.v 175), (.v 180)])⟩, ⟨(some 173), none, (.mv (.v 181))⟩, ⟨(some 182), none, (.ext (.v 173) 0)⟩, ⟨(some 183), none, (.ext (.v 173) 1)⟩, ⟨(some 21), none, (.alc 2 [.nil, (.int .i64 0)])⟩, ⟨none, none, (.st 2 (.v 21) (.v 182))⟩, ⟨(some 22), none, (.mv (.v 183))⟩]) (.seq (.reg true [0, 1, 3, 7, 15, 31, 63, 127, 255, 511, 1023, 2047, 4095, 8191, 16383, 32767, 32767, 131071, 262143, 524287, 1048575, 2097151, 4194303, 2097151, 10485759, 33554431, 67108863, 134217727, 268435455, 536870911, 1073741823, 2147483647, 2147483647, 6442450943, 17179869183, 34359738367, 68719476735, 2147483647, 139586437119, 549755813887, 1099511627775, 2199023255551, 2199023255551, 6597069766655, 17592186044415, 35184372088831, 70368744177663, 2199023255551, 142936511610879, 562949953421311, 1125899906842623, 2251799813685247, 2251799813685247, 6755399441055743, 18014398509481983, 36028797018963967, 72057594037927935, 2251799813685247, 146366987889541119, 576460752303423487, 1152921504606846975, 2305843009213693951, 4611686018427387903, 9223372036854775807, 18446744073709551615] [⟨(some 184), none, (.mv (.v 18))⟩, ⟨(some 185), none, (.un .not (.v 184))⟩, ⟨(some 186), none, (.mv (.v 185))⟩, ⟨(some 187), (some (186, false)), (.mv (.v 20))⟩, ⟨(some 188), (some (186, false)), (.un .not (.v 187))⟩, ⟨(some 189), none, (.pick (.v 186) (.k (.bool true)) (.v 188))⟩, ⟨(some 190), none, (.mv (.v 189))⟩, ⟨(some 191), (some (190, false)), (.mv (.v 19))⟩, ⟨(some 192), (some (190, false)), (.un .not (.v 191))⟩, ⟨(some 193), none, (.pick (.v 190) (.k (.bool true)) (.v 192))⟩, ⟨(some 194), none, (.mv (.v 193))⟩, ⟨(some 195), (some (194, false)), (.mv (.v 22))⟩, ⟨(some 196), (some (194, false)), (.un .not (.v 195))⟩, ⟨(some 197), none, (.pick (.v 194) (.k (.bool true)) (.v 196))⟩, ⟨(some 198), none, (.mv (.v 197))⟩, ⟨(some 199), (some (198, false)), (.ld true 2 (.v 21))⟩, ⟨(some 200), (some (198, false)), (.ld true 2 (.v 6))⟩, ⟨(some 201), (some (198, false)), (.call 15 [(.v 199), (.v 200)])⟩, ⟨(some 202), (some (198, false)), (.un .not (.v 201))⟩, ⟨(some 203), none, (.pick (.v 198) (.k (.bool true)) (.v 202))⟩, ⟨(some 204), none, (.mv (.v 203))⟩, ⟨(some 205), (some (204, false)), (.fad 1 (.v 17))⟩, ⟨(some 206), (some (204, false)), (.ld false 1 (.v 205))⟩, ⟨(some 207), (some (204, false)), (.fad 0 (.v 16))⟩, ⟨(some 208), (some (204, false)), (.ld false 1 (.v 207))⟩, ⟨(some 209), (some (204, false)), (.bin .neq .none (.v 206) (.v 208))⟩, ⟨(some 210), none, (.pick (.v 204) (.k (.bool true)) (.v 209))⟩, ⟨(some 211), none, (.mv (.v 210))⟩, ⟨(some 212), (some (211, false)), (.mv (.v 15))⟩, ⟨(some 213), (some (211, false)), (.bin .gtr .none (.v 212) (.k (.int .i64 0)))⟩, ⟨(some 214), (some (211, false)), (.mv (.v 213))⟩, ⟨(some 215), (some (214, true)), (.mv (.v 7))⟩, ⟨(some 216), (some (214, true)), (.mv (.v 15))⟩, ⟨(some 217), (some (214, true)), (.bin .sub .none (.v 216) (.k (.int .i64 1)))⟩, ⟨(some 218), (some (214, true)), (.ixa 2 (.v 215) (.v 217))⟩, ⟨(some 219), (some (214, true)), (.fad 0 (.v 218))⟩, ⟨(some 220), (some (214, true)), (.ld false 1 (.v 219))⟩, ⟨(some 221), (some (214, true)), (.fad 0 (.v 16))⟩, ⟨(some 222), (some (214, true)), (.ld false 1 (.v 221))⟩, ⟨(some 223), (some (214, true)), (.bin .gtr .none (.v 220) (.v 222))⟩, ⟨(some 224), (some (214, true)), (.mv (.v 223))⟩, ⟨(some 225), (some (224, false)), (.mv (.v 7))⟩, ⟨(some 226), (some (224, false)), (.mv (.v 15))⟩, ⟨(some 227), (some (224, false)), (.bin .sub .none (.v 226) (.k (.int .i64 1)))⟩, ⟨(some 228), (some (224, false)), (.ixa 2 (.v 225) (.v 227))⟩, ⟨(some 229), (some (224, false)), (.fad 0 (.v 228))⟩, ⟨(some 230), (some (224, false)), (.ld false 1 (.v 229))⟩, ⟨(some 231), (some (224, false)), (.fad 0 (.v 16))⟩, ⟨(some 232), (some (224, false)), (.ld false 1 (.v 231))⟩, ⟨(some 233), (some (224, false)), (.bin .eql .none (.v 230) (.v 232))⟩, ⟨(some 234), (some (224, false)), (.mv (.v 233))⟩, ⟨(some 235), (some (234, true)), (.mv (.v 7))⟩, ⟨(some 236), (some (234, true)), (.mv (.v 15))⟩, ⟨(some 237), (some (234, true)), (.bin .sub .none (.v 236) (.k (.int .i64 1)))⟩, ⟨(some 238), (some (234, true)), (.ixa 2 (.v 235) (.v 237))⟩, ⟨(some 239), (some (234, true)), (.fad 1 (.v 238))⟩, ⟨(some 240), (some (234, true)), (.ld false 1 (.v 239))⟩, ⟨(some 241), (some (234, true)), (.fad 1 (.v 16))⟩, ⟨(some 242), (some (234, true)), (.ld false 1 (.v 241))⟩, ⟨(some 243), (some (234, true)), (.call 16 [(.v 240), (.v 242)])⟩, ⟨(some 244), (some (234, true)), (.un .not (.v 243))⟩, ⟨(some 245), (some (224, false)), (.pick (.v 234) (.v 244) (.k (.bool false)))⟩, ⟨(some 246), (some (214, true)), (.pick (.v 224) (.k (.bool true)) (.v 245))⟩, ⟨(some 247), (some (211, false)), (.pick (.v 214) (.v 246) (.k (.bool false)))⟩, ⟨(some 248), none, (.pick (.v 211) (.k (.bool true)) (.v 247))⟩]) (.cond (.v 248) (.seq (.reg false [] [⟨(some 4), none, (.mv (.k (.bool false)))⟩]) .ret) .skip))))))) (.reg false [] [⟨(some 249), none, (.bin .add .none (.v 155) (.k (.int .i64 1)))⟩, ⟨(some 155), none, (.mv (.v 249))⟩]))))
def ir4_b0 : C := ir4_d0
def ir4_l0 : C := .loop true [1, 5, 6, 7, 153, 154, 155] ir4_b0
def ir4_c : C := (.seq (.reg false [] [⟨(some 4), none, (.mv (.k (.bool false)))⟩]) (.seq (.seq (.reg false [] [⟨(some 62), none, (.mv (.v 0))⟩, ⟨(some 63), none, (.mv (.v 1))⟩, ⟨(some 64), none, (.call 26 [(.v 62), (.v 63)])⟩]) (.cond (.v 64) (.seq (.reg false [] [⟨(some 4), none, (.mv (.k (.bool true)))⟩]) .ret) .skip)) (.seq (.reg false [] [⟨(some 66), none, (.mv (.v 0))⟩, ⟨(some 67), none, (.call 27 [(.v 66)])⟩, ⟨(some 65), none, (.mv (.v 67))⟩, ⟨(some 68), none, (.ext (.v 65) 0)⟩, ⟨(some 69), none, (.ext (.v 65) 1)⟩, ⟨(some 5), none, (.alc 3 [(.int .i64 0), (.int .i64 0), (.int .i64 0)])⟩, ⟨(some 6), none, (.alc 2 [.nil, (.int .i64 0)])⟩, ⟨none, none, (.st 3 (.v 5) (.v 68))⟩, ⟨none, none, (.st 2 (.v 6) (.v 69))⟩]) (.seq (.reg false [] [⟨(some 71), none, (.ld true 3 (.v 5))⟩, ⟨(some 72), none, (.ld true 2 (.v 6))⟩, ⟨(some 73), none, (.call 5 [(.v 71), (.v 72)])⟩, ⟨(some 70), none, (.mv (.v 73))⟩, ⟨(some 74), none, (.ext (.v 70) 0)⟩, ⟨(some 75), none, (.ext (.v 70) 1)⟩, ⟨(some 7), none, (.mv (.v 74))⟩, ⟨(some 8), none, (.mv (.v 75))⟩]) (.seq (.reg false [] [⟨(some 77), none, (.ld true 3 (.v 5))⟩, ⟨(some 78), none, (.ld true 2 (.v 6))⟩, ⟨(some 79), none, (.call 6 [(.v 77), (.v 78)])⟩, ⟨(some 76), none, (.mv (.v 79))⟩, ⟨(some 80), none, (.ext (.v 76) 0)⟩, ⟨(some 81), none, (.ext (.v 76) 1)⟩, ⟨(some 9), none, (.mv (.v 80))⟩, ⟨(some 10), none, (.mv (.v 81))⟩]) (.seq (.reg false [] [⟨(some 83), none, (.ld true 3 (.v 5))⟩, ⟨(some 84), none, (.ld true 2 (.v 6))⟩, ⟨(some 85), none, (.call 7 [(.v 83), (.v 84)])⟩, ⟨(some 82), none, (.mv (.v 85))⟩, ⟨(some 86), none, (.ext (.v 82) 0)⟩, ⟨(some 87), none, (.ext (.v 82) 1)⟩, ⟨(some 11), none, (.mv (.v 86))⟩, ⟨(some 12), none, (.mv (.v 87))⟩]) (.seq (.reg false [] [⟨(some 89), none, (.ld true 3 (.v 5))⟩, ⟨(some 90), none, (.ld true 2 (.v 6))⟩, ⟨(some 91), none, (.call 8 [(.v 89), (.v 90)])⟩, ⟨(some 88), none, (.mv (.v 91))⟩, ⟨(some 92), none, (.ext (.v 88) 0)⟩, ⟨(some 93), none, (.ext (.v 88) 1)⟩, ⟨(some 13), none, (.mv (.v 92))⟩, ⟨(some 14), none, (.mv (.v 93))⟩]) (.seq (.seq (.reg true [0, 0, 3, 7, 15, 15, 63, 127, 255, 511, 1023, 1023, 4095, 8191, 16383, 32767, 32767, 131071, 262143, 524287, 1048575, 1048575, 1048575, 7340031, 16777215, 33554431, 67108863, 134217727, 134217727, 536870911, 134217727, 134217727, 4294967295, 8589934591, 17179869183, 34359738367, 68719476735, 68719476735, 206158430207, 481036337151, 1030792151039, 2199023255551, 4398046511103, 8796093022207, 17592186044415, 35184372088831, 17592186044415, 140737488355327, 281474976710655, 562949953421311, 1125899906842623, 2251799813685247, 4503599627370495, 9007199254740991, 18014398509481983, 36028797018963967, 72057594037927935, 144115188075855871] [⟨(some 94), none, (.mv (.v 8))⟩, ⟨(some 95), none, (.mv (.v 10))⟩, ⟨(some 96), none, (.bin .neq .bool (.v 94) (.v 95))⟩, ⟨(some 97), none, (.mv (.v 96))⟩, ⟨(some 98), (some (97, false)), (.mv (.v 7))⟩, ⟨(some 99), (some (97, false)), (.mv (.v 9))⟩, ⟨(some 100), (some (97, false)), (.call 9 [(.v 98), (.v 99)])⟩, ⟨(some 101), (some (97, false)), (.un .not (.v 100))⟩, ⟨(some 102), none, (.pick (.v 97) (.k (.bool true)) (.v 101))⟩, ⟨(some 103), none, (.mv (.v 102))⟩, ⟨(some 104), (some (103, false)), (.mv (.v 12))⟩, ⟨(some 105), (some (103, false)), (.mv (.v 14))⟩, ⟨(some 106), (some (103, false)), (.bin .neq .bool (.v 104) (.v 105))⟩, ⟨(some 107), none, (.pick (.v 103) (.k (.bool true)) (.v 106))⟩, ⟨(some 108), none, (.mv (.v 107))⟩, ⟨(some 109), (some (108, false)), (.mv (.v 11))⟩, ⟨(some 110), (some (108, false)), (.mv (.v 13))⟩, ⟨(some 111), (some (108, false)), (.bin .neq .bool (.v 109) (.v 110))⟩, ⟨(some 112), none, (.pick (.v 108) (.k (.bool true)) (.v 111))⟩, ⟨(some 113), none, (.mv (.v 112))⟩, ⟨(some 114), (some (113, false)), (.mv (.v 12))⟩, ⟨(some 115), (some (113, false)), (.ld true 3 (.v 5))⟩, ⟨(some 116), (some (113, false)), (.ld true 2 (.v 6))⟩, ⟨(some 117), (some (113, false)), (.call 10 [(.v 115), (.v 116)])⟩, ⟨(some 118), (some (113, false)), (.bin .neq .bool (.v 114) (.v 117))⟩, ⟨(some 119), none, (.pick (.v 113) (.k (.bool true)) (.v 118))⟩, ⟨(some 120), none, (.mv (.v 119))⟩, ⟨(some 121), (some (120, false)), (.ld true 3 (.v 5))⟩, ⟨(some 122), (some (120, false)), (.ld true 2 (.v 6))⟩, ⟨(some 123), (some (120, false)), (.call 10 [(.v 121), (.v 122)])⟩, ⟨(some 124), (some (120, false)), (.ld true 3 (.v 5))⟩, ⟨(some 125), (some (120, false)), (.ld true 2 (.v 6))⟩, ⟨(some 126), (some (120, false)), (.call 11 [(.v 124), (.v 125)])⟩, ⟨(some 127), (some (120, false)), (.bin .neq .bool (.v 123) (.v 126))⟩, ⟨(some 128), none, (.pick (.v 120) (.k (.bool true)) (.v 127))⟩, ⟨(some 129), none, (.mv (.v 128))⟩, ⟨(some 130), (some (129, false)), (.mv (.v 8))⟩, ⟨(some 131), (some (129, false)), (.mv (.v 12))⟩, ⟨(some 132), (some (129, false)), (.mv (.v 131))⟩, ⟨(some 133), (some (132, true)), (.mv (.v 11))⟩, ⟨(some 134), (some (129, false)), (.pick (.v 132) (.v 133) (.k (.bool false)))⟩, ⟨(some 135), (some (129, false)), (.bin .neq .bool (.v 130) (.v 134))⟩, ⟨(some 136), none, (.pick (.v 129) (.k (.bool true)) (.v 135))⟩, ⟨(some 137), none, (.mv (.v 136))⟩, ⟨(some 138), (some (137, false)), (.ld true 3 (.v 5))⟩, ⟨(some 139), (some (137, false)), (.call 12 [(.v 138)])⟩, ⟨(some 140), (some (137, false)), (.ld true 3 (.v 5))⟩, ⟨(some 141), (some (137, false)), (.call 13 [(.v 140)])⟩, ⟨(some 142), (some (137, false)), (.bin .neq .bool (.v 139) (.v 141))⟩, ⟨(some 143), none, (.pick (.v 137) (.k (.bool true)) (.v 142))⟩, ⟨(some 144), none, (.mv (.v 143))⟩, ⟨(some 145), (some (144, false)), (.mv (.v 12))⟩, ⟨(some 146), (some (144, false)), (.mv (.v 145))⟩, ⟨(some 147), (some (146, true)), (.ld true 3 (.v 5))⟩, ⟨(some 148), (some (146, true)), (.call 12 [(.v 147)])⟩, ⟨(some 149), (some (146, true)), (.un .not (.v 148))⟩, ⟨(some 150), (some (144, false)), (.pick (.v 146) (.v 149) (.k (.bool false)))⟩, ⟨(some 151), none, (.pick (.v 144) (.k (.bool true)) (.v 150))⟩]) (.cond (.v 151) (.seq (.reg false [] [⟨(some 4), none, (.mv (.k (.bool false)))⟩]) .ret) .skip)) (.seq (.seq (.reg false [] [⟨(some 152), none, (.mv (.v 8))⟩]) (.cond (.v 152) (.seq (.reg false [] [⟨(some 153), none, (.mv (.v 7))⟩, ⟨(some 154), none, (.len 1 (.v 153))⟩, ⟨(some 155), none, (.mv (.k (.int .i64 0)))⟩]) (.block 0 ir4_l0)) .skip)) (.seq (.reg false [] [⟨(some 251), none, (.mv (.v 1))⟩, ⟨(some 252), none, (.call 28 [(.v 251)])⟩, ⟨(some 250), none, (.mv (.v 252))⟩, ⟨(some 253), none, (.ext (.v 250) 0)⟩, ⟨(some 254), none, (.ext (.v 250) 1)⟩, ⟨(some 255), none, (.ext (.v 250) 2)⟩, ⟨(some 23), none, (.alc 3 [(.int .i64 0), (.int .i64 0), (.int .i64 0)])⟩, ⟨(some 24), none, (.alc 2 [.nil, (.int .i64 0)])⟩, ⟨(some 25), none, (.alc 2 [(.int .i64 0), .nil])⟩, ⟨none, none, (.st 3 (.v 23) (.v 253))⟩, ⟨none, none, (.st 2 (.v 24) (.v 254))⟩, ⟨none, none, (.st 2 (.v 25) (.v 255))⟩]) (.seq (.reg false [] [⟨(some 257), none, (.ld true 3 (.v 23))⟩, ⟨(some 258), none, (.ld true 2 (.v 24))⟩, ⟨(some 259), none, (.ld true 2 (.v 25))⟩, ⟨(some 260), none, (.call 14 [(.v 257), (.v 258), (.v 259)])⟩, ⟨(some 256), none, (.mv (.v 260))⟩, ⟨(some 261), none, (.ext (.v 256) 0)⟩, ⟨(some 262), none, (.ext (.v 256) 1)⟩, ⟨(some 26), none, (.alc 2 [.nil, (.int .i64 0)])⟩, ⟨none, none, (.st 2 (.v 26) (.v 261))⟩, ⟨(some 27), none, (.mv (.v 262))⟩]) (.seq (.reg false [] [⟨(some 264), none, (.ld true 3 (.v 23))⟩, ⟨(some 265), none, (.ld true 2 (.v 24))⟩, ⟨(some 266), none, (.ld true 2 (.v 25))⟩, ⟨(some 267), none, (.call 17 [(.v 264), (.v 265), (.v 266)])⟩, ⟨(some 263), none, (.mv (.v 267))⟩, ⟨(some 268), none, (.ext (.v 263) 0)⟩, ⟨(some 269), none, (.ext (.v 263) 1)⟩, ⟨(some 28), none, (.alc 2 [.nil, (.int .i64 0)])⟩, ⟨none, none, (.st 2 (.v 28) (.v 268))⟩, ⟨(some 29), none, (.mv (.v 269))⟩]) (.seq (.reg false [] [⟨(some 271), none, (.mv (.v 1))⟩, ⟨(some 272), none, (.call 29 [(.v 271)])⟩, ⟨(some 270), none, (.mv (.v 272))⟩, ⟨(some 273), none, (.ext (.v 270) 0)⟩, ⟨(some 274), none, (.ext (.v 270) 1)⟩, ⟨(some 275), none, (.ext (.v 270) 2)⟩, ⟨(some 30), none, (.alc 3 [(.int .i64 0), (.int .i64 0), (.int .i64 0)])⟩, ⟨(some 31), none, (.alc 2 [.nil, (.int .i64 0)])⟩, ⟨none, none, (.st 3 (.v 30) (.v 273))⟩, ⟨none, none, (.st 2 (.v 31) (.v 274))⟩, ⟨(some 32), none, (.mv (.v 275))⟩]) (.seq (.reg false [] [⟨(some 277), none, (.ld true 3 (.v 30))⟩, ⟨(some 278), none, (.ld true 2 (.v 31))⟩, ⟨(some 279), none, (.mv (.v 32))⟩, ⟨(some 280), none, (.call 18 [(.v 277), (.v 278), (.v 279)])⟩, ⟨(some 276), none, (.mv (.v 280))⟩, ⟨(some 281), none, (.ext (.v 276) 0)⟩, ⟨(some 282), none, (.ext (.v 276) 1)⟩, ⟨(some 33), none, (.alc 2 [.nil, (.int .i64 0)])⟩, ⟨none, none, (.st 2 (.v 33) (.v 281))⟩, ⟨(some 34), none, (.mv (.v 282))⟩]) (.seq (.reg false [] [⟨(some 284), none, (.ld true 3 (.v 30))⟩, ⟨(some 285), none, (.ld true 2 (.v 31))⟩, ⟨(some 286), none, (.mv (.v 32))⟩, ⟨(some 287), none, (.call 19 [(.v 284), (.v 285), (.v 286)])⟩, ⟨(some 283), none, (.mv (.v 287))⟩, ⟨(some 288), none, (.ext (.v 283) 0)⟩, ⟨(some 289), none, (.ext (.v 283) 1)⟩, ⟨(some 35), none, (.alc 2 [.nil, (.int .i64 0)])⟩, ⟨none, none, (.st 2 (.v 35) (.v 288))⟩, ⟨(some 36), none, (.mv (.v 289))⟩]) (.seq (.reg false [] [⟨(some 291), none, (.ld true 3 (.v 30))⟩, ⟨(some 292), none, (.ld true 2 (.v 31))⟩, ⟨(some 293), none, (.mv (.v 32))⟩, ⟨(some 294), none, (.call 20 [(.v 291), (.v 292), (.v 293)])⟩, ⟨(some 290), none, (.mv (.v 294))⟩, ⟨(some 295), none, (.ext (.v 290) 0)⟩, ⟨(some 296), none, (.ext (.v 290) 1)⟩, ⟨(some 37), none, (.mv (.v 295))⟩, ⟨(some 38), none, (.mv (.v 296))⟩]) (.seq (.reg false [] [⟨(some 298), none, (.ld true 3 (.v 30))⟩, ⟨(some 299), none, (.ld true 2 (.v 31))⟩, ⟨(some 300), none, (.mv (.v 32))⟩, ⟨(some 301), none, (.call 21 [(.v 298), (.v 299), (.v 300)])⟩, ⟨(some 297), none, (.mv (.v 301))⟩, ⟨(some 302), none, (.ext (.v 297) 0)⟩, ⟨(some 303), none, (.ext (.v 297) 1)⟩, ⟨(some 39), none, (.mv (.v 302))⟩, ⟨(some 40), none, (.mv (.v 303))⟩]) (.seq (.reg false [] [⟨(some 304), none, (.mv (.v 1))⟩, ⟨(some 305), none, (.call 30 [(.v 304)])⟩, ⟨(some 41), none, (.alc 3 [(.int .i64 0), (.int .i64 0), (.int .i64 0)])⟩, ⟨none, none, (.st 3 (.v 41) (.v 305))⟩]) (.seq (.reg false [] [⟨(some 307), none, (.ld true 3 (.v 41))⟩, ⟨(some 308), none, (.call 22 [(.v 307)])⟩, ⟨(some 306), none, (.mv (.v 308))⟩, ⟨(some 309), none, (.ext (.v 306) 0)⟩, ⟨(some 310), none, (.ext (.v 306) 1)⟩, ⟨(some 42), none, (.alc 2 [.nil, (.int .i64 0)])⟩, ⟨none, none, (.st 2 (.v 42) (.v 309))⟩, ⟨(some 43), none, (.mv (.v 310))⟩]) (.seq (.reg false [] [⟨(some 312), none, (.ld true 3 (.v 41))⟩, ⟨(some 313), none, (.call 23 [(.v 312)])⟩, ⟨(some 311), none, (.mv (.v 313))⟩, ⟨(some 314), none, (.ext (.v 311) 0)⟩, ⟨(some 315), none, (.ext (.v 311) 1)⟩, ⟨(some 44), none, (.alc 2 [.nil, (.int .i64 0)])⟩, ⟨none, none, (.st 2 (.v 44) (.v 314))⟩, ⟨(some 45), none, (.mv (.v 315))⟩]) (.seq (.reg false [] [⟨(some 317), none, (.ld true 3 (.v 41))⟩, ⟨(some 318), none, (.call 24 [(.v 317)])⟩, ⟨(some 316), none, (.mv (.v 318))⟩, ⟨(some 319), none, (.ext (.v 316) 0)⟩, ⟨(some 320), none, (.ext (.v 316) 1)⟩, ⟨(some 46), none, (.alc 2 [.nil, (.int .i64 0)])⟩, ⟨none, none, (.st 2 (.v 46) (.v 319))⟩, ⟨(some 47), none, (.mv (.v 320))⟩]) (.seq (.reg false [] [⟨(some 322), none, (.ld true 3 (.v 41))⟩, ⟨(some 323), none, (.call 25 [(.v 322)])⟩, ⟨(some 321), none, (.mv (.v 323))⟩, ⟨(some 324), none, (.ext (.v 321) 0)⟩, ⟨(some 325), none, (.ext (.v 321) 1)⟩, ⟨(some 48), none, (.alc 2 [.nil, (.int .i64 0)])⟩, ⟨none, none, (.st 2 (.v 48) (.v 324))⟩, ⟨(some 49), none, (.mv (.v 325))⟩]) (.seq (.seq (.reg false [] [⟨(some 326), none, (.mv (.v 27))⟩, ⟨(some 327), none, (.mv (.v 29))⟩, ⟨(some 328), none, (.bin .neq .bool (.v 326) (.v 327))⟩, ⟨(some 329), none, (.mv (.v 328))⟩, ⟨(some 330), (some (329, false)), (.ld true 2 (.v 26))⟩, ⟨(some 331), (some (329, false)), (.ld true 2 (.v 28))⟩, ⟨(some 332), (some (329, false)), (.call 15 [(.v 330), (.v 331)])⟩, ⟨(some 333), (some (329, false)), (.un .not (.v 332))⟩, ⟨(some 334), none, (.pick (.v 329) (.k (.bool true)) (.v 333))⟩, ⟨(some 335), none, (.mv (.v 334))⟩, ⟨(some 336), (some (335, false)), (.mv (.v 34))⟩, ⟨(some 337), (some (335, false)), (.mv (.v 36))⟩, ⟨(some 338), (some (335, false)), (.bin .neq .bool (.v 336) (.v 337))⟩, ⟨(some 339), none, (.pick (.v 335) (.k (.bool true)) (.v 338))⟩, ⟨(some 340), none, (.mv (.v 339))⟩, ⟨(some 341), (some (340, false)), (.ld true 2 (.v 33))⟩, ⟨(some 342), (some (340, false)), (.ld true 2 (.v 35))⟩, ⟨(some 343), (some (340, false)), (.call 15 [(.v 341), (.v 342)])⟩, ⟨(some 344), (some (340, false)), (.un .not (.v 343))⟩, ⟨(some 345), none, (.pick (.v 340) (.k (.bool true)) (.v 344))⟩, ⟨(some 346), none, (.mv (.v 345))⟩, ⟨(some 347), (some (346, false)), (.mv (.v 38))⟩, ⟨(some 348), (some (346, false)), (.mv (.v 40))⟩, ⟨(some 349), (some (346, false)), (.bin .neq .bool (.v 347) (.v 348))⟩, ⟨(some 350), none, (.pick (.v 346) (.k (.bool true)) (.v 349))⟩, ⟨(some 351), none, (.mv (.v 350))⟩, ⟨(some 352), (some (351, false)), (.mv (.v 37))⟩, ⟨(some 353), (some (351, false)), (.mv (.v 39))⟩, ⟨(some 354), (some (351, false)), (.bin .neq .none (.v 352) (.v 353))⟩, ⟨(some 355), none, (.pick (.v 351) (.k (.bool true)) (.v 354))⟩, ⟨(some 356), none, (.mv (.v 355))⟩, ⟨(some 357), (some (356, false)), (.mv (.v 34))⟩, ⟨(some 358), (some (356, false)), (.mv (.v 357))⟩, ⟨(some 359), (some (358, true)), (.mv (.v 38))⟩, ⟨(some 360), (some (356, false)), (.pick (.v 358) (.v 359) (.k (.bool false)))⟩, ⟨(some 361), none, (.pick (.v 356) (.k (.bool true)) (.v 360))⟩, ⟨(some 362), none, (.mv (.v 361))⟩, ⟨(some 363), (some (362, false)), (.mv (.v 43))⟩, ⟨(some 364), (some (362, false)), (.mv (.v 45))⟩, ⟨(some 365), (some (362, false)), (.bin .neq .bool (.v 363) (.v 364))⟩, ⟨(some 366), none, (.pick (.v 362) (.k (.bool true)) (.v 365))⟩, ⟨(some 367), none, (.mv (.v 366))⟩, ⟨(some 368), (some (367, false)), (.ld true 2 (.v 42))⟩, ⟨(some 369), (some (367, false)), (.ld true 2 (.v 44))⟩, ⟨(some 370), (some (367, false)), (.call 15 [(.v 368), (.v 369)])⟩, ⟨(some 371), (some (367, false)), (.un .not (.v 370))⟩, ⟨(some 372), none, (.pick (.v 367) (.k (.bool true)) (.v 371))⟩, ⟨(some 373), none, (.mv (.v 372))⟩, ⟨(some 374), (some (373, false)), (.mv (.v 47))⟩, ⟨(some 375), (some (373, false)), (.mv (.v 49))⟩, ⟨(some 376), (some (373, false)), (.bin .neq .bool (.v 374) (.v 375))⟩, ⟨(some 377), none, (.pick (.v 373) (.k (.bool true)) (.v 376))⟩, ⟨(some 378), none, (.mv (.v 377))⟩, ⟨(some 379), (some (378, false)), (.ld true 2 (.v 46))⟩, ⟨(some 380), (some (378, false)), (.ld true 2 (.v 48))⟩, ⟨(some 381), (some (378, false)), (.call 15 [(.v 379), (.v 380)])⟩, ⟨(some 382), (some (378, false)), (.un .not (.v 381))⟩, ⟨(some 383), none, (.pick (.v 378) (.k (.bool true)) (.v 382))⟩, ⟨(some 384), none, (.mv (.v 383))⟩, ⟨(some 385), (some (384, false)), (.mv (.v 43))⟩, ⟨(some 386), (some (384, false)), (.ld true 3 (.v 41))⟩, ⟨(some 387), (some (384, false)), (.call 12 [(.v 386)])⟩, ⟨(some 388), (some (384, false)), (.bin .neq .bool (.v 385) (.v 387))⟩, ⟨(some 389), none, (.pick (.v 384) (.k (.bool true)) (.v 388))⟩, ⟨(some 390), none, (.mv (.v 389))⟩, ⟨(some 391), (some (390, false)), (.mv (.v 47))⟩, ⟨(some 392), (some (390, false)), (.mv (.v 43))⟩, ⟨(some 393), (some (390, false)), (.bin .neq .bool (.v 391) (.v 392))⟩, ⟨(some 394), none, (.pick (.v 390) (.k (.bool true)) (.v 393))⟩]) (.cond (.v 394) (.seq (.reg false [] [⟨(some 4), none, (.mv (.k (.bool false)))⟩]) .ret) .skip)) (.seq (.seq (.reg false [] [⟨(some 395), none, (.mv (.v 43))⟩]) (.cond (.v 395) (.seq (.reg false [] [⟨(some 397), none, (.ld true 3 (.v 41))⟩, ⟨(some 398), none, (.ld true 2 (.v 42))⟩, ⟨(some 399), none, (.call 7 [(.v 397), (.v 398)])⟩, ⟨(some 396), none, (.mv (.v 399))⟩, ⟨(some 400), none, (.ext (.v 396) 0)⟩, ⟨(some 401), none, (.ext (.v 396) 1)⟩, ⟨(some 50), none, (.mv (.v 400))⟩, ⟨(some 51), none, (.mv (.v 401))⟩]) (.seq (.reg false [] [⟨(some 403), none, (.ld true 3 (.v 41))⟩, ⟨(some 404), none, (.ld true 2 (.v 46))⟩, ⟨(some 405), none, (.call 7 [(.v 403), (.v 404)])⟩, ⟨(some 402), none, (.mv (.v 405))⟩, ⟨(some 406), none, (.ext (.v 402) 0)⟩, ⟨(some 407), none, (.ext (.v 402) 1)⟩, ⟨(some 52), none, (.mv (.v 406))⟩, ⟨(some 53), none, (.mv (.v 407))⟩]) (.seq (.reg false [] [⟨(some 408), none, (.mv (.v 51))⟩, ⟨(some 409), none, (.un .not (.v 408))⟩, ⟨(some 410), none, (.mv (.v 409))⟩, ⟨(some 411), (some (410, false)), (.mv (.v 50))⟩, ⟨(some 412), (some (410, false)), (.un .not (.v 411))⟩, ⟨(some 413), none, (.pick (.v 410) (.k (.bool true)) (.v 412))⟩, ⟨(some 414), none, (.mv (.v 413))⟩, ⟨(some 415), (some (414, false)), (.mv (.v 53))⟩, ⟨(some 416), (some (414, false)), (.un .not (.v 415))⟩, ⟨(some 417), none, (.pick (.v 414) (.k (.bool true)) (.v 416))⟩, ⟨(some 418), none, (.mv (.v 417))⟩, ⟨(some 419), (some (418, false)), (.mv (.v 52))⟩, ⟨(some 420), (some (418, false)), (.un .not (.v 419))⟩, ⟨(some 421), none, (.pick (.v 418) (.k (.bool true)) (.v 420))⟩]) (.cond (.v 421) (.seq (.reg false [] [⟨(some 4), none, (.mv (.k (.bool false)))⟩]) .ret) .skip)))) .skip)) (.seq (.seq (.reg false [] [⟨(some 422), none, (.mv (.v 34))⟩, ⟨(some 423), none, (.mv (.v 422))⟩, ⟨(some 424), (some (423, true)), (.mv (.v 32))⟩, ⟨(some 425), (some (423, true)), (.len 1 (.v 424))⟩, ⟨(some 426), (some (423, true)), (.bin .gtr .none (.v 425) (.k (.int .i64 0)))⟩, ⟨(some 427), none, (.pick (.v 423) (.v 426) (.k (.bool false)))⟩]) (.cond (.v 427) (.seq (.reg true [0, 0, 0, 4, 12, 31, 63, 127, 127, 0, 767, 2047] [⟨(some 429), none, (.ld true 3 (.v 30))⟩, ⟨(some 430), none, (.ld true 2 (.v 31))⟩, ⟨(some 431), none, (.mv (.v 32))⟩, ⟨(some 432), none, (.ixa 2 (.v 431) (.k (.int .i64 0)))⟩, ⟨(some 433), none, (.ld true 2 (.v 432))⟩, ⟨(some 434), none, (.call 14 [(.v 429), (.v 430), (.v 433)])⟩, ⟨(some 428), none, (.mv (.v 434))⟩, ⟨(some 435), none, (.ext (.v 428) 0)⟩, ⟨(some 436), none, (.ext (.v 428) 1)⟩, ⟨(some 54), none, (.alc 2 [.nil, (.int .i64 0)])⟩, ⟨none, none, (.st 2 (.v 54) (.v 435))⟩, ⟨(some 55), none, (.mv (.v 436))⟩]) (.seq (.reg true [0, 0, 0, 4, 15, 31, 63, 63, 0, 383, 1023] [⟨(some 438), none, (.ld true 3 (.v 30))⟩, ⟨(some 439), none, (.ld true 2 (.v 54))⟩, ⟨(some 440), none, (.mv (.v 32))⟩, ⟨(some 441), none, (.slc 2 (.v 440) (some (.k (.int .i64 1))) none)⟩, ⟨(some 442), none, (.call 18 [(.v 438), (.v 439), (.v 441)])⟩, ⟨(some 437), none, (.mv (.v 442))⟩, ⟨(some 443), none, (.ext (.v 437) 0)⟩, ⟨(some 444), none, (.ext (.v 437) 1)⟩, ⟨(some 56), none, (.alc 2 [.nil, (.int .i64 0)])⟩, ⟨none, none, (.st 2 (.v 56) (.v 443))⟩, ⟨(some 57), none, (.mv (.v 444))⟩]) (.seq (.reg false [] [⟨(some 445), none, (.mv (.v 55))⟩, ⟨(some 446), none, (.un .not (.v 445))⟩, ⟨(some 447), none, (.mv (.v 446))⟩, ⟨(some 448), (some (447, false)), (.mv (.v 57))⟩, ⟨(some 449), (some (447, false)), (.un .not (.v 448))⟩, ⟨(some 450), none, (.pick (.v 447) (.k (.bool true)) (.v 449))⟩, ⟨(some 451), none, (.mv (.v 450))⟩, ⟨(some 452), (some (451, false)), (.ld true 2 (.v 56))⟩, ⟨(some 453), (some (451, false)), (.ld true 2 (.v 33))⟩, ⟨(some 454), (some (451, false)), (.call 15 [(.v 452), (.v 453)])⟩, ⟨(some 455), (some (451, false)), (.un .not (.v 454))⟩, ⟨(some 456), none, (.pick (.v 451) (.k (.bool true)) (.v 455))⟩]) (.cond (.v 456) (.seq (.reg false [] [⟨(some 4), none, (.mv (.k (.bool false)))⟩]) .ret) .skip)))) .skip)) (.seq (.seq (.reg false [] [⟨(some 457), none, (.mv (.v 38))⟩]) (.cond (.v 457) (.seq (.reg true [0, 0, 0, 0, 12, 31, 63, 127, 127, 0, 767, 2047] [⟨(some 459), none, (.ld true 3 (.v 30))⟩, ⟨(some 460), none, (.ld true 2 (.v 31))⟩, ⟨(some 461), none, (.mv (.v 32))⟩, ⟨(some 462), none, (.mv (.v 37))⟩, ⟨(some 463), none, (.slc 2 (.v 461) none (some (.v 462)))⟩, ⟨(some 464), none, (.call 18 [(.v 459), (.v 460), (.v 463)])⟩, ⟨(some 458), none, (.mv (.v 464))⟩, ⟨(some 465), none, (.ext (.v 458) 0)⟩, ⟨(some 466), none, (.ext (.v 458) 1)⟩, ⟨(some 58), none, (.alc 2 [.nil, (.int .i64 0)])⟩, ⟨none, none, (.st 2 (.v 58) (.v 465))⟩, ⟨(some 59), none, (.mv (.v 466))⟩]) (.seq (.seq (.reg false [] [⟨(some 467), none, (.mv (.v 59))⟩, ⟨(some 468), none, (.un .not (.v 467))⟩]) (.cond (.v 468) (.seq (.reg false [] [⟨(some 4), none, (.mv (.k (.bool false)))⟩]) .ret) .skip)) (.seq (.reg true [0, 0, 0, 0, 12, 28, 63, 127, 255, 255, 0, 1535, 4095] [⟨(some 470), none, (.ld true 3 (.v 30))⟩, ⟨(some 471), none, (.ld true 2 (.v 58))⟩, ⟨(some 472), none, (.mv (.v 32))⟩, ⟨(some 473), none, (.mv (.v 37))⟩, ⟨(some 474), none, (.ixa 2 (.v 472) (.v 473))⟩, ⟨(some 475), none, (.ld true 2 (.v 474))⟩, ⟨(some 476), none, (.call 14 [(.v 470), (.v 471), (.v 475)])⟩, ⟨(some 469), none, (.mv (.v 476))⟩, ⟨(some 477), none, (.ext (.v 469) 0)⟩, ⟨(some 478), none, (.ext (.v 469) 1)⟩, ⟨(some 60), none, (.alc 2 [.nil, (.int .i64 0)])⟩, ⟨none, none, (.st 2 (.v 60) (.v 477))⟩, ⟨(some 61), none, (.mv (.v 478))⟩]) (.seq (.reg false [] [⟨(some 479), none, (.mv (.v 61))⟩]) (.cond (.v 479) (.seq (.reg false [] [⟨(some 4), none, (.mv (.k (.bool false)))⟩]) .ret) .skip))))) .skip)) (.seq (.reg false [] [⟨(some 4), none, (.mv (.k (.bool true)))⟩]) .ret)))))))))))))))))))))))))))
def ir4 : Fn := ⟨.own, 2, 480, [(.tmp 4)], ir4_c⟩
def ir26_c : C := (.seq (.reg false [] [⟨(some 4), none, (.mv (.k (.bool false)))⟩]) (.seq (.reg false [] [⟨(some 5), none, (.mv (.v 0))⟩, ⟨(some 6), none, (.len 1 (.v 5))⟩, ⟨(some 7), none, (.bin .gtr .none (.v 6) (.k (.int .i64 1048576)))⟩, ⟨(some 8), none, (.mv (.v 7))⟩, ⟨(some 9), (some (8, false)), (.mv (.v 1))⟩, ⟨(some 10), (some (8, false)), (.len 1 (.v 9))⟩, ⟨(some 11), (some (8, false)), (.mv (.v 0))⟩, ⟨(some 12), (some (8, false)), (.len 1 (.v 11))⟩, ⟨(some 13), (some (8, false)), (.bin .sub .none (.k (.int .i64 1048576)) (.v 12))⟩, ⟨(some 14), (some (8, false)), (.bin .gtr .none (.v 10) (.v 13))⟩, ⟨(some 15), none, (.pick (.v 8) (.k (.bool true)) (.v 14))⟩, ⟨(some 4), none, (.mv (.v 15))⟩]) .ret))
def ir26 : Fn := ⟨.own, 2, 16, [(.tmp 4)], ir26_c⟩
def ir27_c : C := (.seq (.reg false [] [⟨(some 2), none, (.alc 3 [(.int .i64 0), (.int .i64 0), (.int .i64 0)])⟩, ⟨(some 3), none, (.alc 2 [.nil, (.int .i64 0)])⟩]) (.seq (.reg false [] [⟨(some 4), none, (.mv (.v 0))⟩, ⟨(some 5), none, (.call 52 [(.v 4)])⟩, ⟨(some 6), none, (.ext (.v 5) 0)⟩, ⟨(some 7), none, (.ext (.v 5) 1)⟩, ⟨none, none, (.st 3 (.v 2) (.v 6))⟩, ⟨none, none, (.st 2 (.v 3) (.v 7))⟩]) .ret))
def ir27 : Fn := ⟨.ownF, 1, 8, [(.cell 2 true 3), (.cell 3 true 2)], ir27_c⟩
def ir28_c : C := (.seq (.reg false [] [⟨(some 2), none, (.alc 3 [(.int .i64 0), (.int .i64 0), (.int .i64 0)])⟩, ⟨(some 3), none, (.alc 2 [.nil, (.int .i64 0)])⟩, ⟨(some 4), none, (.alc 2 [(.int .i64 0), .nil])⟩]) (.seq (.reg false [] [⟨(some 9), none, (.mv (.v 0))⟩, ⟨(some 10), none, (.bld [.nil, (.int .i64 0), (.int .u64 0)] [(0, (1, (.v 9)))])⟩, ⟨(some 11), none, (.box (.v 10))⟩, ⟨(some 5), none, (.mv (.v 11))⟩]) (.seq (.reg false [] [⟨(some 13), none, (.mv (.v 5))⟩, ⟨(some 14), none, (.call 53 [(.v 13)])⟩, ⟨(some 12), none, (.mv (.v 14))⟩, ⟨(some 15), none, (.ext (.v 12) 0)⟩, ⟨(some 16), none, (.ext (.v 12) 1)⟩, ⟨(some 17), none, (.ext (.v 12) 2)⟩, ⟨(some 6), none, (.alc 3 [(.int .i64 0), (.int .i64 0), (.int .i64 0)])⟩, ⟨(some 7), none, (.alc 2 [.nil, (.int .i64 0)])⟩, ⟨none, none, (.st 3 (.v 6) (.v 15))⟩, ⟨none, none, (.st 2 (.v 7) (.v 16))⟩, ⟨(some 8), none, (.mv (.v 17))⟩]) (.seq (.seq (.reg false [] [⟨(some 18), none, (.mv (.v 8))⟩, ⟨(some 19), none, (.len 1 (.v 18))⟩, ⟨(some 20), none, (.bin .gtr .none (.v 19) (.k (.int .i64 0)))⟩]) (.cond (.v 20) (.seq (.reg true [0, 0, 0, 4, 12, 1, 35, 127] [⟨(some 21), none, (.ld true 3 (.v 6))⟩, ⟨(some 22), none, (.ld true 2 (.v 7))⟩, ⟨(some 23), none, (.mv (.v 8))⟩, ⟨(some 24), none, (.ixa 2 (.v 23) (.k (.int .i64 0)))⟩, ⟨(some 25), none, (.ld true 2 (.v 24))⟩, ⟨none, none, (.st 3 (.v 2) (.v 21))⟩, ⟨none, none, (.st 2 (.v 3) (.v 22))⟩, ⟨none, none, (.st 2 (.v 4) (.v 25))⟩]) .ret) .skip)) (.seq (.reg true [0, 0, 0, 4, 0, 28, 60, 124, 0, 316, 1020, 829, 2879, 8191] [⟨(some 26), none, (.ld true 3 (.v 6))⟩, ⟨(some 27), none, (.ld true 2 (.v 7))⟩, ⟨(some 28), none, (.mv (.v 5))⟩, ⟨(some 29), none, (.call 54 [(.v 28), (.k (.int .i64 4))])⟩, ⟨(some 30), none, (.mv (.v 5))⟩, ⟨(some 31), none, (.call 54 [(.v 30), (.k (.int .i64 9))])⟩, ⟨(some 32), none, (.bin .quo .none (.v 31) (.k (.int .i64 8)))⟩, ⟨(some 33), none, (.bin .sub .none (.v 29) (.v 32))⟩, ⟨(some 34), none, (.mv (.v 5))⟩, ⟨(some 35), none, (.call 55 [(.v 34), (.k (.int .i64 6))])⟩, ⟨(some 36), none, (.bld [(.int .i64 0), .nil] [(0, (1, (.v 33))), (1, (1, (.v 35)))])⟩, ⟨none, none, (.st 3 (.v 2) (.v 26))⟩, ⟨none, none, (.st 2 (.v 3) (.v 27))⟩, ⟨none, none, (.st 2 (.v 4) (.v 36))⟩]) .ret)))))
def ir28 : Fn := ⟨.ownF, 1, 37, [(.cell 2 true 3), (.cell 3 true 2), (.cell 4 true 2)], ir28_c⟩
def ir29_c : C := (.seq (.reg false [] [⟨(some 2), none, (.alc 3 [(.int .i64 0), (.int .i64 0), (.int .i64 0)])⟩, ⟨(some 3), none, (.alc 2 [.nil, (.int .i64 0)])⟩, ⟨(some 4), none, (.mv (.k .nil))⟩]) (.seq (.reg false [] [⟨(some 6), none, (.mv (.v 0))⟩, ⟨(some 7), none, (.bld [.nil, (.int .i64 0), (.int .u64 0)] [(0, (1, (.v 6)))])⟩, ⟨(some 8), none, (.box (.v 7))⟩, ⟨(some 5), none, (.mv (.v 8))⟩]) (.seq (.reg false [] [⟨(some 9), none, (.mv (.v 5))⟩, ⟨(some 10), none, (.call 53 [(.v 9)])⟩, ⟨(some 11), none, (.ext (.v 10) 0)⟩, ⟨(some 12), none, (.ext (.v 10) 1)⟩, ⟨(some 13), none, (.ext (.v 10) 2)⟩, ⟨none, none, (.st 3 (.v 2) (.v 11))⟩, ⟨none, none, (.st 2 (.v 3) (.v 12))⟩, ⟨(some 4), none, (.mv (.v 13))⟩]) .ret)))
def ir29 : Fn := ⟨.ownF, 1, 14, [(.cell 2 true 3), (.cell 3 true 2), (.tmp 4)], ir29_c⟩
def ir30_c : C := (.seq (.reg false [] [⟨(some 2), none, (.alc 3 [(.int .i64 0), (.int .i64 0), (.int .i64 0)])⟩]) (.seq (.reg false [] [⟨(some 4), none, (.mv (.v 0))⟩, ⟨(some 5), none, (.bld [.nil, (.int .i64 0), (.int .u64 0)] [(0, (1, (.v 4)))])⟩, ⟨(some 6), none, (.box (.v 5))⟩, ⟨(some 3), none, (.mv (.v 6))⟩]) (.seq (.reg false [] [⟨(some 7), none, (.mv (.v 3))⟩, ⟨(some 8), none, (.call 56 [(.v 7)])⟩, ⟨none, none, (.st 3 (.v 2) (.v 8))⟩]) .ret)))
def ir30 : Fn := ⟨.own, 1, 9, [(.cell 2 true 3)], ir30_c⟩
def ir52_c : C := (.seq (.reg false [] [⟨(some 2), none, (.alc 3 [(.int .i64 0), (.int .i64 0), (.int .i64 0)])⟩, ⟨(some 3), none, (.alc 2 [.nil, (.int .i64 0)])⟩]) (.seq (.reg false [] [⟨(some 5), none, (.mv (.v 0))⟩, ⟨(some 6), none, (.bld [.nil, (.int .i64 0), (.int .u64 0)] [(0, (1, (.v 5)))])⟩, ⟨(some 7), none, (.box (.v 6))⟩, ⟨(some 4), none, (.mv (.v 7))⟩]) (.seq (.reg false [] [⟨(some 8), none, (.mv (.v 4))⟩, ⟨(some 9), none, (.call 77 [(.v 8)])⟩, ⟨(some 10), none, (.ext (.v 9) 0)⟩, ⟨(some 11), none, (.ext (.v 9) 1)⟩, ⟨none, none, (.st 3 (.v 2) (.v 10))⟩, ⟨none, none, (.st 2 (.v 3) (.v 11))⟩]) .ret)))
def ir52 : Fn := ⟨.ownF, 1, 12, [(.cell 2 true 3), (.cell 3 true 2)], ir52_c⟩
def ir53_d0 : C := (.seq (.seq (.reg false [] [⟨(some 29), none, (.mv (.v 9))⟩, ⟨(some 30), none, (.bin .gtr .none (.v 29) (.k (.int .i64 0)))⟩]) (.cond (.v 30) .skip (.exit 0))) (.seq (.block 1 (.seq (.reg false [] [⟨(some 33), none, (.ld true 3 (.v 5))⟩, ⟨(some 34), none, (.ld true 2 (.v 8))⟩, ⟨(some 35), none, (.call 34 [(.v 33), (.v 34)])⟩, ⟨(some 10), none, (.mv (.v 35))⟩]) (.seq (.seq (.reg false [] [⟨(some 36), none, (.mv (.v 10))⟩, ⟨(some 37), none, (.len 1 (.v 36))⟩, ⟨(some 38), none, (.bin .eql .none (.v 37) (.k (.int .i64 0)))⟩]) (.cond (.v 38) (.exit 0) .skip)) (.seq (.reg false [] [⟨(some 39), none, (.mv (.v 10))⟩, ⟨(some 40), none, (.mv (.v 0))⟩, ⟨(some 41), none, (.mv (.v 10))⟩, ⟨(some 42), none, (.len 1 (.v 41))⟩, ⟨(some 43), none, (.call 54 [(.v 40), (.v 42)])⟩, ⟨(some 44), none, (.ixa 2 (.v 39) (.v 43))⟩, ⟨(some 45), none, (.ld true 2 (.v 44))⟩, ⟨(some 11), none, (.alc 2 [(.int .i64 0), .nil])⟩, ⟨none, none, (.st 2 (.v 11) (.v 45))⟩]) (.seq (.reg false [] [⟨(some 46), none, (.mv (.v 7))⟩, ⟨(some 47), none, (.ld true 2 (.v 11))⟩, ⟨(some 48), none, (.bsl false 2 1 (.agg [(.int .i64 0), .nil]) [(0, (.v 47))])⟩, ⟨(some 49), none, (.app false 2 (.v 46) (.v 48))⟩, ⟨(some 7), none, (.mv (.v 49))⟩]) (.reg false [] [⟨(some 50), none, (.ld true 2 (.v 8))⟩, ⟨(some 51), none, (.ld true 2 (.v 11))⟩, ⟨(some 52), none, (.call 46 [(.v 50), (.v 51)])⟩, ⟨none, none, (.st 2 (.v 8) (.v 52))⟩])))))) (.reg false [] [⟨(some 31), none, (.mv (.v 9))⟩, ⟨(some 32), none, (.bin .sub .none (.v 31) (.k (.int .i64 1)))⟩, ⟨(some 9), none, (.mv (.v 32))⟩])))
def ir53_b0 : C := ir53_d0
def ir53_l0 : C := .loop false [0, 2, 3, 5, 6, 7, 8, 9] ir53_b0
def ir53_c : C := (.seq (.reg false [] [⟨(some 2), none, (.alc 3 [(.int .i64 0), (.int .i64 0), (.int .i64 0)])⟩, ⟨(some 3), none, (.alc 2 [.nil, (.int .i64 0)])⟩, ⟨(some 4), none, (.mv (.k .nil))⟩]) (.seq (.reg false [] [⟨(some 13), none, (.mv (.v 0))⟩, ⟨(some 14), none, (.call 77 [(.v 13)])⟩, ⟨(some 12), none, (.mv (.v 14))⟩, ⟨(some 15), none, (.ext (.v 12) 0)⟩, ⟨(some 16), none, (.ext (.v 12) 1)⟩, ⟨(some 5), none, (.alc 3 [(.int .i64 0), (.int .i64 0), (.int .i64 0)])⟩, ⟨(some 6), none, (.alc 2 [.nil, (.int .i64 0)])⟩, ⟨none, none, (.st 3 (.v 5) (.v 15))⟩, ⟨none, none, (.st 2 (.v 6) (.v 16))⟩]) (.seq (.seq (.reg false [] [⟨(some 17), none, (.ld true 3 (.v 5))⟩, ⟨(some 18), none, (.ld true 2 (.v 6))⟩, ⟨(some 19), none, (.call 33 [(.v 17), (.v 18)])⟩, ⟨(some 20), none, (.un .not (.v 19))⟩]) (.cond (.v 20) (.seq (.reg true [0, 0, 0, 4, 12, 1, 35, 127] [⟨(some 21), none, (.ld true 3 (.v 5))⟩, ⟨(some 22), none, (.ld true 2 (.v 6))⟩, ⟨(some 23), none, (.bsf 1 1 (.int .i64 0) [(0, (.k (.int .i64 0)))])⟩, ⟨(some 24), none, (.bld [(.int .i64 0), .nil] [(0, (1, (.k (.int .i64 1)))), (1, (1, (.v 23)))])⟩, ⟨(some 25), none, (.bsf 2 1 (.agg [(.int .i64 0), .nil]) [(0, (.v 24))])⟩, ⟨none, none, (.st 3 (.v 2) (.v 21))⟩, ⟨none, none, (.st 2 (.v 3) (.v 22))⟩, ⟨(some 4), none, (.mv (.v 25))⟩]) .ret) .skip)) (.seq (.reg false [] [⟨(some 7), none, (.mv (.k .nil))⟩]) (.seq (.reg false [] [⟨(some 26), none, (.ld true 2 (.v 6))⟩, ⟨(some 8), none, (.alc 2 [.nil, (.int .i64 0)])⟩, ⟨none, none, (.st 2 (.v 8) (.v 26))⟩]) (.seq (.seq (.reg false [] [⟨(some 27), none, (.mv (.v 0))⟩, ⟨(some 28), none, (.call 54 [(.v 27), (.k (.int .i64 8))])⟩, ⟨(some 9), none, (.mv (.v 28))⟩]) (.block 0 ir53_l0)) (.seq (.seq (.reg false [] [⟨(some 53), none, (.mv (.v 0))⟩, ⟨(some 54), none, (.call 54 [(.v 53), (.k (.int .i64 6))])⟩]) (.block 2 (.seq (.reg false [] [⟨(some 56), none, (.bin .eql .none (.v 54) (.k (.int .i64 0)))⟩, ⟨(some 55), none, (.mv (.v 56))⟩]) (.cond (.v 55) (.reg false [] [⟨(some 57), none, (.mv (.v 7))⟩, ⟨(some 58), none, (.mv (.v 0))⟩, ⟨(some 59), none, (.call 54 [(.v 58), (.k (.int .i64 5))])⟩, ⟨(some 60), none, (.bin .sub .none (.v 59) (.k (.int .i64 1)))⟩, ⟨(some 61), none, (.mv (.v 0))⟩, ⟨(some 62), none, (.call 55 [(.v 61), (.k (.int .i64 6))])⟩, ⟨(some 63), none, (.bld [(.int .i64 0), .nil] [(0, (1, (.v 60))), (1, (1, (.v 62)))])⟩, ⟨(some 64), none, (.bsl false 2 1 (.agg [(.int .i64 0), .nil]) [(0, (.v 63))])⟩, ⟨(some 65), none, (.app false 2 (.v 57) (.v 64))⟩, ⟨(some 7), none, (.mv (.v 65))⟩]) (.seq (.reg false [] [⟨(some 67), none, (.bin .eql .none (.v 54) (.k (.int .i64 1)))⟩, ⟨(some 66), none, (.mv (.v 67))⟩]) (.cond (.v 66) (.seq (.reg false [] [⟨(some 68), none, (.mv (.v 0))⟩, ⟨(some 69), none, (.call 78 [(.v 68), (.k (.int .i64 4))])⟩]) (.cond (.v 69) (.reg false [] [⟨(some 70), none, (.mv (.v 0))⟩, ⟨(some 71), none, (.call 54 [(.v 70), (.k (.int .i64 2))])⟩, ⟨(some 72), none, (.bin .add .none (.k (.int .i64 40)) (.v 71))⟩, ⟨(some 73), none, (.mks 2 (.agg [(.int .i64 0), .nil]) (.v 72) (.v 72))⟩, ⟨(some 7), none, (.mv (.v 73))⟩]) .skip)) .skip)))))) (.seq (.reg true [0, 0, 0, 1, 11, 31] [⟨(some 74), none, (.ld true 3 (.v 5))⟩, ⟨(some 75), none, (.ld true 2 (.v 6))⟩, ⟨(some 76), none, (.mv (.v 7))⟩, ⟨none, none, (.st 3 (.v 2) (.v 74))⟩, ⟨none, none, (.st 2 (.v 3) (.v 75))⟩, ⟨(some 4), none, (.mv (.v 76))⟩]) .ret))))))))
def ir53 : Fn := ⟨.ref, 1, 77, [(.cell 2 true 3), (.cell 3 true 2), (.tmp 4)], ir53_c⟩
def ir54_c : C := (.seq (.reg false [] [⟨(some 4), none, (.mv (.k (.int .i64 0)))⟩]) (.seq (.seq (.reg false [] [⟨(some 6), none, (.mv (.v 1))⟩, ⟨(some 7), none, (.bin .leq .none (.v 6) (.k (.int .i64 1)))⟩]) (.cond (.v 7) (.seq (.reg false [] [⟨(some 4), none, (.mv (.k (.int .i64 0)))⟩]) .ret) .skip)) (.seq (.reg false [] [⟨(some 8), none, (.mv (.v 0))⟩, ⟨(some 9), none, (.call 79 [(.v 8)])⟩, ⟨(some 5), none, (.mv (.v 9))⟩]) (.seq (.seq (.reg false [] [⟨(some 10), none, (.mv (.v 1))⟩, ⟨(some 11), none, (.bin .gtr .none (.v 10) (.k (.int .i64 200)))⟩]) (.cond (.v 11) (.reg false [] [⟨(some 12), none, (.mv (.v 5))⟩, ⟨(some 13), none, (.bin .mul .none (.v 12) (.k (.int .i64 256)))⟩, ⟨(some 14), none, (.mv (.v 0))⟩, ⟨(some 15), none, (.call 79 [(.v 14)])⟩, ⟨(some 16), none, (.bin .add .none (.v 13) (.v 15))⟩, ⟨(some 5), none, (.mv (.v 16))⟩]) .skip)) (.seq (.reg false [] [⟨(some 17), none, (.mv (.v 5))⟩, ⟨(some 18), none, (.mv (.v 1))⟩, ⟨(some 19), none, (.bin .rem .none (.v 17) (.v 18))⟩, ⟨(some 4), none, (.mv (.v 19))⟩]) .ret)))))
def ir54 : Fn := ⟨.ref, 2, 20, [(.tmp 4)], ir54_c⟩
def ir55_d0 : C := (.seq (.seq (.reg false [] [⟨(some 7), none, (.mv (.v 6))⟩, ⟨(some 8), none, (.mv (.v 1))⟩, ⟨(some 9), none, (.bin .lss .none (.v 7) (.v 8))⟩]) (.cond (.v 9) .skip (.exit 0))) (.seq (.block 1 (.seq (.reg false [] [⟨(some 12), none, (.mv (.v 0))⟩, ⟨(some 13), none, (.call 78 [(.v 12), (.k (.int .i64 3))])⟩]) (.cond (.v 13) (.reg false [] [⟨(some 14), none, (.mv (.v 5))⟩, ⟨(some 15), none, (.mv (.v 6))⟩, ⟨(some 16), none, (.bsl false 1 1 (.int .i64 0) [(0, (.v 15))])⟩, ⟨(some 17), none, (.app false 1 (.v 14) (.v 16))⟩, ⟨(some 5), none, (.mv (.v 17))⟩]) .skip))) (.reg false [] [⟨(some 10), none, (.mv (.v 6))⟩, ⟨(some 11), none, (.bin .add .none (.v 10) (.k (.int .i64 1)))⟩, ⟨(some 6), none, (.mv (.v 11))⟩])))
def ir55_b0 : C := ir55_d0
def ir55_l0 : C := .loop false [0, 1, 5, 6] ir55_b0
def ir55_c : C := (.seq (.reg false [] [⟨(some 4), none, (.mv (.k .nil))⟩]) (.seq (.reg false [] [⟨(some 5), none, (.mv (.k .nil))⟩]) (.seq (.seq (.reg false [] [⟨(some 6), none, (.mv (.k (.int .i64 0)))⟩]) (.block 0 ir55_l0)) (.seq (.seq (.reg false [] [⟨(some 18), none, (.mv (.v 0))⟩, ⟨(some 19), none, (.call 78 [(.v 18), (.k (.int .i64 14))])⟩]) (.cond (.v 19) (.reg false [] [⟨(some 20), none, (.mv (.v 5))⟩, ⟨(some 21), none, (.mv (.v 0))⟩, ⟨(some 22), none, (.mv (.v 1))⟩, ⟨(some 23), none, (.bsl false 1 4 (.int .i64 0) [(0, (.k (.int .i64 (-1)))), (1, (.k (.int .i64 0))), (2, (.v 22)), (3, (.k (.int .i64 4611686018427387904)))])⟩, ⟨(some 24), none, (.call 80 [(.v 21), (.v 23)])⟩, ⟨(some 25), none, (.bsl false 1 1 (.int .i64 0) [(0, (.v 24))])⟩, ⟨(some 26), none, (.app false 1 (.v 20) (.v 25))⟩, ⟨(some 5), none, (.mv (.v 26))⟩]) .skip)) (.seq (.reg false [] [⟨(some 27), none, (.mv (.v 5))⟩, ⟨(some 4), none, (.mv (.v 27))⟩]) .ret)))))
def ir55 : Fn := ⟨.ref, 2, 28, [(.tmp 4)], ir55_c⟩
def ir56_c : C := (.seq (.reg false [] [⟨(some 2), none, (.alc 3 [(.int .i64 0), (.int .i64 0), (.int .i64 0)])⟩]) (.seq (.reg false [] [⟨(some 4), none, (.mv (.v 0))⟩, ⟨(some 5), none, (.call 54 [(.v 4), (.k (.int .i64 2))])⟩, ⟨(some 6), none, (.bin .add .none (.k (.int .i64 1)) (.v 5))⟩, ⟨(some 7), none, (.mv (.v 0))⟩, ⟨(some 8), none, (.call 54 [(.v 7), (.k (.int .i64 3))])⟩, ⟨(some 9), none, (.bin .add .none (.k (.int .i64 1)) (.v 8))⟩, ⟨(some 10), none, (.mv (.v 0))⟩, ⟨(some 11), none, (.call 54 [(.v 10), (.k (.int .i64 3))])⟩, ⟨(some 12), none, (.bld [(.int .i64 0), (.int .i64 0), (.int .i64 0)] [(0, (1, (.v 6))), (1, (1, (.v 9))), (2, (1, (.v 11)))])⟩, ⟨(some 3), none, (.alc 3 [(.int .i64 0), (.int .i64 0), (.int .i64 0)])⟩, ⟨none, none, (.st 3 (.v 3) (.v 12))⟩]) (.seq (.seq (.reg false [] [⟨(some 13), none, (.mv (.v 0))⟩, ⟨(some 14), none, (.call 54 [(.v 13), (.k (.int .i64 20))])⟩]) (.block 0 (.seq (.reg false [] [⟨(some 16), none, (.bin .eql .none (.v 14) (.k (.int .i64 0)))⟩, ⟨(some 15), none, (.mv (.v 16))⟩]) (.cond (.v 15) (.reg false [] [⟨(some 17), none, (.mv (.v 0))⟩, ⟨(some 18), none, (.bsl false 1 4 (.int .i64 0) [(0, (.k (.int .i64 (-1)))), (1, (.k (.int .i64 0))), (2, (.k (.int .i64 4))), (3, (.k (.int .i64 4611686018427387904)))])⟩, ⟨(some 19), none, (.call 80 [(.v 17), (.v 18)])⟩, ⟨(some 20), none, (.fad 0 (.v 3))⟩, ⟨none, none, (.st 1 (.v 20) (.v 19))⟩]) (.seq (.reg false [] [⟨(some 22), none, (.bin .eql .none (.v 14) (.k (.int .i64 1)))⟩, ⟨(some 21), none, (.mv (.v 22))⟩]) (.cond (.v 21) (.reg false [] [⟨(some 23), none, (.mv (.v 0))⟩, ⟨(some 24), none, (.bsl false 1 3 (.int .i64 0) [(0, (.k (.int .i64 (-1)))), (1, (.k (.int .i64 0))), (2, (.k (.int .i64 4)))])⟩, ⟨(some 25), none, (.call 80 [(.v 23), (.v 24)])⟩, ⟨(some 26), none, (.fad 1 (.v 3))⟩, ⟨none, none, (.st 1 (.v 26) (.v 25))⟩]) (.seq (.reg false [] [⟨(some 28), none, (.bin .eql .none (.v 14) (.k (.int .i64 2)))⟩, ⟨(some 27), none, (.mv (.v 28))⟩]) (.cond (.v 27) (.reg false [] [⟨(some 29), none, (.mv (.v 0))⟩, ⟨(some 30), none, (.bsl false 1 3 (.int .i64 0) [(0, (.k (.int .i64 (-1)))), (1, (.k (.int .i64 3))), (2, (.k (.int .i64 4611686018427387904)))])⟩, ⟨(some 31), none, (.call 80 [(.v 29), (.v 30)])⟩, ⟨(some 32), none, (.fad 2 (.v 3))⟩, ⟨none, none, (.st 1 (.v 32) (.v 31))⟩]) (.seq (.seq (.reg false [] [⟨(some 34), none, (.bin .eql .none (.v 14) (.k (.int .i64 3)))⟩, ⟨(some 33), none, (.mv (.v 34))⟩]) (.cond (.v 33) .skip (.reg false [] [⟨(some 35), none, (.bin .eql .none (.v 14) (.k (.int .i64 4)))⟩, ⟨(some 33), none, (.mv (.v 35))⟩]))) (.cond (.v 33) (.seq (.reg false [] [⟨(some 36), none, (.fad 0 (.v 3))⟩, ⟨none, none, (.st 1 (.v 36) (.k (.int .i64 3)))⟩]) (.reg false [] [⟨(some 37), none, (.mv (.v 0))⟩, ⟨(some 38), none, (.call 54 [(.v 37), (.k (.int .i64 2))])⟩, ⟨(some 39), none, (.fad 2 (.v 3))⟩, ⟨none, none, (.st 1 (.v 39) (.v 38))⟩])) .skip)))))))))) (.seq (.reg false [] [⟨(some 40), none, (.ld true 3 (.v 3))⟩, ⟨none, none, (.st 3 (.v 2) (.v 40))⟩]) .ret))))
def ir56 : Fn := ⟨.ref, 1, 41, [(.cell 2 true 3)], ir56_c⟩
def ir77_d0 : C := (.seq (.seq (.reg false [] [⟨(some 32), none, (.mv (.v 6))⟩, ⟨(some 33), none, (.bin .gtr .none (.v 32) (.k (.int .i64 0)))⟩]) (.cond (.v 33) .skip (.exit 0))) (.seq (.block 1 (.seq (.reg false [] [⟨(some 36), none, (.ld true 3 (.v 4))⟩, ⟨(some 37), none, (.ld true 2 (.v 5))⟩, ⟨(some 38), none, (.call 34 [(.v 36), (.v 37)])⟩, ⟨(some 7), none, (.mv (.v 38))⟩]) (.seq (.reg false [] [⟨(some 39), none, (.mv (.v 7))⟩, ⟨(some 40), none, (.len 1 (.v 39))⟩, ⟨(some 41), none, (.bin .gtr .none (.v 40) (.k (.int .i64 0)))⟩]) (.cond (.v 41) (.reg true [0, 0, 0, 0, 8, 28, 62, 126, 255, 511] [⟨(some 42), none, (.ld true 2 (.v 5))⟩, ⟨(some 43), none, (.mv (.v 7))⟩, ⟨(some 44), none, (.mv (.v 0))⟩, ⟨(some 45), none, (.mv (.v 7))⟩, ⟨(some 46), none, (.len 1 (.v 45))⟩, ⟨(some 47), none, (.call 54 [(.v 44), (.v 46)])⟩, ⟨(some 48), none, (.ixa 2 (.v 43) (.v 47))⟩, ⟨(some 49), none, (.ld true 2 (.v 48))⟩, ⟨(some 50), none, (.call 46 [(.v 42), (.v 49)])⟩, ⟨none, none, (.st 2 (.v 5) (.v 50))⟩]) .skip)))) (.reg false [] [⟨(some 34), none, (.mv (.v 6))⟩, ⟨(some 35), none, (.bin .sub .none (.v 34) (.k (.int .i64 1)))⟩, ⟨(some 6), none, (.mv (.v 35))⟩])))
def ir77_b0 : C := ir77_d0
def ir77_l0 : C := .loop false [0, 2, 3, 4, 5, 6] ir77_b0
def ir77_c : C := (.seq (.reg false [] [⟨(some 2), none, (.alc 3 [(.int .i64 0), (.int .i64 0), (.int .i64 0)])⟩, ⟨(some 3), none, (.alc 2 [.nil, (.int .i64 0)])⟩]) (.seq (.reg false [] [⟨(some 8), none, (.mv (.v 0))⟩, ⟨(some 9), none, (.call 56 [(.v 8)])⟩, ⟨(some 4), none, (.alc 3 [(.int .i64 0), (.int .i64 0), (.int .i64 0)])⟩, ⟨none, none, (.st 3 (.v 4) (.v 9))⟩]) (.seq (.seq (.reg false [] [⟨(some 10), none, (.ld true 3 (.v 4))⟩, ⟨(some 11), none, (.call 41 [(.v 10)])⟩, ⟨(some 12), none, (.un .not (.v 11))⟩, ⟨(some 13), none, (.mv (.v 12))⟩, ⟨(some 14), (some (13, false)), (.mv (.v 0))⟩, ⟨(some 15), (some (13, false)), (.call 78 [(.v 14), (.k (.int .i64 10))])⟩, ⟨(some 16), none, (.pick (.v 13) (.k (.bool true)) (.v 15))⟩]) (.cond (.v 16) (.seq (.reg true [0, 0, 2, 0, 14, 30, 62, 126, 0, 286, 1022, 799, 4095] [⟨(some 17), none, (.ld true 3 (.v 4))⟩, ⟨(some 18), none, (.mv (.v 0))⟩, ⟨(some 19), none, (.call 54 [(.v 18), (.k (.int .i64 3))])⟩, ⟨(some 20), none, (.mv (.v 0))⟩, ⟨(some 21), none, (.call 54 [(.v 20), (.k (.int .i64 9))])⟩, ⟨(some 22), none, (.bin .quo .none (.v 21) (.k (.int .i64 8)))⟩, ⟨(some 23), none, (.bin .sub .none (.v 19) (.v 22))⟩, ⟨(some 24), none, (.bsf 1 2 (.int .i64 0) [(0, (.v 23)), (1, (.k (.int .i64 0)))])⟩, ⟨(some 25), none, (.mv (.v 0))⟩, ⟨(some 26), none, (.call 54 [(.v 25), (.k (.int .i64 4))])⟩, ⟨(some 27), none, (.bld [.nil, (.int .i64 0)] [(0, (1, (.v 24))), (1, (1, (.v 26)))])⟩, ⟨none, none, (.st 3 (.v 2) (.v 17))⟩, ⟨none, none, (.st 2 (.v 3) (.v 27))⟩]) .ret) .skip)) (.seq (.reg false [] [⟨(some 28), none, (.ld true 3 (.v 4))⟩, ⟨(some 29), none, (.call 50 [(.v 28), (.k (.int .i64 0))])⟩, ⟨(some 5), none, (.alc 2 [.nil, (.int .i64 0)])⟩, ⟨none, none, (.st 2 (.v 5) (.v 29))⟩]) (.seq (.seq (.reg false [] [⟨(some 30), none, (.mv (.v 0))⟩, ⟨(some 31), none, (.call 54 [(.v 30), (.k (.int .i64 7))])⟩, ⟨(some 6), none, (.mv (.v 31))⟩]) (.block 0 ir77_l0)) (.seq (.seq (.reg false [] [⟨(some 51), none, (.mv (.v 0))⟩, ⟨(some 52), none, (.call 78 [(.v 51), (.k (.int .i64 6))])⟩]) (.cond (.v 52) (.reg true [0, 1, 0, 0, 8, 24, 60, 0, 0, 256, 768, 2044, 4095, 8191] [⟨(some 53), none, (.fad 0 (.v 5))⟩, ⟨(some 54), none, (.ld false 1 (.v 53))⟩, ⟨(some 55), none, (.mv (.v 0))⟩, ⟨(some 56), none, (.fad 0 (.v 5))⟩, ⟨(some 57), none, (.ld false 1 (.v 56))⟩, ⟨(some 58), none, (.len 1 (.v 57))⟩, ⟨(some 59), none, (.call 54 [(.v 55), (.v 58)])⟩, ⟨(some 60), none, (.mv (.v 0))⟩, ⟨(some 61), none, (.fad 2 (.v 4))⟩, ⟨(some 62), none, (.ld false 1 (.v 61))⟩, ⟨(some 63), none, (.bin .add .none (.v 62) (.k (.int .i64 2)))⟩, ⟨(some 64), none, (.call 54 [(.v 60), (.v 63)])⟩, ⟨(some 65), none, (.ixa 1 (.v 54) (.v 59))⟩, ⟨none, none, (.st 1 (.v 65) (.v 64))⟩]) .skip)) (.seq (.reg true [0, 0, 1, 7] [⟨(some 66), none, (.ld true 3 (.v 4))⟩, ⟨(some 67), none, (.ld true 2 (.v 5))⟩, ⟨none, none, (.st 3 (.v 2) (.v 66))⟩, ⟨none, none, (.st 2 (.v 3) (.v 67))⟩]) .ret)))))))
def ir77 : Fn := ⟨.ref, 1, 68, [(.cell 2 true 3), (.cell 3 true 2)], ir77_c⟩
def ir78_c : C := (.seq (.reg false [] [⟨(some 4), none, (.mv (.k (.bool false)))⟩]) (.seq (.reg false [] [⟨(some 5), none, (.mv (.v 0))⟩, ⟨(some 6), none, (.mv (.v 1))⟩, ⟨(some 7), none, (.call 54 [(.v 5), (.v 6)])⟩, ⟨(some 8), none, (.bin .eql .none (.v 7) (.k (.int .i64 0)))⟩, ⟨(some 4), none, (.mv (.v 8))⟩]) .ret))
def ir78 : Fn := ⟨.ref, 2, 9, [(.tmp 4)], ir78_c⟩
def ir79_c : C := (.seq (.reg false [] [⟨(some 2), none, (.mv (.k (.int .i64 0)))⟩]) (.seq (.reg false [] [⟨(some 3), none, (.mv (.k (.int .i64 0)))⟩]) (.seq (.seq (.reg true [0, 1, 3, 7, 0, 16, 48, 112, 240, 511] [⟨(some 4), none, (.mv (.v 0))⟩, ⟨(some 5), none, (.nck (.v 4))⟩, ⟨(some 6), none, (.fad 1 (.v 5))⟩, ⟨(some 7), none, (.ld false 1 (.v 6))⟩, ⟨(some 8), none, (.mv (.v 0))⟩, ⟨(some 9), none, (.nck (.v 8))⟩, ⟨(some 10), none, (.fad 0 (.v 9))⟩, ⟨(some 11), none, (.ld false 1 (.v 10))⟩, ⟨(some 12), none, (.len 1 (.v 11))⟩, ⟨(some 13), none, (.bin .lss .none (.v 7) (.v 12))⟩]) (.cond (.v 13) (.reg true [0, 1, 3, 7, 0, 16, 48, 112, 255, 511, 1023, 2047] [⟨(some 14), none, (.mv (.v 0))⟩, ⟨(some 15), none, (.nck (.v 14))⟩, ⟨(some 16), none, (.fad 0 (.v 15))⟩, ⟨(some 17), none, (.ld false 1 (.v 16))⟩, ⟨(some 18), none, (.mv (.v 0))⟩, ⟨(some 19), none, (.nck (.v 18))⟩, ⟨(some 20), none, (.fad 1 (.v 19))⟩, ⟨(some 21), none, (.ld false 1 (.v 20))⟩, ⟨(some 22), none, (.ixa 1 (.v 17) (.v 21))⟩, ⟨(some 23), none, (.ld false 1 (.v 22))⟩, ⟨(some 24), none, (.cnv (.int .i64) (.v 23))⟩, ⟨(some 3), none, (.mv (.v 24))⟩]) .skip)) (.seq (.reg false [] [⟨(some 25), none, (.mv (.v 0))⟩, ⟨(some 26), none, (.nck (.v 25))⟩, ⟨(some 27), none, (.fad 1 (.v 26))⟩, ⟨(some 28), none, (.ld false 1 (.v 27))⟩, ⟨(some 29), none, (.bin .add .none (.v 28) (.k (.int .i64 1)))⟩, ⟨(some 30), none, (.nck (.v 25))⟩, ⟨(some 31), none, (.fad 1 (.v 30))⟩, ⟨none, none, (.st 1 (.v 31) (.v 29))⟩]) (.seq (.reg false [] [⟨(some 32), none, (.mv (.v 0))⟩, ⟨(some 33), none, (.mv (.v 0))⟩, ⟨(some 34), none, (.nck (.v 33))⟩, ⟨(some 35), none, (.fad 2 (.v 34))⟩, ⟨(some 36), none, (.ld false 1 (.v 35))⟩, ⟨(some 37), none, (.bin .mul .none (.v 36) (.k (.int .u64 6364136223846793005)))⟩, ⟨(some 38), none, (.mv (.v 3))⟩, ⟨(some 39), none, (.cnv (.int .u64) (.v 38))⟩, ⟨(some 40), none, (.bin .add .none (.v 37) (.v 39))⟩, ⟨(some 41), none, (.bin .add .none (.v 40) (.k (.int .u64 1442695040888963407)))⟩, ⟨(some 42), none, (.nck (.v 32))⟩, ⟨(some 43), none, (.fad 2 (.v 42))⟩, ⟨none, none, (.st 1 (.v 43) (.v 41))⟩]) (.seq (.seq (.reg true [0, 1, 3, 7, 0, 16, 48, 112, 240, 511] [⟨(some 44), none, (.mv (.v 0))⟩, ⟨(some 45), none, (.nck (.v 44))⟩, ⟨(some 46), none, (.fad 1 (.v 45))⟩, ⟨(some 47), none, (.ld false 1 (.v 46))⟩, ⟨(some 48), none, (.mv (.v 0))⟩, ⟨(some 49), none, (.nck (.v 48))⟩, ⟨(some 50), none, (.fad 0 (.v 49))⟩, ⟨(some 51), none, (.ld false 1 (.v 50))⟩, ⟨(some 52), none, (.len 1 (.v 51))⟩, ⟨(some 53), none, (.bin .leq .none (.v 47) (.v 52))⟩]) (.cond (.v 53) (.seq (.reg false [] [⟨(some 54), none, (.mv (.v 3))⟩, ⟨(some 2), none, (.mv (.v 54))⟩]) .ret) .skip)) (.seq (.reg false [] [⟨(some 55), none, (.mv (.v 0))⟩, ⟨(some 56), none, (.nck (.v 55))⟩, ⟨(some 57), none, (.fad 2 (.v 56))⟩, ⟨(some 58), none, (.ld false 1 (.v 57))⟩, ⟨(some 59), none, (.bin .shr .none (.v 58) (.k (.int .u64 40)))⟩, ⟨(some 60), none, (.bin .and .none (.v 59) (.k (.int .u64 255)))⟩, ⟨(some 61), none, (.cnv (.int .i64) (.v 60))⟩, ⟨(some 2), none, (.mv (.v 61))⟩]) .ret)))))))
def ir79 : Fn := ⟨.ref, 1, 62, [(.tmp 2)], ir79_c⟩
def ir80_c : C := (.seq (.reg false [] [⟨(some 4), none, (.mv (.k (.int .i64 0)))⟩]) (.seq (.reg false [] [⟨(some 5), none, (.mv (.v 1))⟩, ⟨(some 6), none, (.mv (.v 0))⟩, ⟨(some 7), none, (.mv (.v 1))⟩, ⟨(some 8), none, (.len 1 (.v 7))⟩, ⟨(some 9), none, (.call 54 [(.v 6), (.v 8)])⟩, ⟨(some 10), none, (.ixa 1 (.v 5) (.v 9))⟩, ⟨(some 11), none, (.ld false 1 (.v 10))⟩, ⟨(some 4), none, (.mv (.v 11))⟩]) .ret))
def ir80 : Fn := ⟨.ref, 2, 12, [(.tmp 4)], ir80_c⟩
def ir5_c : C := (.seq (.reg false [] [⟨(some 2), none, (.box (.v 0))⟩, ⟨(some 3), none, (.box (.v 1))⟩, ⟨(some 4), none, (.mv (.k .nil))⟩, ⟨(some 5), none, (.mv (.k (.bool false)))⟩]) (.seq (.seq (.reg false [] [⟨(some 6), none, (.ld true 3 (.v 2))⟩, ⟨(some 7), none, (.ld true 2 (.v 3))⟩, ⟨(some 8), none, (.call 31 [(.v 6), (.v 7)])⟩, ⟨(some 9), none, (.un .not (.v 8))⟩]) (.cond (.v 9) (.seq (.reg false [] [⟨(some 4), none, (.mv (.k .nil))⟩, ⟨(some 5), none, (.mv (.k (.bool false)))⟩]) .ret) .skip)) (.seq (.reg false [] [⟨(some 10), none, (.ld true 3 (.v 2))⟩, ⟨(some 11), none, (.ld true 2 (.v 3))⟩, ⟨(some 12), none, (.call 32 [(.v 10), (.v 11)])⟩, ⟨(some 4), none, (.mv (.v 12))⟩, ⟨(some 5), none, (.mv (.k (.bool true)))⟩]) .ret)))
def ir5 : Fn := ⟨.ownF, 2, 13, [(.tmp 4), (.tmp 5)], ir5_c⟩
def ir6_c : C := (.seq (.reg false [] [⟨(some 2), none, (.box (.v 0))⟩, ⟨(some 3), none, (.box (.v 1))⟩, ⟨(some 4), none, (.mv (.k .nil))⟩, ⟨(some 5), none, (.mv (.k (.bool false)))⟩]) (.seq (.seq (.reg false [] [⟨(some 6), none, (.ld true 3 (.v 2))⟩, ⟨(some 7), none, (.ld true 2 (.v 3))⟩, ⟨(some 8), none, (.call 33 [(.v 6), (.v 7)])⟩, ⟨(some 9), none, (.un .not (.v 8))⟩]) (.cond (.v 9) (.seq (.reg false [] [⟨(some 4), none, (.mv (.k .nil))⟩, ⟨(some 5), none, (.mv (.k (.bool false)))⟩]) .ret) .skip)) (.seq (.reg false [] [⟨(some 10), none, (.ld true 3 (.v 2))⟩, ⟨(some 11), none, (.ld true 2 (.v 3))⟩, ⟨(some 12), none, (.call 34 [(.v 10), (.v 11)])⟩, ⟨(some 4), none, (.mv (.v 12))⟩, ⟨(some 5), none, (.mv (.k (.bool true)))⟩]) .ret)))
def ir6 : Fn := ⟨.ownF, 2, 13, [(.tmp 4), (.tmp 5)], ir6_c⟩
def ir7_c : C := (.seq (.reg false [] [⟨(some 2), none, (.box (.v 0))⟩, ⟨(some 3), none, (.box (.v 1))⟩, ⟨(some 4), none, (.mv (.k (.bool false)))⟩, ⟨(some 5), none, (.mv (.k (.bool false)))⟩]) (.seq (.seq (.reg false [] [⟨(some 6), none, (.ld true 3 (.v 2))⟩, ⟨(some 7), none, (.ld true 2 (.v 3))⟩, ⟨(some 8), none, (.call 10 [(.v 6), (.v 7)])⟩, ⟨(some 9), none, (.un .not (.v 8))⟩]) (.cond (.v 9) (.seq (.reg false [] [⟨(some 4), none, (.mv (.k (.bool false)))⟩, ⟨(some 5), none, (.mv (.k (.bool false)))⟩]) .ret) .skip)) (.seq (.reg false [] [⟨(some 10), none, (.ld true 3 (.v 2))⟩, ⟨(some 11), none, (.ld true 2 (.v 3))⟩, ⟨(some 12), none, (.call 35 [(.v 10), (.v 11)])⟩, ⟨(some 4), none, (.mv (.v 12))⟩, ⟨(some 5), none, (.mv (.k (.bool true)))⟩]) .ret)))
def ir7 : Fn := ⟨.own, 2, 13, [(.tmp 4), (.tmp 5)], ir7_c⟩
def ir8_c : C := (.seq (.reg false [] [⟨(some 2), none, (.box (.v 0))⟩, ⟨(some 3), none, (.box (.v 1))⟩, ⟨(some 4), none, (.mv (.k (.bool false)))⟩, ⟨(some 5), none, (.mv (.k (.bool false)))⟩]) (.seq (.seq (.reg false [] [⟨(some 6), none, (.ld true 3 (.v 2))⟩, ⟨(some 7), none, (.ld true 2 (.v 3))⟩, ⟨(some 8), none, (.call 36 [(.v 6), (.v 7)])⟩, ⟨(some 9), none, (.un .not (.v 8))⟩]) (.cond (.v 9) (.seq (.reg false [] [⟨(some 4), none, (.mv (.k (.bool false)))⟩, ⟨(some 5), none, (.mv (.k (.bool false)))⟩]) .ret) .skip)) (.seq (.reg false [] [⟨(some 10), none, (.ld true 3 (.v 2))⟩, ⟨(some 11), none, (.ld true 2 (.v 3))⟩, ⟨(some 12), none, (.call 37 [(.v 10), (.v 11)])⟩, ⟨(some 4), none, (.mv (.v 12))⟩, ⟨(some 5), none, (.mv (.k (.bool true)))⟩]) .ret)))
def ir8 : Fn := ⟨.own, 2, 13, [(.tmp 4), (.tmp 5)], ir8_c⟩
def ir9_d0 : C := (.seq (.reg false [] [⟨(some 14), none, (.bin .lss .none (.v 13) (.v 12))⟩]) (.seq (.cond (.v 14) .skip (.exit 0)) (.seq (.block 1 (.seq (.reg false [] [⟨(some 15), none, (.mv (.v 13))⟩, ⟨(some 5), none, (.mv (.v 15))⟩]) (.seq (.reg true [0, 0, 3, 7, 0, 0, 48, 112, 255, 511] [⟨(some 16), none, (.mv (.v 0))⟩, ⟨(some 17), none, (.mv (.v 5))⟩, ⟨(some 18), none, (.ixa 2 (.v 16) (.v 17))⟩, ⟨(some 19), none, (.ld true 2 (.v 18))⟩, ⟨(some 20), none, (.mv (.v 1))⟩, ⟨(some 21), none, (.mv (.v 5))⟩, ⟨(some 22), none, (.ixa 2 (.v 20) (.v 21))⟩, ⟨(some 23), none, (.ld true 2 (.v 22))⟩, ⟨(some 24), none, (.call 38 [(.v 19), (.v 23)])⟩, ⟨(some 25), none, (.un .not (.v 24))⟩]) (.cond (.v 25) (.seq (.reg false [] [⟨(some 4), none, (.mv (.k (.bool false)))⟩]) .ret) .skip)))) (.reg false [] [⟨(some 26), none, (.bin .add .none (.v 13) (.k (.int .i64 1)))⟩, ⟨(some 13), none, (.mv (.v 26))⟩]))))
def ir9_b0 : C := ir9_d0
def ir9_l0 : C := .loop true [0, 1, 12, 13] ir9_b0
def ir9_c : C := (.seq (.reg false [] [⟨(some 4), none, (.mv (.k (.bool false)))⟩]) (.seq (.seq (.reg false [] [⟨(some 6), none, (.mv (.v 0))⟩, ⟨(some 7), none, (.len 1 (.v 6))⟩, ⟨(some 8), none, (.mv (.v 1))⟩, ⟨(some 9), none, (.len 1 (.v 8))⟩, ⟨(some 10), none, (.bin .neq .none (.v 7) (.v 9))⟩]) (.cond (.v 10) (.seq (.reg false [] [⟨(some 4), none, (.mv (.k (.bool false)))⟩]) .ret) .skip)) (.seq (.seq (.reg false [] [⟨(some 11), none, (.mv (.v 0))⟩, ⟨(some 12), none, (.len 1 (.v 11))⟩, ⟨(some 13), none, (.mv (.k (.int .i64 0)))⟩]) (.block 0 ir9_l0)) (.seq (.reg false [] [⟨(some 4), none, (.mv (.k (.bool true)))⟩]) .ret))))
def ir9 : Fn := ⟨.own, 2, 27, [(.tmp 4)], ir9_c⟩
def ir10_c : C := (.seq (.reg false [] [⟨(some 2), none, (.box (.v 0))⟩, ⟨(some 3), none, (.box (.v 1))⟩, ⟨(some 4), none, (.mv (.k (.bool false)))⟩]) (.seq (.reg false [] [⟨(some 5), none, (.ld true 3 (.v 2))⟩, ⟨(some 6), none, (.call 12 [(.v 5)])⟩, ⟨(some 7), none, (.mv (.v 6))⟩, ⟨(some 8), (some (7, true)), (.ld true 3 (.v 2))⟩, ⟨(some 9), (some (7, true)), (.ld true 2 (.v 3))⟩, ⟨(some 10), (some (7, true)), (.call 39 [(.v 8), (.v 9)])⟩, ⟨(some 11), none, (.pick (.v 7) (.v 10) (.k (.bool false)))⟩, ⟨(some 4), none, (.mv (.v 11))⟩]) .ret))
def ir10 : Fn := ⟨.own, 2, 12, [(.tmp 4)], ir10_c⟩
def ir11_c : C := (.seq (.reg false [] [⟨(some 2), none, (.box (.v 0))⟩, ⟨(some 3), none, (.box (.v 1))⟩, ⟨(some 4), none, (.mv (.k (.bool false)))⟩]) (.seq (.reg false [] [⟨(some 5), none, (.ld true 3 (.v 2))⟩, ⟨(some 6), none, (.ld true 2 (.v 3))⟩, ⟨(some 7), none, (.call 36 [(.v 5), (.v 6)])⟩, ⟨(some 4), none, (.mv (.v 7))⟩]) .ret))
def ir11 : Fn := ⟨.own, 2, 8, [(.tmp 4)], ir11_c⟩
def ir13_c : C := (.seq (.reg false [] [⟨(some 1), none, (.box (.v 0))⟩, ⟨(some 2), none, (.mv (.k (.bool false)))⟩]) (.seq (.reg false [] [⟨(some 3), none, (.ld true 3 (.v 1))⟩, ⟨(some 4), none, (.call 41 [(.v 3)])⟩, ⟨(some 2), none, (.mv (.v 4))⟩]) .ret))
def ir13 : Fn := ⟨.own, 1, 5, [(.tmp 2)], ir13_c⟩
def ir14_c : C := (.seq (.reg false [] [⟨(some 3), none, (.box (.v 0))⟩, ⟨(some 4), none, (.box (.v 1))⟩, ⟨(some 5), none, (.box (.v 2))⟩, ⟨(some 6), none, (.alc 2 [.nil, (.int .i64 0)])⟩, ⟨(some 7), none, (.mv (.k (.bool false)))⟩]) (.seq (.seq (.reg false [] [⟨(some 8), none, (.ld true 3 (.v 3))⟩, ⟨(some 9), none, (.ld true 2 (.v 4))⟩, ⟨(some 10), none, (.call 31 [(.v 8), (.v 9)])⟩, ⟨(some 11), none, (.un .not (.v 10))⟩, ⟨(some 12), none, (.mv (.v 11))⟩, ⟨(some 13), (some (12, false)), (.ld true 3 (.v 3))⟩, ⟨(some 14), (some (12, false)), (.ld true 2 (.v 4))⟩, ⟨(some 15), (some (12, false)), (.ld true 2 (.v 5))⟩, ⟨(some 16), (some (12, false)), (.call 42 [(.v 13), (.v 14), (.v 15)])⟩, ⟨(some 17), (some (12, false)), (.un .not (.v 16))⟩, ⟨(some 18), none, (.pick (.v 12) (.k (.bool true)) (.v 17))⟩]) (.cond (.v 18) (.seq (.reg false [] [⟨(some 19), none, (.bld [.nil, (.int .i64 0)] [])⟩, ⟨none, none, (.st 2 (.v 6) (.v 19))⟩, ⟨(some 7), none, (.mv (.k (.bool false)))⟩]) .ret) .skip)) (.seq (.reg false [] [⟨(some 20), none, (.ld true 2 (.v 4))⟩, ⟨(some 21), none, (.fad 0 (.v 5))⟩, ⟨(some 22), none, (.ld false 1 (.v 21))⟩, ⟨(some 23), none, (.fad 1 (.v 5))⟩, ⟨(some 24), none, (.ld false 1 (.v 23))⟩, ⟨(some 25), none, (.call 43 [(.v 20), (.v 22), (.v 24)])⟩, ⟨none, none, (.st 2 (.v 6) (.v 25))⟩, ⟨(some 7), none, (.mv (.k (.bool true)))⟩]) .ret)))
def ir14 : Fn := ⟨.own, 3, 26, [(.cell 6 true 2), (.tmp 7)], ir14_c⟩
def ir15_c : C := (.seq (.reg false [] [⟨(some 2), none, (.box (.v 0))⟩, ⟨(some 3), none, (.box (.v 1))⟩, ⟨(some 4), none, (.mv (.k (.bool false)))⟩]) (.seq (.reg false [] [⟨(some 5), none, (.fad 1 (.v 2))⟩, ⟨(some 6), none, (.ld false 1 (.v 5))⟩, ⟨(some 7), none, (.fad 1 (.v 3))⟩, ⟨(some 8), none, (.ld false 1 (.v 7))⟩, ⟨(some 9), none, (.bin .eql .none (.v 6) (.v 8))⟩, ⟨(some 10), none, (.mv (.v 9))⟩, ⟨(some 11), (some (10, true)), (.fad 0 (.v 2))⟩, ⟨(some 12), (some (10, true)), (.ld false 1 (.v 11))⟩, ⟨(some 13), (some (10, true)), (.fad 0 (.v 3))⟩, ⟨(some 14), (some (10, true)), (.ld false 1 (.v 13))⟩, ⟨(some 15), (some (10, true)), (.call 44 [(.v 12), (.v 14)])⟩, ⟨(some 16), none, (.pick (.v 10) (.v 15) (.k (.bool false)))⟩, ⟨(some 4), none, (.mv (.v 16))⟩]) .ret))
def ir15 : Fn := ⟨.own, 2, 17, [(.tmp 4)], ir15_c⟩
def ir16_d0 : C := (.seq (.seq (.reg false [] [⟨(some 6), none, (.mv (.v 5))⟩, ⟨(some 7), none, (.mv (.v 0))⟩, ⟨(some 8), none, (.len 1 (.v 7))⟩, ⟨(some 9), none, (.bin .lss .none (.v 6) (.v 8))⟩, ⟨(some 10), none, (.mv (.v 9))⟩, ⟨(some 11), (some (10, true)), (.mv (.v 5))⟩, ⟨(some 12), (some (10, true)), (.mv (.v 1))⟩, ⟨(some 13), (some (10, true)), (.len 1 (.v 12))⟩, ⟨(some 14), (some (10, true)), (.bin .lss .none (.v 11) (.v 13))⟩, ⟨(some 15), none, (.pick (.v 10) (.v 14) (.k (.bool false)))⟩]) (.cond (.v 15) .skip (.exit 0))) (.seq (.block 1 (.seq (.reg true [0, 0, 3, 7, 0, 0, 48, 112, 255] [⟨(some 18), none, (.mv (.v 0))⟩, ⟨(some 19), none, (.mv (.v 5))⟩, ⟨(some 20), none, (.ixa 1 (.v 18) (.v 19))⟩, ⟨(some 21), none, (.ld false 1 (.v 20))⟩, ⟨(some 22), none, (.mv (.v 1))⟩, ⟨(some 23), none, (.mv (.v 5))⟩, ⟨(some 24), none, (.ixa 1 (.v 22) (.v 23))⟩, ⟨(some 25), none, (.ld false 1 (.v 24))⟩, ⟨(some 26), none, (.bin .neq .none (.v 21) (.v 25))⟩]) (.cond (.v 26) (.seq (.reg true [0, 0, 3, 7, 0, 0, 48, 112, 255, 511] [⟨(some 27), none, (.mv (.v 0))⟩, ⟨(some 28), none, (.mv (.v 5))⟩, ⟨(some 29), none, (.ixa 1 (.v 27) (.v 28))⟩, ⟨(some 30), none, (.ld false 1 (.v 29))⟩, ⟨(some 31), none, (.mv (.v 1))⟩, ⟨(some 32), none, (.mv (.v 5))⟩, ⟨(some 33), none, (.ixa 1 (.v 31) (.v 32))⟩, ⟨(some 34), none, (.ld false 1 (.v 33))⟩, ⟨(some 35), none, (.bin .lss .none (.v 30) (.v 34))⟩, ⟨(some 4), none, (.mv (.v 35))⟩]) .ret) .skip))) (.reg false [] [⟨(some 16), none, (.mv (.v 5))⟩, ⟨(some 17), none, (.bin .add .none (.v 16) (.k (.int .i64 1)))⟩, ⟨(some 5), none, (.mv (.v 17))⟩])))
def ir16_b0 : C := ir16_d0
def ir16_l0 : C := .loop true [0, 1, 5] ir16_b0
def ir16_c : C := (.seq (.reg false [] [⟨(some 4), none, (.mv (.k (.bool false)))⟩]) (.seq (.seq (.reg false [] [⟨(some 5), none, (.mv (.k (.int .i64 0)))⟩]) (.block 0 ir16_l0)) (.seq (.reg false [] [⟨(some 36), none, (.mv (.v 0))⟩, ⟨(some 37), none, (.len 1 (.v 36))⟩, ⟨(some 38), none, (.mv (.v 1))⟩, ⟨(some 39), none, (.len 1 (.v 38))⟩, ⟨(some 40), none, (.bin .lss .none (.v 37) (.v 39))⟩, ⟨(some 4), none, (.mv (.v 40))⟩]) .ret)))
def ir16 : Fn := ⟨.own, 2, 41, [(.tmp 4)], ir16_c⟩
def ir17_c : C := (.seq (.reg false [] [⟨(some 3), none, (.box (.v 0))⟩, ⟨(some 4), none, (.box (.v 1))⟩, ⟨(some 5), none, (.box (.v 2))⟩, ⟨(some 6), none, (.alc 2 [.nil, (.int .i64 0)])⟩, ⟨(some 7), none, (.mv (.k (.bool false)))⟩]) (.seq (.seq (.reg false [] [⟨(some 8), none, (.ld true 3 (.v 3))⟩, ⟨(some 9), none, (.ld true 2 (.v 4))⟩, ⟨(some 10), none, (.call 33 [(.v 8), (.v 9)])⟩, ⟨(some 11), none, (.un .not (.v 10))⟩, ⟨(some 12), none, (.mv (.v 11))⟩, ⟨(some 13), (some (12, false)), (.ld true 3 (.v 3))⟩, ⟨(some 14), (some (12, false)), (.ld true 2 (.v 4))⟩, ⟨(some 15), (some (12, false)), (.ld true 2 (.v 5))⟩, ⟨(some 16), (some (12, false)), (.call 45 [(.v 13), (.v 14), (.v 15)])⟩, ⟨(some 17), (some (12, false)), (.un .not (.v 16))⟩, ⟨(some 18), none, (.pick (.v 12) (.k (.bool true)) (.v 17))⟩]) (.cond (.v 18) (.seq (.reg false [] [⟨(some 19), none, (.bld [.nil, (.int .i64 0)] [])⟩, ⟨none, none, (.st 2 (.v 6) (.v 19))⟩, ⟨(some 7), none, (.mv (.k (.bool false)))⟩]) .ret) .skip)) (.seq (.reg false [] [⟨(some 20), none, (.ld true 2 (.v 4))⟩, ⟨(some 21), none, (.ld true 2 (.v 5))⟩, ⟨(some 22), none, (.call 46 [(.v 20), (.v 21)])⟩, ⟨none, none, (.st 2 (.v 6) (.v 22))⟩, ⟨(some 7), none, (.mv (.k (.bool true)))⟩]) .ret)))
def ir17 : Fn := ⟨.own, 3, 23, [(.cell 6 true 2), (.tmp 7)], ir17_c⟩
def ir18_c : C := (.seq (.reg false [] [⟨(some 3), none, (.box (.v 0))⟩, ⟨(some 4), none, (.box (.v 1))⟩, ⟨(some 6), none, (.alc 2 [.nil, (.int .i64 0)])⟩, ⟨(some 7), none, (.mv (.k (.bool false)))⟩]) (.seq (.seq (.reg false [] [⟨(some 10), none, (.ld true 3 (.v 3))⟩, ⟨(some 11), none, (.ld true 2 (.v 4))⟩, ⟨(some 12), none, (.call 31 [(.v 10), (.v 11)])⟩, ⟨(some 13), none, (.un .not (.v 12))⟩, ⟨(some 14), none, (.mv (.v 13))⟩, ⟨(some 15), (some (14, false)), (.mv (.v 2))⟩, ⟨(some 16), (some (14, false)), (.len 1 (.v 15))⟩, ⟨(some 17), (some (14, false)), (.bin .gtr .none (.v 16) (.k (.int .i64 40)))⟩, ⟨(some 18), none, (.pick (.v 14) (.k (.bool true)) (.v 17))⟩]) (.cond (.v 18) (.seq (.reg false [] [⟨(some 19), none, (.bld [.nil, (.int .i64 0)] [])⟩, ⟨none, none, (.st 2 (.v 6) (.v 19))⟩, ⟨(some 7), none, (.mv (.k (.bool false)))⟩]) .ret) .skip)) (.seq (.reg false [] [⟨(some 21), none, (.ld true 3 (.v 3))⟩, ⟨(some 22), none, (.ld true 2 (.v 4))⟩, ⟨(some 23), none, (.mv (.v 2))⟩, ⟨(some 24), none, (.call 47 [(.v 21), (.v 22), (.v 23)])⟩, ⟨(some 20), none, (.mv (.v 24))⟩, ⟨(some 25), none, (.ext (.v 20) 0)⟩, ⟨(some 26), none, (.ext (.v 20) 1)⟩, ⟨(some 8), none, (.alc 2 [.nil, (.int .i64 0)])⟩, ⟨none, none, (.st 2 (.v 8) (.v 25))⟩, ⟨(some 9), none, (.mv (.v 26))⟩]) (.seq (.seq (.reg false [] [⟨(some 27), none, (.mv (.v 9))⟩, ⟨(some 28), none, (.bin .geq .none (.v 27) (.k (.int .i64 0)))⟩]) (.cond (.v 28) (.seq (.reg false [] [⟨(some 29), none, (.bld [.nil, (.int .i64 0)] [])⟩, ⟨none, none, (.st 2 (.v 6) (.v 29))⟩, ⟨(some 7), none, (.mv (.k (.bool false)))⟩]) .ret) .skip)) (.seq (.reg false [] [⟨(some 30), none, (.ld true 2 (.v 8))⟩, ⟨none, none, (.st 2 (.v 6) (.v 30))⟩, ⟨(some 7), none, (.mv (.k (.bool true)))⟩]) .ret)))))
def ir18 : Fn := ⟨.own, 3, 31, [(.cell 6 true 2), (.tmp 7)], ir18_c⟩
def ir19_c : C := (.seq (.reg false [] [⟨(some 3), none, (.box (.v 0))⟩, ⟨(some 4), none, (.box (.v 1))⟩, ⟨(some 6), none, (.alc 2 [.nil, (.int .i64 0)])⟩, ⟨(some 7), none, (.mv (.k (.bool false)))⟩]) (.seq (.seq (.reg false [] [⟨(some 10), none, (.ld true 3 (.v 3))⟩, ⟨(some 11), none, (.ld true 2 (.v 4))⟩, ⟨(some 12), none, (.call 33 [(.v 10), (.v 11)])⟩, ⟨(some 13), none, (.un .not (.v 12))⟩, ⟨(some 14), none, (.mv (.v 13))⟩, ⟨(some 15), (some (14, false)), (.mv (.v 2))⟩, ⟨(some 16), (some (14, false)), (.len 1 (.v 15))⟩, ⟨(some 17), (some (14, false)), (.bin .gtr .none (.v 16) (.k (.int .i64 40)))⟩, ⟨(some 18), none, (.pick (.v 14) (.k (.bool true)) (.v 17))⟩]) (.cond (.v 18) (.seq (.reg false [] [⟨(some 19), none, (.bld [.nil, (.int .i64 0)] [])⟩, ⟨none, none, (.st 2 (.v 6) (.v 19))⟩, ⟨(some 7), none, (.mv (.k (.bool false)))⟩]) .ret) .skip)) (.seq (.reg false [] [⟨(some 21), none, (.ld true 3 (.v 3))⟩, ⟨(some 22), none, (.ld true 2 (.v 4))⟩, ⟨(some 23), none, (.mv (.v 2))⟩, ⟨(some 24), none, (.call 48 [(.v 21), (.v 22), (.v 23)])⟩, ⟨(some 20), none, (.mv (.v 24))⟩, ⟨(some 25), none, (.ext (.v 20) 0)⟩, ⟨(some 26), none, (.ext (.v 20) 1)⟩, ⟨(some 8), none, (.alc 2 [.nil, (.int .i64 0)])⟩, ⟨none, none, (.st 2 (.v 8) (.v 25))⟩, ⟨(some 9), none, (.mv (.v 26))⟩]) (.seq (.seq (.reg false [] [⟨(some 27), none, (.mv (.v 9))⟩, ⟨(some 28), none, (.mv (.v 2))⟩, ⟨(some 29), none, (.len 1 (.v 28))⟩, ⟨(some 30), none, (.bin .lss .none (.v 27) (.v 29))⟩]) (.cond (.v 30) (.seq (.reg false [] [⟨(some 31), none, (.bld [.nil, (.int .i64 0)] [])⟩, ⟨none, none, (.st 2 (.v 6) (.v 31))⟩, ⟨(some 7), none, (.mv (.k (.bool false)))⟩]) .ret) .skip)) (.seq (.reg false [] [⟨(some 32), none, (.ld true 2 (.v 8))⟩, ⟨none, none, (.st 2 (.v 6) (.v 32))⟩, ⟨(some 7), none, (.mv (.k (.bool true)))⟩]) .ret)))))
def ir19 : Fn := ⟨.own, 3, 33, [(.cell 6 true 2), (.tmp 7)], ir19_c⟩
def ir20_c : C := (.seq (.reg false [] [⟨(some 3), none, (.box (.v 0))⟩, ⟨(some 4), none, (.box (.v 1))⟩, ⟨(some 6), none, (.mv (.k (.int .i64 0)))⟩, ⟨(some 7), none, (.mv (.k (.bool false)))⟩]) (.seq (.seq (.reg false [] [⟨(some 10), none, (.ld true 3 (.v 3))⟩, ⟨(some 11), none, (.ld true 2 (.v 4))⟩, ⟨(some 12), none, (.call 31 [(.v 10), (.v 11)])⟩, ⟨(some 13), none, (.un .not (.v 12))⟩, ⟨(some 14), none, (.mv (.v 13))⟩, ⟨(some 15), (some (14, false)), (.mv (.v 2))⟩, ⟨(some 16), (some (14, false)), (.len 1 (.v 15))⟩, ⟨(some 17), (some (14, false)), (.bin .gtr .none (.v 16) (.k (.int .i64 40)))⟩, ⟨(some 18), none, (.pick (.v 14) (.k (.bool true)) (.v 17))⟩]) (.cond (.v 18) (.seq (.reg false [] [⟨(some 6), none, (.mv (.k (.int .i64 0)))⟩, ⟨(some 7), none, (.mv (.k (.bool false)))⟩]) .ret) .skip)) (.seq (.reg false [] [⟨(some 20), none, (.ld true 3 (.v 3))⟩, ⟨(some 21), none, (.ld true 2 (.v 4))⟩, ⟨(some 22), none, (.mv (.v 2))⟩, ⟨(some 23), none, (.call 47 [(.v 20), (.v 21), (.v 22)])⟩, ⟨(some 19), none, (.mv (.v 23))⟩, ⟨(some 24), none, (.ext (.v 19) 0)⟩, ⟨(some 25), none, (.ext (.v 19) 1)⟩, ⟨(some 8), none, (.alc 2 [.nil, (.int .i64 0)])⟩, ⟨none, none, (.st 2 (.v 8) (.v 24))⟩, ⟨(some 9), none, (.mv (.v 25))⟩]) (.seq (.reg false [] [⟨(some 26), none, (.mv (.v 9))⟩, ⟨(some 27), none, (.mx true (.v 26) (.k (.int .i64 0)))⟩, ⟨(some 28), none, (.mv (.v 9))⟩, ⟨(some 29), none, (.bin .geq .none (.v 28) (.k (.int .i64 0)))⟩, ⟨(some 6), none, (.mv (.v 27))⟩, ⟨(some 7), none, (.mv (.v 29))⟩]) .ret))))
def ir20 : Fn := ⟨.own, 3, 30, [(.tmp 6), (.tmp 7)], ir20_c⟩
def ir21_c : C := (.seq (.reg false [] [⟨(some 3), none, (.box (.v 0))⟩, ⟨(some 4), none, (.box (.v 1))⟩, ⟨(some 6), none, (.mv (.k (.int .i64 0)))⟩, ⟨(some 7), none, (.mv (.k (.bool false)))⟩]) (.seq (.seq (.reg false [] [⟨(some 10), none, (.ld true 3 (.v 3))⟩, ⟨(some 11), none, (.ld true 2 (.v 4))⟩, ⟨(some 12), none, (.call 33 [(.v 10), (.v 11)])⟩, ⟨(some 13), none, (.un .not (.v 12))⟩, ⟨(some 14), none, (.mv (.v 13))⟩, ⟨(some 15), (some (14, false)), (.mv (.v 2))⟩, ⟨(some 16), (some (14, false)), (.len 1 (.v 15))⟩, ⟨(some 17), (some (14, false)), (.bin .gtr .none (.v 16) (.k (.int .i64 40)))⟩, ⟨(some 18), none, (.pick (.v 14) (.k (.bool true)) (.v 17))⟩]) (.cond (.v 18) (.seq (.reg false [] [⟨(some 6), none, (.mv (.k (.int .i64 0)))⟩, ⟨(some 7), none, (.mv (.k (.bool false)))⟩]) .ret) .skip)) (.seq (.reg false [] [⟨(some 20), none, (.ld true 3 (.v 3))⟩, ⟨(some 21), none, (.ld true 2 (.v 4))⟩, ⟨(some 22), none, (.mv (.v 2))⟩, ⟨(some 23), none, (.call 48 [(.v 20), (.v 21), (.v 22)])⟩, ⟨(some 19), none, (.mv (.v 23))⟩, ⟨(some 24), none, (.ext (.v 19) 0)⟩, ⟨(some 25), none, (.ext (.v 19) 1)⟩, ⟨(some 8), none, (.alc 2 [.nil, (.int .i64 0)])⟩, ⟨none, none, (.st 2 (.v 8) (.v 24))⟩, ⟨(some 9), none, (.mv (.v 25))⟩]) (.seq (.seq (.reg false [] [⟨(some 26), none, (.mv (.v 9))⟩, ⟨(some 27), none, (.mv (.v 2))⟩, ⟨(some 28), none, (.len 1 (.v 27))⟩, ⟨(some 29), none, (.bin .eql .none (.v 26) (.v 28))⟩]) (.cond (.v 29) (.seq (.reg false [] [⟨(some 6), none, (.mv (.k (.int .i64 0)))⟩, ⟨(some 7), none, (.mv (.k (.bool false)))⟩]) .ret) .skip)) (.seq (.reg false [] [⟨(some 30), none, (.mv (.v 9))⟩, ⟨(some 6), none, (.mv (.v 30))⟩, ⟨(some 7), none, (.mv (.k (.bool true)))⟩]) .ret)))))
def ir21 : Fn := ⟨.own, 3, 31, [(.tmp 6), (.tmp 7)], ir21_c⟩
def ir22_c : C := (.seq (.reg false [] [⟨(some 1), none, (.box (.v 0))⟩, ⟨(some 2), none, (.alc 2 [.nil, (.int .i64 0)])⟩, ⟨(some 3), none, (.mv (.k (.bool false)))⟩]) (.seq (.seq (.reg false [] [⟨(some 4), none, (.ld true 3 (.v 1))⟩, ⟨(some 5), none, (.call 12 [(.v 4)])⟩, ⟨(some 6), none, (.un .not (.v 5))⟩]) (.cond (.v 6) (.seq (.reg false [] [⟨(some 7), none, (.bld [.nil, (.int .i64 0)] [])⟩, ⟨none, none, (.st 2 (.v 2) (.v 7))⟩, ⟨(some 3), none, (.mv (.k (.bool false)))⟩]) .ret) .skip)) (.seq (.reg false [] [⟨(some 8), none, (.ld true 3 (.v 1))⟩, ⟨(some 9), none, (.call 49 [(.v 8), (.k (.int .i64 0))])⟩, ⟨none, none, (.st 2 (.v 2) (.v 9))⟩, ⟨(some 3), none, (.mv (.k (.bool true)))⟩]) .ret)))
def ir22 : Fn := ⟨.own, 1, 10, [(.cell 2 true 2), (.tmp 3)], ir22_c⟩
def ir23_c : C := (.seq (.reg false [] [⟨(some 1), none, (.box (.v 0))⟩, ⟨(some 2), none, (.alc 2 [.nil, (.int .i64 0)])⟩, ⟨(some 3), none, (.mv (.k (.bool false)))⟩]) (.seq (.seq (.reg false [] [⟨(some 4), none, (.ld true 3 (.v 1))⟩, ⟨(some 5), none, (.call 41 [(.v 4)])⟩, ⟨(some 6), none, (.un .not (.v 5))⟩]) (.cond (.v 6) (.seq (.reg false [] [⟨(some 7), none, (.bld [.nil, (.int .i64 0)] [])⟩, ⟨none, none, (.st 2 (.v 2) (.v 7))⟩, ⟨(some 3), none, (.mv (.k (.bool false)))⟩]) .ret) .skip)) (.seq (.reg false [] [⟨(some 8), none, (.ld true 3 (.v 1))⟩, ⟨(some 9), none, (.call 50 [(.v 8), (.k (.int .i64 0))])⟩, ⟨none, none, (.st 2 (.v 2) (.v 9))⟩, ⟨(some 3), none, (.mv (.k (.bool true)))⟩]) .ret)))
def ir23 : Fn := ⟨.own, 1, 10, [(.cell 2 true 2), (.tmp 3)], ir23_c⟩
def ir24_c : C := (.seq (.reg false [] [⟨(some 1), none, (.box (.v 0))⟩, ⟨(some 2), none, (.alc 2 [.nil, (.int .i64 0)])⟩, ⟨(some 3), none, (.mv (.k (.bool false)))⟩]) (.seq (.seq (.reg false [] [⟨(some 4), none, (.ld true 3 (.v 1))⟩, ⟨(some 5), none, (.call 12 [(.v 4)])⟩, ⟨(some 6), none, (.un .not (.v 5))⟩]) (.cond (.v 6) (.seq (.reg false [] [⟨(some 7), none, (.bld [.nil, (.int .i64 0)] [])⟩, ⟨none, none, (.st 2 (.v 2) (.v 7))⟩, ⟨(some 3), none, (.mv (.k (.bool false)))⟩]) .ret) .skip)) (.seq (.reg true [0, 0, 2, 7, 15, 31] [⟨(some 8), none, (.ld true 3 (.v 1))⟩, ⟨(some 9), none, (.ld true 3 (.v 1))⟩, ⟨(some 10), none, (.call 51 [(.v 9)])⟩, ⟨(some 11), none, (.call 49 [(.v 8), (.v 10)])⟩, ⟨none, none, (.st 2 (.v 2) (.v 11))⟩, ⟨(some 3), none, (.mv (.k (.bool true)))⟩]) .ret)))
def ir24 : Fn := ⟨.own, 1, 12, [(.cell 2 true 2), (.tmp 3)], ir24_c⟩
def ir25_c : C := (.seq (.reg false [] [⟨(some 1), none, (.box (.v 0))⟩, ⟨(some 2), none, (.alc 2 [.nil, (.int .i64 0)])⟩, ⟨(some 3), none, (.mv (.k (.bool false)))⟩]) (.seq (.seq (.reg false [] [⟨(some 4), none, (.ld true 3 (.v 1))⟩, ⟨(some 5), none, (.call 41 [(.v 4)])⟩, ⟨(some 6), none, (.un .not (.v 5))⟩]) (.cond (.v 6) (.seq (.reg false [] [⟨(some 7), none, (.bld [.nil, (.int .i64 0)] [])⟩, ⟨none, none, (.st 2 (.v 2) (.v 7))⟩, ⟨(some 3), none, (.mv (.k (.bool false)))⟩]) .ret) .skip)) (.seq (.reg false [] [⟨(some 8), none, (.ld true 3 (.v 1))⟩, ⟨(some 9), none, (.fad 2 (.v 1))⟩, ⟨(some 10), none, (.ld false 1 (.v 9))⟩, ⟨(some 11), none, (.bin .add .none (.v 10) (.k (.int .i64 1)))⟩, ⟨(some 12), none, (.call 50 [(.v 8), (.v 11)])⟩, ⟨none, none, (.st 2 (.v 2) (.v 12))⟩, ⟨(some 3), none, (.mv (.k (.bool true)))⟩]) .ret)))
def ir25 : Fn := ⟨.own, 1, 13, [(.cell 2 true 2), (.tmp 3)], ir25_c⟩
def ir31_c : C := (.seq (.reg false [] [⟨(some 2), none, (.box (.v 0))⟩, ⟨(some 3), none, (.box (.v 1))⟩, ⟨(some 4), none, (.mv (.k (.bool false)))⟩]) (.seq (.reg false [] [⟨(some 5), none, (.ld true 3 (.v 2))⟩, ⟨(some 6), none, (.ld true 2 (.v 3))⟩, ⟨(some 7), none, (.call 10 [(.v 5), (.v 6)])⟩, ⟨(some 8), none, (.mv (.v 7))⟩, ⟨(some 9), (some (8, true)), (.ld true 3 (.v 2))⟩, ⟨(some 10), (some (8, true)), (.ld true 2 (.v 3))⟩, ⟨(some 11), (some (8, true)), (.call 35 [(.v 9), (.v 10)])⟩, ⟨(some 12), none, (.pick (.v 8) (.v 11) (.k (.bool false)))⟩, ⟨(some 4), none, (.mv (.v 12))⟩]) .ret))
def ir31 : Fn := ⟨.own, 2, 13, [(.tmp 4)], ir31_c⟩
def ir33_c : C := (.seq (.reg false [] [⟨(some 2), none, (.box (.v 0))⟩, ⟨(some 3), none, (.box (.v 1))⟩, ⟨(some 4), none, (.mv (.k (.bool false)))⟩]) (.seq (.reg false [] [⟨(some 5), none, (.ld true 3 (.v 2))⟩, ⟨(some 6), none, (.ld true 2 (.v 3))⟩, ⟨(some 7), none, (.call 36 [(.v 5), (.v 6)])⟩, ⟨(some 8), none, (.mv (.v 7))⟩, ⟨(some 9), (some (8, true)), (.ld true 3 (.v 2))⟩, ⟨(some 10), (some (8, true)), (.ld true 2 (.v 3))⟩, ⟨(some 11), (some (8, true)), (.call 37 [(.v 9), (.v 10)])⟩, ⟨(some 12), none, (.pick (.v 8) (.v 11) (.k (.bool false)))⟩, ⟨(some 4), none, (.mv (.v 12))⟩]) .ret))
def ir33 : Fn := ⟨.own, 2, 13, [(.tmp 4)], ir33_c⟩
def ir36_c : C := (.seq (.reg false [] [⟨(some 2), none, (.box (.v 0))⟩, ⟨(some 3), none, (.box (.v 1))⟩, ⟨(some 4), none, (.mv (.k (.bool false)))⟩]) (.seq (.reg false [] [⟨(some 5), none, (.ld true 3 (.v 2))⟩, ⟨(some 6), none, (.call 41 [(.v 5)])⟩, ⟨(some 7), none, (.mv (.v 6))⟩, ⟨(some 8), (some (7, true)), (.fad 0 (.v 3))⟩, ⟨(some 9), (some (7, true)), (.ld false 1 (.v 8))⟩, ⟨(some 10), (some (7, true)), (.len 1 (.v 9))⟩, ⟨(some 11), (some (7, true)), (.fad 0 (.v 2))⟩, ⟨(some 12), (some (7, true)), (.ld false 1 (.v 11))⟩, ⟨(some 13), (some (7, true)), (.bin .mul .none (.k (.int .i64 2)) (.v 12))⟩, ⟨(some 14), (some (7, true)), (.bin .eql .none (.v 10) (.v 13))⟩, ⟨(some 15), none, (.pick (.v 7) (.v 14) (.k (.bool false)))⟩, ⟨(some 16), none, (.mv (.v 15))⟩, ⟨(some 17), (some (16, true)), (.fad 0 (.v 3))⟩, ⟨(some 18), (some (16, true)), (.ld false 1 (.v 17))⟩, ⟨(some 19), (some (16, true)), (.fad 2 (.v 2))⟩, ⟨(some 20), (some (16, true)), (.ld false 1 (.v 19))⟩, ⟨(some 21), (some (16, true)), (.bin .add .none (.v 20) (.k (.int .i64 1)))⟩, ⟨(some 22), (some (16, true)), (.call 62 [(.v 18), (.k (.int .i64 0)), (.v 21)])⟩, ⟨(some 23), none, (.pick (.v 16) (.v 22) (.k (.bool false)))⟩, ⟨(some 24), none, (.mv (.v 23))⟩, ⟨(some 25), (some (24, true)), (.fad 0 (.v 3))⟩, ⟨(some 26), (some (24, true)), (.ld false 1 (.v 25))⟩, ⟨(some 27), (some (24, true)), (.fad 1 (.v 3))⟩, ⟨(some 28), (some (24, true)), (.ld false 1 (.v 27))⟩, ⟨(some 29), (some (24, true)), (.call 63 [(.v 26), (.v 28)])⟩, ⟨(some 30), none, (.pick (.v 24) (.v 29) (.k (.bool false)))⟩, ⟨(some 4), none, (.mv (.v 30))⟩]) .ret))
def ir36 : Fn := ⟨.own, 2, 31, [(.tmp 4)], ir36_c⟩
def ir38_c : C := (.seq (.reg false [] [⟨(some 2), none, (.box (.v 0))⟩, ⟨(some 3), none, (.box (.v 1))⟩, ⟨(some 4), none, (.mv (.k (.bool false)))⟩]) (.seq (.reg false [] [⟨(some 5), none, (.fad 0 (.v 2))⟩, ⟨(some 6), none, (.ld false 1 (.v 5))⟩, ⟨(some 7), none, (.fad 0 (.v 3))⟩, ⟨(some 8), none, (.ld false 1 (.v 7))⟩, ⟨(some 9), none, (.bin .eql .none (.v 6) (.v 8))⟩, ⟨(some 10), none, (.mv (.v 9))⟩, ⟨(some 11), (some (10, true)), (.fad 1 (.v 2))⟩, ⟨(some 12), (some (10, true)), (.ld false 1 (.v 11))⟩, ⟨(some 13), (some (10, true)), (.fad 1 (.v 3))⟩, ⟨(some 14), (some (10, true)), (.ld false 1 (.v 13))⟩, ⟨(some 15), (some (10, true)), (.call 44 [(.v 12), (.v 14)])⟩, ⟨(some 16), none, (.pick (.v 10) (.v 15) (.k (.bool false)))⟩, ⟨(some 4), none, (.mv (.v 16))⟩]) .ret))
def ir38 : Fn := ⟨.own, 2, 17, [(.tmp 4)], ir38_c⟩
def ir39_c : C := (.seq (.reg false [] [⟨(some 2), none, (.box (.v 0))⟩, ⟨(some 3), none, (.box (.v 1))⟩, ⟨(some 4), none, (.mv (.k (.bool false)))⟩]) (.seq (.reg true [0, 1, 0, 4, 0, 28, 0, 124, 255, 511, 1023, 2047, 1023, 5119, 16383, 32767, 65535] [⟨(some 5), none, (.fad 0 (.v 3))⟩, ⟨(some 6), none, (.ld false 1 (.v 5))⟩, ⟨(some 7), none, (.ld true 3 (.v 2))⟩, ⟨(some 8), none, (.call 51 [(.v 7)])⟩, ⟨(some 9), none, (.ld true 3 (.v 2))⟩, ⟨(some 10), none, (.call 66 [(.v 9)])⟩, ⟨(some 11), none, (.ld true 3 (.v 2))⟩, ⟨(some 12), none, (.call 66 [(.v 11)])⟩, ⟨(some 13), none, (.call 65 [(.v 6), (.k (.int .i64 0)), (.v 8), (.v 10), (.v 12)])⟩, ⟨(some 14), none, (.mv (.v 13))⟩, ⟨(some 15), (some (14, true)), (.fad 0 (.v 3))⟩, ⟨(some 16), (some (14, true)), (.ld false 1 (.v 15))⟩, ⟨(some 17), (some (14, true)), (.fad 1 (.v 3))⟩, ⟨(some 18), (some (14, true)), (.ld false 1 (.v 17))⟩, ⟨(some 19), (some (14, true)), (.call 67 [(.v 16), (.v 18)])⟩, ⟨(some 20), none, (.pick (.v 14) (.v 19) (.k (.bool false)))⟩, ⟨(some 4), none, (.mv (.v 20))⟩]) .ret))
def ir39 : Fn := ⟨.own, 2, 21, [(.tmp 4)], ir39_c⟩
def ir42_c : C := (.seq (.reg false [] [⟨(some 3), none, (.box (.v 0))⟩, ⟨(some 4), none, (.box (.v 1))⟩, ⟨(some 5), none, (.box (.v 2))⟩, ⟨(some 6), none, (.mv (.k (.bool false)))⟩]) (.seq (.seq (.reg true [0, 1, 0, 4, 15, 31, 63, 127, 255, 127, 639, 2047, 4095, 8191, 16383, 32767, 16383, 81919, 212991, 16383, 540671, 2097151, 4194303, 8388607, 16777215, 33554431, 67108863, 134217727, 268435455, 536870911] [⟨(some 8), none, (.fad 0 (.v 5))⟩, ⟨(some 9), none, (.ld false 1 (.v 8))⟩, ⟨(some 10), none, (.ld true 3 (.v 3))⟩, ⟨(some 11), none, (.call 51 [(.v 10)])⟩, ⟨(some 12), none, (.call 40 [(.v 9), (.k (.int .i64 0)), (.v 11)])⟩, ⟨(some 13), none, (.un .not (.v 12))⟩, ⟨(some 14), none, (.mv (.v 13))⟩, ⟨(some 15), (some (14, false)), (.fad 0 (.v 5))⟩, ⟨(some 16), (some (14, false)), (.ld false 1 (.v 15))⟩, ⟨(some 17), (some (14, false)), (.fad 1 (.v 4))⟩, ⟨(some 18), (some (14, false)), (.ld false 1 (.v 17))⟩, ⟨(some 19), (some (14, false)), (.bin .eql .none (.v 16) (.v 18))⟩, ⟨(some 20), none, (.pick (.v 14) (.k (.bool true)) (.v 19))⟩, ⟨(some 21), none, (.mv (.v 20))⟩, ⟨(some 22), (some (21, false)), (.fad 1 (.v 5))⟩, ⟨(some 23), (some (21, false)), (.ld false 1 (.v 22))⟩, ⟨(some 24), (some (21, false)), (.ld true 3 (.v 3))⟩, ⟨(some 25), (some (21, false)), (.call 66 [(.v 24)])⟩, ⟨(some 26), (some (21, false)), (.bin .sub .none (.v 25) (.k (.int .i64 1)))⟩, ⟨(some 27), (some (21, false)), (.fad 1 (.v 3))⟩, ⟨(some 28), (some (21, false)), (.ld false 1 (.v 27))⟩, ⟨(some 29), (some (21, false)), (.call 65 [(.v 23), (.k (.int .i64 0)), (.v 26), (.k (.int .i64 1)), (.v 28)])⟩, ⟨(some 30), (some (21, false)), (.un .not (.v 29))⟩, ⟨(some 31), none, (.pick (.v 21) (.k (.bool true)) (.v 30))⟩, ⟨(some 32), none, (.mv (.v 31))⟩, ⟨(some 33), (some (32, false)), (.fad 1 (.v 5))⟩, ⟨(some 34), (some (32, false)), (.ld false 1 (.v 33))⟩, ⟨(some 35), (some (32, false)), (.call 69 [(.v 34)])⟩, ⟨(some 36), (some (32, false)), (.un .not (.v 35))⟩, ⟨(some 37), none, (.pick (.v 32) (.k (.bool true)) (.v 36))⟩]) (.cond (.v 37) (.seq (.reg false [] [⟨(some 6), none, (.mv (.k (.bool false)))⟩]) .ret) .skip)) (.seq (.reg false [] [⟨(some 38), none, (.fad 1 (.v 5))⟩, ⟨(some 39), none, (.ld false 1 (.v 38))⟩, ⟨(some 40), none, (.mkf 71 [] [(.v 4)])⟩, ⟨(some 41), none, (.call 70 [(.v 39), (.v 40)])⟩, ⟨(some 7), none, (.mv (.v 41))⟩]) (.seq (.reg true [0, 1, 3, 7, 15, 31, 63, 127, 255, 255, 255, 1279, 255, 4351, 16127, 32767, 65535, 131071] [⟨(some 42), none, (.mv (.v 7))⟩, ⟨(some 43), none, (.un .not (.v 42))⟩, ⟨(some 44), none, (.mv (.v 43))⟩, ⟨(some 45), (some (44, true)), (.fad 1 (.v 5))⟩, ⟨(some 46), (some (44, true)), (.ld false 1 (.v 45))⟩, ⟨(some 47), (some (44, true)), (.call 60 [(.v 46)])⟩, ⟨(some 48), none, (.pick (.v 44) (.v 47) (.k (.bool false)))⟩, ⟨(some 49), none, (.mv (.v 48))⟩, ⟨(some 50), (some (49, true)), (.ld true 3 (.v 3))⟩, ⟨(some 51), (some (49, true)), (.ld true 2 (.v 4))⟩, ⟨(some 52), (some (49, true)), (.fad 0 (.v 5))⟩, ⟨(some 53), (some (49, true)), (.ld false 1 (.v 52))⟩, ⟨(some 54), (some (49, true)), (.fad 1 (.v 5))⟩, ⟨(some 55), (some (49, true)), (.ld false 1 (.v 54))⟩, ⟨(some 56), (some (49, true)), (.call 43 [(.v 51), (.v 53), (.v 55)])⟩, ⟨(some 57), (some (49, true)), (.call 35 [(.v 50), (.v 56)])⟩, ⟨(some 58), none, (.pick (.v 49) (.v 57) (.k (.bool false)))⟩, ⟨(some 6), none, (.mv (.v 58))⟩]) .ret))))
def ir42 : Fn := ⟨.own, 3, 59, [(.tmp 6)], ir42_c⟩
def ir44_d0 : C := (.seq (.reg false [] [⟨(some 14), none, (.bin .lss .none (.v 13) (.v 12))⟩]) (.seq (.cond (.v 14) .skip (.exit 0)) (.seq (.block 1 (.seq (.reg false [] [⟨(some 15), none, (.mv (.v 13))⟩, ⟨(some 5), none, (.mv (.v 15))⟩]) (.seq (.reg true [0, 0, 3, 7, 0, 0, 48, 112, 255] [⟨(some 16), none, (.mv (.v 0))⟩, ⟨(some 17), none, (.mv (.v 5))⟩, ⟨(some 18), none, (.ixa 1 (.v 16) (.v 17))⟩, ⟨(some 19), none, (.ld false 1 (.v 18))⟩, ⟨(some 20), none, (.mv (.v 1))⟩, ⟨(some 21), none, (.mv (.v 5))⟩, ⟨(some 22), none, (.ixa 1 (.v 20) (.v 21))⟩, ⟨(some 23), none, (.ld false 1 (.v 22))⟩, ⟨(some 24), none, (.bin .neq .none (.v 19) (.v 23))⟩]) (.cond (.v 24) (.seq (.reg false [] [⟨(some 4), none, (.mv (.k (.bool false)))⟩]) .ret) .skip)))) (.reg false [] [⟨(some 25), none, (.bin .add .none (.v 13) (.k (.int .i64 1)))⟩, ⟨(some 13), none, (.mv (.v 25))⟩]))))
def ir44_b0 : C := ir44_d0
def ir44_l0 : C := .loop true [0, 1, 12, 13] ir44_b0
def ir44_c : C := (.seq (.reg false [] [⟨(some 4), none, (.mv (.k (.bool false)))⟩]) (.seq (.seq (.reg false [] [⟨(some 6), none, (.mv (.v 0))⟩, ⟨(some 7), none, (.len 1 (.v 6))⟩, ⟨(some 8), none, (.mv (.v 1))⟩, ⟨(some 9), none, (.len 1 (.v 8))⟩, ⟨(some 10), none, (.bin .neq .none (.v 7) (.v 9))⟩]) (.cond (.v 10) (.seq (.reg false [] [⟨(some 4), none, (.mv (.k (.bool false)))⟩]) .ret) .skip)) (.seq (.seq (.reg false [] [⟨(some 11), none, (.mv (.v 0))⟩, ⟨(some 12), none, (.len 1 (.v 11))⟩, ⟨(some 13), none, (.mv (.k (.int .i64 0)))⟩]) (.block 0 ir44_l0)) (.seq (.reg false [] [⟨(some 4), none, (.mv (.k (.bool true)))⟩]) .ret))))
def ir44 : Fn := ⟨.own, 2, 26, [(.tmp 4)], ir44_c⟩
def ir47_d0 : C := (.seq (.reg false [] [⟨(some 13), none, (.bin .lss .none (.v 12) (.v 11))⟩]) (.seq (.cond (.v 13) .skip (.exit 0)) (.seq (.block 1 (.seq (.reg false [] [⟨(some 14), none, (.mv (.v 12))⟩, ⟨(some 15), none, (.ixa 2 (.v 10) (.v 12))⟩, ⟨(some 16), none, (.ld true 2 (.v 15))⟩, ⟨(some 9), none, (.alc 2 [(.int .i64 0), .nil])⟩, ⟨(some 8), none, (.mv (.v 14))⟩, ⟨none, none, (.st 2 (.v 9) (.v 16))⟩]) (.seq (.seq (.reg false [] [⟨(some 17), none, (.ld true 3 (.v 3))⟩, ⟨(some 18), none, (.ld true 2 (.v 4))⟩, ⟨(some 19), none, (.ld true 2 (.v 9))⟩, ⟨(some 20), none, (.call 42 [(.v 17), (.v 18), (.v 19)])⟩, ⟨(some 21), none, (.un .not (.v 20))⟩]) (.cond (.v 21) (.seq (.reg false [] [⟨(some 22), none, (.ld true 2 (.v 4))⟩, ⟨(some 23), none, (.mv (.v 8))⟩, ⟨none, none, (.st 2 (.v 6) (.v 22))⟩, ⟨(some 7), none, (.mv (.v 23))⟩]) .ret) .skip)) (.reg false [] [⟨(some 24), none, (.ld true 2 (.v 4))⟩, ⟨(some 25), none, (.fad 0 (.v 9))⟩, ⟨(some 26), none, (.ld false 1 (.v 25))⟩, ⟨(some 27), none, (.fad 1 (.v 9))⟩, ⟨(some 28), none, (.ld false 1 (.v 27))⟩, ⟨(some 29), none, (.call 43 [(.v 24), (.v 26), (.v 28)])⟩, ⟨none, none, (.st 2 (.v 4) (.v 29))⟩])))) (.reg false [] [⟨(some 30), none, (.bin .add .none (.v 12) (.k (.int .i64 1)))⟩, ⟨(some 12), none, (.mv (.v 30))⟩]))))
def ir47_b0 : C := ir47_d0
def ir47_l0 : C := .loop true [3, 4, 6, 10, 11, 12] ir47_b0
def ir47_c : C := (.seq (.reg false [] [⟨(some 3), none, (.box (.v 0))⟩, ⟨(some 4), none, (.box (.v 1))⟩, ⟨(some 6), none, (.alc 2 [.nil, (.int .i64 0)])⟩, ⟨(some 7), none, (.mv (.k (.int .i64 0)))⟩]) (.seq (.seq (.reg false [] [⟨(some 10), none, (.mv (.v 2))⟩, ⟨(some 11), none, (.len 1 (.v 10))⟩, ⟨(some 12), none, (.mv (.k (.int .i64 0)))⟩]) (.block 0 ir47_l0)) (.seq (.reg false [] [⟨(some 31), none, (.ld true 2 (.v 4))⟩, ⟨(some 32), none, (.fad 1 (.v 4))⟩, ⟨(some 33), none, (.ld false 1 (.v 32))⟩, ⟨(some 34), none, (.call 43 [(.v 31), (.v 33), (.k .nil)])⟩, ⟨none, none, (.st 2 (.v 6) (.v 34))⟩, ⟨(some 7), none, (.mv (.k (.int .i64 (-1))))⟩]) .ret)))
def ir47 : Fn := ⟨.ownF, 3, 35, [(.cell 6 true 2), (.tmp 7)], ir47_c⟩
def ir48_d0 : C := (.seq (.reg false [] [⟨(some 19), none, (.bin .lss .none (.v 18) (.v 17))⟩]) (.seq (.cond (.v 19) .skip (.exit 0)) (.seq (.block 1 (.seq (.reg false [] [⟨(some 20), none, (.mv (.v 18))⟩, ⟨(some 21), none, (.ixa 2 (.v 16) (.v 18))⟩, ⟨(some 22), none, (.ld true 2 (.v 21))⟩, ⟨(some 9), none, (.alc 2 [(.int .i64 0), .nil])⟩, ⟨(some 8), none, (.mv (.v 20))⟩, ⟨none, none, (.st 2 (.v 9) (.v 22))⟩]) (.seq (.seq (.reg false [] [⟨(some 23), none, (.ld true 3 (.v 3))⟩, ⟨(some 24), none, (.ld true 2 (.v 4))⟩, ⟨(some 25), none, (.ld true 2 (.v 9))⟩, ⟨(some 26), none, (.call 45 [(.v 23), (.v 24), (.v 25)])⟩, ⟨(some 27), none, (.un .not (.v 26))⟩]) (.cond (.v 27) (.seq (.reg false [] [⟨(some 28), none, (.ld true 2 (.v 4))⟩, ⟨(some 29), none, (.mv (.v 8))⟩, ⟨none, none, (.st 2 (.v 6) (.v 28))⟩, ⟨(some 7), none, (.mv (.v 29))⟩]) .ret) .skip)) (.reg false [] [⟨(some 30), none, (.ld true 2 (.v 4))⟩, ⟨(some 31), none, (.ld true 2 (.v 9))⟩, ⟨(some 32), none, (.call 46 [(.v 30), (.v 31)])⟩, ⟨none, none, (.st 2 (.v 4) (.v 32))⟩])))) (.reg false [] [⟨(some 33), none, (.bin .add .none (.v 18) (.k (.int .i64 1)))⟩, ⟨(some 18), none, (.mv (.v 33))⟩]))))
def ir48_b0 : C := ir48_d0
def ir48_l0 : C := .loop true [2, 3, 4, 6, 16, 17, 18] ir48_b0
def ir48_c : C := (.seq (.reg false [] [⟨(some 3), none, (.box (.v 0))⟩, ⟨(some 4), none, (.box (.v 1))⟩, ⟨(some 6), none, (.alc 2 [.nil, (.int .i64 0)])⟩, ⟨(some 7), none, (.mv (.k (.int .i64 0)))⟩]) (.seq (.reg true [0, 1, 3, 0, 8, 31, 63] [⟨(some 10), none, (.fad 0 (.v 4))⟩, ⟨(some 11), none, (.ld false 1 (.v 10))⟩, ⟨(some 12), none, (.call 75 [(.v 11)])⟩, ⟨(some 13), none, (.fad 1 (.v 4))⟩, ⟨(some 14), none, (.ld false 1 (.v 13))⟩, ⟨(some 15), none, (.bld [.nil, (.int .i64 0)] [(0, (1, (.v 12))), (1, (1, (.v 14)))])⟩, ⟨none, none, (.st 2 (.v 4) (.v 15))⟩]) (.seq (.seq (.reg false [] [⟨(some 16), none, (.mv (.v 2))⟩, ⟨(some 17), none, (.len 1 (.v 16))⟩, ⟨(some 18), none, (.mv (.k (.int .i64 0)))⟩]) (.block 0 ir48_l0)) (.seq (.reg false [] [⟨(some 34), none, (.ld true 2 (.v 4))⟩, ⟨(some 35), none, (.mv (.v 2))⟩, ⟨(some 36), none, (.len 1 (.v 35))⟩, ⟨none, none, (.st 2 (.v 6) (.v 34))⟩, ⟨(some 7), none, (.mv (.v 36))⟩]) .ret))))
def ir48 : Fn := ⟨.own, 3, 37, [(.cell 6 true 2), (.tmp 7)], ir48_c⟩
def ir62_d0 : C := (.seq (.reg false [] [⟨(some 12), none, (.bin .lss .none (.v 11) (.v 10))⟩]) (.seq (.cond (.v 12) .skip (.exit 0)) (.seq (.block 1 (.seq (.reg false [] [⟨(some 13), none, (.ixa 1 (.v 9) (.v 11))⟩, ⟨(some 14), none, (.ld false 1 (.v 13))⟩, ⟨(some 8), none, (.mv (.v 14))⟩]) (.seq (.reg false [] [⟨(some 15), none, (.mv (.v 8))⟩, ⟨(some 16), none, (.mv (.v 1))⟩, ⟨(some 17), none, (.mv (.v 2))⟩, ⟨(some 18), none, (.call 68 [(.v 15), (.v 16), (.v 17)])⟩, ⟨(some 19), none, (.un .not (.v 18))⟩]) (.cond (.v 19) (.seq (.reg false [] [⟨(some 6), none, (.mv (.k (.bool false)))⟩]) .ret) .skip)))) (.reg false [] [⟨(some 20), none, (.bin .add .none (.v 11) (.k (.int .i64 1)))⟩, ⟨(some 11), none, (.mv (.v 20))⟩]))))
def ir62_b0 : C := ir62_d0
def ir62_l0 : C := .loop true [1, 2, 9, 10, 11] ir62_b0
def ir62_c : C := (.seq (.reg false [] [⟨(some 6), none, (.mv (.k (.bool false)))⟩]) (.seq (.seq (.reg false [] [⟨(some 9), none, (.mv (.v 0))⟩, ⟨(some 10), none, (.len 1 (.v 9))⟩, ⟨(some 11), none, (.mv (.k (.int .i64 0)))⟩]) (.block 0 ir62_l0)) (.seq (.reg false [] [⟨(some 6), none, (.mv (.k (.bool true)))⟩]) .ret)))
def ir62 : Fn := ⟨.own, 3, 21, [(.tmp 6)], ir62_c⟩
def ir63_d0 : C := (.seq (.reg false [] [⟨(some 10), none, (.bin .lss .none (.v 9) (.v 8))⟩]) (.seq (.cond (.v 10) .skip (.exit 0)) (.seq (.block 1 (.seq (.reg false [] [⟨(some 11), none, (.ixa 1 (.v 7) (.v 9))⟩, ⟨(some 12), none, (.ld false 1 (.v 11))⟩, ⟨(some 6), none, (.mv (.v 12))⟩]) (.seq (.reg false [] [⟨(some 13), none, (.mv (.v 6))⟩, ⟨(some 14), none, (.mv (.v 1))⟩, ⟨(some 15), none, (.bin .eql .none (.v 13) (.v 14))⟩]) (.cond (.v 15) (.seq (.reg false [] [⟨(some 4), none, (.mv (.k (.bool true)))⟩]) .ret) .skip)))) (.reg false [] [⟨(some 16), none, (.bin .add .none (.v 9) (.k (.int .i64 1)))⟩, ⟨(some 9), none, (.mv (.v 16))⟩]))))
def ir63_b0 : C := ir63_d0
def ir63_l0 : C := .loop true [1, 7, 8, 9] ir63_b0
def ir63_c : C := (.seq (.reg false [] [⟨(some 4), none, (.mv (.k (.bool false)))⟩]) (.seq (.seq (.reg false [] [⟨(some 7), none, (.mv (.v 0))⟩, ⟨(some 8), none, (.len 1 (.v 7))⟩, ⟨(some 9), none, (.mv (.k (.int .i64 0)))⟩]) (.block 0 ir63_l0)) (.seq (.reg false [] [⟨(some 4), none, (.mv (.k (.bool false)))⟩]) .ret)))
def ir63 : Fn := ⟨.own, 2, 17, [(.tmp 4)], ir63_c⟩
def ir65_c : C := (.seq (.reg false [] [⟨(some 6), none, (.box (.v 1))⟩, ⟨(some 7), none, (.box (.v 2))⟩, ⟨(some 10), none, (.mv (.k (.bool false)))⟩]) (.seq (.reg false [] [⟨(some 11), none, (.mv (.v 0))⟩, ⟨(some 12), none, (.len 1 (.v 11))⟩, ⟨(some 13), none, (.mv (.v 3))⟩, ⟨(some 14), none, (.mv (.v 4))⟩, ⟨(some 15), none, (.call 40 [(.v 12), (.v 13), (.v 14)])⟩, ⟨(some 16), none, (.mv (.v 15))⟩, ⟨(some 17), (some (16, true)), (.mv (.v 0))⟩, ⟨(some 18), (some (16, true)), (.mkf 83 [] [(.v 6), (.v 7)])⟩, ⟨(some 19), (some (16, true)), (.call 70 [(.v 17), (.v 18)])⟩, ⟨(some 20), (some (16, true)), (.un .not (.v 19))⟩, ⟨(some 21), none, (.pick (.v 16) (.v 20) (.k (.bool false)))⟩, ⟨(some 10), none, (.mv (.v 21))⟩]) .ret))
def ir65 : Fn := ⟨.own, 5, 22, [(.tmp 10)], ir65_c⟩
def ir69_d0 : C := (.seq (.seq (.reg false [] [⟨(some 4), none, (.mv (.v 3))⟩, ⟨(some 5), none, (.mv (.v 0))⟩, ⟨(some 6), none, (.len 1 (.v 5))⟩, ⟨(some 7), none, (.bin .lss .none (.v 4) (.v 6))⟩]) (.cond (.v 7) .skip (.exit 0))) (.seq (.block 1 (.seq (.reg true [0, 0, 3, 7, 0, 0, 32, 112, 240, 511] [⟨(some 10), none, (.mv (.v 0))⟩, ⟨(some 11), none, (.mv (.v 3))⟩, ⟨(some 12), none, (.ixa 1 (.v 10) (.v 11))⟩, ⟨(some 13), none, (.ld false 1 (.v 12))⟩, ⟨(some 14), none, (.mv (.v 0))⟩, ⟨(some 15), none, (.mv (.v 3))⟩, ⟨(some 16), none, (.bin .sub .none (.v 15) (.k (.int .i64 1)))⟩, ⟨(some 17), none, (.ixa 1 (.v 14) (.v 16))⟩, ⟨(some 18), none, (.ld false 1 (.v 17))⟩, ⟨(some 19), none, (.bin .leq .none (.v 13) (.v 18))⟩]) (.cond (.v 19) (.seq (.reg false [] [⟨(some 2), none, (.mv (.k (.bool false)))⟩]) .ret) .skip))) (.reg false [] [⟨(some 8), none, (.mv (.v 3))⟩, ⟨(some 9), none, (.bin .add .none (.v 8) (.k (.int .i64 1)))⟩, ⟨(some 3), none, (.mv (.v 9))⟩])))
def ir69_b0 : C := ir69_d0
def ir69_l0 : C := .loop true [0, 3] ir69_b0
def ir69_c : C := (.seq (.reg false [] [⟨(some 2), none, (.mv (.k (.bool false)))⟩]) (.seq (.seq (.reg false [] [⟨(some 3), none, (.mv (.k (.int .i64 1)))⟩]) (.block 0 ir69_l0)) (.seq (.reg false [] [⟨(some 2), none, (.mv (.k (.bool true)))⟩]) .ret)))
def ir69 : Fn := ⟨.own, 1, 20, [(.tmp 2)], ir69_c⟩
def ir71_c : C := (.seq (.reg false [] [⟨(some 3), none, (.mv (.k (.bool false)))⟩]) (.seq (.reg true [0, 1, 0, 7, 15, 0, 32, 127, 255] [⟨(some 4), none, (.fad 0 (.v 1))⟩, ⟨(some 5), none, (.ld false 1 (.v 4))⟩, ⟨(some 6), none, (.mv (.v 0))⟩, ⟨(some 7), none, (.ixa 1 (.v 5) (.v 6))⟩, ⟨(some 8), none, (.ld false 1 (.v 7))⟩, ⟨(some 9), none, (.fad 1 (.v 1))⟩, ⟨(some 10), none, (.ld false 1 (.v 9))⟩, ⟨(some 11), none, (.bin .neq .none (.v 8) (.v 10))⟩, ⟨(some 3), none, (.mv (.v 11))⟩]) .ret))
def ir71 : Fn := ⟨.own, 2, 12, [(.tmp 3)], ir71_c⟩
def ir83_c : C := (.seq (.reg false [] [⟨(some 4), none, (.mv (.k (.bool false)))⟩]) (.seq (.reg false [] [⟨(some 5), none, (.mv (.v 0))⟩, ⟨(some 6), none, (.ld false 1 (.v 1))⟩, ⟨(some 7), none, (.ld false 1 (.v 2))⟩, ⟨(some 8), none, (.call 40 [(.v 5), (.v 6), (.v 7)])⟩, ⟨(some 9), none, (.un .not (.v 8))⟩, ⟨(some 4), none, (.mv (.v 9))⟩]) .ret))
def ir83 : Fn := ⟨.own, 3, 10, [(.tmp 4)], ir83_c⟩
def tab : List (Nat × Fun) := [(41, .ir ir41), (50, .ir ir50), (12, .ir ir12), (34, .ir ir34), (46, .ir ir46), (32, .ir ir32), (43, .ir ir43), (49, .ir ir49), (51, .ir ir51), (61, .ir ir61), (45, .ir ir45), (75, .ir ir75), (66, .ir ir66), (57, .ir ir57), (58, .ir ir58), (59, .ir ir59), (60, .ir ir60), (35, .ir ir35), (76, .ir ir76), (73, .ir ir73), (64, .ir ir64), (74, .ir ir74), (37, .ir ir37), (81, .ir ir81), (67, .ir ir67), (70, .ir ir70), (82, .ir ir82), (86, .ir ir86), (84, .ir ir84), (85, .ir ir85), (88, .ir ir88), (68, .ir ir68), (40, .ir ir40), (4, .ir ir4), (26, .ir ir26), (27, .ir ir27), (28, .ir ir28), (29, .ir ir29), (30, .ir ir30), (52, .ir ir52), (53, .ir ir53), (54, .ir ir54), (55, .ir ir55), (56, .ir ir56), (77, .ir ir77), (78, .ir ir78), (79, .ir ir79), (80, .ir ir80), (5, .ir ir5), (6, .ir ir6), (7, .ir ir7), (8, .ir ir8), (9, .ir ir9), (10, .ir ir10), (11, .ir ir11), (13, .ir ir13), (14, .ir ir14), (15, .ir ir15), (16, .ir ir16), (17, .ir ir17), (18, .ir ir18), (19, .ir ir19), (20, .ir ir20), (21, .ir ir21), (22, .ir ir22), (23, .ir ir23), (24, .ir ir24), (25, .ir ir25), (31, .ir ir31), (33, .ir ir33), (36, .ir ir36), (38, .ir ir38), (39, .ir ir39), (42, .ir ir42), (44, .ir ir44), (47, .ir ir47), (48, .ir ir48), (62, .ir ir62), (63, .ir ir63), (65, .ir ir65), (69, .ir ir69), (71, .ir ir71), (83, .ir ir83), (72, .prim .own (cloneP 1))]
def env : Env := fun f => tab.lookup f
theorem x50_0 (E : Env) (s : Fr × Heap) : loopF E true [1, 2, 4, 5] ir50_b0 s = andN (execD E ir50_d0 s) (loopK E true [1, 2, 4, 5] ir50_b0) := loopF_K _ _ _ s
@[simp] theorem l50_0 (E : Env) (s : Fr × Heap) : execD E ir50_l0 s = loopF E true [1, 2, 4, 5] ir50_b0 (gcFr true [1, 2, 4, 5] s) := execD_loopF _ _ _ s
theorem x34_0 (E : Env) (s : Fr × Heap) : loopF E true [2, 3, 5, 8, 9, 40, 41, 42] ir34_b0 s = andN (execD E ir34_d0 s) (loopK E true [2, 3, 5, 8, 9, 40, 41, 42] ir34_b0) := loopF_K _ _ _ s
@[simp] theorem l34_0 (E : Env) (s : Fr × Heap) : execD E ir34_l0 s = loopF E true [2, 3, 5, 8, 9, 40, 41, 42] ir34_b0 (gcFr true [2, 3, 5, 8, 9, 40, 41, 42] s) := execD_loopF _ _ _ s
theorem x34_1 (E : Env) (s : Fr × Heap) : loopF E true [2, 3, 5, 8, 9] ir34_b1 s = andN (execD E ir34_d1 s) (loopK E true [2, 3, 5, 8, 9] ir34_b1) := loopF_K _ _ _ s
@[simp] theorem l34_1 (E : Env) (s : Fr × Heap) : execD E ir34_l1 s = loopF E true [2, 3, 5, 8, 9] ir34_b1 (gcFr true [2, 3, 5, 8, 9] s) := execD_loopF _ _ _ s
theorem x34_2 (E : Env) (s : Fr × Heap) : loopF E true [2, 3, 5, 14, 15, 16] ir34_b2 s = andN (execD E ir34_d2 s) (loopK E true [2, 3, 5, 14, 15, 16] ir34_b2) := loopF_K _ _ _ s
@[simp] theorem l34_2 (E : Env) (s : Fr × Heap) : execD E ir34_l2 s = loopF E true [2, 3, 5, 14, 15, 16] ir34_b2 (gcFr true [2, 3, 5, 14, 15, 16] s) := execD_loopF _ _ _ s
theorem x46_0 (E : Env) (s : Fr × Heap) : loopF E true [3, 4, 5, 15, 16, 17] ir46_b0 s = andN (execD E ir46_d0 s) (loopK E true [3, 4, 5, 15, 16, 17] ir46_b0) := loopF_K _ _ _ s
@[simp] theorem l46_0 (E : Env) (s : Fr × Heap) : execD E ir46_l0 s = loopF E true [3, 4, 5, 15, 16, 17] ir46_b0 (gcFr true [3, 4, 5, 15, 16, 17] s) := execD_loopF _ _ _ s
theorem x32_0 (E : Env) (s : Fr × Heap) : loopF E true [2, 3, 5, 6, 15, 16] ir32_b0 s = andN (execD E ir32_d0 s) (loopK E true [2, 3, 5, 6, 15, 16] ir32_b0) := loopF_K _ _ _ s
@[simp] theorem l32_0 (E : Env) (s : Fr × Heap) : execD E ir32_l0 s = loopF E true [2, 3, 5, 6, 15, 16] ir32_b0 (gcFr true [2, 3, 5, 6, 15, 16] s) := execD_loopF _ _ _ s
theorem x43_0 (E : Env) (s : Fr × Heap) : loopF E true [1, 6, 7, 15, 16, 17] ir43_b0 s = andN (execD E ir43_d0 s) (loopK E true [1, 6, 7, 15, 16, 17] ir43_b0) := loopF_K _ _ _ s
@[simp] theorem l43_0 (E : Env) (s : Fr × Heap) : execD E ir43_l0 s = loopF E true [1, 6, 7, 15, 16, 17] ir43_b0 (gcFr true [1, 6, 7, 15, 16, 17] s) := execD_loopF _ _ _ s
theorem x61_0 (E : Env) (s : Fr × Heap) : loopF E true [0, 1, 3, 9, 10] ir61_b0 s = andN (execD E ir61_d0 s) (loopK E true [0, 1, 3, 9, 10] ir61_b0) := loopF_K _ _ _ s
@[simp] theorem l61_0 (E : Env) (s : Fr × Heap) : execD E ir61_l0 s = loopF E true [0, 1, 3, 9, 10] ir61_b0 (gcFr true [0, 1, 3, 9, 10] s) := execD_loopF _ _ _ s
theorem x45_0 (E : Env) (s : Fr × Heap) : loopF E true [3, 4, 5, 43, 44, 45] ir45_b0 s = andN (execD E ir45_d0 s) (loopK E true [3, 4, 5, 43, 44, 45] ir45_b0) := loopF_K _ _ _ s
@[simp] theorem l45_0 (E : Env) (s : Fr × Heap) : execD E ir45_l0 s = loopF E true [3, 4, 5, 43, 44, 45] ir45_b0 (gcFr true [3, 4, 5, 43, 44, 45] s) := execD_loopF _ _ _ s
theorem x57_0 (E : Env) (s : Fr × Heap) : loopF E true [1, 5, 10, 11, 12] ir57_b0 s = andN (execD E ir57_d0 s) (loopK E true [1, 5, 10, 11, 12] ir57_b0) := loopF_K _ _ _ s
@[simp] theorem l57_0 (E : Env) (s : Fr × Heap) : execD E ir57_l0 s = loopF E true [1, 5, 10, 11, 12] ir57_b0 (gcFr true [1, 5, 10, 11, 12] s) := execD_loopF _ _ _ s
theorem x60_0 (E : Env) (s : Fr × Heap) : loopF E true [0, 5, 6, 7] ir60_b0 s = andN (execD E ir60_d0 s) (loopK E true [0, 5, 6, 7] ir60_b0) := loopF_K _ _ _ s
@[simp] theorem l60_0 (E : Env) (s : Fr × Heap) : execD E ir60_l0 s = loopF E true [0, 5, 6, 7] ir60_b0 (gcFr true [0, 5, 6, 7] s) := execD_loopF _ _ _ s
theorem x35_0 (E : Env) (s : Fr × Heap) : loopF E true [3, 8, 9] ir35_b0 s = andN (execD E ir35_d0 s) (loopK E true [3, 8, 9] ir35_b0) := loopF_K _ _ _ s
@[simp] theorem l35_0 (E : Env) (s : Fr × Heap) : execD E ir35_l0 s = loopF E true [3, 8, 9] ir35_b0 (gcFr true [3, 8, 9] s) := execD_loopF _ _ _ s
theorem x76_0 (E : Env) (s : Fr × Heap) : loopF E true [7, 8] ir76_b0 s = andN (execD E ir76_d0 s) (loopK E true [7, 8] ir76_b0) := loopF_K _ _ _ s
@[simp] theorem l76_0 (E : Env) (s : Fr × Heap) : execD E ir76_l0 s = loopF E true [7, 8] ir76_b0 (gcFr true [7, 8] s) := execD_loopF _ _ _ s
theorem x73_0 (E : Env) (s : Fr × Heap) : loopF E true [0, 1, 2, 9, 10, 11] ir73_b0 s = andN (execD E ir73_d0 s) (loopK E true [0, 1, 2, 9, 10, 11] ir73_b0) := loopF_K _ _ _ s
@[simp] theorem l73_0 (E : Env) (s : Fr × Heap) : execD E ir73_l0 s = loopF E true [0, 1, 2, 9, 10, 11] ir73_b0 (gcFr true [0, 1, 2, 9, 10, 11] s) := execD_loopF _ _ _ s
theorem x64_0 (E : Env) (s : Fr × Heap) : loopF E true [0, 1, 5, 6] ir64_b0 s = andN (execD E ir64_d0 s) (loopK E true [0, 1, 5, 6] ir64_b0) := loopF_K _ _ _ s
@[simp] theorem l64_0 (E : Env) (s : Fr × Heap) : execD E ir64_l0 s = loopF E true [0, 1, 5, 6] ir64_b0 (gcFr true [0, 1, 5, 6] s) := execD_loopF _ _ _ s
theorem x64_1 (E : Env) (s : Fr × Heap) : loopF E true [0, 1, 5] ir64_b1 s = andN (execD E ir64_d1 s) (loopK E true [0, 1, 5] ir64_b1) := loopF_K _ _ _ s
@[simp] theorem l64_1 (E : Env) (s : Fr × Heap) : execD E ir64_l1 s = loopF E true [0, 1, 5] ir64_b1 (gcFr true [0, 1, 5] s) := execD_loopF _ _ _ s
theorem x74_0 (E : Env) (s : Fr × Heap) : loopF E true [3, 6, 7, 8] ir74_b0 s = andN (execD E ir74_d0 s) (loopK E true [3, 6, 7, 8] ir74_b0) := loopF_K _ _ _ s
@[simp] theorem l74_0 (E : Env) (s : Fr × Heap) : execD E ir74_l0 s = loopF E true [3, 6, 7, 8] ir74_b0 (gcFr true [3, 6, 7, 8] s) := execD_loopF _ _ _ s
theorem x37_0 (E : Env) (s : Fr × Heap) : loopF E true [2, 3, 5, 6, 17, 18, 19] ir37_b0 s = andN (execD E ir37_d0 s) (loopK E true [2, 3, 5, 6, 17, 18, 19] ir37_b0) := loopF_K _ _ _ s
@[simp] theorem l37_0 (E : Env) (s : Fr × Heap) : execD E ir37_l0 s = loopF E true [2, 3, 5, 6, 17, 18, 19] ir37_b0 (gcFr true [2, 3, 5, 6, 17, 18, 19] s) := execD_loopF _ _ _ s
theorem x37_1 (E : Env) (s : Fr × Heap) : loopF E true [2, 3, 5] ir37_b1 s = andN (execD E ir37_d1 s) (loopK E true [2, 3, 5] ir37_b1) := loopF_K _ _ _ s
@[simp] theorem l37_1 (E : Env) (s : Fr × Heap) : execD E ir37_l1 s = loopF E true [2, 3, 5] ir37_b1 (gcFr true [2, 3, 5] s) := execD_loopF _ _ _ s
theorem x81_0 (E : Env) (s : Fr × Heap) : loopF E false [1, 2, 3, 4, 5, 8] ir81_b0 s = andN (execD E ir81_d0 s) (loopK E false [1, 2, 3, 4, 5, 8] ir81_b0) := loopF_K _ _ _ s
@[simp] theorem l81_0 (E : Env) (s : Fr × Heap) : execD E ir81_l0 s = loopF E false [1, 2, 3, 4, 5, 8] ir81_b0 (gcFr false [1, 2, 3, 4, 5, 8] s) := execD_loopF _ _ _ s
theorem x84_0 (E : Env) (s : Fr × Heap) : loopF E true [0, 1, 7, 8] ir84_b0 s = andN (execD E ir84_d0 s) (loopK E true [0, 1, 7, 8] ir84_b0) := loopF_K _ _ _ s
@[simp] theorem l84_0 (E : Env) (s : Fr × Heap) : execD E ir84_l0 s = loopF E true [0, 1, 7, 8] ir84_b0 (gcFr true [0, 1, 7, 8] s) := execD_loopF _ _ _ s
theorem x85_0 (E : Env) (s : Fr × Heap) : loopF E true [0, 1, 7, 8] ir85_b0 s = andN (execD E ir85_d0 s) (loopK E true [0, 1, 7, 8] ir85_b0) := loopF_K _ _ _ s
@[simp] theorem l85_0 (E : Env) (s : Fr × Heap) : execD E ir85_l0 s = loopF E true [0, 1, 7, 8] ir85_b0 (gcFr true [0, 1, 7, 8] s) := execD_loopF _ _ _ s
theorem x4_0 (E : Env) (s : Fr × Heap) : loopF E true [1, 5, 6, 7, 153, 154, 155] ir4_b0 s = andN (execD E ir4_d0 s) (loopK E true [1, 5, 6, 7, 153, 154, 155] ir4_b0) := loopF_K _ _ _ s
@[simp] theorem l4_0 (E : Env) (s : Fr × Heap) : execD E ir4_l0 s = loopF E true [1, 5, 6, 7, 153, 154, 155] ir4_b0 (gcFr true [1, 5, 6, 7, 153, 154, 155] s) := execD_loopF _ _ _ s
theorem x53_0 (E : Env) (s : Fr × Heap) : loopF E false [0, 2, 3, 5, 6, 7, 8, 9] ir53_b0 s = andN (execD E ir53_d0 s) (loopK E false [0, 2, 3, 5, 6, 7, 8, 9] ir53_b0) := loopF_K _ _ _ s
@[simp] theorem l53_0 (E : Env) (s : Fr × Heap) : execD E ir53_l0 s = loopF E false [0, 2, 3, 5, 6, 7, 8, 9] ir53_b0 (gcFr false [0, 2, 3, 5, 6, 7, 8, 9] s) := execD_loopF _ _ _ s
theorem x55_0 (E : Env) (s : Fr × Heap) : loopF E false [0, 1, 5, 6] ir55_b0 s = andN (execD E ir55_d0 s) (loopK E false [0, 1, 5, 6] ir55_b0) := loopF_K _ _ _ s
@[simp] theorem l55_0 (E : Env) (s : Fr × Heap) : execD E ir55_l0 s = loopF E false [0, 1, 5, 6] ir55_b0 (gcFr false [0, 1, 5, 6] s) := execD_loopF _ _ _ s
theorem x77_0 (E : Env) (s : Fr × Heap) : loopF E false [0, 2, 3, 4, 5, 6] ir77_b0 s = andN (execD E ir77_d0 s) (loopK E false [0, 2, 3, 4, 5, 6] ir77_b0) := loopF_K _ _ _ s
@[simp] theorem l77_0 (E : Env) (s : Fr × Heap) : execD E ir77_l0 s = loopF E false [0, 2, 3, 4, 5, 6] ir77_b0 (gcFr false [0, 2, 3, 4, 5, 6] s) := execD_loopF _ _ _ s
theorem x9_0 (E : Env) (s : Fr × Heap) : loopF E true [0, 1, 12, 13] ir9_b0 s = andN (execD E ir9_d0 s) (loopK E true [0, 1, 12, 13] ir9_b0) := loopF_K _ _ _ s
@[simp] theorem l9_0 (E : Env) (s : Fr × Heap) : execD E ir9_l0 s = loopF E true [0, 1, 12, 13] ir9_b0 (gcFr true [0, 1, 12, 13] s) := execD_loopF _ _ _ s
theorem x16_0 (E : Env) (s : Fr × Heap) : loopF E true [0, 1, 5] ir16_b0 s = andN (execD E ir16_d0 s) (loopK E true [0, 1, 5] ir16_b0) := loopF_K _ _ _ s
@[simp] theorem l16_0 (E : Env) (s : Fr × Heap) : execD E ir16_l0 s = loopF E true [0, 1, 5] ir16_b0 (gcFr true [0, 1, 5] s) := execD_loopF _ _ _ s
theorem x44_0 (E : Env) (s : Fr × Heap) : loopF E true [0, 1, 12, 13] ir44_b0 s = andN (execD E ir44_d0 s) (loopK E true [0, 1, 12, 13] ir44_b0) := loopF_K _ _ _ s
@[simp] theorem l44_0 (E : Env) (s : Fr × Heap) : execD E ir44_l0 s = loopF E true [0, 1, 12, 13] ir44_b0 (gcFr true [0, 1, 12, 13] s) := execD_loopF _ _ _ s
theorem x47_0 (E : Env) (s : Fr × Heap) : loopF E true [3, 4, 6, 10, 11, 12] ir47_b0 s = andN (execD E ir47_d0 s) (loopK E true [3, 4, 6, 10, 11, 12] ir47_b0) := loopF_K _ _ _ s
@[simp] theorem l47_0 (E : Env) (s : Fr × Heap) : execD E ir47_l0 s = loopF E true [3, 4, 6, 10, 11, 12] ir47_b0 (gcFr true [3, 4, 6, 10, 11, 12] s) := execD_loopF _ _ _ s
theorem x48_0 (E : Env) (s : Fr × Heap) : loopF E true [2, 3, 4, 6, 16, 17, 18] ir48_b0 s = andN (execD E ir48_d0 s) (loopK E true [2, 3, 4, 6, 16, 17, 18] ir48_b0) := loopF_K _ _ _ s
@[simp] theorem l48_0 (E : Env) (s : Fr × Heap) : execD E ir48_l0 s = loopF E true [2, 3, 4, 6, 16, 17, 18] ir48_b0 (gcFr true [2, 3, 4, 6, 16, 17, 18] s) := execD_loopF _ _ _ s
theorem x62_0 (E : Env) (s : Fr × Heap) : loopF E true [1, 2, 9, 10, 11] ir62_b0 s = andN (execD E ir62_d0 s) (loopK E true [1, 2, 9, 10, 11] ir62_b0) := loopF_K _ _ _ s
@[simp] theorem l62_0 (E : Env) (s : Fr × Heap) : execD E ir62_l0 s = loopF E true [1, 2, 9, 10, 11] ir62_b0 (gcFr true [1, 2, 9, 10, 11] s) := execD_loopF _ _ _ s
theorem x63_0 (E : Env) (s : Fr × Heap) : loopF E true [1, 7, 8, 9] ir63_b0 s = andN (execD E ir63_d0 s) (loopK E true [1, 7, 8, 9] ir63_b0) := loopF_K _ _ _ s
@[simp] theorem l63_0 (E : Env) (s : Fr × Heap) : execD E ir63_l0 s = loopF E true [1, 7, 8, 9] ir63_b0 (gcFr true [1, 7, 8, 9] s) := execD_loopF _ _ _ s
theorem x69_0 (E : Env) (s : Fr × Heap) : loopF E true [0, 3] ir69_b0 s = andN (execD E ir69_d0 s) (loopK E true [0, 3] ir69_b0) := loopF_K _ _ _ s
@[simp] theorem l69_0 (E : Env) (s : Fr × Heap) : execD E ir69_l0 s = loopF E true [0, 3] ir69_b0 (gcFr true [0, 3] s) := execD_loopF _ _ _ s
@[simp] theorem e41 : env 41 = some (.ir ir41) := rfl
@[simp] theorem m41 : ir41.mode = .own := rfl
@[simp] theorem c41 (args : List V) (H : Heap) : evCall env (den env) 41 args H = ownC (ownR env 41) H (rdL (rd H depth) args) := call_own e41 rfl args H
@[simp] theorem e50 : env 50 = some (.ir ir50) := rfl
@[simp] theorem m50 : ir50.mode = .own := rfl
@[simp] theorem c50 (args : List V) (H : Heap) : evCall env (den env) 50 args H = ownC (ownR env 50) H (rdL (rd H depth) args) := call_own e50 rfl args H
@[simp] theorem e12 : env 12 = some (.ir ir12) := rfl
@[simp] theorem m12 : ir12.mode = .own := rfl
@[simp] theorem c12 (args : List V) (H : Heap) : evCall env (den env) 12 args H = ownC (ownR env 12) H (rdL (rd H depth) args) := call_own e12 rfl args H
@[simp] theorem e34 : env 34 = some (.ir ir34) := rfl
@[simp] theorem m34 : ir34.mode = .ownF := rfl
@[simp] theorem c34 (args : List V) (H : Heap) : evCall env (den env) 34 args H = ownFC (ownFR env 34) H (rdL (rd H depth) args) := call_ownF e34 rfl args H
@[simp] theorem e46 : env 46 = some (.ir ir46) := rfl
@[simp] theorem m46 : ir46.mode = .own := rfl
@[simp] theorem c46 (args : List V) (H : Heap) : evCall env (den env) 46 args H = ownC (ownR env 46) H (rdL (rd H depth) args) := call_own e46 rfl args H
@[simp] theorem e32 : env 32 = some (.ir ir32) := rfl
@[simp] theorem m32 : ir32.mode = .ownF := rfl
@[simp] theorem c32 (args : List V) (H : Heap) : evCall env (den env) 32 args H = ownFC (ownFR env 32) H (rdL (rd H depth) args) := call_ownF e32 rfl args H
@[simp] theorem e43 : env 43 = some (.ir ir43) := rfl
@[simp] theorem m43 : ir43.mode = .own := rfl
@[simp] theorem c43 (args : List V) (H : Heap) : evCall env (den env) 43 args H = ownC (ownR env 43) H (rdL (rd H depth) args) := call_own e43 rfl args H
@[simp] theorem e49 : env 49 = some (.ir ir49) := rfl
@[simp] theorem m49 : ir49.mode = .own := rfl
@[simp] theorem c49 (args : List V) (H : Heap) : evCall env (den env) 49 args H = ownC (ownR env 49) H (rdL (rd H depth) args) := call_own e49 rfl args H
@[simp] theorem e51 : env 51 = some (.ir ir51) := rfl
@[simp] theorem m51 : ir51.mode = .own := rfl
@[simp] theorem c51 (args : List V) (H : Heap) : evCall env (den env) 51 args H = ownC (ownR env 51) H (rdL (rd H depth) args) := call_own e51 rfl args H
@[simp] theorem e61 : env 61 = some (.ir ir61) := rfl
@[simp] theorem m61 : ir61.mode = .ownF := rfl
@[simp] theorem c61 (args : List V) (H : Heap) : evCall env (den env) 61 args H = ownFC (ownFR env 61) H (rdL (rd H depth) args) := call_ownF e61 rfl args H
@[simp] theorem e45 : env 45 = some (.ir ir45) := rfl
@[simp] theorem m45 : ir45.mode = .own := rfl
@[simp] theorem c45 (args : List V) (H : Heap) : evCall env (den env) 45 args H = ownC (ownR env 45) H (rdL (rd H depth) args) := call_own e45 rfl args H
@[simp] theorem e75 : env 75 = some (.ir ir75) := rfl
@[simp] theorem m75 : ir75.mode = .own := rfl
@[simp] theorem c75 (args : List V) (H : Heap) : evCall env (den env) 75 args H = ownC (ownR env 75) H (rdL (rd H depth) args) := call_own e75 rfl args H
@[simp] theorem e66 : env 66 = some (.ir ir66) := rfl
@[simp] theorem m66 : ir66.mode = .own := rfl
@[simp] theorem c66 (args : List V) (H : Heap) : evCall env (den env) 66 args H = ownC (ownR env 66) H (rdL (rd H depth) args) := call_own e66 rfl args H
@[simp] theorem e57 : env 57 = some (.ir ir57) := rfl
@[simp] theorem m57 : ir57.mode = .own := rfl
@[simp] theorem c57 (args : List V) (H : Heap) : evCall env (den env) 57 args H = ownC (ownR env 57) H (rdL (rd H depth) args) := call_own e57 rfl args H
@[simp] theorem e58 : env 58 = some (.ir ir58) := rfl
@[simp] theorem m58 : ir58.mode = .ref := rfl
@[simp] theorem c58 (args : List V) (H : Heap) : evCall env (den env) 58 args H = refC2 (den env 58) H (callM.rdArgs H args) := call_ref e58 rfl args H
@[simp] theorem e59 : env 59 = some (.ir ir59) := rfl
@[simp] theorem m59 : ir59.mode = .ref := rfl
@[simp] theorem c59 (args : List V) (H : Heap) : evCall env (den env) 59 args H = refC2 (den env 59) H (callM.rdArgs H args) := call_ref e59 rfl args H
@[simp] theorem e60 : env 60 = some (.ir ir60) := rfl
@[simp] theorem m60 : ir60.mode = .own := rfl
@[simp] theorem c60 (args : List V) (H : Heap) : evCall env (den env) 60 args H = ownC (ownR env 60) H (rdL (rd H depth) args) := call_own e60 rfl args H
@[simp] theorem e35 : env 35 = some (.ir ir35) := rfl
@[simp] theorem m35 : ir35.mode = .own := rfl
@[simp] theorem c35 (args : List V) (H : Heap) : evCall env (den env) 35 args H = ownC (ownR env 35) H (rdL (rd H depth) args) := call_own e35 rfl args H
@[simp] theorem e76 : env 76 = some (.ir ir76) := rfl
@[simp] theorem m76 : ir76.mode = .own := rfl
@[simp] theorem c76 (args : List V) (H : Heap) : evCall env (den env) 76 args H = ownC (ownR env 76) H (rdL (rd H depth) args) := call_own e76 rfl args H
@[simp] theorem e73 : env 73 = some (.ir ir73) := rfl
@[simp] theorem m73 : ir73.mode = .own := rfl
@[simp] theorem c73 (args : List V) (H : Heap) : evCall env (den env) 73 args H = ownC (ownR env 73) H (rdL (rd H depth) args) := call_own e73 rfl args H
@[simp] theorem e64 : env 64 = some (.ir ir64) := rfl
@[simp] theorem m64 : ir64.mode = .own := rfl
@[simp] theorem c64 (args : List V) (H : Heap) : evCall env (den env) 64 args H = ownC (ownR env 64) H (rdL (rd H depth) args) := call_own e64 rfl args H
@[simp] theorem e74 : env 74 = some (.ir ir74) := rfl
@[simp] theorem m74 : ir74.mode = .own := rfl
@[simp] theorem c74 (args : List V) (H : Heap) : evCall env (den env) 74 args H = ownC (ownR env 74) H (rdL (rd H depth) args) := call_own e74 rfl args H
@[simp] theorem e37 : env 37 = some (.ir ir37) := rfl
@[simp] theorem m37 : ir37.mode = .own := rfl
@[simp] theorem c37 (args : List V) (H : Heap) : evCall env (den env) 37 args H = ownC (ownR env 37) H (rdL (rd H depth) args) := call_own e37 rfl args H
@[simp] theorem e81 : env 81 = some (.ir ir81) := rfl
@[simp] theorem m81 : ir81.mode = .ref := rfl
@[simp] theorem c81 (args : List V) (H : Heap) : evCall env (den env) 81 args H = refC2 (den env 81) H (callM.rdArgs H args) := call_ref e81 rfl args H
@[simp] theorem e67 : env 67 = some (.ir ir67) := rfl
@[simp] theorem m67 : ir67.mode = .own := rfl
@[simp] theorem c67 (args : List V) (H : Heap) : evCall env (den env) 67 args H = ownC (ownR env 67) H (rdL (rd H depth) args) := call_own e67 rfl args H
@[simp] theorem e70 : env 70 = some (.ir ir70) := rfl
@[simp] theorem m70 : ir70.mode = .own := rfl
@[simp] theorem c70 (args : List V) (H : Heap) : evCall env (den env) 70 args H = ownC (ownR env 70) H (rdL (rd H depth) args) := call_own e70 rfl args H
@[simp] theorem e82 : env 82 = some (.ir ir82) := rfl
@[simp] theorem m82 : ir82.mode = .own := rfl
@[simp] theorem c82 (args : List V) (H : Heap) : evCall env (den env) 82 args H = ownC (ownR env 82) H (rdL (rd H depth) args) := call_own e82 rfl args H
@[simp] theorem e86 : env 86 = some (.ir ir86) := rfl
@[simp] theorem m86 : ir86.mode = .own := rfl
@[simp] theorem c86 (args : List V) (H : Heap) : evCall env (den env) 86 args H = ownC (ownR env 86) H (rdL (rd H depth) args) := call_own e86 rfl args H
@[simp] theorem e84 : env 84 = some (.ir ir84) := rfl
@[simp] theorem m84 : ir84.mode = .own := rfl
@[simp] theorem c84 (args : List V) (H : Heap) : evCall env (den env) 84 args H = ownC (ownR env 84) H (rdL (rd H depth) args) := call_own e84 rfl args H
@[simp] theorem e85 : env 85 = some (.ir ir85) := rfl
@[simp] theorem m85 : ir85.mode = .own := rfl
@[simp] theorem c85 (args : List V) (H : Heap) : evCall env (den env) 85 args H = ownC (ownR env 85) H (rdL (rd H depth) args) := call_own e85 rfl args H
@[simp] theorem e88 : env 88 = some (.ir ir88) := rfl
@[simp] theorem m88 : ir88.mode = .own := rfl
@[simp] theorem c88 (args : List V) (H : Heap) : evCall env (den env) 88 args H = ownC (ownR env 88) H (rdL (rd H depth) args) := call_own e88 rfl args H
@[simp] theorem e68 : env 68 = some (.ir ir68) := rfl
@[simp] theorem m68 : ir68.mode = .own := rfl
@[simp] theorem c68 (args : List V) (H : Heap) : evCall env (den env) 68 args H = ownC (ownR env 68) H (rdL (rd H depth) args) := call_own e68 rfl args H
@[simp] theorem e40 : env 40 = some (.ir ir40) := rfl
@[simp] theorem m40 : ir40.mode = .own := rfl
@[simp] theorem c40 (args : List V) (H : Heap) : evCall env (den env) 40 args H = ownC (ownR env 40) H (rdL (rd H depth) args) := call_own e40 rfl args H
@[simp] theorem e4 : env 4 = some (.ir ir4) := rfl
@[simp] theorem m4 : ir4.mode = .own := rfl
@[simp] theorem c4 (args : List V) (H : Heap) : evCall env (den env) 4 args H = ownC (ownR env 4) H (rdL (rd H depth) args) := call_own e4 rfl args H
@[simp] theorem e26 : env 26 = some (.ir ir26) := rfl
@[simp] theorem m26 : ir26.mode = .own := rfl
@[simp] theorem c26 (args : List V) (H : Heap) : evCall env (den env) 26 args H = ownC (ownR env 26) H (rdL (rd H depth) args) := call_own e26 rfl args H
@[simp] theorem e27 : env 27 = some (.ir ir27) := rfl
@[simp] theorem m27 : ir27.mode = .ownF := rfl
@[simp] theorem c27 (args : List V) (H : Heap) : evCall env (den env) 27 args H = ownFC (ownFR env 27) H (rdL (rd H depth) args) := call_ownF e27 rfl args H
@[simp] theorem e28 : env 28 = some (.ir ir28) := rfl
@[simp] theorem m28 : ir28.mode = .ownF := rfl
@[simp] theorem c28 (args : List V) (H : Heap) : evCall env (den env) 28 args H = ownFC (ownFR env 28) H (rdL (rd H depth) args) := call_ownF e28 rfl args H
@[simp] theorem e29 : env 29 = some (.ir ir29) := rfl
@[simp] theorem m29 : ir29.mode = .ownF := rfl
@[simp] theorem c29 (args : List V) (H : Heap) : evCall env (den env) 29 args H = ownFC (ownFR env 29) H (rdL (rd H depth) args) := call_ownF e29 rfl args H
@[simp] theorem e30 : env 30 = some (.ir ir30) := rfl
@[simp] theorem m30 : ir30.mode = .own := rfl
@[simp] theorem c30 (args : List V) (H : Heap) : evCall env (den env) 30 args H = ownC (ownR env 30) H (rdL (rd H depth) args) := call_own e30 rfl args H
@[simp] theorem e52 : env 52 = some (.ir ir52) := rfl
@[simp] theorem m52 : ir52.mode = .ownF := rfl
@[simp] theorem c52 (args : List V) (H : Heap) : evCall env (den env) 52 args H = ownFC (ownFR env 52) H (rdL (rd H depth) args) := call_ownF e52 rfl args H
@[simp] theorem e53 : env 53 = some (.ir ir53) := rfl
@[simp] theorem m53 : ir53.mode = .ref := rfl
@[simp] theorem c53 (args : List V) (H : Heap) : evCall env (den env) 53 args H = refC2 (den env 53) H (callM.rdArgs H args) := call_ref e53 rfl args H
@[simp] theorem e54 : env 54 = some (.ir ir54) := rfl
@[simp] theorem m54 : ir54.mode = .ref := rfl
@[simp] theorem c54 (args : List V) (H : Heap) : evCall env (den env) 54 args H = refC2 (den env 54) H (callM.rdArgs H args) := call_ref e54 rfl args H
@[simp] theorem e55 : env 55 = some (.ir ir55) := rfl
@[simp] theorem m55 : ir55.mode = .ref := rfl
@[simp] theorem c55 (args : List V) (H : Heap) : evCall env (den env) 55 args H = refC2 (den env 55) H (callM.rdArgs H args) := call_ref e55 rfl args H
@[simp] theorem e56 : env 56 = some (.ir ir56) := rfl
@[simp] theorem m56 : ir56.mode = .ref := rfl
@[simp] theorem c56 (args : List V) (H : Heap) : evCall env (den env) 56 args H = refC2 (den env 56) H (callM.rdArgs H args) := call_ref e56 rfl args H
@[simp] theorem e77 : env 77 = some (.ir ir77) := rfl
@[simp] theorem m77 : ir77.mode = .ref := rfl
@[simp] theorem c77 (args : List V) (H : Heap) : evCall env (den env) 77 args H = refC2 (den env 77) H (callM.rdArgs H args) := call_ref e77 rfl args H
@[simp] theorem e78 : env 78 = some (.ir ir78) := rfl
@[simp] theorem m78 : ir78.mode = .ref := rfl
@[simp] theorem c78 (args : List V) (H : Heap) : evCall env (den env) 78 args H = refC2 (den env 78) H (callM.rdArgs H args) := call_ref e78 rfl args H
@[simp] theorem e79 : env 79 = some (.ir ir79) := rfl
@[simp] theorem m79 : ir79.mode = .ref := rfl
@[simp] theorem c79 (args : List V) (H : Heap) : evCall env (den env) 79 args H = refC2 (den env 79) H (callM.rdArgs H args) := call_ref e79 rfl args H
@[simp] theorem e80 : env 80 = some (.ir ir80) := rfl
@[simp] theorem m80 : ir80.mode = .ref := rfl
@[simp] theorem c80 (args : List V) (H : Heap) : evCall env (den env) 80 args H = refC2 (den env 80) H (callM.rdArgs H args) := call_ref e80 rfl args H
@[simp] theorem e5 : env 5 = some (.ir ir5) := rfl
@[simp] theorem m5 : ir5.mode = .ownF := rfl
@[simp] theorem c5 (args : List V) (H : Heap) : evCall env (den env) 5 args H = ownFC (ownFR env 5) H (rdL (rd H depth) args) := call_ownF e5 rfl args H
@[simp] theorem e6 : env 6 = some (.ir ir6) := rfl
@[simp] theorem m6 : ir6.mode = .ownF := rfl
@[simp] theorem c6 (args : List V) (H : Heap) : evCall env (den env) 6 args H = ownFC (ownFR env 6) H (rdL (rd H depth) args) := call_ownF e6 rfl args H
@[simp] theorem e7 : env 7 = some (.ir ir7) := rfl
@[simp] theorem m7 : ir7.mode = .own := rfl
@[simp] theorem c7 (args : List V) (H : Heap) : evCall env (den env) 7 args H = ownC (ownR env 7) H (rdL (rd H depth) args) := call_own e7 rfl args H
@[simp] theorem e8 : env 8 = some (.ir ir8) := rfl
@[simp] theorem m8 : ir8.mode = .own := rfl
@[simp] theorem c8 (args : List V) (H : Heap) : evCall env (den env) 8 args H = ownC (ownR env 8) H (rdL (rd H depth) args) := call_own e8 rfl args H
@[simp] theorem e9 : env 9 = some (.ir ir9) := rfl
@[simp] theorem m9 : ir9.mode = .own := rfl
@[simp] theorem c9 (args : List V) (H : Heap) : evCall env (den env) 9 args H = ownC (ownR env 9) H (rdL (rd H depth) args) := call_own e9 rfl args H
@[simp] theorem e10 : env 10 = some (.ir ir10) := rfl
@[simp] theorem m10 : ir10.mode = .own := rfl
@[simp] theorem c10 (args : List V) (H : Heap) : evCall env (den env) 10 args H = ownC (ownR env 10) H (rdL (rd H depth) args) := call_own e10 rfl args H
@[simp] theorem e11 : env 11 = some (.ir ir11) := rfl
@[simp] theorem m11 : ir11.mode = .own := rfl
@[simp] theorem c11 (args : List V) (H : Heap) : evCall env (den env) 11 args H = ownC (ownR env 11) H (rdL (rd H depth) args) := call_own e11 rfl args H
@[simp] theorem e13 : env 13 = some (.ir ir13) := rfl
@[simp] theorem m13 : ir13.mode = .own := rfl
@[simp] theorem c13 (args : List V) (H : Heap) : evCall env (den env) 13 args H = ownC (ownR env 13) H (rdL (rd H depth) args) := call_own e13 rfl args H
@[simp] theorem e14 : env 14 = some (.ir ir14) := rfl
@[simp] theorem m14 : ir14.mode = .own := rfl
@[simp] theorem c14 (args : List V) (H : Heap) : evCall env (den env) 14 args H = ownC (ownR env 14) H (rdL (rd H depth) args) := call_own e14 rfl args H
@[simp] theorem e15 : env 15 = some (.ir ir15) := rfl
@[simp] theorem m15 : ir15.mode = .own := rfl
@[simp] theorem c15 (args : List V) (H : Heap) : evCall env (den env) 15 args H = ownC (ownR env 15) H (rdL (rd H depth) args) := call_own e15 rfl args H
@[simp] theorem e16 : env 16 = some (.ir ir16) := rfl
@[simp] theorem m16 : ir16.mode = .own := rfl
@[simp] theorem c16 (args : List V) (H : Heap) : evCall env (den env) 16 args H = ownC (ownR env 16) H (rdL (rd H depth) args) := call_own e16 rfl args H
@[simp] theorem e17 : env 17 = some (.ir ir17) := rfl
@[simp] theorem m17 : ir17.mode = .own := rfl
@[simp] theorem c17 (args : List V) (H : Heap) : evCall env (den env) 17 args H = ownC (ownR env 17) H (rdL (rd H depth) args) := call_own e17 rfl args H
@[simp] theorem e18 : env 18 = some (.ir ir18) := rfl
@[simp] theorem m18 : ir18.mode = .own := rfl
@[simp] theorem c18 (args : List V) (H : Heap) : evCall env (den env) 18 args H = ownC (ownR env 18) H (rdL (rd H depth) args) := call_own e18 rfl args H
@[simp] theorem e19 : env 19 = some (.ir ir19) := rfl
@[simp] theorem m19 : ir19.mode = .own := rfl
@[simp] theorem c19 (args : List V) (H : Heap) : evCall env (den env) 19 args H = ownC (ownR env 19) H (rdL (rd H depth) args) := call_own e19 rfl args H
@[simp] theorem e20 : env 20 = some (.ir ir20) := rfl
@[simp] theorem m20 : ir20.mode = .own := rfl
@[simp] theorem c20 (args : List V) (H : Heap) : evCall env (den env) 20 args H = ownC (ownR env 20) H (rdL (rd H depth) args) := call_own e20 rfl args H
@[simp] theorem e21 : env 21 = some (.ir ir21) := rfl
@[simp] theorem m21 : ir21.mode = .own := rfl
@[simp] theorem c21 (args : List V) (H : Heap) : evCall env (den env) 21 args H = ownC (ownR env 21) H (rdL (rd H depth) args) := call_own e21 rfl args H
@[simp] theorem e22 : env 22 = some (.ir ir22) := rfl
@[simp] theorem m22 : ir22.mode = .own := rfl
@[simp] theorem c22 (args : List V) (H : Heap) : evCall env (den env) 22 args H = ownC (ownR env 22) H (rdL (rd H depth) args) := call_own e22 rfl args H
@[simp] theorem e23 : env 23 = some (.ir ir23) := rfl
@[simp] theorem m23 : ir23.mode = .own := rfl
@[simp] theorem c23 (args : List V) (H : Heap) : evCall env (den env) 23 args H = ownC (ownR env 23) H (rdL (rd H depth) args) := call_own e23 rfl args H
@[simp] theorem e24 : env 24 = some (.ir ir24) := rfl
@[simp] theorem m24 : ir24.mode = .own := rfl
@[simp] theorem c24 (args : List V) (H : Heap) : evCall env (den env) 24 args H = ownC (ownR env 24) H (rdL (rd H depth) args) := call_own e24 rfl args H
@[simp] theorem e25 : env 25 = some (.ir ir25) := rfl
@[simp] theorem m25 : ir25.mode = .own := rfl
@[simp] theorem c25 (args : List V) (H : Heap) : evCall env (den env) 25 args H = ownC (ownR env 25) H (rdL (rd H depth) args) := call_own e25 rfl args H
@[simp] theorem e31 : env 31 = some (.ir ir31) := rfl
@[simp] theorem m31 : ir31.mode = .own := rfl
@[simp] theorem c31 (args : List V) (H : Heap) : evCall env (den env) 31 args H = ownC (ownR env 31) H (rdL (rd H depth) args) := call_own e31 rfl args H
@[simp] theorem e33 : env 33 = some (.ir ir33) := rfl
@[simp] theorem m33 : ir33.mode = .own := rfl
@[simp] theorem c33 (args : List V) (H : Heap) : evCall env (den env) 33 args H = ownC (ownR env 33) H (rdL (rd H depth) args) := call_own e33 rfl args H
@[simp] theorem e36 : env 36 = some (.ir ir36) := rfl
@[simp] theorem m36 : ir36.mode = .own := rfl
@[simp] theorem c36 (args : List V) (H : Heap) : evCall env (den env) 36 args H = ownC (ownR env 36) H (rdL (rd H depth) args) := call_own e36 rfl args H
@[simp] theorem e38 : env 38 = some (.ir ir38) := rfl
@[simp] theorem m38 : ir38.mode = .own := rfl
@[simp] theorem c38 (args : List V) (H : Heap) : evCall env (den env) 38 args H = ownC (ownR env 38) H (rdL (rd H depth) args) := call_own e38 rfl args H
@[simp] theorem e39 : env 39 = some (.ir ir39) := rfl
@[simp] theorem m39 : ir39.mode = .own := rfl
@[simp] theorem c39 (args : List V) (H : Heap) : evCall env (den env) 39 args H = ownC (ownR env 39) H (rdL (rd H depth) args) := call_own e39 rfl args H
@[simp] theorem e42 : env 42 = some (.ir ir42) := rfl
@[simp] theorem m42 : ir42.mode = .own := rfl
@[simp] theorem c42 (args : List V) (H : Heap) : evCall env (den env) 42 args H = ownC (ownR env 42) H (rdL (rd H depth) args) := call_own e42 rfl args H
@[simp] theorem e44 : env 44 = some (.ir ir44) := rfl
@[simp] theorem m44 : ir44.mode = .own := rfl
@[simp] theorem c44 (args : List V) (H : Heap) : evCall env (den env) 44 args H = ownC (ownR env 44) H (rdL (rd H depth) args) := call_own e44 rfl args H
@[simp] theorem e47 : env 47 = some (.ir ir47) := rfl
@[simp] theorem m47 : ir47.mode = .ownF := rfl
@[simp] theorem c47 (args : List V) (H : Heap) : evCall env (den env) 47 args H = ownFC (ownFR env 47) H (rdL (rd H depth) args) := call_ownF e47 rfl args H
@[simp] theorem e48 : env 48 = some (.ir ir48) := rfl
@[simp] theorem m48 : ir48.mode = .own := rfl
@[simp] theorem c48 (args : List V) (H : Heap) : evCall env (den env) 48 args H = ownC (ownR env 48) H (rdL (rd H depth) args) := call_own e48 rfl args H
@[simp] theorem e62 : env 62 = some (.ir ir62) := rfl
@[simp] theorem m62 : ir62.mode = .own := rfl
@[simp] theorem c62 (args : List V) (H : Heap) : evCall env (den env) 62 args H = ownC (ownR env 62) H (rdL (rd H depth) args) := call_own e62 rfl args H
@[simp] theorem e63 : env 63 = some (.ir ir63) := rfl
@[simp] theorem m63 : ir63.mode = .own := rfl
@[simp] theorem c63 (args : List V) (H : Heap) : evCall env (den env) 63 args H = ownC (ownR env 63) H (rdL (rd H depth) args) := call_own e63 rfl args H
@[simp] theorem e65 : env 65 = some (.ir ir65) := rfl
@[simp] theorem m65 : ir65.mode = .own := rfl
@[simp] theorem c65 (args : List V) (H : Heap) : evCall env (den env) 65 args H = ownC (ownR env 65) H (rdL (rd H depth) args) := call_own e65 rfl args H
@[simp] theorem e69 : env 69 = some (.ir ir69) := rfl
@[simp] theorem m69 : ir69.mode = .own := rfl
@[simp] theorem c69 (args : List V) (H : Heap) : evCall env (den env) 69 args H = ownC (ownR env 69) H (rdL (rd H depth) args) := call_own e69 rfl args H
@[simp] theorem e71 : env 71 = some (.ir ir71) := rfl
@[simp] theorem m71 : ir71.mode = .own := rfl
@[simp] theorem c71 (args : List V) (H : Heap) : evCall env (den env) 71 args H = ownC (ownR env 71) H (rdL (rd H depth) args) := call_own e71 rfl args H
@[simp] theorem e83 : env 83 = some (.ir ir83) := rfl
@[simp] theorem m83 : ir83.mode = .own := rfl
@[simp] theorem c83 (args : List V) (H : Heap) : evCall env (den env) 83 args H = ownC (ownR env 83) H (rdL (rd H depth) args) := call_own e83 rfl args H
@[simp] theorem e72 : env 72 = some (.prim .own (cloneP 1)) := rfl
@[simp] theorem c72 (args : List V) (H : Heap) : evCall env (den env) 72 args H = ownC (primR (cloneP 1)) H (rdL (rd H depth) args) := call_prim e72 args H
end Go.Proofs.Ytdgfpjlmpnfcgaa.Ev
namespace Go.Proofs.Ytdgfpjlmpnfcgaa.Ev
open Go
set_option linter.unusedVariables false
set_option linter.unusedSimpArgs false
attribute [local simp] til_getE til_length til_get til_drop til_take til_append til_nil til_cons til_replicate til_set
def inB (x a b : Int) : Bool := decide (a ≤ x ∧ x ≤ b)
theorem inB_iff (x a b : Int) : inB x a b = true ↔ a ≤ x ∧ x ≤ b := by simp [inB]
theorem w76 {n : Int} (h : -9223372036854775808 ≤ n ∧ n ≤ 9223372036854775807) : IntKind.i64.wrap n = n := IntWalk.i64_in n h

@[simp] theorem r68 (x a b : Int) : ownR env 68 [ti x, ti a, ti b] = some (.t (tb (inB x a b)), []) := by
  rw [own_ir e68 _ rfl]
  by_cases h : a ≤ x <;> simp [ir68, ir68_c, h, inB]
@[simp] theorem r40 (x a b : Int) : ownR env 40 [ti x, ti a, ti b] = some (.t (tb (inB x a b)), []) := by
  rw [own_ir e40 _ rfl]
  by_cases h : a ≤ x <;> simp [ir40, ir40_c, h, inB]
def good (a b c : Int) : Bool := inB a 1 3 && inB b 1 3 && inB c 0 2
theorem good_of {a b c : Int} (h : good a b c = true) : 1 ≤ a ∧ a ≤ 3 ∧ 1 ≤ b ∧ b ≤ 3 ∧ 0 ≤ c ∧ c ≤ 2 := by simp [good, inB] at h; omega
@[simp] theorem r12 (a b c : Int) : ownR env 12 [.agg [ti a, ti b, ti c]] = some (.t (tb (good a b c)), []) := by
  rw [own_ir e12 _ rfl]
  cases h1 : inB a 1 3 <;> cases h2 : inB b 1 3 <;> simp [ir12, ir12_c, h1, h2, good]
@[simp] theorem r41 (a b c : Int) : ownR env 41 [.agg [ti a, ti b, ti c]] = some (.t (tb (good a b c)), []) := by
  rw [own_ir e41 _ rfl]
  cases h1 : inB a 1 3 <;> cases h2 : inB b 1 3 <;> simp [ir41, ir41_c, h1, h2, good]
theorem r66 (a b c : Int) (h : 0 ≤ a ∧ a ≤ 10) : ownR env 66 [.agg [ti a, ti b, ti c]] = some (.t (ti (2 * a)), []) := by
  rw [own_ir e66 _ rfl]
  simp [ir66, ir66_c, w76 (n := 2 * a) (by omega)]
theorem r51 (a b c : Int) (h : 0 ≤ c ∧ c ≤ 10) : ownR env 51 [.agg [ti a, ti b, ti c]] = some (.t (ti (c + 1)), []) := by
  rw [own_ir e51 _ rfl]
  simp [ir51, ir51_c, w76 (n := c + 1) (by omega)]
theorem r75 (l : List Int) (h : l.length ≤ 1000) : ownR env 75 [tl l] = some (.ref 0 0 l.length, [.pure 1 (til l)]) := by
  rw [own_ir e75 _ rfl]
  simp [ir75, ir75_c, show l.length ≤ 68719476736 by omega, til_flat]
def stand (p : Int) : Nat → List Int → List Int
  | _, [] => []
  | i, x :: xs => if x = p then (i : Int) :: stand p (i + 1) xs else stand p (i + 1) xs
theorem l57 (xs : List Int) (p : Int) (hl : xs.length ≤ 1000) : ∀ (d i : Nat) (acc : List Int), i + d = xs.length → acc.length ≤ i →
    loopF env true [1, 5, 10, 11, 12] ir57_b0 ([(1, .t (ti p)), (5, .ref 0 0 acc.length), (10, .t (tl xs)), (11, .t (ti xs.length)), (12, .t (ti i))], [.pure 1 (til acc)]) =
      some (.exit 0, [(1, .t (ti p)), (5, .ref 0 0 (acc ++ stand p i (xs.drop i)).length), (10, .t (tl xs)), (11, .t (ti xs.length)), (12, .t (ti xs.length)), (13, .t (tb false))], [.pure 1 (til (acc ++ stand p i (xs.drop i)))])
  | 0, i, acc, hi, _ => by
    rw [x57_0]
    have : i = xs.length := by omega
    subst this
    simp [ir57_d0, stand]
  | d + 1, i, acc, hi, ha => by
    rw [x57_0]
    have hlt : i < xs.length := by omega
    have ha2 : acc.length + 1 ≤ 68719476736 := by omega
    have hw : IntKind.i64.wrap ((i : Int) + 1) = (i : Int) + 1 := w76 (by omega)
    have hd : xs.drop i = xs[i] :: xs.drop (i + 1) := List.drop_eq_getElem_cons hlt
    by_cases h : xs[i] = p
    · have ih := l57 xs p hl d (i + 1) (acc ++ [(i : Int)]) (by omega) (by simp; omega)
      have hs : stand p i (xs.drop i) = (i : Int) :: stand p (i + 1) (xs.drop (i + 1)) := by rw [hd, stand, if_pos h]
      simp at ih
      simp [ir57_d0, hlt, h, ha2, hw, hs, ih]
    · have ih := l57 xs p hl d (i + 1) acc (by omega) (by omega)
      have hs : stand p i (xs.drop i) = stand p (i + 1) (xs.drop (i + 1)) := by rw [hd, stand, if_neg h]
      simp at ih
      simp [ir57_d0, hlt, h, hw, hs, ih]
theorem r57 (xs : List Int) (b p : Int) (hl : xs.length ≤ 1000) : ownR env 57 [.agg [tl xs, ti b], ti p] = some (.ref 0 0 (stand p 0 xs).length, [.pure 1 (til (stand p 0 xs))]) := by
  rw [own_ir e57 _ rfl]
  have h := l57 xs p hl xs.length 0 [] (by omega) (by simp)
  simp at h
  simp [ir57, ir57_c, h, til_flat]
end Go.Proofs.Ytdgfpjlmpnfcgaa.Ev

namespace Go.Proofs.Ytdgfpjlmpnfcgaa.Ev
open Go
set_option linter.unusedVariables false
set_option linter.unusedSimpArgs false
attribute [local simp] til_getE til_length til_get til_drop til_take til_append til_nil til_cons til_replicate til_set
def setAll (t : Int) : List Int → List Int → List Int
  | [], l => l
  | k :: g, l => setAll t g (l.set k.toNat t)
theorem setAll_length (t : Int) : ∀ (g l : List Int), (setAll t g l).length = l.length
  | [], l => rfl
  | k :: g, l => by rw [setAll, setAll_length]; simp

theorem l43 (g : List Int) (t : Int) (n : Nat) (hn : n ≤ 1000) (hg : g.length ≤ 1000) (hk : ∀ k ∈ g, 0 ≤ k ∧ k < n) : ∀ (d i : Nat) (y : List Int), i + d = g.length → y.length = n →
    loopF env true [1, 6, 7, 15, 16, 17] ir43_b0 ([(1, .t (ti t)), (6, .ptr 0 0 0), (7, .ptr 1 0 0), (15, .t (tl g)), (16, .t (ti g.length)), (17, .t (ti i))], [.box 2 [.t .nil, .t (ti 0)], .box 2 [.ref 2 0 n, .t (ti t)], .pure 1 (til y)]) =
      some (.exit 0, [(1, .t (ti t)), (6, .ptr 0 0 0), (7, .ptr 1 0 0), (15, .t (tl g)), (16, .t (ti g.length)), (17, .t (ti g.length)), (18, .t (tb false))], [.box 2 [.t .nil, .t (ti 0)], .box 2 [.ref 2 0 n, .t (ti t)], .pure 1 (til (setAll t (g.drop i) y))])
  | 0, i, y, hi, hy => by
    rw [x43_0]
    have : i = g.length := by omega
    subst this
    simp [ir43_d0, setAll]
  | d + 1, i, y, hi, hy => by
    rw [x43_0]
    have hlt : i < g.length := by omega
    have hw : IntKind.i64.wrap ((i : Int) + 1) = (i : Int) + 1 := w76 (by omega)
    have hd : g.drop i = g[i] :: g.drop (i + 1) := List.drop_eq_getElem_cons hlt
    have hs : setAll t (g.drop i) y = setAll t (g.drop (i + 1)) (y.set (g[i]).toNat t) := by rw [hd, setAll]
    have hkk := hk g[i] (List.getElem_mem hlt)
    have hkn : (g[i]).toNat < y.length := by omega
    have ih := l43 g t n hn hg hk d (i + 1) (y.set (g[i]).toNat t) (by omega) (by simpa using hy)
    simp at ih
    simp [ir43_d0, hlt, hw, hs, hkk.1, hkk.2, hkn, ih]
theorem r43 (xs g : List Int) (p t : Int) (h : xs.length ≤ 1000) (hg : g.length ≤ 1000) (hk : ∀ k ∈ g, 0 ≤ k ∧ k < xs.length) : ownR env 43 [.agg [tl xs, ti p], ti t, tl g] = some (.agg [.ref 0 0 xs.length, .t (ti t)], [.pure 1 (til (setAll t g xs))]) := by
  rw [own_ir e43 _ rfl]
  have hl := l43 g t xs.length h hg hk g.length 0 xs (by omega) rfl
  simp at hl
  simp [ir43, ir43_c, clone_til, show xs.length ≤ 68719476736 by omega, hl, til_flat]
end Go.Proofs.Ytdgfpjlmpnfcgaa.Ev

namespace Go.Proofs.Ytdgfpjlmpnfcgaa.Ev
open Go
set_option linter.unusedVariables false
set_option linter.unusedSimpArgs false
attribute [local simp] til_getE til_length til_get til_drop til_take til_append til_nil til_cons til_replicate til_set
def codeW (b p : Int) (xs : List Int) : Int := xs.foldl (fun a x => IntKind.i64.wrap (IntKind.i64.wrap (a * b) + x)) p
theorem codeW_cons (b p x : Int) (xs : List Int) : codeW b p (x :: xs) = codeW b (IntKind.i64.wrap (IntKind.i64.wrap (p * b) + x)) xs := rfl

theorem l50 (a b c n : Int) (ha : 0 ≤ a ∧ a ≤ 10) (m : Nat) (hm : (m : Int) = 2 * a) : ∀ (d i : Nat), i + d = m → 0 < i →
    loopF env true [1, 2, 4, 5] ir50_b0 ([(1, .t (ti n)), (2, .ptr 0 0 0), (4, .ptr 1 0 0), (5, .ptr 2 0 0)], [.box 3 [.t (ti a), .t (ti b), .t (ti c)], .box 2 [.t .nil, .t (ti 0)], .box 2 [.ref 3 0 i, .t (ti n)], .pure 1 (til (List.replicate i n))]) =
      some (.exit 0, [(1, .t (ti n)), (2, .ptr 0 0 0), (4, .ptr 1 0 0), (5, .ptr 2 0 0), (8, .ptr 2 0 0), (9, .ref 3 0 m), (10, .t (ti m)), (11, .ptr 0 0 0), (12, .t (ti a)), (13, .t (ti (2 * a))), (14, .t (tb false))], [.box 3 [.t (ti a), .t (ti b), .t (ti c)], .box 2 [.t .nil, .t (ti 0)], .box 2 [.ref 3 0 m, .t (ti n)], .pure 1 (til (List.replicate m n))])
  | 0, i, hi, h0 => by
    rw [x50_0]
    have hw : IntKind.i64.wrap (2 * a) = 2 * a := w76 (by omega)
    have : i = m := by omega
    subst this
    simp [ir50_d0, hw, hm]
  | d + 1, i, hi, h0 => by
    rw [x50_0]
    have hw : IntKind.i64.wrap (2 * a) = 2 * a := w76 (by omega)
    have hlt : (i : Int) < 2 * a := by omega
    have ih := l50 a b c n ha m hm d (i + 1) (by omega) (by omega)
    have hr : List.replicate (i + 1) n = List.replicate i n ++ [n] := List.replicate_succ'
    rw [hr] at ih
    simp at ih
    simp [ir50_d0, hw, hlt, show i + 1 ≤ 68719476736 by omega, ih]
theorem r50 (a b c n : Int) (ha : 1 ≤ a ∧ a ≤ 10) : ownR env 50 [.agg [ti a, ti b, ti c], ti n] = some (.agg [.ref 0 0 (2 * a).toNat, .t (ti n)], [.pure 1 (til (List.replicate (2 * a).toNat n))]) := by
  rw [own_ir e50 _ rfl]
  have hw : IntKind.i64.wrap (2 * a) = 2 * a := w76 (by omega)
  have hl := l50 a b c n (by omega) (2 * a).toNat (by omega) ((2 * a).toNat - 1) 1 (by omega) (by omega)
  simp at hl
  simp [ir50, ir50_c]
  rw [x50_0]
  simp [ir50_d0, hw, show 0 < 2 * a by omega, hl, til_flat]
end Go.Proofs.Ytdgfpjlmpnfcgaa.Ev

namespace Go.Proofs.Ytdgfpjlmpnfcgaa.Ev
open Go
set_option linter.unusedVariables false
set_option linter.unusedSimpArgs false
attribute [local simp] til_getE til_length til_get til_drop til_take til_append til_nil til_cons til_replicate til_set
def indexI (x : Int) : Nat → List Int → Int
  | _, [] => -1
  | i, y :: ys => if x = y then i else indexI x (i + 1) ys
theorem indexI_nonneg (x : Int) : ∀ (ys : List Int) (i : Nat), 0 ≤ indexI x i ys ↔ x ∈ ys
  | [], i => by simp [indexI]
  | y :: ys, i => by
    simp only [indexI]
    split
    · rename_i h; simp [h]
    · rename_i h; rw [indexI_nonneg x ys (i + 1)]; simp [h]

theorem l84 (g : List Int) (x : Int) (hg : g.length ≤ 1000000) : ∀ (d i : Nat) (R : Option (V × Heap)), i + d = g.length →
    endO [.tmp 4] (andN (outB 0 (loopF env true [0, 1, 7, 8] ir84_b0 ([(0, .t (tl g)), (1, .t (ti x)), (7, .t (ti g.length)), (8, .t (ti i))], []))) (execD env (.seq (.reg false [] [⟨some 4, none, .mv (.k (ti (-1)))⟩]) .ret))) = some (.t (ti (indexI x i (g.drop i))), [])
  | 0, i, R, hi => by
    rw [x84_0]
    have : i = g.length := by omega
    subst this
    simp [ir84_d0, indexI]
  | d + 1, i, R, hi => by
    rw [x84_0]
    have hlt : i < g.length := by omega
    have hw : IntKind.i64.wrap ((i : Int) + 1) = (i : Int) + 1 := w76 (by omega)
    have ih := l84 g x hg d (i + 1) R (by omega)
    by_cases h : x = g[i]
    · have hs : indexI x i (g.drop i) = (i : Int) := by rw [List.drop_eq_getElem_cons hlt, indexI, if_pos h]
      simp [ir84_d0, hlt, hw, ← h, hs]
    · have hs : indexI x i (g.drop i) = indexI x (i + 1) (g.drop (i + 1)) := by rw [List.drop_eq_getElem_cons hlt, indexI, if_neg h]
      simp at ih
      simp [ir84_d0, hlt, hw, hs, h, ih]
theorem r84 (g : List Int) (x : Int) (hg : g.length ≤ 1000000) : ownR env 84 [tl g, ti x] = some (.t (ti (indexI x 0 g)), []) := by
  rw [own_ir e84 _ rfl]
  have hl := l84 g x hg g.length 0 none (by omega)
  simp at hl
  simp [ir84, ir84_c, hl]
theorem r67 (g : List Int) (x : Int) (hg : g.length ≤ 1000000) : ownR env 67 [tl g, ti x] = some (.t (tb (decide (x ∈ g))), []) := by
  rw [own_ir e67 _ rfl]
  simp [ir67, ir67_c, r84 g x hg, indexI_nonneg]
@[simp] theorem r82 (x : Int) : ownR env 82 [ti x] = some (.t (tb (decide (x.tmod 2 = 0))), []) := by
  rw [own_ir e82 _ rfl]
  simp [ir82, ir82_c]
def evenI : Nat → List Int → Int
  | _, [] => -1
  | i, y :: ys => if y.tmod 2 = 0 then i else evenI (i + 1) ys
theorem evenI_nonneg : ∀ (ys : List Int) (i : Nat), 0 ≤ evenI i ys ↔ ∃ y ∈ ys, y.tmod 2 = 0
  | [], i => by simp [evenI]
  | y :: ys, i => by
    simp only [evenI]
    split
    · rename_i h; simp [h]
    · rename_i h; rw [evenI_nonneg ys (i + 1)]; simp [h]
theorem l85 (g : List Int) (hg : g.length ≤ 1000000) : ∀ (d i : Nat), i + d = g.length →
    endO [.tmp 4] (andN (outB 0 (loopF env true [0, 1, 7, 8] ir85_b0 ([(0, .t (tl g)), (1, .t (.clo 82 [] [])), (7, .t (ti g.length)), (8, .t (ti i))], []))) (execD env (.seq (.reg false [] [⟨some 4, none, .mv (.k (ti (-1)))⟩]) .ret))) = some (.t (ti (evenI i (g.drop i))), [])
  | 0, i, hi => by
    rw [x85_0]
    have : i = g.length := by omega
    subst this
    simp [ir85_d0, evenI]
  | d + 1, i, hi => by
    rw [x85_0]
    have hlt : i < g.length := by omega
    have hw : IntKind.i64.wrap ((i : Int) + 1) = (i : Int) + 1 := w76 (by omega)
    have ih := l85 g hg d (i + 1) (by omega)
    by_cases h : (g[i]).tmod 2 = 0
    · have hs : evenI i (g.drop i) = (i : Int) := by rw [List.drop_eq_getElem_cons hlt, evenI, if_pos h]
      simp [ir85_d0, hlt, hw, hs, h]
    · have hs : evenI i (g.drop i) = evenI (i + 1) (g.drop (i + 1)) := by rw [List.drop_eq_getElem_cons hlt, evenI, if_neg h]
      simp at ih
      simp [ir85_d0, hlt, hw, hs, h, ih]
theorem r85 (g : List Int) (hg : g.length ≤ 1000000) : ownR env 85 [tl g, .clo 82 [] []] = some (.t (ti (evenI 0 g)), []) := by
  rw [own_ir e85 _ rfl]
  have hl := l85 g hg g.length 0 (by omega)
  simp at hl
  simp [ir85, ir85_c, hl]
theorem r70 (g : List Int) (hg : g.length ≤ 1000000) : ownR env 70 [tl g, .clo 82 [] []] = some (.t (tb (decide (∃ y ∈ g, y.tmod 2 = 0))), []) := by
  rw [own_ir e70 _ rfl]
  simp [ir70, ir70_c, r85 g hg, evenI_nonneg]
def calmI (g l : List Int) : Bool := l.all fun k => decide (k.tmod 2 = 0) || decide (IntKind.i64.wrap (k - 1) ∈ g) || !decide (∃ y ∈ g, y.tmod 2 = 0)
theorem l60 (g : List Int) (hg : g.length ≤ 1000000) : ∀ (d i : Nat), i + d = g.length →
    endO [.tmp 2] (andN (outB 0 (loopF env true [0, 5, 6, 7] ir60_b0 ([(0, .t (tl g)), (5, .t (tl g)), (6, .t (ti g.length)), (7, .t (ti i))], []))) (execD env (.seq (.reg false [] [⟨some 2, none, .mv (.k (tb true))⟩]) .ret))) = some (.t (tb (calmI g (g.drop i))), [])
  | 0, i, hi => by
    rw [x60_0]
    have : i = g.length := by omega
    subst this
    simp [ir60_d0, calmI]
  | d + 1, i, hi => by
    rw [x60_0]
    have hlt : i < g.length := by omega
    have hw : IntKind.i64.wrap ((i : Int) + 1) = (i : Int) + 1 := w76 (by omega)
    have ih := l60 g hg d (i + 1) (by omega)
    have hs : calmI g (g.drop i) = ((decide ((g[i]).tmod 2 = 0) || decide (IntKind.i64.wrap (g[i] - 1) ∈ g) || !decide (∃ y ∈ g, y.tmod 2 = 0)) && calmI g (g.drop (i + 1))) := by rw [List.drop_eq_getElem_cons hlt]; rfl
    simp at ih
    rw [hs]
    have h43 := r67 g (IntKind.i64.wrap (g[i] - 1)) hg
    have h44 := r70 g hg
    generalize decide (∃ y ∈ g, y.tmod 2 = 0) = b3 at *
    generalize decide (IntKind.i64.wrap (g[i] - 1) ∈ g) = b2 at *
    by_cases h1 : (g[i]).tmod 2 = 0
    · simp [ir60_d0, hlt, hw, h1, ih]
    · cases b2 with
      | true => simp [ir60_d0, hlt, hw, h1, h43, ih]
      | false =>
        cases b3 with
        | true => simp [ir60_d0, hlt, hw, h1, h43, h44, ih]
        | false => simp [ir60_d0, hlt, hw, h1, h43, h44, ih]
theorem r60 (g : List Int) (hg : g.length ≤ 1000000) : ownR env 60 [tl g] = some (.t (tb (calmI g g)), []) := by
  rw [own_ir e60 _ rfl]
  have hl := l60 g hg g.length 0 (by omega)
  simp at hl
  simp [ir60, ir60_c, hl]
end Go.Proofs.Ytdgfpjlmpnfcgaa.Ev

namespace Go.Proofs.Ytdgfpjlmpnfcgaa.Ev
open Go
set_option linter.unusedVariables false
set_option linter.unusedSimpArgs false
attribute [local simp] til_getE til_length til_get til_drop til_take til_append til_nil til_cons til_replicate til_set
theorem l73 (g : List Int) (a b : Int) (hg : g.length ≤ 1000000) : ∀ (d i : Nat), i + d = g.length → 
    endO [.tmp 6] (andN (outB 0 (loopF env true [0, 1, 2, 9, 10, 11] ir73_b0 ([(0, .t (tl g)), (1, .t (ti a)), (2, .t (ti b)), (9, .t (tl g)), (10, .t (ti g.length)), (11, .t (ti i))], []))) (execD env (.seq (.reg false [] [⟨some 6, none, .mv (.k (tb true))⟩]) .ret))) =
      some (.t (tb ((g.drop i).all (fun x => inB x a b) && (List.range' i d).all fun j => decide (j = 0) || decide (g[j - 1]?.getD 0 < g[j]?.getD 0))), [])
  | 0, i, hi => by
    rw [x73_0]
    have : i = g.length := by omega
    subst this
    simp [ir73_d0]
  | d + 1, i, hi => by
    rw [x73_0]
    have hlt : i < g.length := by omega
    have hw : IntKind.i64.wrap ((i : Int) + 1) = (i : Int) + 1 := w76 (by omega)
    have hw2 : IntKind.i64.wrap ((i : Int) - 1) = (i : Int) - 1 := w76 (by omega)
    have ih := l73 g a b hg d (i + 1) (by omega)
    have hs : (g.drop i).all (fun x => inB x a b) = (inB g[i] a b && (g.drop (i + 1)).all (fun x => inB x a b)) := by rw [List.drop_eq_getElem_cons hlt]; rfl
    have hr : List.range' i (d + 1) = i :: List.range' (i + 1) d := rfl
    rw [hs, hr, List.all_cons]
    generalize (g.drop (i + 1)).all (fun x => inB x a b) = A at *
    generalize ((List.range' (i + 1) d).all fun j => decide (j = 0) || decide (g[j - 1]?.getD 0 < g[j]?.getD 0)) = R at *
    simp at ih
    cases h1 : inB g[i] a b with
    | false => simp [ir73_d0, hlt, hw, h1]
    | true =>
      rcases Nat.eq_zero_or_pos i with h0 | h0
      · subst h0
        have hw0 : IntKind.i64.wrap 1 = 1 := w76 (by omega)
        simp at ih
        simp [ir73_d0, hlt, h1, ih, hw0]
      · have e2001 : ((i : Int) - 1).toNat = i - 1 := by omega
        have e2002 : i - 1 < g.length := by omega
        by_cases h2 : g[i] ≤ g[i - 1]
        · have h3 : ¬ (g[i - 1] < g[i]) := by omega
          simp [ir73_d0, hlt, hw, hw2, h1, h0, e2001, e2002, h2, h3, ih, show (1 : Int) ≤ i by omega, show i ≠ 0 by omega]
        · have h3 : g[i - 1] < g[i] := by omega
          simp [ir73_d0, hlt, hw, hw2, h1, h0, e2001, e2002, h2, h3, ih, show (1 : Int) ≤ i by omega, show i ≠ 0 by omega]
def risesB (a b : Int) (g : List Int) : Bool := g.all (fun x => inB x a b) && (List.range' 0 g.length).all fun j => decide (j = 0) || decide (g[j - 1]?.getD 0 < g[j]?.getD 0)
theorem r73 (g : List Int) (a b : Int) (hg : g.length ≤ 1000000) : ownR env 73 [tl g, ti a, ti b] = some (.t (tb (risesB a b g)), []) := by
  rw [own_ir e73 _ rfl]
  have hl := l73 g a b hg g.length 0 (by omega)
  simp at hl
  simp [ir73, ir73_c, hl, risesB]
end Go.Proofs.Ytdgfpjlmpnfcgaa.Ev

namespace Go.Proofs.Ytdgfpjlmpnfcgaa.Ev
open Go
set_option linter.unusedVariables false
set_option linter.unusedSimpArgs false
attribute [local simp] til_getE til_length til_get til_drop til_take til_append til_nil til_cons til_replicate til_set
theorem or64 (x y : Nat) (hx : x < 2 ^ 62) (hy : y < 2 ^ 62) : orI .i64 (x : Int) (y : Int) = ((x ||| y : Nat) : Int) := by
  unfold orI
  have e : ∀ z : Nat, z < 2 ^ 62 → (BitVec.ofInt 64 (z : Int)).toNat = z := fun z hz => by
    rw [BitVec.toNat_ofInt]; omega
  have h : (BitVec.ofInt IntKind.i64.bits (x : Int) ||| BitVec.ofInt IntKind.i64.bits (y : Int)).toNat = x ||| y := by
    show (BitVec.ofInt 64 (x : Int) ||| BitVec.ofInt 64 (y : Int)).toNat = _
    rw [BitVec.toNat_or, e x hx, e y hy]
  rw [h]
  have := Nat.or_lt_two_pow hx hy
  exact w76 (by omega)
theorem shl64 (i : Nat) (hi : i ≤ 60) : shlI .i64 1 (i : Int) = ((2 ^ i : Nat) : Int) := by
  unfold shlI
  have e : min ((i : Int)).toNat IntKind.i64.bits = i := by show min ((i : Int)).toNat 64 = i; omega
  rw [e]
  have : (2 : Nat) ^ i ≤ 2 ^ 60 := Nat.pow_le_pow_right (by decide) hi
  have e2002 : (1 : Int) * 2 ^ i = ((2 ^ i : Nat) : Int) := by simp
  rw [e2002]
  generalize (2 : Nat) ^ i = M at *
  exact w76 (by omega)
theorem shr64 (N i : Nat) (hi : i ≤ 60) : shrI .i64 (N : Int) (i : Int) = ((N / 2 ^ i : Nat) : Int) := by
  unfold shrI
  have e : min ((i : Int)).toNat IntKind.i64.bits = i := by show min ((i : Int)).toNat 64 = i; omega
  rw [e, Int.fdiv_eq_ediv_of_nonneg _ (by exact Int.le_of_lt (Int.pow_pos (by decide)))]
  simp
def bitsI : List Int → Nat → Nat
  | [], N => N
  | k :: g, N => bitsI g (N ||| 2 ^ k.toNat)
theorem l74 (g : List Int) (hg : g.length ≤ 1000000) (hk : ∀ k ∈ g, 0 ≤ k ∧ k < 40) : ∀ (d i N : Nat), i + d = g.length → N < 2 ^ 61 →
    loopF env true [3, 6, 7, 8] ir74_b0 ([(3, .t (ti N)), (6, .t (tl g)), (7, .t (ti g.length)), (8, .t (ti i))], []) =
      some (.exit 0, [(3, .t (ti (bitsI (g.drop i) N : Nat))), (6, .t (tl g)), (7, .t (ti g.length)), (8, .t (ti g.length)), (9, .t (tb false))], [])
  | 0, i, N, hi, hN => by
    rw [x74_0]
    have : i = g.length := by omega
    subst this
    simp [ir74_d0, bitsI]
  | d + 1, i, N, hi, hN => by
    rw [x74_0]
    have hlt : i < g.length := by omega
    have hw : IntKind.i64.wrap ((i : Int) + 1) = (i : Int) + 1 := w76 (by omega)
    have hs : bitsI (g.drop i) N = bitsI (g.drop (i + 1)) (N ||| 2 ^ (g[i]).toNat) := by rw [List.drop_eq_getElem_cons hlt, bitsI]
    have hkk := hk g[i] (List.getElem_mem hlt)
    obtain ⟨k, hke⟩ : ∃ k : Nat, g[i] = k := ⟨(g[i]).toNat, by omega⟩
    have hp : (2 : Nat) ^ k < 2 ^ 61 := Nat.pow_lt_pow_right (by decide) (by omega)
    have hor := Nat.or_lt_two_pow hN hp
    have ih := l74 g hg hk d (i + 1) (N ||| 2 ^ k) (by omega) hor
    have h1 := shl64 k (by omega)
    have h2 := or64 N (2 ^ k) (by omega) (by omega)
    simp only [hke, Int.toNat_natCast] at hs
    rw [hs]
    generalize bitsI (g.drop (i + 1)) (N ||| 2 ^ k) = Z at ih ⊢
    generalize hM : (2 : Nat) ^ k = M at *
    generalize N ||| M = NM at *
    simp at ih
    simp [ir74_d0, hlt, hw, hke, h1, h2, ih, show ¬ ((k : Int) < 0) by omega]
theorem r74 (g : List Int) (hg : g.length ≤ 1000000) (hk : ∀ k ∈ g, 0 ≤ k ∧ k < 40) : ownR env 74 [tl g] = some (.t (ti (bitsI g 0 : Nat)), []) := by
  rw [own_ir e74 _ rfl]
  have hl := l74 g hg hk g.length 0 0 (by omega) (by decide)
  simp at hl
  simp [ir74, ir74_c, hl]
end Go.Proofs.Ytdgfpjlmpnfcgaa.Ev

namespace Go.Proofs.Ytdgfpjlmpnfcgaa.Ev
open Go
set_option linter.unusedVariables false
set_option linter.unusedSimpArgs false
attribute [local simp] til_getE til_length til_get til_drop til_take til_append til_nil til_cons til_replicate til_set
theorem l39i (a N : Nat) (ha : a ≤ 20) (i : Int) : ∀ (d j : Nat), j + d = a →
    if (List.range' j d).any (fun j => decide (N / 2 ^ (2 * j) % 2 = 1)) then ∃ fr, loopF env true [0, 1, 5, 6] ir64_b0 ([(0, .t (ti a)), (1, .t (ti N)), (5, .t (ti i)), (6, .t (ti j))], []) = some (.ret, fr, []) ∧ fr.get 4 = .t (tb false)
    else loopF env true [0, 1, 5, 6] ir64_b0 ([(0, .t (ti a)), (1, .t (ti N)), (5, .t (ti i)), (6, .t (ti j))], []) = some (.exit 2, [(0, .t (ti a)), (1, .t (ti N)), (5, .t (ti i)), (6, .t (ti a)), (18, .t (ti a)), (19, .t (ti a)), (20, .t (tb false))], [])
  | 0, j, hi => by
    rw [x64_0]
    have : j = a := by omega
    subst this
    simp [ir64_d0]
  | d + 1, j, hi => by
    rw [x64_0]
    have hlt : j < a := by omega
    have hw : IntKind.i64.wrap ((j : Int) + 1) = (j : Int) + 1 := w76 (by omega)
    have hw2 : IntKind.i64.wrap (2 * (j : Int)) = ((2 * j : Nat) : Int) := by rw [w76 (by omega)]; omega
    have hsh := shr64 N (2 * j) (by omega)
    have ih := l39i a N ha i d (j + 1) (by omega)
    have hr : List.range' j (d + 1) = j :: List.range' (j + 1) d := rfl
    rw [hr, List.any_cons]
    generalize ((List.range' (j + 1) d).any fun j => decide (N / 2 ^ (2 * j) % 2 = 1)) = R at *
    generalize N / 2 ^ (2 * j) = M at *
    generalize hJ : 2 * j = J at *
    by_cases h : M % 2 = 1
    · have h1 : (M : Int).tmod 2 = 1 := by rw [Int.tmod_eq_emod_of_nonneg (by omega)]; omega
      have h2 : (M : Int) % 2 = 1 := by omega
      simp [ir64_d0, hlt, hw2, hsh, h, h1, h2, show ¬ ((J : Int) < 0) by omega]
    · have h1 : ¬ (M : Int).tmod 2 = 1 := by rw [Int.tmod_eq_emod_of_nonneg (by omega)]; omega
      have h2 : ¬ (M : Int) % 2 = 1 := by omega
      have h3 : M % 2 = 0 := by omega
      have h4 : (M : Int) % 2 = 0 := by omega
      simp at ih
      simp [ir64_d0, hlt, hw, hw2, hsh, h, h1, h2, h3, h4, show ¬ ((J : Int) < 0) by omega, ih]
def cuB (a N : Nat) : Bool := !((List.range' 0 a).any (fun i => decide (N / 2 ^ (2 * i) % 4 = 2)) && (List.range' 0 a).any (fun j => decide (N / 2 ^ (2 * j) % 2 = 1)))
theorem l64 (a N : Nat) (ha : a ≤ 20) : ∀ (d i : Nat), i + d = a →
    endO [.tmp 4] (andN (outB 0 (loopF env true [0, 1, 5] ir64_b1 ([(0, .t (ti a)), (1, .t (ti N)), (5, .t (ti i))], []))) (execD env (.seq (.reg false [] [⟨some 4, none, .mv (.k (tb true))⟩]) .ret))) =
      some (.t (tb (!((List.range' i d).any (fun i => decide (N / 2 ^ (2 * i) % 4 = 2)) && (List.range' 0 a).any (fun j => decide (N / 2 ^ (2 * j) % 2 = 1))))), [])
  | 0, i, hi => by
    rw [x64_1]
    have : i = a := by omega
    subst this
    simp [ir64_d1]
  | d + 1, i, hi => by
    rw [x64_1]
    have hlt : i < a := by omega
    have hw : IntKind.i64.wrap ((i : Int) + 1) = (i : Int) + 1 := w76 (by omega)
    have hw2 : IntKind.i64.wrap (2 * (i : Int)) = ((2 * i : Nat) : Int) := by rw [w76 (by omega)]; omega
    have hsh := shr64 N (2 * i) (by omega)
    have hin := l39i a N ha i a 0 (by omega)
    have ih := l64 a N ha d (i + 1) (by omega)
    have hr : List.range' i (d + 1) = i :: List.range' (i + 1) d := rfl
    rw [hr, List.any_cons]
    generalize ((List.range' 0 a).any fun j => decide (N / 2 ^ (2 * j) % 2 = 1)) = B at *
    generalize ((List.range' (i + 1) d).any fun i => decide (N / 2 ^ (2 * i) % 4 = 2)) = R at *
    generalize N / 2 ^ (2 * i) = M at *
    generalize hJ : 2 * i = J at *
    simp at ih hin
    by_cases h : M % 4 = 2
    · have h1 : (M : Int).tmod 4 = 2 := by rw [Int.tmod_eq_emod_of_nonneg (by omega)]; omega
      have h2 : (M : Int) % 4 = 2 := by omega
      cases B with
      | true =>
        simp at hin
        obtain ⟨fr, k2001, k2002⟩ := hin
        simp [ir64_d1, hlt, hw, hw2, hsh, h, h1, h2, show ¬ ((J : Int) < 0) by omega, k2001, k2002]
      | false =>
        simp at hin
        simp [ir64_d1, hlt, hw, hw2, hsh, h, h1, h2, show ¬ ((J : Int) < 0) by omega, hin, ih]
    · have h1 : ¬ (M : Int).tmod 4 = 2 := by rw [Int.tmod_eq_emod_of_nonneg (by omega)]; omega
      have h2 : ¬ (M : Int) % 4 = 2 := by omega
      simp [ir64_d1, hlt, hw, hw2, hsh, h, h1, h2, show ¬ ((J : Int) < 0) by omega, ih]
theorem r64 (a N : Nat) (ha : a ≤ 20) : ownR env 64 [ti a, ti N] = some (.t (tb (cuB a N)), []) := by
  rw [own_ir e64 _ rfl]
  have hl := l64 a N ha a 0 (by omega)
  simp at hl
  simp [ir64, ir64_c, hl, cuB]
end Go.Proofs.Ytdgfpjlmpnfcgaa.Ev

namespace Go.Proofs.Ytdgfpjlmpnfcgaa.Ev
open Go
set_option linter.unusedVariables false
set_option linter.unusedSimpArgs false
attribute [local simp] til_getE til_length til_get til_drop til_take til_append til_nil til_cons til_replicate til_set
def bitsAt (p : Int) : Nat → List Int → Nat → Nat
  | _, [], N => N
  | i, x :: xs, N => if x = p then bitsAt p (i + 1) xs (N ||| 2 ^ i) else bitsAt p (i + 1) xs N
theorem l41i (a b c : Int) (q p : Int) (g : List Int) (hg : g.length ≤ 40) : ∀ (d i N : Nat), i + d = g.length → N < 2 ^ 61 →
    loopF env true [2, 3, 5, 6, 17, 18, 19] ir37_b0 ([(2, .ptr 0 0 0), (3, .ptr 1 0 0), (5, .t (ti p)), (6, .t (ti N)), (17, .t (tl g)), (18, .t (ti g.length)), (19, .t (ti i))], [.box 3 [.t (ti a), .t (ti b), .t (ti c)], .box 2 [.t (tl g), .t (ti q)]]) =
      some (.exit 2, [(2, .ptr 0 0 0), (3, .ptr 1 0 0), (5, .t (ti p)), (6, .t (ti (bitsAt p i (g.drop i) N : Nat))), (17, .t (tl g)), (18, .t (ti g.length)), (19, .t (ti g.length)), (20, .t (tb false))], [.box 3 [.t (ti a), .t (ti b), .t (ti c)], .box 2 [.t (tl g), .t (ti q)]])
  | 0, i, N, hi, hN => by
    rw [x37_0]
    have : i = g.length := by omega
    subst this
    simp [ir37_d0, bitsAt]
  | d + 1, i, N, hi, hN => by
    rw [x37_0]
    have hlt : i < g.length := by omega
    have hw : IntKind.i64.wrap ((i : Int) + 1) = (i : Int) + 1 := w76 (by omega)
    have hp : (2 : Nat) ^ i < 2 ^ 61 := Nat.pow_lt_pow_right (by decide) (by omega)
    have hor := Nat.or_lt_two_pow hN hp
    by_cases h : g[i] = p
    · have hs : bitsAt p i (g.drop i) N = bitsAt p (i + 1) (g.drop (i + 1)) (N ||| 2 ^ i) := by rw [List.drop_eq_getElem_cons hlt, bitsAt, if_pos h]
      have ih := l41i a b c q p g hg d (i + 1) (N ||| 2 ^ i) (by omega) hor
      have h1 := shl64 i (by omega)
      have h2 := or64 N (2 ^ i) (by omega) (by omega)
      rw [hs]
      generalize bitsAt p (i + 1) (g.drop (i + 1)) (N ||| 2 ^ i) = Z at ih ⊢
      generalize hM : (2 : Nat) ^ i = M at *
      generalize N ||| M = NM at *
      simp at ih
      simp [ir37_d0, hlt, hw, h, h1, h2, ih, show ¬ ((i : Int) < 0) by omega]
    · have hs : bitsAt p i (g.drop i) N = bitsAt p (i + 1) (g.drop (i + 1)) N := by rw [List.drop_eq_getElem_cons hlt, bitsAt, if_neg h]
      have ih := l41i a b c q p g hg d (i + 1) N (by omega) hN
      rw [hs]
      generalize bitsAt p (i + 1) (g.drop (i + 1)) N = Z at ih ⊢
      simp at ih
      simp [ir37_d0, hlt, hw, h, ih]
theorem l37 (a : Nat) (ha : a ≤ 20) (b c : Int) (hc : 0 ≤ c ∧ c ≤ 2) (q : Int) (g : List Int) (hg : g.length ≤ 40) : ∀ (d i : Nat), ((i + d : Nat) : Int) = c + 2 →
    endO [.tmp 4] (andN (outB 0 (loopF env true [2, 3, 5] ir37_b1 ([(2, .ptr 0 0 0), (3, .ptr 1 0 0), (5, .t (ti i))], [.box 3 [.t (ti a), .t (ti b), .t (ti c)], .box 2 [.t (tl g), .t (ti q)]]))) (execD env (.seq (.reg false [] [⟨some 4, none, .mv (.k (tb true))⟩]) .ret))) =
      some (.t (tb ((List.range' i d).all fun i => cuB a (bitsAt i 0 g 0))), [.box 3 [.t (ti a), .t (ti b), .t (ti c)], .box 2 [.t (tl g), .t (ti q)]])
  | 0, i, hi => by
    rw [x37_1]
    have hw : IntKind.i64.wrap (c + 1) = c + 1 := w76 (by omega)
    simp [ir37_d1, hw, show ¬ ((i : Int) ≤ c + 1) by omega]
  | d + 1, i, hi => by
    rw [x37_1]
    have hlt : (i : Int) ≤ c + 1 := by omega
    have hw0 : IntKind.i64.wrap (c + 1) = c + 1 := w76 (by omega)
    have hw : IntKind.i64.wrap ((i : Int) + 1) = (i : Int) + 1 := w76 (by omega)
    have ih := l37 a ha b c hc q g hg d (i + 1) (by omega)
    have hin := l41i a b c q i g hg g.length 0 0 (by omega) (by decide)
    have hr : List.range' i (d + 1) = i :: List.range' (i + 1) d := rfl
    have h39 := r64 a (bitsAt i 0 g 0) ha
    rw [hr, List.all_cons]
    simp at hin ih
    generalize ((List.range' (i + 1) d).all fun i => cuB a (bitsAt i 0 g 0)) = R at *
    generalize bitsAt i 0 g 0 = N at *
    cases h : cuB a N with
    | true => simp [ir37_d1, hlt, hw0, hw, hin, h39, h, ih]
    | false =>
      simp [ir37_d1, hlt, hw0, hw, hin, h39, h, ih]
def calmS (a : Nat) (c : Int) (g : List Int) : Bool := (List.range' 0 (c + 2).toNat).all fun i => cuB a (bitsAt i 0 g 0)
theorem r37 (a : Nat) (ha : a ≤ 20) (b c : Int) (hc : 0 ≤ c ∧ c ≤ 2) (q : Int) (g : List Int) (hg : g.length ≤ 40) : ownR env 37 [.agg [ti a, ti b, ti c], .agg [tl g, ti q]] = some (.t (tb (calmS a c g)), []) := by
  rw [own_ir e37 _ rfl]
  have hl := l37 a ha b c hc q g hg (c + 2).toNat 0 (by omega)
  simp at hl
  simp [ir37, ir37_c, hl, calmS]
end Go.Proofs.Ytdgfpjlmpnfcgaa.Ev

namespace Go.Proofs.Ytdgfpjlmpnfcgaa.Ev
open Go
set_option linter.unusedVariables false
set_option linter.unusedSimpArgs false
attribute [local simp] til_getE til_length til_get til_drop til_take til_append til_nil til_cons til_replicate til_set
theorem stand_length (p : Int) : ∀ (xs : List Int) (i : Nat), (stand p i xs).length ≤ xs.length
  | [], i => by simp [stand]
  | x :: xs, i => by
    have := stand_length p xs (i + 1)
    simp only [stand]
    split <;> simp <;> omega
theorem l35 (c : Int) (hc : 0 ≤ c ∧ c ≤ 10) (q : Int) (g : List Int) (hg : g.length ≤ 1000) : ∀ (d i : Nat), ((i + d : Nat) : Int) = c + 2 →
    andO (endO [.tmp 4] (andN (outB 0 (loopF env true [3, 8, 9] ir35_b0 ([(3, .ptr 0 0 0), (8, .t (ti (c + 1 + 1))), (9, .t (ti i))], [.box 2 [.t (tl g), .t (ti q)]]))) (execD env (.seq (.reg false [] [⟨some 4, none, .mv (.k (tb true))⟩]) .ret)))) ownEnd =
      some (.t (tb ((List.range' i d).all fun i => calmI (stand i 0 g) (stand i 0 g))), [])
  | 0, i, hi => by
    rw [x35_0]
    simp [ir35_d0, show ¬ ((i : Int) < c + 1 + 1) by omega]
  | d + 1, i, hi => by
    rw [x35_0]
    have hlt : (i : Int) < c + 1 + 1 := by omega
    have hw : IntKind.i64.wrap ((i : Int) + 1) = (i : Int) + 1 := w76 (by omega)
    have ih := l35 c hc q g hg d (i + 1) (by omega)
    have hr : List.range' i (d + 1) = i :: List.range' (i + 1) d := rfl
    have h30 := r57 g q i hg
    have h34 := r60 (stand i 0 g) (by have := stand_length i g 0; omega)
    rw [hr, List.all_cons]
    simp at ih
    generalize ((List.range' (i + 1) d).all fun i => calmI (stand i 0 g) (stand i 0 g)) = R at *
    generalize stand i 0 g = L at *
    cases h : calmI L L with
    | true => simp [ir35_d0, hlt, hw, h30, h34, h, ih]
    | false =>
      simp [ir35_d0, hlt, hw, h30, h34, h, ih]
def calmP (c : Int) (g : List Int) : Bool := (List.range' 0 (c + 2).toNat).all fun i => calmI (stand i 0 g) (stand i 0 g)
theorem r35 (a b c : Int) (hc : 0 ≤ c ∧ c ≤ 2) (q : Int) (g : List Int) (hg : g.length ≤ 1000) : ownR env 35 [.agg [ti a, ti b, ti c], .agg [tl g, ti q]] = some (.t (tb (calmP c g)), []) := by
  rw [own_ir e35 _ rfl]
  have hl := l35 c (by omega) q g hg (c + 2).toNat 0 (by omega)
  simp at hl
  simp [ir35, ir35_c, r51 a b c (by omega), w76 (n := c + 1 + 1) (by omega), hl, calmP]
  
theorem l46 (g : List Int) (t q : Int) (xs : List Int) (n : Nat) (hn : n ≤ 1000) (hg : g.length ≤ 1000) (hk : ∀ k ∈ g, 0 ≤ k ∧ k < n) : ∀ (d i : Nat) (y : List Int), i + d = g.length → y.length = n →
    loopF env true [3, 4, 5, 15, 16, 17] ir46_b0 ([(3, .ptr 0 0 0), (4, .ptr 1 0 0), (5, .ptr 2 0 0), (15, .t (tl g)), (16, .t (ti g.length)), (17, .t (ti i))], [.box 2 [.t (ti t), .t (tl g)], .box 2 [.t .nil, .t (ti 0)], .box 2 [.ref 3 0 n, .t (ti t)], .pure 1 (til y)]) =
      some (.exit 0, [(3, .ptr 0 0 0), (4, .ptr 1 0 0), (5, .ptr 2 0 0), (15, .t (tl g)), (16, .t (ti g.length)), (17, .t (ti g.length)), (18, .t (tb false))], [.box 2 [.t (ti t), .t (tl g)], .box 2 [.t .nil, .t (ti 0)], .box 2 [.ref 3 0 n, .t (ti t)], .pure 1 (til (setAll t (g.drop i) y))])
  | 0, i, y, hi, hy => by
    rw [x46_0]
    have : i = g.length := by omega
    subst this
    simp [ir46_d0, setAll]
  | d + 1, i, y, hi, hy => by
    rw [x46_0]
    have hlt : i < g.length := by omega
    have hw : IntKind.i64.wrap ((i : Int) + 1) = (i : Int) + 1 := w76 (by omega)
    have hs : setAll t (g.drop i) y = setAll t (g.drop (i + 1)) (y.set (g[i]).toNat t) := by rw [List.drop_eq_getElem_cons hlt, setAll]
    have hkk := hk g[i] (List.getElem_mem hlt)
    have hkn : (g[i]).toNat < y.length := by omega
    have ih := l46 g t q xs n hn hg hk d (i + 1) (y.set (g[i]).toNat t) (by omega) (by simpa using hy)
    simp at ih
    simp [ir46_d0, hlt, hw, hs, hkk.1, hkk.2, hkn, ih]
theorem r46 (xs g : List Int) (p t : Int) (h : xs.length ≤ 1000) (hg : g.length ≤ 1000) (hk : ∀ k ∈ g, 0 ≤ k ∧ k < xs.length) : ownR env 46 [.agg [tl xs, ti p], .agg [ti t, tl g]] = some (.agg [.ref 0 0 xs.length, .t (ti t)], [.pure 1 (til (setAll t g xs))]) := by
  rw [own_ir e46 _ rfl]
  have hl := l46 g t p xs xs.length h hg hk g.length 0 xs (by omega) rfl
  simp at hl
  simp [ir46, ir46_c, r75 xs h, hl, til_flat]
end Go.Proofs.Ytdgfpjlmpnfcgaa.Ev

namespace Go.Proofs.Ytdgfpjlmpnfcgaa.Ev
open Go
set_option linter.unusedVariables false
set_option linter.unusedSimpArgs false
attribute [local simp] til_getE til_length til_get til_drop til_take til_append til_nil til_cons til_replicate til_set
def atB (l : List Int) (p : Int) (g : List Int) : Bool := g.all fun k => decide (l[k.toNat]?.getD 0 = p)
theorem l45 (A B C2 p t : Int) (l g : List Int) (hg : g.length ≤ 1000000) (hk : ∀ k ∈ g, 0 ≤ k ∧ k < l.length) : ∀ (d i : Nat), i + d = g.length →
    if atB l p (g.drop i) then loopF env true [3, 4, 5, 43, 44, 45] ir45_b0 ([(3, .ptr 0 0 0), (4, .ptr 1 0 0), (5, .ptr 2 0 0), (43, .t (tl g)), (44, .t (ti g.length)), (45, .t (ti i))], [.box 3 [.t (ti A), .t (ti B), .t (ti C2)], .box 2 [.t (tl l), .t (ti p)], .box 2 [.t (ti t), .t (tl g)]]) =
      some (.exit 0, [(3, .ptr 0 0 0), (4, .ptr 1 0 0), (5, .ptr 2 0 0), (43, .t (tl g)), (44, .t (ti g.length)), (45, .t (ti g.length)), (46, .t (tb false))], [.box 3 [.t (ti A), .t (ti B), .t (ti C2)], .box 2 [.t (tl l), .t (ti p)], .box 2 [.t (ti t), .t (tl g)]])
    else ∃ fr H, loopF env true [3, 4, 5, 43, 44, 45] ir45_b0 ([(3, .ptr 0 0 0), (4, .ptr 1 0 0), (5, .ptr 2 0 0), (43, .t (tl g)), (44, .t (ti g.length)), (45, .t (ti i))], [.box 3 [.t (ti A), .t (ti B), .t (ti C2)], .box 2 [.t (tl l), .t (ti p)], .box 2 [.t (ti t), .t (tl g)]]) = some (.ret, fr, H) ∧ fr.get 6 = .t (tb false)
  | 0, i, hi => by
    rw [x45_0]
    have : i = g.length := by omega
    subst this
    simp [ir45_d0, atB]
  | d + 1, i, hi => by
    rw [x45_0]
    have hlt : i < g.length := by omega
    have hw : IntKind.i64.wrap ((i : Int) + 1) = (i : Int) + 1 := w76 (by omega)
    have hkk := hk g[i] (List.getElem_mem hlt)
    obtain ⟨k, hke⟩ : ∃ k : Nat, g[i] = k := ⟨(g[i]).toNat, by omega⟩
    have hkn : k < l.length := by omega
    have hs : atB l p (g.drop i) = (decide (l[k] = p) && atB l p (g.drop (i + 1))) := by
      rw [List.drop_eq_getElem_cons hlt]; simp [atB, hke, hkn]
    have ih := l45 A B C2 p t l g hg hk d (i + 1) (by omega)
    rw [hs]
    generalize atB l p (g.drop (i + 1)) = R at *
    simp at ih
    by_cases h : l[k] = p
    · simp [ir45_d0, hlt, hw, hke, hkn, h, ih]
    · simp [ir45_d0, hlt, hw, hke, hkn, h, ih]
def canB (a : Nat) (b c : Int) (l : List Int) (p t : Int) (g : List Int) : Bool :=
  inB t 0 (c + 1) && !decide (t = p) && inB g.length 1 b && risesB 0 (l.length - 1) g && atB l p g && cuB a (bitsI g 0) && calmS a c (setAll t g l)
theorem risesB_in {a b : Int} {g : List Int} (h : risesB a b g = true) : ∀ k ∈ g, a ≤ k ∧ k ≤ b := fun k hk => by
  unfold risesB at h
  rw [Bool.and_eq_true, List.all_eq_true] at h
  exact (inB_iff _ _ _).1 (h.1 k hk)
theorem r45 (a : Nat) (b c : Int) (hgd : good a b c = true) (l : List Int) (hl : l.length = 2 * a) (p t : Int) (g : List Int) (hg : g.length ≤ 1000) : ownR env 45 [.agg [ti a, ti b, ti c], .agg [tl l, ti p], .agg [ti t, tl g]] = some (.t (tb (canB a b c l p t g)), []) := by
  rw [own_ir e45 _ rfl]
  have hgo := good_of hgd
  have hw1 : IntKind.i64.wrap (c + 1) = c + 1 := w76 (by omega)
  have hw2 : IntKind.i64.wrap ((l.length : Int) - 1) = l.length - 1 := w76 (by omega)
  have h38 := r73 g 0 (l.length - 1) (by omega)
  have h27 := fun hk => l45 a b c p t l g (by omega) hk g.length 0 (by omega)
  unfold canB
  cases h1 : inB t 0 (c + 1) with
  | false => simp [ir45, ir45_c, hw1, h1]
  | true =>
    by_cases h2 : t = p
    · subst h2; simp [ir45, ir45_c, hw1, h1]
    · cases h3 : inB g.length 1 b with
      | false => simp [ir45, ir45_c, hw1, h1, h2, h3]
      | true =>
        cases h4 : risesB 0 (l.length - 1) g with
        | false => simp [ir45, ir45_c, hw1, hw2, h1, h2, h3, h38, h4]
        | true =>
          have hin := risesB_in h4
          have hk : ∀ k ∈ g, 0 ≤ k ∧ k < l.length := fun k hk => by have := hin k hk; omega
          have h27' := h27 hk
          simp at h27'
          cases h5 : atB l p g with
          | false =>
            simp [h5] at h27'
            obtain ⟨fr, ⟨H, k2001⟩, k2002⟩ := h27'
            simp [ir45, ir45_c, hw1, hw2, h1, h2, h3, h38, h4, k2001, k2002]
          | true =>
            simp [h5] at h27'
            have h40 := r74 g (by omega) fun k hkk => by have := hk k hkk; omega
            have h39 := r64 a (bitsI g 0) (by omega)
            have h16 := r46 l g p t (by omega) hg hk
            have h41 := r37 a (by omega) b c (by omega) t (setAll t g l) (by rw [setAll_length]; omega)
            have hsl := setAll_length t g l
            generalize setAll t g l = L at *
            generalize bitsI g 0 = N at *
            cases h6 : cuB a N with
            | false => simp [ir45, ir45_c, hw1, hw2, h1, h2, h3, h38, h4, h27', h40, h39, h6]
            | true =>
              have htk : L.take l.length = L := List.take_of_length_le (by omega)
              simp [ir45, ir45_c, hw1, hw2, h1, h2, h3, h38, h4, h27', h40, h39, h6, h16, h41, htk]
end Go.Proofs.Ytdgfpjlmpnfcgaa.Ev

namespace Go.Proofs.Ytdgfpjlmpnfcgaa.Ev
open Go
set_option linter.unusedVariables false
set_option linter.unusedSimpArgs false
theorem til_snoc (l : List Int) (x : Int) : til l ++ [.int .i64 x] = til (l ++ [x]) := by simp [til]
theorem til_fold (a b : List Int) : til a ++ til b = til (a ++ b) := by simp [til]
theorem take_snoc {α : Type} (l : List α) (x : α) : (l ++ [x]).take (l.length + 1) = l ++ [x] := List.take_of_length_le (by simp)
attribute [local simp] til_getE til_length til_get til_drop til_take til_snoc til_fold take_snoc
structure IsList (x : T) (l : List Int) : Prop where
  len : ∀ H, evLen H 1 (.t x) = some (l.length : Int)
  ix : ∀ H (i : Nat) (h : i < l.length), evIxa H 1 (.t x) (.t (.int .i64 i)) = some (.rptr (.int .i64 l[i]) 0)
  own : l.length ≤ 1000 → ownR env 75 [x] = some (.ref 0 0 l.length, [.pure 1 (til l)])
theorem isList_tl (l : List Int) : IsList (tl l) l := ⟨fun H => by simp, fun H i h => by simp [h], fun h => r75 l h⟩
theorem isList_nil : IsList .nil [] := ⟨fun H => rfl, fun H i h => by simp at h, fun _ => by
  rw [own_ir e75 _ rfl]
  simp [ir75, ir75_c, til_nil]⟩

def tll (gl : List (List Int)) : List T := gl.map fun l => .lst 1 (til l)
theorem tll_length (gl : List (List Int)) : (tll gl).length = gl.length := by simp [tll]
theorem tll_take (gl : List (List Int)) (n : Nat) : (tll gl).take n = tll (gl.take n) := by simp [tll, List.map_take]
theorem tll_get (gl : List (List Int)) (i : Nat) : (tll gl)[i]? = gl[i]?.map fun l => .lst 1 (til l) := by simp [tll]
theorem tll_getE (gl : List (List Int)) (i : Nat) (h : i < (tll gl).length) : (tll gl)[i] = .lst 1 (til (gl[i]'(by simpa [tll] using h))) := by simp [tll]
theorem tll_fold (a b : List (List Int)) : tll a ++ tll b = tll (a ++ b) := by simp [tll]
def IsL (r : Option (V × Heap)) (gl : List (List Int)) : Prop := (r = some (.t .nil, []) ∧ gl = []) ∨ r = some (.ref 0 0 gl.length, [.pure 1 (tll gl)])
def grps (most : Int) : List Int → List Int → List (List Int)
  | [], _ => []
  | x :: rest, l => if (l.length : Int) < most then (l ++ [x]) :: (grps most rest (l ++ [x]) ++ grps most rest l) else []
theorem grps_full (most : Int) (rest l : List Int) (h : ¬ (l.length : Int) < most) : grps most rest l = [] := by
  cases rest with
  | nil => rfl
  | cons x r => simp [grps, h]
theorem grps_len (most : Int) : ∀ (rest l : List Int), (grps most rest l).length + 1 ≤ 2 ^ rest.length
  | [], _ => by simp [grps]
  | x :: rest, l => by
    have h1 := grps_len most rest (l ++ [x])
    have h2 := grps_len most rest l
    simp only [grps]
    split
    · simp only [List.length_cons, List.length_append, Nat.pow_succ]
      omega
    · simp only [List.length_nil, List.length_cons, Nat.pow_succ]
      omega

attribute [local simp] tll_length tll_take tll_get tll_getE tll_fold
theorem l61 (P B : T) (people l : List Int) (hP : IsList P people) (hB : IsList B l) (hpl : people.length ≤ 20) (most : Int) (hm : most ≤ 100) (hl : (l.length : Int) < most)
    (i0 : Nat) (ih : ∀ (j : Nat), i0 ≤ j → j < people.length → IsL (ownFR env 61 [P, tl (l ++ [people[j]?.getD 0]), ti ((j : Int) + 1), ti most]) ((l ++ [people[j]?.getD 0]) :: grps most (people.drop (j + 1)) (l ++ [people[j]?.getD 0]))) :
    ∀ (d i : Nat) (acc : List (List Int)), i + d = people.length → i0 ≤ i → acc.length + (grps most (people.drop i) l).length ≤ 2 ^ 30 →
    loopF env true [0, 1, 3, 9, 10] ir61_b0 ([(0, .t P), (1, .t B), (3, .t (ti most)), (9, .ref 0 0 acc.length), (10, .t (ti i))], [.pure 1 (tll acc)]) =
      some (.exit 0, [(0, .t P), (1, .t B), (3, .t (ti most)), (9, .ref 0 0 (acc ++ grps most (people.drop i) l).length), (10, .t (ti people.length)), (25, .t (ti people.length)), (26, .t P), (27, .t (ti people.length)), (28, .t (tb false))], [.pure 1 (tll (acc ++ grps most (people.drop i) l))])
  | 0, i, acc, hi, hi0, ha => by
    rw [x61_0]
    have : i = people.length := by omega
    subst this
    simp [ir61_d0, hP.len, grps]
  | d + 1, i, acc, hi, hi0, ha => by
    rw [x61_0]
    have hlt : i < people.length := by omega
    have hw : IntKind.i64.wrap ((i : Int) + 1) = (i : Int) + 1 := w76 (by omega)
    have hi' := ih i hi0 hlt
    have hown := hB.own (by omega)
    have hix := hP.ix
    simp [hlt] at hi'
    have hg : grps most (people.drop i) l = ((l ++ [people[i]]) :: grps most (people.drop (i + 1)) (l ++ [people[i]])) ++ grps most (people.drop (i + 1)) l := by
      rw [List.drop_eq_getElem_cons hlt]; simp [grps, hl]
    rw [hg, List.length_append] at ha
    simp only [List.length_cons] at ha
    rcases hi' with ⟨_, h2⟩ | hi'
    · cases h2
    · have ihl := l61 P B people l hP hB hpl most hm hl i0 ih d (i + 1) (acc ++ ((l ++ [people[i]]) :: grps most (people.drop (i + 1)) (l ++ [people[i]]))) (by omega) (by omega) (by rw [List.length_append, List.length_cons]; omega)
      rw [hg]
      generalize grps most (people.drop (i + 1)) (l ++ [people[i]]) = G1 at *
      generalize grps most (people.drop (i + 1)) l = G2 at *
      simp at ihl
      simp [ir61_d0, hP.len, hown, hix, hlt, hw, show l.length + 1 ≤ 68719476736 by omega, show acc.length + (G1.length + 1) ≤ 68719476736 by omega, hi', ihl]
theorem l61n (P B : T) (people l : List Int) (hP : IsList P people) (hB : IsList B l) (hpl : people.length ≤ 20) (most : Int) (hm : most ≤ 100) (hl : (l.length : Int) < most) (i : Nat) (hlt : i < people.length) (G1 : List (List Int)) (hG : G1.length ≤ 2 ^ 30)
    (ih : ownFR env 61 [P, tl (l ++ [people[i]]), ti ((i : Int) + 1), ti most] = some (.ref 0 0 (G1.length + 1), [.pure 1 (tll ((l ++ [people[i]]) :: G1))])) :
    loopF env true [0, 1, 3, 9, 10] ir61_b0 ([(0, .t P), (1, .t B), (3, .t (ti most)), (9, .t .nil), (10, .t (ti i))], []) =
      loopF env true [0, 1, 3, 9, 10] ir61_b0 ([(0, .t P), (1, .t B), (3, .t (ti most)), (9, .ref 0 0 (G1.length + 1)), (10, .t (ti ((i : Int) + 1)))], [.pure 1 (tll ((l ++ [people[i]]) :: G1))]) := by
  rw [x61_0]
  have hw : IntKind.i64.wrap ((i : Int) + 1) = (i : Int) + 1 := w76 (by omega)
  have hown := hB.own (by omega)
  have hix := hP.ix
  simp [ir61_d0, hP.len, hown, hix, hlt, hw, show l.length + 1 ≤ 68719476736 by omega, show G1.length + 1 ≤ 68719476736 by omega, ih, List.take_of_length_le]
theorem r61 (P : T) (people : List Int) (hP : IsList P people) (hpl : people.length ≤ 20) (most : Int) (hm : most ≤ 100) (hm0 : 0 < most) : ∀ (d i : Nat) (B : T) (l : List Int), i + d = people.length → IsList B l → (l.length : Int) ≤ most →
    IsL (ownFR env 61 [P, B, ti i, ti most]) ((if l.length = 0 then [] else [l]) ++ grps most (people.drop i) l) := by
  intro d
  induction d using Nat.strongRecOn with
  | ind d ih =>
    intro i B l hi hB hl
    have hown := hB.own (by omega)
    have hblen := hB.len
    have hgl := grps_len most (people.drop i) l
    have hp2 : 2 ^ (people.drop i).length ≤ 2 ^ 20 := Nat.pow_le_pow_right (by decide) (by simp; omega)
    have ih' : (l.length : Int) < most → ∀ (j : Nat), i ≤ j → j < people.length → IsL (ownFR env 61 [P, tl (l ++ [people[j]?.getD 0]), ti ((j : Int) + 1), ti most]) ((l ++ [people[j]?.getD 0]) :: grps most (people.drop (j + 1)) (l ++ [people[j]?.getD 0])) := fun hlt j hij hj => by
      have := ih (people.length - (j + 1)) (by omega) (j + 1) (tl (l ++ [people[j]?.getD 0])) (l ++ [people[j]?.getD 0]) (by omega) (isList_tl _) (by rw [List.length_append]; simp; omega)
      rw [if_neg (by simp)] at this
      exact this
    rw [ownF_ir e61 _ rfl]
    rcases Nat.eq_zero_or_pos l.length with h0 | h0
    · have hlt0 : (l.length : Int) < most := by omega
      simp only [h0, if_true, List.nil_append]
      rcases Nat.lt_or_ge i people.length with hlt | hge
      · right
        have hi' := ih' hlt0 i (Nat.le_refl _) hlt
        have hx : people[i]?.getD 0 = people[i] := by simp [hlt]
        rw [hx] at hi'
        have hg : grps most (people.drop i) l = ((l ++ [people[i]]) :: grps most (people.drop (i + 1)) (l ++ [people[i]])) ++ grps most (people.drop (i + 1)) l := by
          rw [List.drop_eq_getElem_cons hlt]; simp [grps, hlt0]
        rcases hi' with ⟨_, h2⟩ | hi'
        · cases h2
        · have hlen2 : ((l ++ [people[i]]) :: grps most (people.drop (i + 1)) (l ++ [people[i]])).length + (grps most (people.drop (i + 1)) l).length ≤ 2 ^ 20 := by
            rw [hg, List.length_append] at hgl; omega
          have hn := l61n P B people l hP hB hpl most hm hlt0 i hlt (grps most (people.drop (i + 1)) (l ++ [people[i]])) (by simp at hlen2; omega) hi'
          have hr := l61 P B people l hP hB hpl most hm hlt0 i (ih' hlt0) (people.length - (i + 1)) (i + 1) ((l ++ [people[i]]) :: grps most (people.drop (i + 1)) (l ++ [people[i]])) (by omega) (by omega) (by omega)
          rw [hg]
          generalize grps most (people.drop (i + 1)) (l ++ [people[i]]) = G1 at *
          generalize grps most (people.drop (i + 1)) l = G2 at *
          simp at hr hn
          simp [ir61, ir61_c, hblen, h0, show ¬ (0 = most) by omega, hn, hr]
      · left
        have hg : grps most (people.drop i) l = [] := by rw [List.drop_of_length_le (by omega)]; rfl
        refine ⟨?_, hg⟩
        simp [ir61, ir61_c, hblen, h0, show ¬ (0 = most) by omega]
        rw [x61_0]
        simp [ir61_d0, hP.len, show ¬ (i < people.length) by omega]
    · right
      have hne : l ≠ [] := by intro e; subst e; simp at h0
      have ht : tll [l] = [T.lst 1 (til l)] := rfl
      by_cases hmost : (l.length : Int) = most
      · have hg : grps most (people.drop i) l = [] := grps_full _ _ _ (by omega)
        simp [ir61, ir61_c, hblen, hown, hmost, hm0, hne, ht, hg]
      · rcases Nat.lt_or_ge i people.length with hlt | hge
        · have hr := l61 P B people l hP hB hpl most hm (by omega) i (ih' (by omega)) (people.length - i) i [l] (by omega) (by omega) (by simp; omega)
          simp [ht] at hr
          simp [ir61, ir61_c, hblen, hown, hmost, h0, hne, ht, hr]
        · have hg : grps most (people.drop i) l = [] := by rw [List.drop_of_length_le (by omega)]; rfl
          simp [ir61, ir61_c, hblen, hown, hmost, h0, hne, ht, hg]
          rw [x61_0]
          simp [ir61_d0, hP.len, show ¬ (i < people.length) by omega]
end Go.Proofs.Ytdgfpjlmpnfcgaa.Ev

namespace Go.Proofs.Ytdgfpjlmpnfcgaa.Ev
open Go
set_option linter.unusedVariables false
set_option linter.unusedSimpArgs false
attribute [local simp] til_getE til_length til_get til_drop til_take til_snoc til_fold take_snoc tll_length tll_take tll_get tll_getE tll_fold
def nlV (k : Nat) (l : List Int) : V := if l.length = 0 then .t .nil else .ref k 0 l.length
def nlH (l : List Int) : Heap := if l.length = 0 then [] else [.pure 1 (til l)]

theorem l34_h (A B C2 p : Int) (g : List Int) (hg : g.length ≤ 1000) : ∀ (d i : Nat) (acc : List Int), i + d = g.length → acc.length ≤ i →
    loopF env true [2, 3, 5, 14, 15, 16] ir34_b2 ([(2, .ptr 0 0 0), (3, .ptr 1 0 0), (5, nlV 2 acc), (14, .t (tl g)), (15, .t (ti g.length)), (16, .t (ti i))], [.box 3 [.t (ti A), .t (ti B), .t (ti C2)], .box 2 [.t (tl g), .t (ti p)]] ++ nlH acc) =
      some (.exit 0, [(2, .ptr 0 0 0), (3, .ptr 1 0 0), (5, nlV 2 (acc ++ stand p i (g.drop i))), (14, .t (tl g)), (15, .t (ti g.length)), (16, .t (ti g.length)), (17, .t (tb false))], [.box 3 [.t (ti A), .t (ti B), .t (ti C2)], .box 2 [.t (tl g), .t (ti p)]] ++ nlH (acc ++ stand p i (g.drop i)))
  | 0, i, acc, hi, ha => by
    rw [x34_2]
    have : i = g.length := by omega
    subst this
    simp [ir34_d2, stand]
  | d + 1, i, acc, hi, ha => by
    rw [x34_2]
    have hlt : i < g.length := by omega
    have hw : IntKind.i64.wrap ((i : Int) + 1) = (i : Int) + 1 := w76 (by omega)
    by_cases h : g[i] = p
    · have hs : stand p i (g.drop i) = [(i : Int)] ++ stand p (i + 1) (g.drop (i + 1)) := by rw [List.drop_eq_getElem_cons hlt, stand, if_pos h]; rfl
      have ih := l34_h A B C2 p g hg d (i + 1) (acc ++ [(i : Int)]) (by omega) (by simp; omega)
      rw [hs, ← List.append_assoc]
      generalize acc ++ [(i : Int)] ++ stand p (i + 1) (g.drop (i + 1)) = Z at *
      cases acc with
      | nil =>
        simp [nlV, nlH, til_cons, til_nil] at ih
        simp [ir34_d2, nlV, nlH, hlt, hw, h, ih]
      | cons x acc =>
        simp [nlV, nlH] at ih
        simp [ir34_d2, nlV, nlH, hlt, hw, h, show acc.length + 1 + 1 ≤ 68719476736 by simp at ha; omega, ih]
    · have hs : stand p i (g.drop i) = stand p (i + 1) (g.drop (i + 1)) := by rw [List.drop_eq_getElem_cons hlt, stand, if_neg h]
      have ih := l34_h A B C2 p g hg d (i + 1) acc (by omega) (by omega)
      rw [hs]
      generalize acc ++ stand p (i + 1) (g.drop (i + 1)) = Z at *
      cases acc with
      | nil =>
        simp [nlV, nlH] at ih
        simp [ir34_d2, nlV, nlH, hlt, hw, h, ih]
      | cons x acc =>
        simp [nlV, nlH] at ih
        simp [ir34_d2, nlV, nlH, hlt, hw, h, ih]
def voyT (v : Int × List Int) : T := .agg [.int .i64 v.1, .lst 1 (til v.2)]
def tlv (vs : List (Int × List Int)) : List T := vs.map voyT
theorem tlv_length (vs : List (Int × List Int)) : (tlv vs).length = vs.length := by simp [tlv]
theorem tlv_snoc (vs : List (Int × List Int)) (t : Int) (g : List Int) : tlv vs ++ [.agg [.int .i64 t, .lst 1 (til g)]] = tlv (vs ++ [(t, g)]) := by simp [tlv, voyT]
theorem tlv_one (t : Int) (g : List Int) : tlv [(t, g)] = [.agg [.int .i64 t, .lst 1 (til g)]] := rfl
theorem tlv_take (vs : List (Int × List Int)) (n : Nat) : (tlv vs).take n = tlv (vs.take n) := by simp [tlv, List.map_take]
theorem tlv_getE (vs : List (Int × List Int)) (i : Nat) (h : i < (tlv vs).length) : (tlv vs)[i] = .agg [.int .i64 (vs[i]'(by simpa [tlv] using h)).1, .lst 1 (til (vs[i]'(by simpa [tlv] using h)).2)] := by simp [tlv, voyT]
def nvV (k : Nat) (l : List (Int × List Int)) : V := if l.length = 0 then .t .nil else .ref k 0 l.length
def nvH (l : List (Int × List Int)) : Heap := if l.length = 0 then [] else [.pure 2 (tlv l)]
def nvK (l : List (Int × List Int)) : Nat := if l.length = 0 then 3 else 4
def cans (a : Nat) (b c : Int) (l : List Int) (p t : Int) (gl : List (List Int)) : List (Int × List Int) := (gl.filter fun g => canB a b c l p t g).map fun g => (t, g)
theorem cans_cons (a : Nat) (b c : Int) (l : List Int) (p t : Int) (g : List Int) (gl : List (List Int)) : cans a b c l p t (g :: gl) = (if canB a b c l p t g then [(t, g)] else []) ++ cans a b c l p t gl := by
  unfold cans
  rw [List.filter_cons]
  split <;> simp

theorem l34_i (a : Nat) (b c : Int) (hgd : good a b c = true) (l : List Int) (hl : l.length = 2 * a) (p t : Int) (here : List Int) (gl : List (List Int)) (hgl : ∀ g ∈ gl, g.length ≤ 1000) (hgn : gl.length ≤ 2 ^ 20) : ∀ (d j : Nat) (out : List (Int × List Int)), j + d = gl.length → out.length + d ≤ 2 ^ 30 →
    loopF env true [2, 3, 5, 8, 9, 40, 41, 42] ir34_b0 ([(2, .ptr 0 0 0), (3, .ptr 1 0 0), (5, .ref 2 0 here.length), (8, nvV 3 out), (9, .t (ti t)), (40, .ref (nvK out) 0 gl.length), (41, .t (ti gl.length)), (42, .t (ti j))], [.box 3 [.t (ti a), .t (ti b), .t (ti c)], .box 2 [.t (tl l), .t (ti p)], .froz 1 (til here)] ++ nvH out ++ [.pure 1 (tll gl)]) =
      some (.exit 4, [(2, .ptr 0 0 0), (3, .ptr 1 0 0), (5, .ref 2 0 here.length), (8, nvV 3 (out ++ cans a b c l p t (gl.drop j))), (9, .t (ti t)), (40, .ref (nvK (out ++ cans a b c l p t (gl.drop j))) 0 gl.length), (41, .t (ti gl.length)), (42, .t (ti gl.length)), (43, .t (tb false))], [.box 3 [.t (ti a), .t (ti b), .t (ti c)], .box 2 [.t (tl l), .t (ti p)], .froz 1 (til here)] ++ nvH (out ++ cans a b c l p t (gl.drop j)) ++ [.pure 1 (tll gl)])
  | 0, j, out, hj, hb => by
    rw [x34_0]
    have : j = gl.length := by omega
    subst this
    simp [ir34_d0, cans]
  | d + 1, j, out, hj, hb => by
    rw [x34_0]
    have hlt : j < gl.length := by omega
    have hw : IntKind.i64.wrap ((j : Int) + 1) = (j : Int) + 1 := w76 (by omega)
    have h27 := r45 a b c hgd l hl p t gl[j] (hgl _ (List.getElem_mem hlt))
    have hs : cans a b c l p t (gl.drop j) = (if canB a b c l p t gl[j] then [(t, gl[j])] else []) ++ cans a b c l p t (gl.drop (j + 1)) := by rw [List.drop_eq_getElem_cons hlt, cans_cons]
    rw [hs, ← List.append_assoc]
    have ih := fun out' h => l34_i a b c hgd l hl p t here gl hgl hgn d (j + 1) out' (by omega) h
    cases hc : canB a b c l p t gl[j] with
    | true =>
      rw [hc] at h27
      simp only [if_true]
      have ih' := ih (out ++ [(t, gl[j])]) (by simp; omega)
      generalize out ++ [(t, gl[j])] ++ cans a b c l p t (gl.drop (j + 1)) = Z at *
      cases out with
      | nil =>
        simp [nvV, nvH, nvK, tlv_one] at ih'
        simp [ir34_d0, nvV, nvH, nvK, hlt, hw, h27, ih', tlv_length, tlv_snoc, tlv_take]
      | cons x out =>
        simp [nvV, nvH, nvK] at ih'
        simp [ir34_d0, nvV, nvH, nvK, hlt, hw, h27, ih', tlv_length, tlv_snoc, tlv_take, show out.length + 1 + 1 ≤ 68719476736 by simp at hb; omega]
    | false =>
      rw [hc] at h27
      simp only [Bool.false_eq_true, if_false, List.append_nil]
      have ih' := ih out (by omega)
      generalize out ++ cans a b c l p t (gl.drop (j + 1)) = Z at *
      cases out with
      | nil =>
        simp [nvV, nvH, nvK, tlv_one] at ih'
        simp [ir34_d0, nvV, nvH, nvK, hlt, hw, h27, ih']
      | cons x out =>
        simp [nvV, nvH, nvK] at ih'
        simp [ir34_d0, nvV, nvH, nvK, hlt, hw, h27, ih', tlv_length, tlv_take]

theorem grps_lens (most : Int) : ∀ (rest l g : List Int), g ∈ grps most rest l → (g.length : Int) ≤ most
  | [], _, g, h => by simp [grps] at h
  | x :: rest, l, g, h => by
    simp only [grps] at h
    split at h
    · rename_i hlt
      simp only [List.mem_cons, List.mem_append] at h
      rcases h with rfl | h | h
      · simp; omega
      · exact grps_lens most rest (l ++ [x]) g h
      · exact grps_lens most rest l g h
    · cases h
def voysS (a : Nat) (b c : Int) (l : List Int) (p : Int) (i d : Nat) : List (Int × List Int) := (List.range' i d).flatMap fun t : Nat => cans a b c l p (t : Int) (grps b (stand p 0 l) [])

theorem l34_o (a : Nat) (b c : Int) (hgd : good a b c = true) (l : List Int) (hl : l.length = 2 * a) (p : Int) (hp : stand p 0 l ≠ []) (hb : Blk) (hhb : hb = .pure 1 (til (stand p 0 l)) ∨ hb = .froz 1 (til (stand p 0 l))) : ∀ (d i : Nat) (out : List (Int × List Int)), ((i + d : Nat) : Int) = c + 2 → out.length + d * 2 ^ 8 ≤ 2 ^ 20 → (hb = .pure 1 (til (stand p 0 l)) → 0 < d) →
    loopF env true [2, 3, 5, 8, 9] ir34_b1 ([(2, .ptr 0 0 0), (3, .ptr 1 0 0), (5, .ref 2 0 (stand p 0 l).length), (8, nvV 3 out), (9, .t (ti i))], [.box 3 [.t (ti a), .t (ti b), .t (ti c)], .box 2 [.t (tl l), .t (ti p)], hb] ++ nvH out) =
      some (.exit 2, [(2, .ptr 0 0 0), (3, .ptr 1 0 0), (5, .ref 2 0 (stand p 0 l).length), (8, nvV 3 (out ++ voysS a b c l p i d)), (9, .t (ti (c + 2))), (30, .t (ti (c + 2))), (31, .ptr 0 0 2), (32, .t (ti c)), (33, .t (ti (c + 1))), (34, .t (tb false))], [.box 3 [.t (ti a), .t (ti b), .t (ti c)], .box 2 [.t (tl l), .t (ti p)], .froz 1 (til (stand p 0 l))] ++ nvH (out ++ voysS a b c l p i d))
  | 0, i, out, hi, ho, hd => by
    rw [x34_1]
    have hw : IntKind.i64.wrap (c + 1) = c + 1 := by have := good_of hgd; exact w76 (by omega)
    have hfz : hb = .froz 1 (til (stand p 0 l)) := hhb.resolve_left fun e => by have := hd e; omega
    have hie : (i : Int) = c + 2 := by omega
    simp [ir34_d1, hw, hie, hfz, voysS, show ¬ (c + 2 ≤ c + 1) by omega]
  | d + 1, i, out, hi, ho, hd => by
    rw [x34_1]
    have hgo := good_of hgd
    have hw0 : IntKind.i64.wrap (c + 1) = c + 1 := w76 (by omega)
    have hw : IntKind.i64.wrap ((i : Int) + 1) = (i : Int) + 1 := w76 (by omega)
    have hlt : (i : Int) ≤ c + 1 := by omega
    have hsl := stand_length p l 0
    have h26 := r61 (tl (stand p 0 l)) (stand p 0 l) (isList_tl _) (by omega) b (by omega) (by omega) (stand p 0 l).length 0 .nil [] (by omega) isList_nil (by simp; omega)
    simp only [List.length_nil, if_true, List.nil_append, List.drop_zero] at h26
    have hgn := grps_len b (stand p 0 l) []
    have hgs : ∀ g ∈ grps b (stand p 0 l) [], g.length ≤ 1000 := fun g hg => by have := grps_lens b _ _ g hg; omega
    have hp2 : 2 ^ (stand p 0 l).length ≤ 2 ^ 8 := Nat.pow_le_pow_right (by decide) (by omega)
    have hinner := l34_i a b c hgd l hl p i (stand p 0 l) (grps b (stand p 0 l) []) hgs (by omega) (grps b (stand p 0 l) []).length 0 out (by omega) (by omega)
    have hs : voysS a b c l p i (d + 1) = cans a b c l p i (grps b (stand p 0 l) []) ++ voysS a b c l p (i + 1) d := by simp [voysS, List.range'_succ]
    have hcl : (cans a b c l p i (grps b (stand p 0 l) [])).length ≤ (grps b (stand p 0 l) []).length := by
      simp only [cans, List.length_map]; exact List.length_filter_le _ _
    have ih := l34_o a b c hgd l hl p hp (.froz 1 (til (stand p 0 l))) (.inr rfl) d (i + 1) (out ++ cans a b c l p i (grps b (stand p 0 l) [])) (by omega) (by rw [List.length_append]; omega) (fun e => by cases e)
    rw [hs, ← List.append_assoc]
    have hne : grps b (stand p 0 l) [] ≠ [] := by
      cases hst : stand p 0 l with
      | nil => exact absurd hst hp
      | cons x r => simp [grps, show (0 : Int) < b by omega]
    simp only [List.drop_zero] at hinner
    generalize grps b (stand p 0 l) [] = gl at *
    generalize stand p 0 l = here at *
    rcases h26 with ⟨_, h26⟩ | h26
    · exact absurd h26 hne
    · generalize hZ : out ++ cans a b c l p i gl = Z at *
      generalize Z ++ voysS a b c l p (i + 1) d = Y at *
      simp at h26
      clear hZ
      rcases hhb with rfl | rfl <;> cases out <;> cases Z <;> simp [nvV, nvH, nvK] at hinner ih <;> simp [ir34_d1, nvV, nvH, nvK, hlt, hw0, hw, h26, hinner, ih]
def IsVs (r : Option (V × Heap)) (vs : List (Int × List Int)) : Prop := (r = some (.t .nil, []) ∧ vs = []) ∨ r = some (.ref 0 0 vs.length, [.pure 2 (tlv vs)])
theorem stand_ne (p : Int) : ∀ (l : List Int) (i : Nat), p ∈ l → stand p i l ≠ []
  | x :: l, i, h => by
    simp only [stand]
    split
    · simp
    · rename_i hx
      exact stand_ne p l (i + 1) ((List.mem_cons.1 h).resolve_left fun e => hx e.symm)
theorem r34 (a : Nat) (b c : Int) (hgd : good a b c = true) (l : List Int) (hl : l.length = 2 * a) (p : Int) (hp : p ∈ l) : IsVs (ownFR env 34 [.agg [ti a, ti b, ti c], .agg [tl l, ti p]]) (voysS a b c l p 0 (c + 2).toNat) := by
  rw [ownF_ir e34 _ rfl]
  have hgo := good_of hgd
  have h1 := l34_h a b c p l (by omega) l.length 0 [] (by omega) (by simp)
  have hne := stand_ne p l 0 hp
  have h2 := l34_o a b c hgd l hl p hne (.pure 1 (til (stand p 0 l))) (.inl rfl) (c + 2).toNat 0 [] (by omega) (by simp; omega) (fun _ => by omega)
  simp only [List.drop_zero, List.nil_append] at h1 h2
  generalize voysS a b c l p 0 (c + 2).toNat = Y at *
  generalize stand p 0 l = here at *
  cases here with
  | nil => exact absurd rfl hne
  | cons x here =>
    simp [nlV, nlH] at h1
    cases Y with
    | nil =>
      left
      simp [nvV, nvH] at h2
      simp [ir34, ir34_c, h1, h2]
    | cons y Y =>
      right
      simp [nvV, nvH] at h2
      simp [ir34, ir34_c, h1, h2]
end Go.Proofs.Ytdgfpjlmpnfcgaa.Ev

namespace Go.Proofs.Ytdgfpjlmpnfcgaa.Ev
open Go
set_option linter.unusedVariables false
set_option linter.unusedSimpArgs false
attribute [local simp] til_getE til_length til_get til_drop til_take til_snoc til_fold take_snoc til_replicate til_set
theorem pow_le (e n : Nat) (he : e ≤ 4) (hn : n ≤ 7) : e ^ n ≤ 16384 := Nat.le_trans (Nat.pow_le_pow_left he n) (Nat.le_trans (Nat.pow_le_pow_right (by decide) hn) (by decide))
end Go.Proofs.Ytdgfpjlmpnfcgaa.Ev

namespace Go.Proofs.Ytdgfpjlmpnfcgaa.Ev
open Go
set_option linter.unusedVariables false
set_option linter.unusedSimpArgs false
attribute [local simp] til_getE til_length til_get til_drop til_take til_snoc til_fold take_snoc til_replicate til_set
def voysAll (a : Nat) (b c : Int) (x : List Int × Int) : List (Int × List Int) := voysS a b c x.1 x.2 0 (c + 2).toNat
def okP (a : Nat) (c : Int) (x : List Int × Int) : Prop := x.1.length = 2 * a ∧ x.2 ∈ x.1 ∧ ∀ y ∈ x.1, 0 ≤ y ∧ y ≤ c + 1

theorem code_range (e : Nat) (he : e ≤ 4) : ∀ (xs : List Int) (p : Nat) (m : Nat), (∀ y ∈ xs, 0 ≤ y ∧ y < e) → p < e ^ m → m + xs.length ≤ 7 → ∃ q : Nat, codeW e p xs = q ∧ q < e ^ (m + xs.length)
  | [], p, m, _, hp, _ => ⟨p, rfl, hp⟩
  | x :: xs, p, m, hy, hp, hm => by
    simp only [List.length_cons] at hm ⊢
    obtain ⟨y, rfl⟩ : ∃ y : Nat, x = y := ⟨x.toNat, by have := hy x (List.mem_cons_self ..); omega⟩
    have hye : y < e := by have := hy (y : Int) (List.mem_cons_self ..); omega
    have h1 : p * e + y < e ^ (m + 1) := by
      rw [Nat.pow_succ]
      have : (p + 1) * e ≤ e ^ m * e := Nat.mul_le_mul_right e hp
      rw [Nat.add_mul] at this
      omega
    have hb := pow_le e (m + 1) he (by omega)
    have hpe : p * e ≤ 16384 := by omega
    have hw : IntKind.i64.wrap (IntKind.i64.wrap ((p : Int) * e) + y) = ((p * e + y : Nat) : Int) := by
      have e2001 : (p : Int) * (e : Int) = ((p * e : Nat) : Int) := by simp
      rw [e2001, w76 (n := ((p * e : Nat) : Int)) (by omega), w76 (n := ((p * e : Nat) : Int) + y) (by omega)]; omega
    obtain ⟨q, h2, h3⟩ := code_range e he xs (p * e + y) (m + 1) (fun z hz => hy z (List.mem_cons_of_mem _ hz)) h1 (by omega)
    refine ⟨q, ?_, by rw [show m + (xs.length + 1) = m + 1 + xs.length by omega]; exact h3⟩
    rw [codeW_cons, hw]; exact h2
theorem setAll_mem (t : Int) : ∀ (g l : List Int) (y : Int), y ∈ setAll t g l → y = t ∨ y ∈ l
  | [], l, y, h => .inr h
  | k :: g, l, y, h => by
    rcases setAll_mem t g _ y h with h | h
    · exact .inl h
    · rcases List.mem_or_eq_of_mem_set h with h | h
      · exact .inr h
      · exact .inl h
theorem setAll_has (t : Int) : ∀ (g l : List Int), (t ∈ l ∨ (∃ k ∈ g, 0 ≤ k ∧ k < l.length)) → t ∈ setAll t g l
  | [], l, h => by
    rcases h with h | ⟨k, hk, _⟩
    · exact h
    · cases hk
  | k :: g, l, h => by
    refine setAll_has t g _ ?_
    rcases h with h | ⟨j, hj, h0, h1⟩
    · left
      rcases Nat.lt_or_ge k.toNat l.length with hk | hk
      · exact List.mem_iff_getElem.2 ⟨k.toNat, by simpa using hk, by simp⟩
      · rw [List.set_eq_of_length_le hk]; exact h
    · rcases List.mem_cons.1 hj with rfl | hj
      · left; exact List.mem_iff_getElem.2 ⟨j.toNat, by simp; omega, by simp⟩
      · right; exact ⟨j, hj, h0, by simpa using h1⟩
theorem voys_ok {a : Nat} {b c : Int} (hgd : good a b c = true) {x : List Int × Int} (h : okP a c x) : ∀ v ∈ voysAll a b c x, v.2.length ≤ 1000 ∧ (∀ y ∈ v.2, 0 ≤ y ∧ y < x.1.length) ∧ okP a c (setAll v.1 v.2 x.1, v.1) := by
  intro v hv
  have hgo := good_of hgd
  obtain ⟨h1, h2, h3⟩ := h
  simp only [voysAll, voysS, List.mem_flatMap, cans, List.mem_map, List.mem_filter] at hv
  obtain ⟨t, _, g, ⟨hg1, hg2⟩, rfl⟩ := hv
  have hlen := grps_lens b _ _ g hg1
  simp only [canB, Bool.and_eq_true] at hg2
  obtain ⟨⟨⟨⟨⟨⟨c2001, c2002⟩, c1003⟩, c1008⟩, c1009⟩, c1010⟩, c41⟩ := hg2
  have hin := risesB_in c1008
  rw [inB_iff] at c2001 c1003
  refine ⟨by show g.length ≤ 1000; omega, fun y hy => by have := hin y hy; omega, by show (setAll _ _ _).length = _; rw [setAll_length]; exact h1, ?_, fun y hy => ?_⟩
  · refine setAll_has _ _ _ (.inr ?_)
    cases g with
    | nil => simp at c1003
    | cons k g => exact ⟨k, List.mem_cons_self .., by have := hin k (List.mem_cons_self ..); omega, by have := hin k (List.mem_cons_self ..); omega⟩
  · rcases setAll_mem _ _ _ y hy with h | h
    · subst h; omega
    · exact h3 y h
end Go.Proofs.Ytdgfpjlmpnfcgaa.Ev

namespace Go.Proofs.Ytdgfpjlmpnfcgaa.Ev
open Go
set_option linter.unusedVariables false
set_option linter.unusedSimpArgs false
attribute [local simp] til_getE til_length til_get til_drop til_take til_snoc til_fold take_snoc til_replicate til_set
theorem voysAll_len {a : Nat} {b c : Int} (hgd : good a b c = true) {x : List Int × Int} (hx : okP a c x) : (voysAll a b c x).length ≤ 2 ^ 10 := by
  have hgo := good_of hgd
  have hsl := stand_length x.2 x.1 0
  have hgn := grps_len b (stand x.2 0 x.1) []
  have hp2 : 2 ^ (stand x.2 0 x.1).length ≤ 2 ^ 6 := Nat.pow_le_pow_right (by decide) (by have := hx.1; omega)
  have : ∀ d i, (voysS a b c x.1 x.2 i d).length ≤ d * 2 ^ 6 := by
    intro d
    induction d with
    | zero => intro i; simp [voysS]
    | succ d ih =>
      intro i
      have h1 : voysS a b c x.1 x.2 i (d + 1) = cans a b c x.1 x.2 i (grps b (stand x.2 0 x.1) []) ++ voysS a b c x.1 x.2 (i + 1) d := by simp [voysS, List.range'_succ]
      have h2 : (cans a b c x.1 x.2 i (grps b (stand x.2 0 x.1) [])).length ≤ (grps b (stand x.2 0 x.1) []).length := by
        simp only [cans, List.length_map]; exact List.length_filter_le _ _
      have h3 := ih (i + 1)
      rw [h1, List.length_append]; omega
  have h := this (c + 2).toNat 0
  unfold voysAll
  omega

end Go.Proofs.Ytdgfpjlmpnfcgaa.Ev

namespace Go.Proofs.Ytdgfpjlmpnfcgaa.Ev
open Go
set_option linter.unusedVariables false
set_option linter.unusedSimpArgs false
attribute [local simp] til_getE til_length til_get til_drop til_take til_snoc til_fold take_snoc til_replicate til_set
end Go.Proofs.Ytdgfpjlmpnfcgaa.Ev

namespace Go.Proofs.Ytdgfpjlmpnfcgaa.Ev
open Go
set_option linter.unusedVariables false
set_option linter.unusedSimpArgs false
attribute [local simp] til_getE til_length til_get til_drop til_take til_snoc til_fold take_snoc til_set
theorem wu64 {n : Int} (h : 0 ≤ n ∧ n ≤ 18446744073709551615) : IntKind.u64.wrap n = n := IntWalk.u64_in n h
theorem and32 (y : Nat) (h : y < 2 ^ 32) : andI .u64 (y : Int) 4294967295 = y := by
  unfold andI
  have h1 : (BitVec.ofInt IntKind.u64.bits (y : Int) &&& BitVec.ofInt IntKind.u64.bits 4294967295).toNat = y := by
    show (BitVec.ofInt 64 (y : Int) &&& BitVec.ofInt 64 ((4294967295 : Nat) : Int)).toNat = y
    rw [BitVec.toNat_and, BitVec.toNat_ofInt, BitVec.toNat_ofInt]
    have e2001 : ((y : Int) % ((2 ^ 64 : Nat) : Int)).toNat = y := by omega
    have e2002 : (((4294967295 : Nat) : Int) % ((2 ^ 64 : Nat) : Int)).toNat = 2 ^ 32 - 1 := by decide
    rw [e2001, e2002, Nat.and_two_pow_sub_one_eq_mod, Nat.mod_eq_of_lt h]
  rw [h1]
  exact wu64 (by omega)
theorem shr32 (y : Nat) (h : y < 2 ^ 32) : shrI .u64 (y : Int) 32 = 0 := by
  unfold shrI
  show (y : Int).fdiv (2 ^ (min 32 64)) = 0
  rw [Int.fdiv_eq_ediv_of_nonneg _ (by decide)]
  show (y : Int) / 4294967296 = 0
  omega
theorem r88 (y : Nat) (h : y < 2 ^ 31) : ownR env 88 [.int .u64 1, .int .u64 y] = some (.tup [.t (.int .u64 0), .t (.int .u64 y)], []) := by
  rw [own_ir e88 _ rfl]
  have a1 := and32 y (by omega)
  have a2 := and32 1 (by omega)
  have a3 := shr32 y (by omega)
  have a4 := shr32 1 (by omega)
  have a5 := and32 0 (by omega)
  have a6 := shr32 0 (by omega)
  simp at a2 a4 a5 a6
  have w1001 : IntKind.u64.wrap (y : Int) = y := wu64 (by omega)
  have w1000 : IntKind.u64.wrap 0 = 0 := wu64 (by omega)
  simp [ir88, ir88_c, a1, a2, a3, a4, a5, a6, w1001, w1000]
theorem r86 (y : Nat) (h : y < 2 ^ 31) : ownR env 86 [.int .u64 1, .int .u64 y] = some (.tup [.t (.int .u64 0), .t (.int .u64 y)], []) := by
  rw [own_ir e86 _ rfl]
  simp [ir86, ir86_c, r88 y h]
theorem l76 (v : Int) (n : Nat) (hn : n ≤ 2 ^ 20) : ∀ (d c : Nat), n - c ≤ d → 0 < c → c ≤ n →
    loopF env true [7, 8] ir76_b0 ([(7, .ref 0 0 n), (8, .t (ti c))], [.pure 1 (til (List.replicate c v ++ List.replicate (n - c) 0))]) =
      some (.exit 0, [(7, .ref 0 0 n), (8, .t (ti n)), (34, .t (ti n)), (35, .ref 0 0 n), (36, .t (ti n)), (37, .t (tb false))], [.pure 1 (til (List.replicate n v))])
  | d, c, hd, hc, hcn => by
    rw [x76_0]
    by_cases hlt : c < n
    · obtain ⟨d, rfl⟩ : ∃ e, d = e + 1 := ⟨d - 1, by omega⟩
      have ih := l76 v n hn d (min (2 * c) n) (by omega) (by omega) (by omega)
      have hw : IntKind.i64.wrap ((c : Int) + ((min c (n - c) : Nat) : Int)) = ((min (2 * c) n : Nat) : Int) := by rw [w76 (by omega)]; omega
      have ht : (List.replicate c v ++ List.replicate (n - c) 0).take c = List.replicate c v := by
        rw [List.take_append_of_le_length (by simp)]; simp
      generalize hM : min (2 * c) n = M at *
      have e2001 : c + min (n - c) c = M := by omega
      have hd2 : (List.replicate c v ++ List.replicate (n - c) 0).drop M = List.replicate (n - M) 0 := by
        rw [List.drop_append, List.drop_of_length_le (by simp; omega)]
        simp
        omega
      simp [ir76_d0, hlt, show c ≤ n by omega, ht, hw, e2001, hd2, ih]
    · have : c = n := by omega
      subst this
      simp [ir76_d0]
theorem r76 (v : Int) (n : Nat) (hn0 : 0 < n) (hn : n ≤ 2 ^ 20) : ownR env 76 [tl [v], ti n] = some (.ref 0 0 n, [.pure 1 (til (List.replicate n v))]) := by
  rw [own_ir e76 _ rfl]
  have h46 := r86 n (by omega)
  have w1001 : IntKind.u64.wrap (n : Int) = n := wu64 (by omega)
  have w1002 : IntKind.u64.wrap 1 = 1 := wu64 (by omega)
  have w1003 : IntKind.i64.wrap (n : Int) = n := w76 (by omega)
  have hl := l76 v n hn (n - 1) 1 (by omega) (by omega) (by omega)
  rw [show List.replicate 1 v = [v] from rfl] at hl
  simp only [Int.natCast_one] at hl
  have htk : List.take n [v] = [v] := List.take_of_length_le (by simp; omega)
  have htl : (til (List.replicate n 0)).tail = til (List.replicate (n - 1) 0) := by simp [til]
  simp only [List.singleton_append] at hl
  simp [ir76, ir76_c, htl, show min 1 n = 1 by omega, show min n 1 = 1 by omega, htk, h46, w1001, w1002, w1003, show ¬ ((n : Int) < 0) by omega, show ¬ (9223372036854775807 < (n : Int)) by omega, show (n : Int) ≤ 68719476736 by omega, hl, til_flat, til_replicate]
end Go.Proofs.Ytdgfpjlmpnfcgaa.Ev

namespace Go.Proofs.Ytdgfpjlmpnfcgaa.Ev
open Go
set_option linter.unusedVariables false
set_option linter.unusedSimpArgs false
attribute [local simp] til_getE til_length til_get til_drop til_take til_snoc til_fold take_snoc til_set
end Go.Proofs.Ytdgfpjlmpnfcgaa.Ev

namespace Go.Proofs.Ytdgfpjlmpnfcgaa.Ev
open Go
set_option linter.unusedVariables false
set_option linter.unusedSimpArgs false
attribute [local simp] til_getE til_length til_get til_drop til_take til_snoc til_fold take_snoc til_set
end Go.Proofs.Ytdgfpjlmpnfcgaa.Ev

namespace Go.Proofs.Ytdgfpjlmpnfcgaa.Ev
open Go
set_option linter.unusedVariables false
set_option linter.unusedSimpArgs false
attribute [local simp] til_getE til_length til_get til_drop til_take til_snoc til_fold take_snoc til_set
structure CbIn (H : Heap) (iw is it io k : Nat) (a b c : Int) (l : List Int) (p t : Int) (vs : List (Int × List Int)) : Prop where
  w : H[iw]? = some (.box 3 [.t (ti a), .t (ti b), .t (ti c)])
  s : H[is]? = some (.box 2 [.t (tl l), .t (ti p)])
  t : H[it]? = some (.box 1 [.t (ti t)])
  o : H[io]? = some (.box 1 [.ref k 0 vs.length])
  v : H[k]? = some (.pure 2 (tlv vs))

theorem get_app2 {α : Type} {H X : List α} {i : Nat} {b : α} (h : H[i]? = some b) : (H ++ X)[i]? = some b := by
  rw [List.getElem?_append_left (List.getElem?_eq_some_iff.1 h).1]; exact h
theorem d59 (H : Heap) (iw is it io k : Nat) (a b c : Int) (hc : 0 ≤ c ∧ c ≤ 2) (l : List Int) (hl : l.length ≤ 100) (p t : Int) (vs : List (Int × List Int)) (hvs : vs.length ≤ 2 ^ 30) (h : CbIn H iw is it io k a b c l p t vs) (g : List Int) (hg : g.length ≤ 100) (hk : ∀ x ∈ g, 0 ≤ x ∧ x < l.length) :
    ∃ v H' k', den env 59 [.t (tl g), .ptr iw 0 0, .ptr is 0 0, .ptr it 0 0, .ptr io 0 0] H = some (v, H') ∧ H.length ≤ H'.length ∧ (k' = k ∨ H.length ≤ k') ∧ CbIn H' iw is it io k' a b c l p t (if calmI g g && calmP c (setAll t g l) then vs ++ [(t, g)] else vs) ∧ ∀ id, id < H.length → id ≠ io → id ≠ k → H'[id]? = H[id]? := by
  rw [den_ir e59 _ _ rfl (.inl rfl)]
  have h34 := r60 g (by omega)
  cases h1 : calmI g g with
  | false =>
    refine ⟨.tup [], H, k, ?_, Nat.le_refl _, .inl rfl, h, fun _ _ _ _ => rfl⟩
    simp [ir59, ir59_c, h34, h1]
  | true =>
    have h22 := r43 l g p t (by omega) (by omega) hk
    have hsl := setAll_length t g l
    have h35 := r35 a b c hc t (setAll t g l) (by rw [setAll_length]; omega)
    have htk : (setAll t g l).take l.length = setAll t g l := List.take_of_length_le (by omega)
    have ho : ∀ X, (H ++ X)[io]? = some (.box 1 [.ref k 0 vs.length]) := fun X => get_app2 h.o
    have ht : ∀ X, (H ++ X)[it]? = some (.box 1 [.t (ti t)]) := fun X => get_app2 h.t
    have hv : ∀ X, (H ++ X)[k]? = some (.pure 2 (tlv vs)) := fun X => get_app2 h.v
    generalize setAll t g l = L at *
    cases h2 : calmP c L with
    | false =>
      refine ⟨.tup [], H ++ [.pure 1 (til L)], k, ?_, by simp, .inl rfl, ⟨get_app2 h.w, get_app2 h.s, get_app2 h.t, get_app2 h.o, get_app2 h.v⟩, fun id hid _ _ => get_app hid⟩
      simp [ir59, ir59_c, h34, h1, h.w, h.s, h.t, h22, h35, htk, h2]
    | true =>
      have hne : k ≠ io := fun e => by have := h.o; rw [← e, h.v] at this; cases this
      have hkl := (List.getElem?_eq_some_iff.1 h.v).1
      have hiol := (List.getElem?_eq_some_iff.1 h.o).1
      have hio : ∀ X Y, ((H ++ X).set k .dead ++ Y)[io]? = some (.box 1 [.ref k 0 vs.length]) := fun X Y => get_app2 (by rw [List.getElem?_set_ne hne]; exact ho X)
      refine ⟨.tup [], ((H ++ [Blk.pure 1 (til L), Blk.pure 2 [.agg [.int .i64 t, .lst 1 (til g)]]]).set k Blk.dead ++ [Blk.pure 2 (tlv (vs ++ [(t, g)]))]).set io (.box 1 [.ref (H.length + 2) 0 (vs.length + 1)]), H.length + 2, ?_, by simp; omega, .inr (by omega), ?_, fun id hid h1 h2 => ?_⟩
      · simp [ir59, ir59_c, h34, h1, h.w, h.s, h.t, h22, h35, htk, h2, ho, ht, hv, tlv_length, tlv_take, show vs.length + 1 ≤ 68719476736 by omega, hio, tlv_snoc]
      · have keep : ∀ {id : Nat} {x : Blk}, H[id]? = some x → id ≠ io → id ≠ k → (((H ++ [Blk.pure 1 (til L), Blk.pure 2 [.agg [.int .i64 t, .lst 1 (til g)]]]).set k Blk.dead ++ [Blk.pure 2 (tlv (vs ++ [(t, g)]))]).set io (.box 1 [.ref (H.length + 2) 0 (vs.length + 1)]))[id]? = some x := fun {id x} hx n1 n2 => by
          rw [List.getElem?_set_ne (Ne.symm n1)]
          exact get_app2 (by rw [List.getElem?_set_ne (Ne.symm n2)]; exact get_app2 hx)
        simp only [h1, Bool.and_self, if_true]
        have hw1 : iw ≠ io := fun e => by have := h.o; rw [← e, h.w] at this; cases this
        have hw2 : iw ≠ k := fun e => by have := h.v; rw [← e, h.w] at this; cases this
        have hs1 : is ≠ io := fun e => by have := h.o; rw [← e, h.s] at this; cases this
        have hs2 : is ≠ k := fun e => by have := h.v; rw [← e, h.s] at this; cases this
        have ht1 : it ≠ io := fun e => by have := h.o; rw [← e, h.t] at this; cases this
        have ht2 : it ≠ k := fun e => by have := h.v; rw [← e, h.t] at this; cases this
        refine ⟨keep h.w hw1 hw2, keep h.s hs1 hs2, keep h.t ht1 ht2, ?_, ?_⟩
        · rw [List.getElem?_set_self (by simp; omega)]; simp
        · rw [List.getElem?_set_ne (by omega), List.getElem?_append_right (by simp)]
          simp
      · rw [List.getElem?_set_ne (Ne.symm h1), List.getElem?_append_left (by simp; omega), List.getElem?_set_ne (Ne.symm h2), get_app hid]
end Go.Proofs.Ytdgfpjlmpnfcgaa.Ev

namespace Go.Proofs.Ytdgfpjlmpnfcgaa.Ev
open Go
set_option linter.unusedVariables false
set_option linter.unusedSimpArgs false
attribute [local simp] til_getE til_length til_get til_drop til_take til_snoc til_fold take_snoc til_set
def raP (v : V) (p : List V × List (Nat × Blk)) : Option (List V × List (Nat × Blk)) := some (v :: p.1, p.2)
@[simp] theorem raP_eq (v : V) (vs : List V) (l : List (Nat × Blk)) : raP v (vs, l) = some (v :: vs, l) := rfl
def raQ (H : Heap) (vs : List V) (q : T × List (Nat × Blk)) : Option (List V × List (Nat × Blk)) := andO (callM.rdArgs H vs) (fun p => some (.t q.1 :: p.1, q.2 ++ p.2))
@[simp] theorem raQ_eq (H : Heap) (vs : List V) (t : T) (l : List (Nat × Blk)) : raQ H vs (t, l) = andO (callM.rdArgs H vs) (fun p => some (.t t :: p.1, l ++ p.2)) := rfl
@[simp] theorem ra_nil (H : Heap) : callM.rdArgs H [] = some ([], []) := rfl
@[simp] theorem ra_ptr (H : Heap) (i j c : Nat) (vs : List V) : callM.rdArgs H (.ptr i j c :: vs) = andO (callM.rdArgs H vs) (raP (.ptr i j c)) := by
  simp only [callM.rdArgs]; cases callM.rdArgs H vs <;> rfl
@[simp] theorem ra_map (H : Heap) (i : Nat) (vs : List V) : callM.rdArgs H (.map i :: vs) = andO (callM.rdArgs H vs) (raP (.map i)) := by
  simp only [callM.rdArgs]; cases callM.rdArgs H vs <;> rfl
@[simp] theorem ra_clo (H : Heap) (f : FuncId) (a b : List V) (vs : List V) : callM.rdArgs H (.clo f a b :: vs) = andO (callM.rdArgs H vs) (raP (.clo f a b)) := by
  simp only [callM.rdArgs]; cases callM.rdArgs H vs <;> rfl
@[simp] theorem ra_t (H : Heap) (x : T) (vs : List V) : callM.rdArgs H (.t x :: vs) = andO (callM.rdArgs H vs) (raP (.t x)) := by
  simp only [callM.rdArgs, depth_eq, r_t6]; cases callM.rdArgs H vs <;> rfl
@[simp] theorem ra_ref (H : Heap) (i o n : Nat) (vs : List V) : callM.rdArgs H (.ref i o n :: vs) = andO (rd H 6 (.ref i o n)) (raQ H vs) := by
  simp only [callM.rdArgs, depth_eq]
  cases rd H 6 (.ref i o n) with
  | none => rfl
  | some p => simp only [andO_some, raQ]; cases callM.rdArgs H vs <;> rfl
@[simp] theorem ra_agg (H : Heap) (x : List V) (vs : List V) : callM.rdArgs H (.agg x :: vs) = andO (rd H 6 (.agg x)) (raQ H vs) := by
  simp only [callM.rdArgs, depth_eq]
  cases rd H 6 (.agg x) with
  | none => rfl
  | some p => simp only [andO_some, raQ]; cases callM.rdArgs H vs <;> rfl
@[simp] theorem refC2_some (g : List V → Heap → Option (V × Heap)) (H : Heap) (as : List V) (l : List (Nat × Blk)) : refC2 g H (some (as, l)) = g as (frz H l) := rfl
structure Steps (f : FuncId) (ps : List V) (Inv : List (List Int) → (Nat → Prop) → Heap → Prop) (ok : List Int → Prop) (M : Nat) : Prop where
  call : ∀ (i o n : Nat) (H : Heap), evCall env (den env) f (.ref i o n :: ps) H = refC2 (den env f) H (andO (rd H 6 (.ref i o n)) (raQ H ps))
  ra : ∀ H, callM.rdArgs H ps = some (ps, [])
  step : ∀ gs W H g, gs.length < M → ok g → Inv gs W H → ∃ v H' W', den env f (.t (tl g) :: ps) H = some (v, H') ∧ H.length ≤ H'.length ∧ Inv (gs ++ [g]) W' H' ∧ (∀ id, W' id → W id ∨ H.length ≤ id) ∧ (∀ id, id < H.length → ¬ W id → H'[id]? = H[id]?)
  stable : ∀ gs W H H', Inv gs W H → H.length ≤ H'.length → (∀ id, W id → H'[id]? = H[id]?) → Inv gs W H'
  small : ∀ gs W H, Inv gs W H → ∀ id, W id → id < H.length

theorem cloneB (B : T) (l : List Int) (hB : B = .nil ∧ l = [] ∨ B = tl l) (h : l.length ≤ 68719476736) : primR (cloneP 1) [B] = some (.ref 0 0 l.length, [.pure 1 (til l)]) := by
  rcases hB with ⟨rfl, rfl⟩ | rfl
  · simp [primR_E, primE, cloneP, til]
  · exact clone_til l h
theorem lenB (H : Heap) (B : T) (l : List Int) (hB : B = .nil ∧ l = [] ∨ B = tl l) : evLen H 1 (.t B) = some (l.length : Int) := by
  rcases hB with ⟨rfl, rfl⟩ | rfl <;> simp
end Go.Proofs.Ytdgfpjlmpnfcgaa.Ev

