/- Calm groups: what the program tells of a list of people, and the reference of their bits, is one thing. -/
import Derived.Test.YtjllgibfcnkgpadPArePlaces
import Derived.Laws.BitsLemmas
namespace Go.Proofs.Ytjllgibfcnkgpad.Q.Pure
open Go.RowKit Go.Proofs.Ytjllgibfcnkgpad Go.Proofs.Ytjllgibfcnkgpad.Q Go.Proofs.YtjllgibfcnkgpadW.PrintWords Go.Proofs.YtjllgibfcnkgpadW.PrintLast Go.Proofs.YtjllgibfcnkgpadW.PrintMore

/-- No kept one without its keeper where another keeper is. -/
def Calm (a : Nat) (t : Nat → Prop) : Prop := ¬ ((∃ i, i < a ∧ t (2 * i + 1) ∧ ¬ t (2 * i)) ∧ ∃ j, j < a ∧ t (2 * j))
noncomputable def calmB (a : Nat) (t : Nat → Prop) : Bool := @decide (Calm a t) (Classical.propDecidable _)
theorem calmB_iff (a : Nat) (t : Nat → Prop) : calmB a t = true ↔ Calm a t := by unfold calmB; simp
theorem Calm_congr {a : Nat} {t u : Nat → Prop} (h : ∀ j, j < 2 * a → (t j ↔ u j)) : Calm a t ↔ Calm a u := by
  unfold Calm
  constructor
  · rintro h1 ⟨⟨i, hi, h2, h3⟩, j, hj, h4⟩
    exact h1 ⟨⟨i, hi, (h _ (by omega)).2 h2, fun h5 => h3 ((h _ (by omega)).1 h5)⟩, j, hj, (h _ (by omega)).2 h4⟩
  · rintro h1 ⟨⟨i, hi, h2, h3⟩, j, hj, h4⟩
    exact h1 ⟨⟨i, hi, (h _ (by omega)).1 h2, fun h5 => h3 ((h _ (by omega)).2 h5)⟩, j, hj, (h _ (by omega)).1 h4⟩
theorem calmB_congr {a : Nat} {t u : Nat → Prop} (h : ∀ j, j < 2 * a → (t j ↔ u j)) : calmB a t = calmB a u := by
  rw [Bool.eq_iff_iff, calmB_iff, calmB_iff]; exact Calm_congr h
theorem some_iff {o : Option Bool} {b : Bool} (h : ∃ r, o = some r ∧ (r = true ↔ b = true)) : o = some b := by
  obtain ⟨r, rfl, h⟩ := h
  rw [Bool.eq_iff_iff.2 h]

theorem tmod2 (x : Int) (h : 0 ≤ x) : Int.tmod x 2 = x % 2 := Int.tmod_eq_emod_of_nonneg h
theorem calm_even (l : List Int) (h : ∀ x ∈ l, 0 ≤ x) : slices_ContainsFunc_int_int_at_impl_calm_1.f l = some (l.any fun y => decide (y % 2 = 0)) := by
  unfold slices_ContainsFunc_int_int_at_impl_calm_1.f
  refine anyO_some l (fun x hx => ?_)
  unfold impl_calm_1.f
  rw [tmod2 x (h x hx)]
  by_cases h2 : x % 2 = 0 <;> simp [h2]
theorem calm_l0 (l : List Int) (hl : l.length ≤ 1000000) (hp : ∀ x ∈ l, 0 ≤ x ∧ x ≤ 9223372036854775000) : ∀ (d k i : Nat), i + d = l.length → 2 * d + l.length + 2 < k →
    ∃ r, impl_calm.l0 k l l (l.length : Int) (i : Int) = some r ∧ (r = true ↔ ∀ x ∈ l.drop i, x % 2 = 0 ∨ x - 1 ∈ l ∨ ¬ ∃ y ∈ l, y % 2 = 0) := by
  intro d
  induction d with
  | zero =>
    intro k i hi hk
    obtain ⟨k, rfl⟩ : ∃ m, k = m + 1 := ⟨k - 1, by omega⟩
    simp only [impl_calm.l0]
    rw [if_neg (by omega), List.drop_eq_nil_of_le (by omega)]
    exact ⟨true, rfl, by simp⟩
  | succ d ih =>
    intro k i hi hk
    obtain ⟨k, rfl⟩ : ∃ m, k = m + 2 := ⟨k - 2, by omega⟩
    obtain ⟨y, t, hd, hy, ht⟩ := drop_cons l i (by omega)
    have hym : y ∈ l := List.mem_of_getElem? hy
    obtain ⟨hy0, hy1⟩ := hp y hym
    obtain ⟨r, h1, h2⟩ := ih k (i + 1) (by omega) (by omega)
    rw [show ((i + 1 : Nat) : Int) = (i : Int) + 1 by omega] at h1
    rw [ht] at h2
    simp only [impl_calm.l0, impl_calm.j1]
    rw [if_pos (by omega), if_pos (by omega), if_pos (by omega), rd_at hy, tmod2 y hy0, hd]
    by_cases he : y % 2 = 0
    · rw [if_pos he, if_pos (by trivial), w64 (by omega) (by omega), h1]
      refine ⟨r, rfl, h2.trans ?_⟩
      simp [he]
    · rw [if_neg he, w64 (by omega) (by omega), contains_at l (y - 1) (by omega) (k + 1) (by omega)]
      simp only [Option.bind_some]
      by_cases hc : y - 1 ∈ l
      · rw [if_pos (by simpa using hc), w64 (by omega) (by omega), h1]
        refine ⟨r, rfl, h2.trans ?_⟩
        simp [hc]
      · rw [if_neg (by simpa using hc), calm_even l (fun x hx => (hp x hx).1)]
        simp only [Option.bind_some]
        by_cases ha : ∃ y ∈ l, y % 2 = 0
        · rw [if_pos (by simpa using ha)]
          refine ⟨false, rfl, ?_⟩
          constructor
          · intro h; cases h
          · intro h
            rcases h y (by simp) with h | h | h
            · exact absurd h he
            · exact absurd h hc
            · exact absurd ha h
        · rw [if_neg (by simpa using ha), w64 (by omega) (by omega), h1]
          refine ⟨r, rfl, h2.trans ?_⟩
          simp [ha]
theorem calm_at (a : Nat) (l : List Int) (hl : l.length ≤ 1000000) (hp : ∀ x ∈ l, 0 ≤ x ∧ x < 2 * (a : Int)) (ha : a ≤ 1000000) (k : Nat) (hk : 3 * l.length + 2 < k) : impl_calm.f k l = some (calmB a fun j => (j : Int) ∈ l) := by
  refine some_iff ?_
  obtain ⟨r, h1, h2⟩ := calm_l0 l hl (fun x hx => ⟨(hp x hx).1, by have := (hp x hx).2; omega⟩) l.length k 0 (by omega) (by omega)
  refine ⟨r, h1, h2.trans ?_⟩
  rw [calmB_iff, List.drop_zero]
  unfold Calm
  constructor
  · rintro h ⟨⟨i, hi, h3, h4⟩, j, hj, h5⟩
    rcases h _ h3 with h | h | h
    · omega
    · exact h4 (show ((2 * i : Nat) : Int) ∈ l by rw [show ((2 * i : Nat) : Int) = ((2 * i + 1 : Nat) : Int) - 1 by omega]; exact h)
    · exact h ⟨_, h5, by omega⟩
  · intro h x hx
    by_cases h6 : x % 2 = 0
    · exact .inl h6
    · by_cases h7 : x - 1 ∈ l
      · exact .inr (.inl h7)
      · refine .inr (.inr ?_)
        rintro ⟨y, hy, h8⟩
        have hx2 := hp x hx
        have hy2 := hp y hy
        refine h ⟨⟨(x / 2).toNat, by omega, ?_, ?_⟩, (y / 2).toNat, by omega, ?_⟩
        · show ((2 * (x / 2).toNat + 1 : Nat) : Int) ∈ l
          rw [show ((2 * (x / 2).toNat + 1 : Nat) : Int) = x by omega]; exact hx
        · show ¬ ((2 * (x / 2).toNat : Nat) : Int) ∈ l
          rw [show ((2 * (x / 2).toNat : Nat) : Int) = x - 1 by omega]; exact h7
        · show ((2 * (y / 2).toNat : Nat) : Int) ∈ l
          rw [show ((2 * (y / 2).toNat : Nat) : Int) = y by omega]; exact hy
theorem shr_bits (N i : Nat) (hi : i ≤ 62) : shr .i64 (N : Int) (i : Int) = ((N / 2 ^ i : Nat) : Int) := by
  unfold shr
  rw [show min ((i : Int).toNat) IntKind.i64.bits = i by simp [IntKind.bits]; omega]
  rw [Int.natCast_ediv]
  simp
theorem bit4 (N i : Nat) (hi : i ≤ 60) : (Int.tmod (shr .i64 (N : Int) (i : Int)) 4 = 2) ↔ (N.testBit (i + 1) = true ∧ ¬ N.testBit i = true) := by
  rw [shr_bits N i (by omega), Int.tmod_eq_emod_of_nonneg (Int.natCast_nonneg _), Nat.testBit_eq_decide_div_mod_eq, Nat.testBit_eq_decide_div_mod_eq, Nat.pow_succ, ← Nat.div_div_eq_div_mul]
  generalize N / 2 ^ i = q
  simp only [decide_eq_true_eq]
  omega
theorem bit2 (N i : Nat) (hi : i ≤ 60) : (Int.tmod (shr .i64 (N : Int) (i : Int)) 2 = 1) ↔ N.testBit i = true := by
  rw [shr_bits N i (by omega), Int.tmod_eq_emod_of_nonneg (Int.natCast_nonneg _), Nat.testBit_eq_decide_div_mod_eq]
  generalize N / 2 ^ i = q
  simp only [decide_eq_true_eq]
  omega
theorem cuCalm_l1 (a N i : Nat) (ha : a ≤ 20) : ∀ (d k j : Nat), j + d = a → d < k →
    (∃ j', j ≤ j' ∧ j' < a ∧ N.testBit (2 * j') = true) ∧ spec_cuCalm.l1 k (a : Int) (N : Int) (i : Int) (j : Int) = some false ∨
    (¬ ∃ j', j ≤ j' ∧ j' < a ∧ N.testBit (2 * j') = true) ∧ spec_cuCalm.l1 k (a : Int) (N : Int) (i : Int) (j : Int) = spec_cuCalm.l0 (k - (d + 1)) (a : Int) (N : Int) (wrap64 ((i : Int) + 1)) := by
  intro d
  induction d with
  | zero =>
    intro k j hj hk
    obtain ⟨k, rfl⟩ : ∃ m, k = m + 1 := ⟨k - 1, by omega⟩
    refine .inr ⟨?_, ?_⟩
    · rintro ⟨j', h1, h2, _⟩; omega
    · simp only [spec_cuCalm.l1]
      rw [if_neg (by omega)]
      rfl
  | succ d ih =>
    intro k j hj hk
    obtain ⟨k, rfl⟩ : ∃ m, k = m + 1 := ⟨k - 1, by omega⟩
    have hb := bit2 N (2 * j) (by omega)
    simp only [spec_cuCalm.l1]
    rw [if_pos (by omega), w64 (by omega) (by omega), if_pos (by omega), show (2 * (j : Int)) = ((2 * j : Nat) : Int) by omega]
    by_cases h : N.testBit (2 * j) = true
    · rw [if_pos (hb.2 h)]
      exact .inl ⟨⟨j, Nat.le_refl _, by omega, h⟩, rfl⟩
    · rw [if_neg (fun h' => h (hb.1 h')), w64 (a := (j : Int) + 1) (by omega) (by omega)]
      have := ih k (j + 1) (by omega) (by omega)
      rw [show ((j + 1 : Nat) : Int) = (j : Int) + 1 by omega] at this
      rcases this with ⟨⟨j', h1, h2, h3⟩, h4⟩ | ⟨h1, h2⟩
      · exact .inl ⟨⟨j', by omega, h2, h3⟩, h4⟩
      · refine .inr ⟨?_, ?_⟩
        · rintro ⟨j', h3, h4, h5⟩
          rcases Nat.lt_or_ge j j' with h6 | h6
          · exact h1 ⟨j', h6, h4, h5⟩
          · have : j' = j := by omega
            subst this
            exact h h5
        · rw [h2, show k + 1 - (d + 1 + 1) = k - (d + 1) by omega]
theorem cuCalm_l0 (a N : Nat) (ha : a ≤ 20) : ∀ (d k i : Nat), i + d = a → d * (a + 2) < k →
    ∃ r, spec_cuCalm.l0 k (a : Int) (N : Int) (i : Int) = some r ∧ (r = true ↔ ∀ i', i ≤ i' → i' < a → ¬ ((N.testBit (2 * i' + 1) = true ∧ ¬ N.testBit (2 * i') = true) ∧ ∃ j, j < a ∧ N.testBit (2 * j) = true)) := by
  intro d
  induction d with
  | zero =>
    intro k i hi hk
    obtain ⟨k, rfl⟩ : ∃ m, k = m + 1 := ⟨k - 1, by omega⟩
    simp only [spec_cuCalm.l0]
    rw [if_neg (by omega)]
    exact ⟨true, rfl, by simp; intro i' h1 h2; omega⟩
  | succ d ih =>
    intro k i hi hk
    have hmul : (d + 1) * (a + 2) = d * (a + 2) + (a + 2) := by rw [Nat.succ_mul]
    obtain ⟨k, rfl⟩ : ∃ m, k = m + 1 := ⟨k - 1, by omega⟩
    have hb := bit4 N (2 * i) (by omega)
    simp only [spec_cuCalm.l0]
    rw [if_pos (by omega), w64 (a := 2 * (i : Int)) (by omega) (by omega), if_pos (by omega), show (2 * (i : Int)) = ((2 * i : Nat) : Int) by omega, w64 (a := (i : Int) + 1) (by omega) (by omega)]
    by_cases h : N.testBit (2 * i + 1) = true ∧ ¬ N.testBit (2 * i) = true
    · rw [if_pos (hb.2 h)]
      rcases cuCalm_l1 a N i ha a k 0 (by omega) (by omega) with ⟨⟨j, _, h1, h2⟩, h3⟩ | ⟨h1, h2⟩
      · refine ⟨false, h3, ?_⟩
        constructor
        · intro h; cases h
        · intro h4
          exact absurd ⟨h, j, h1, h2⟩ (h4 i (Nat.le_refl _) (by omega))
      · rw [w64 (by omega) (by omega)] at h2
        obtain ⟨r, h3, h4⟩ := ih (k - (a + 1)) (i + 1) (by omega) (by omega)
        rw [show ((i + 1 : Nat) : Int) = (i : Int) + 1 by omega] at h3
        refine ⟨r, h2.trans h3, h4.trans ?_⟩
        constructor
        · rintro _ i' _ _ ⟨_, j, h5, h6⟩
          exact h1 ⟨j, Nat.zero_le _, h5, h6⟩
        · intro h5 i' h6 h7
          exact h5 i' (by omega) h7
    · rw [if_neg (fun h' => h (hb.1 h'))]
      obtain ⟨r, h3, h4⟩ := ih k (i + 1) (by omega) (by omega)
      rw [show ((i + 1 : Nat) : Int) = (i : Int) + 1 by omega] at h3
      refine ⟨r, h3, h4.trans ?_⟩
      constructor
      · intro h5 i' h6 h7
        rcases Nat.lt_or_ge i i' with h8 | h8
        · exact h5 i' h8 h7
        · have : i' = i := by omega
          subst this
          exact fun h9 => h h9.1
      · intro h5 i' h6 h7
        exact h5 i' (by omega) h7
theorem cuCalm_at (a N : Nat) (ha : a ≤ 20) (k : Nat) (hk : 500 < k) : spec_cuCalm.f k (a : Int) (N : Int) = some (calmB a fun j => N.testBit j = true) := by
  refine some_iff ?_
  have hmul : a * (a + 2) ≤ 20 * 22 := Nat.mul_le_mul ha (by omega)
  obtain ⟨r, h1, h2⟩ := cuCalm_l0 a N ha a k 0 (by omega) (by omega)
  refine ⟨r, h1, h2.trans ?_⟩
  rw [calmB_iff]
  unfold Calm
  constructor
  · rintro h ⟨⟨i, hi, h3, h4⟩, j, hj, h5⟩
    exact h i (Nat.zero_le _) hi ⟨⟨h3, h4⟩, j, hj, h5⟩
  · rintro h i' _ h3 ⟨⟨h4, h5⟩, j, h6, h7⟩
    exact h ⟨⟨i', h3, h4, h5⟩, j, h6, h7⟩
end Go.Proofs.Ytjllgibfcnkgpad.Q.Pure
