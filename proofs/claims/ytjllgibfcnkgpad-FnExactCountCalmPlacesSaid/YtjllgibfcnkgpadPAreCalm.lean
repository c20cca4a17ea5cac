/- Calm places: the program, place by place a list of people, and the reference, place by place their bits, tell the same. -/
import Derived.Test.YtjllgibfcnkgpadPCalm
namespace Go.Proofs.Ytjllgibfcnkgpad.Q.Pure
open Go.RowKit Go.Proofs.Ytjllgibfcnkgpad Go.Proofs.Ytjllgibfcnkgpad.Q Go.Proofs.YtjllgibfcnkgpadW.PrintWords Go.Proofs.YtjllgibfcnkgpadW.PrintLast Go.Proofs.YtjllgibfcnkgpadW.PrintMore

/-- Calm at every place. -/
def AllCalm (a : Nat) (c : Int) (l : List Int) : Prop := ∀ p : Int, 0 ≤ p → p ≤ c + 1 → Calm a fun j => l[j]? = some p
noncomputable def allCalmB (a : Nat) (c : Int) (l : List Int) : Bool := @decide (AllCalm a c l) (Classical.propDecidable _)
theorem allCalmB_iff (a : Nat) (c : Int) (l : List Int) : allCalmB a c l = true ↔ AllCalm a c l := by unfold allCalmB; simp
/-- The bits of the numbers below n of which p holds. -/
def bitsN (p : Nat → Bool) : Nat → Nat
  | 0 => 0
  | n + 1 => if p n then bitsN p n ||| 2 ^ n else bitsN p n
theorem bitsN_lt (p : Nat → Bool) (n : Nat) : bitsN p n < 2 ^ n := by
  induction n with
  | zero => simp [bitsN]
  | succ n ih =>
    have h2 : 2 ^ n < 2 ^ (n + 1) := Nat.pow_lt_pow_right (by omega) (by omega)
    simp only [bitsN]
    split
    · exact Nat.or_lt_two_pow (by omega) h2
    · omega
theorem bitsN_test (p : Nat → Bool) (n j : Nat) : (bitsN p n).testBit j = (decide (j < n) && p j) := by
  induction n with
  | zero => simp [bitsN]
  | succ n ih =>
    simp only [bitsN]
    by_cases hp : p n = true
    · rw [if_pos hp, Nat.testBit_or, ih, Nat.testBit_two_pow]
      by_cases h1 : j < n
      · have h2 : j < n + 1 := by omega
        have h3 : ¬ n = j := by omega
        simp [h1, h2, h3]
      · by_cases h2 : j = n
        · subst h2; simp [hp]
        · have h3 : ¬ n = j := by omega
          have h4 : ¬ j < n + 1 := by omega
          simp [h1, h3, h4]
    · rw [if_neg hp, ih]
      by_cases h1 : j < n
      · have h2 : j < n + 1 := by omega
        simp [h1, h2]
      · by_cases h2 : j = n
        · subst h2; simp [hp]
        · have h4 : ¬ j < n + 1 := by omega
          simp [h1, h4]
theorem shl_one (i : Nat) (hi : i ≤ 60) : shl .i64 1 (i : Int) = ((2 ^ i : Nat) : Int) := by
  unfold shl
  rw [show min ((i : Int).toNat) IntKind.i64.bits = i by simp [IntKind.bits]; omega]
  have h : 2 ^ i ≤ 2 ^ 60 := Nat.pow_le_pow_right (by omega) hi
  have h2 : (1 : Int) * 2 ^ i = ((2 ^ i : Nat) : Int) := by simp
  rw [h2, IntKind.wrap_i64]
  have h3 : (2 : Nat) ^ 60 = 1152921504606846976 := by decide
  rw [h3] at h
  clear h2 h3
  generalize (2 : Nat) ^ i = z at h ⊢
  omega
theorem or_bits (x i : Nat) (hi : i ≤ 60) (hx : x < 2 ^ i) : Go.bits .or .i64 (x : Int) (shl .i64 1 (i : Int)) = ((x ||| 2 ^ i : Nat) : Int) := by
  have h : 2 ^ i ≤ 2 ^ 60 := Nat.pow_le_pow_right (by omega) hi
  have h3 : (2 : Nat) ^ 62 = 4611686018427387904 := by decide
  have h4 : (2 : Nat) ^ 60 = 1152921504606846976 := by decide
  rw [shl_one i hi]
  exact (bits_nat .i64 62 (by decide) (fun n h₀ h₁ => by rw [IntKind.wrap_i64]; omega) x (2 ^ i) (by omega) (by omega)).2
theorem spec_isCalm_l1 (a b c p q : Int) (l : List Int) (hl : l.length ≤ 60) : ∀ (d k i : Nat), i + d = l.length → d < k →
    spec_isCalm.l1 k p ((bitsN (fun j => decide (l[j]? = some p)) i : Nat) : Int) l (l.length : Int) (i : Int) a b c l q =
      ((spec_cuCalm.f (k - (d + 1)) a ((bitsN (fun j => decide (l[j]? = some p)) l.length : Nat) : Int)).bind fun t => if t = true then spec_isCalm.l0 (k - (d + 1)) (wrap64 (p + 1)) a b c l q else some false) := by
  intro d
  induction d with
  | zero =>
    intro k i hi hk
    obtain ⟨k, rfl⟩ : ∃ m, k = m + 1 := ⟨k - 1, by omega⟩
    simp only [spec_isCalm.l1]
    rw [if_neg (by omega), show i = l.length by omega]
    rfl
  | succ d ih =>
    intro k i hi hk
    obtain ⟨k, rfl⟩ : ∃ m, k = m + 1 := ⟨k - 1, by omega⟩
    obtain ⟨y, t, hd, hy, ht⟩ := drop_cons l i (by omega)
    simp only [spec_isCalm.l1]
    rw [if_pos (by omega), if_pos (by omega), if_pos (by omega), rd_at hy, w64 (a := (i : Int) + 1) (by omega) (by omega)]
    have := ih k (i + 1) (by omega) (by omega)
    rw [show ((i + 1 : Nat) : Int) = (i : Int) + 1 by omega, show k - (d + 1) = k + 1 - (d + 1 + 1) by omega] at this
    by_cases h : y = p
    · rw [if_pos h, or_bits _ i (by omega) (bitsN_lt _ i)]
      have hb : bitsN (fun j => decide (l[j]? = some p)) (i + 1) = bitsN (fun j => decide (l[j]? = some p)) i ||| 2 ^ i := by
        simp only [bitsN]
        rw [if_pos (by simp [hy, h])]
      rw [← hb]
      exact this
    · rw [if_neg h]
      have hb : bitsN (fun j => decide (l[j]? = some p)) (i + 1) = bitsN (fun j => decide (l[j]? = some p)) i := by
        simp only [bitsN]
        rw [if_neg (by simp [hy, h])]
      rw [← hb]
      exact this
theorem spec_isCalm_l0 (a : Nat) (b c q : Int) (l : List Int) (ha : a ≤ 20) (hl : l.length = 2 * a) (hc : c ≤ 1000) : ∀ (d k : Nat) (p : Int), 0 ≤ p → p + d = c + 2 → d * (2 * a + 2) + 600 < k →
    ∃ r, spec_isCalm.l0 k p (a : Int) b c l q = some r ∧ (r = true ↔ ∀ p', p ≤ p' → p' ≤ c + 1 → Calm a fun j => l[j]? = some p') := by
  intro d
  induction d with
  | zero =>
    intro k p hp0 hp hk
    obtain ⟨k, rfl⟩ : ∃ m, k = m + 1 := ⟨k - 1, by omega⟩
    simp only [spec_isCalm.l0]
    rw [w64 (by omega) (by omega), if_neg (by omega)]
    exact ⟨true, rfl, by simp; intro p' h1 h2; omega⟩
  | succ d ih =>
    intro k p hp0 hp hk
    have hmul : (d + 1) * (2 * a + 2) = d * (2 * a + 2) + (2 * a + 2) := by rw [Nat.succ_mul]
    obtain ⟨k, rfl⟩ : ∃ m, k = m + 1 := ⟨k - 1, by omega⟩
    simp only [spec_isCalm.l0]
    rw [w64 (by omega) (by omega), if_pos (by omega)]
    have h1 := spec_isCalm_l1 (a : Int) b c p q l (by omega) l.length k 0 (by omega) (by omega)
    rw [show ((bitsN (fun j => decide (l[j]? = some p)) 0 : Nat) : Int) = 0 from rfl, show ((0 : Nat) : Int) = 0 from rfl] at h1
    rw [h1, cuCalm_at a _ ha _ (by omega)]
    have hcong : calmB a (fun j => (bitsN (fun j => decide (l[j]? = some p)) l.length).testBit j = true) = calmB a (fun j => l[j]? = some p) := calmB_congr (fun j hj => by
      rw [bitsN_test]
      have : j < l.length := by omega
      simp [this])
    rw [hcong, w64 (by omega) (by omega)]
    simp only [Option.bind_some]
    obtain ⟨r, h2, h3⟩ := ih (k - (l.length + 1)) (p + 1) (by omega) (by omega) (by omega)
    by_cases hC : calmB a (fun j => l[j]? = some p) = true
    · rw [if_pos hC]
      refine ⟨r, h2, h3.trans ?_⟩
      constructor
      · intro h4 p' h5 h6
        rcases Int.lt_or_le p p' with h7 | h7
        · exact h4 p' (by omega) h6
        · have : p' = p := by omega
          subst this
          exact (calmB_iff _ _).1 hC
      · intro h4 p' h5 h6
        exact h4 p' (by omega) h6
    · rw [if_neg hC]
      refine ⟨false, rfl, ?_⟩
      constructor
      · intro h; cases h
      · intro h
        exact absurd ((calmB_iff _ _).2 (h p (Int.le_refl _) (by omega))) hC
theorem spec_isCalm_at (a : Nat) (b c q : Int) (l : List Int) (ha : a ≤ 20) (hl : l.length = 2 * a) (hc0 : 0 ≤ c) (hc : c ≤ 100) (k : Nat) (hk : 10000 < k) : spec_isCalm.f k (a : Int) b c l q = some (allCalmB a c l) := by
  refine some_iff ?_
  have hmul : (c + 2).toNat * (2 * a + 2) ≤ 102 * 42 := Nat.mul_le_mul (by omega) (by omega)
  obtain ⟨r, h1, h2⟩ := spec_isCalm_l0 a b c q l ha hl (by omega) (c + 2).toNat k 0 (by omega) (by omega) (by omega)
  refine ⟨r, h1, h2.trans ?_⟩
  rw [allCalmB_iff]
  rfl
theorem standing_l0 (p : Int) (l : List Int) (hl : l.length ≤ 1000000) : ∀ (d k i : Nat) (acc : List Int), i + d = l.length → acc.length ≤ i → d < k →
    ∃ g, impl_Places_standing.l0 k p acc l (l.length : Int) (i : Int) = some (acc ++ g) ∧ g.length ≤ d ∧ ∀ x, x ∈ g ↔ ∃ j : Nat, i ≤ j ∧ x = (j : Int) ∧ l[j]? = some p := by
  intro d
  induction d with
  | zero =>
    intro k i acc hi ha hk
    obtain ⟨k, rfl⟩ : ∃ m, k = m + 1 := ⟨k - 1, by omega⟩
    simp only [impl_Places_standing.l0]
    rw [if_neg (by omega)]
    refine ⟨[], by simp, by simp, fun x => ⟨fun h => by simp at h, ?_⟩⟩
    rintro ⟨j, h1, _, h2⟩
    have := (List.getElem?_eq_some_iff.1 h2).1
    omega
  | succ d ih =>
    intro k i acc hi ha hk
    obtain ⟨k, rfl⟩ : ∃ m, k = m + 1 := ⟨k - 1, by omega⟩
    obtain ⟨y, t, hd, hy, ht⟩ := drop_cons l i (by omega)
    simp only [impl_Places_standing.l0]
    rw [if_pos (by omega), if_pos (by omega), if_pos (by omega), rd_at hy, w64 (a := (i : Int) + 1) (by omega) (by omega)]
    by_cases h : y = p
    · rw [if_pos h, if_pos (by omega)]
      obtain ⟨g, h1, h2, h3⟩ := ih k (i + 1) (acc ++ [(i : Int)]) (by omega) (by simp; omega) (by omega)
      rw [show ((i + 1 : Nat) : Int) = (i : Int) + 1 by omega] at h1
      refine ⟨(i : Int) :: g, by rw [h1]; simp, by simp; omega, fun x => ?_⟩
      rw [List.mem_cons, h3]
      constructor
      · rintro (rfl | ⟨j, h4, h5, h6⟩)
        · exact ⟨i, Nat.le_refl _, rfl, by rw [hy, h]⟩
        · exact ⟨j, by omega, h5, h6⟩
      · rintro ⟨j, h4, h5, h6⟩
        rcases Nat.lt_or_ge i j with h7 | h7
        · exact .inr ⟨j, h7, h5, h6⟩
        · exact .inl (by rw [h5]; omega)
    · rw [if_neg h]
      obtain ⟨g, h1, h2, h3⟩ := ih k (i + 1) acc (by omega) (by omega) (by omega)
      rw [show ((i + 1 : Nat) : Int) = (i : Int) + 1 by omega] at h1
      refine ⟨g, h1, by omega, fun x => ?_⟩
      rw [h3]
      constructor
      · rintro ⟨j, h4, h5, h6⟩
        exact ⟨j, by omega, h5, h6⟩
      · rintro ⟨j, h4, h5, h6⟩
        rcases Nat.lt_or_ge i j with h7 | h7
        · exact ⟨j, h7, h5, h6⟩
        · have : j = i := by omega
          subst this
          rw [hy] at h6
          exact absurd (Option.some.inj h6) h
theorem standing_at (p q : Int) (l : List Int) (hl : l.length ≤ 1000000) (k : Nat) (hk : l.length < k) : ∃ g, impl_Places_standing.f k l q p = some g ∧ g.length ≤ l.length ∧ ∀ x, x ∈ g ↔ ∃ j : Nat, x = (j : Int) ∧ l[j]? = some p := by
  obtain ⟨g, h1, h2, h3⟩ := standing_l0 p l hl l.length k 0 [] (by omega) (by simp) hk
  refine ⟨g, by unfold impl_Places_standing.f; rw [show (0 : Int) = ((0 : Nat) : Int) from rfl, h1]; simp, h2, fun x => ?_⟩
  rw [h3]
  simp
theorem areCalm_l0 (a : Nat) (c q : Int) (l : List Int) (ha : a ≤ 20) (hl : l.length = 2 * a) (hc : c ≤ 1000) : ∀ (d k : Nat) (p : Int), 0 ≤ p → p + d = c + 2 → d + 200 < k →
    ∃ r, impl_Isles_areCalm.l0 k (c + 2) p l q = some r ∧ (r = true ↔ ∀ p', p ≤ p' → p' ≤ c + 1 → Calm a fun j => l[j]? = some p') := by
  intro d
  induction d with
  | zero =>
    intro k p hp0 hp hk
    obtain ⟨k, rfl⟩ : ∃ m, k = m + 1 := ⟨k - 1, by omega⟩
    simp only [impl_Isles_areCalm.l0]
    rw [if_neg (by omega)]
    exact ⟨true, rfl, by simp; intro p' h1 h2; omega⟩
  | succ d ih =>
    intro k p hp0 hp hk
    obtain ⟨k, rfl⟩ : ∃ m, k = m + 1 := ⟨k - 1, by omega⟩
    simp only [impl_Isles_areCalm.l0]
    obtain ⟨g, h1, h2, h3⟩ := standing_at p q l (by omega) k (by omega)
    have hr : ∀ x ∈ g, 0 ≤ x ∧ x < 2 * (a : Int) := by
      intro x hx
      obtain ⟨j, h4, h5⟩ := (h3 x).1 hx
      have := (List.getElem?_eq_some_iff.1 h5).1
      omega
    have hcong : calmB a (fun j => (j : Int) ∈ g) = calmB a (fun j => l[j]? = some p) := calmB_congr (fun j hj => by
      rw [h3]
      constructor
      · rintro ⟨j', h4, h5⟩
        have : j = j' := by omega
        subst this
        exact h5
      · intro h4
        exact ⟨j, rfl, h4⟩)
    rw [if_pos (by omega), h1]
    simp only [Option.bind_some]
    rw [calm_at a g (by omega) hr (by omega) k (by omega), hcong, w64 (by omega) (by omega)]
    simp only [Option.bind_some]
    obtain ⟨r, h4, h5⟩ := ih k (p + 1) (by omega) (by omega) (by omega)
    by_cases hC : calmB a (fun j => l[j]? = some p) = true
    · rw [if_pos hC]
      refine ⟨r, h4, h5.trans ?_⟩
      constructor
      · intro h6 p' h7 h8
        rcases Int.lt_or_le p p' with h9 | h9
        · exact h6 p' (by omega) h8
        · have : p' = p := by omega
          subst this
          exact (calmB_iff _ _).1 hC
      · intro h6 p' h7 h8
        exact h6 p' (by omega) h8
    · rw [if_neg hC]
      refine ⟨false, rfl, ?_⟩
      constructor
      · intro h; cases h
      · intro h
        exact absurd ((calmB_iff _ _).2 (h p (Int.le_refl _) (by omega))) hC
theorem areCalm_at (a : Nat) (b c q : Int) (l : List Int) (ha : a ≤ 20) (hl : l.length = 2 * a) (hc0 : 0 ≤ c) (hc : c ≤ 100) (k : Nat) (hk : 1000 < k) : impl_Isles_areCalm.f k (a : Int) b c l q = some (allCalmB a c l) := by
  refine some_iff ?_
  obtain ⟨r, h1, h2⟩ := areCalm_l0 a c q l ha hl (by omega) (c + 2).toNat k 0 (by omega) (by omega) (by omega)
  unfold impl_Isles_areCalm.f impl_Isles_far.f
  simp only [Option.bind_some]
  rw [w64 (a := c + 1) (by omega) (by omega), w64 (by omega) (by omega), show c + 1 + 1 = c + 2 by omega]
  refine ⟨r, h1, h2.trans ?_⟩
  rw [allCalmB_iff]
  rfl
/-- What valid places say of their numbers. -/
theorem isPl_of {a b c : Int} {l : List Int} {p : Int} (h : isPl a b c l p = true) : good a b c = true ∧ (l.length : Int) = 2 * a ∧ (∀ x ∈ l, 0 ≤ x ∧ x ≤ c + 1) ∧ p ∈ l := by
  simp only [isPl, allB, Bool.and_eq_true, decide_eq_true_eq, List.all_eq_true] at h
  exact ⟨h.1, h.2.1, h.2.2.1, h.2.2.2⟩
end Go.Proofs.Ytjllgibfcnkgpad.Q.Pure
