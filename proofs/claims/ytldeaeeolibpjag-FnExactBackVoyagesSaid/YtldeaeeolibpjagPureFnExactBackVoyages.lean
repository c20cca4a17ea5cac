/- The plain laws of this claim: over numbers and lists alone. -/
import Derived.Test.YtldeaeeolibpjagQx
import Derived.Laws.BitsLemmas
namespace Go.Proofs.Ytldeaeeolibpjag.Q.Pure
open Go.RowKit Go.Proofs.Ytldeaeeolibpjag Go.Proofs.Ytldeaeeolibpjag.Q Go.Proofs.YtldeaeeolibpjagW.PrintWords Go.Proofs.YtldeaeeolibpjagW.PrintLast Go.Proofs.YtldeaeeolibpjagW.PrintMore

theorem w64 {a : Int} (h0 : -9223372036854775808 ≤ a) (h1 : a ≤ 9223372036854775807) : wrap64 a = a := by unfold wrap64; omega

/-- a, a + 1, .., n numbers. -/
def mk (a : Int) : Nat → List Int
  | 0 => []
  | n + 1 => a :: mk (a + 1) n
theorem mk_length (a : Int) (n : Nat) : (mk a n).length = n := by induction n generalizing a with
  | zero => rfl
  | succ n ih => simp [mk, ih]
theorem mk_at (n : Nat) : ∀ (a : Int) (i : Nat), i < n → (mk a n)[i]? = some (a + i) := by
  induction n with
  | zero => intro a i h; omega
  | succ n ih =>
    intro a i h
    cases i with
    | zero => simp [mk]
    | succ i => simp only [mk, List.getElem?_cons_succ]; rw [ih (a + 1) i (by omega)]; congr 1; omega
theorem rd_at {l : List Int} {i : Nat} {x : Int} (h : l[i]? = some x) : rd l (i : Int) = x := by simp [rd, h]
theorem rd_of {l : List Int} {i : Nat} (h : i < l.length) : l[i]? = some (rd l (i : Int)) := by simp [rd, h]

theorem toIntS_l0 (l : List Int) (hl : l.length ≤ 35184372088832) : ∀ (d k i : Nat) (y : List Int), y.length = l.length → i + d = l.length → (∀ j, j < i → y[j]? = l[j]?) → d < k → laws_toIntS.l0 k l y (i : Int) = some l := by
  intro d
  induction d with
  | zero =>
    intro k i y hy hi hj hk
    obtain ⟨k, rfl⟩ : ∃ m, k = m + 1 := ⟨k - 1, by omega⟩
    simp only [laws_toIntS.l0]
    rw [if_neg (by omega)]
    congr 1
    apply List.ext_getElem?
    intro j
    rcases Nat.lt_or_ge j i with h | h
    · exact hj j h
    · rw [List.getElem?_eq_none (by omega), List.getElem?_eq_none (by omega)]
  | succ d ih =>
    intro k i y hy hi hj hk
    obtain ⟨k, rfl⟩ : ∃ m, k = m + 1 := ⟨k - 1, by omega⟩
    simp only [laws_toIntS.l0]
    rw [if_pos (by omega), if_pos (by omega), if_pos (by omega), w64 (by omega) (by omega)]
    have := ih k (i + 1) (y.set i (rd l i)) (by simpa using hy) (by omega) (fun j h => by
      rcases Nat.lt_or_ge j i with h2 | h2
      · rw [List.getElem?_set_ne (by omega)]; exact hj j h2
      · have : j = i := by omega
        subst this
        rw [List.getElem?_set_self (by omega)]
        exact (rd_of (by omega)).symm) (by omega)
    simpa using this
theorem toIntS_ev (l : List Int) (hl : l.length ≤ 35184372088832) : ∃ K, ∀ k, K ≤ k → laws_toIntS.f k l = some l := by
  refine ⟨l.length + 1, fun k hk => ?_⟩
  unfold laws_toIntS.f
  rw [if_pos (by omega), if_pos (by simpa using hl)]
  exact toIntS_l0 l hl l.length k 0 _ (by simp) (by omega) (fun j h => by omega) (by omega)

theorem eqIntS_l0 (a b : List Int) (hl : a.length = b.length) (hb : a.length ≤ 9223372036854775000) : ∀ (d k i : Nat), i + d = a.length → (∀ j, j < i → a[j]? = b[j]?) → d < k → laws_eqIntS.l0 k a b (i : Int) = some (decide (a = b)) := by
  intro d
  induction d with
  | zero =>
    intro k i hi hj hk
    obtain ⟨k, rfl⟩ : ∃ m, k = m + 1 := ⟨k - 1, by omega⟩
    simp only [laws_eqIntS.l0]
    rw [if_neg (by omega)]
    have : a = b := by
      apply List.ext_getElem?
      intro j
      rcases Nat.lt_or_ge j i with h | h
      · exact hj j h
      · rw [List.getElem?_eq_none (by omega), List.getElem?_eq_none (by omega)]
    simp [this]
  | succ d ih =>
    intro k i hi hj hk
    obtain ⟨k, rfl⟩ : ∃ m, k = m + 1 := ⟨k - 1, by omega⟩
    simp only [laws_eqIntS.l0]
    rw [if_pos (by omega), if_pos (by omega), if_pos (by omega)]
    by_cases he : rd a (i : Int) = rd b (i : Int)
    · rw [if_pos he, w64 (by omega) (by omega)]
      have := ih k (i + 1) (by omega) (fun j h => by
        rcases Nat.lt_or_ge j i with h2 | h2
        · exact hj j h2
        · have : j = i := by omega
          subst this
          rw [rd_of (by omega), rd_of (by omega), he]) (by omega)
      simpa using this
    · rw [if_neg he]
      have : a ≠ b := fun h => he (by rw [h])
      simp [this]
theorem eqIntS_ev (a b : List Int) (hb : a.length ≤ 9223372036854775000) : ∃ K, ∀ k, K ≤ k → laws_eqIntS.f k a b = some (decide (a = b)) := by
  refine ⟨a.length + 1, fun k hk => ?_⟩
  unfold laws_eqIntS.f
  by_cases hl : a.length = b.length
  · rw [if_pos (by omega)]
    exact eqIntS_l0 a b hl hb a.length k 0 (by omega) (fun j h => by omega) (by omega)
  · rw [if_neg (by omega)]
    have : a ≠ b := fun h => hl (by rw [h])
    simp [this]
theorem markIntS_l0 (n : Nat) (a0 : Int) (hn : n ≤ 1000000000) (ha : 0 ≤ a0 ∧ a0 ≤ 1000000000000000) : ∀ (d k i : Nat) (y : List Int), y.length = n → i + d = n → (∀ j, j < i → y[j]? = some (a0 + j)) → d < k → laws_markIntS.l0 k y (a0 + i) (i : Int) = some (a0 + n, mk a0 n) := by
  intro d
  induction d with
  | zero =>
    intro k i y hy hi hj hk
    obtain ⟨k, rfl⟩ : ∃ m, k = m + 1 := ⟨k - 1, by omega⟩
    simp only [laws_markIntS.l0]
    rw [if_neg (by omega)]
    have : y = mk a0 n := by
      apply List.ext_getElem?
      intro j
      rcases Nat.lt_or_ge j i with h | h
      · rw [hj j h, mk_at n a0 j (by omega)]
      · rw [List.getElem?_eq_none (by omega), List.getElem?_eq_none (by rw [mk_length]; omega)]
    rw [this]
    have : i = n := by omega
    rw [this]
  | succ d ih =>
    intro k i y hy hi hj hk
    obtain ⟨k, rfl⟩ : ∃ m, k = m + 1 := ⟨k - 1, by omega⟩
    simp only [laws_markIntS.l0]
    rw [if_pos (by omega), if_pos (by omega), w64 (by omega) (by omega), w64 (by omega) (by omega)]
    have := ih k (i + 1) (y.set i (a0 + i)) (by simpa using hy) (by omega) (fun j h => by
      rcases Nat.lt_or_ge j i with h2 | h2
      · rw [List.getElem?_set_ne (by omega)]; exact hj j h2
      · have : j = i := by omega
        subst this
        rw [List.getElem?_set_self (by omega)]) (by omega)
    rw [show a0 + (i : Int) + 1 = a0 + ((i + 1 : Nat) : Int) by omega]
    simpa using this
theorem markIntS_ev (l : List Int) (a : Int) (hn : l.length ≤ 1000000000) (ha : 0 ≤ a ∧ a ≤ 1000000000000000) : ∃ K, ∀ k, K ≤ k → laws_markIntS.f k l a = some (a + l.length, mk a l.length) := by
  refine ⟨l.length + 1, fun k hk => ?_⟩
  unfold laws_markIntS.f
  have := markIntS_l0 l.length a hn ha l.length k 0 l rfl (by omega) (fun j h => by omega) (by omega)
  simpa using this
theorem heldIntS_l0 (n : Nat) (a0 : Int) (hn : n ≤ 1000000000) (ha : 0 ≤ a0 ∧ a0 ≤ 1000000000000000) : ∀ (d k i : Nat), i + d = n → d < k → laws_heldIntS.l0 k (mk a0 n) (a0 + i) (i : Int) = some (a0 + n) := by
  intro d
  induction d with
  | zero =>
    intro k i hi hk
    obtain ⟨k, rfl⟩ : ∃ m, k = m + 1 := ⟨k - 1, by omega⟩
    simp only [laws_heldIntS.l0]
    rw [if_neg (by rw [mk_length]; omega)]
    have : i = n := by omega
    rw [this]
  | succ d ih =>
    intro k i hi hk
    obtain ⟨k, rfl⟩ : ∃ m, k = m + 1 := ⟨k - 1, by omega⟩
    simp only [laws_heldIntS.l0]
    rw [if_pos (by rw [mk_length]; omega), if_pos (by omega), if_pos (rd_at (mk_at n a0 i (by omega))), w64 (by omega) (by omega), w64 (by omega) (by omega)]
    have := ih k (i + 1) (by omega) (by omega)
    rw [show a0 + (i : Int) + 1 = a0 + ((i + 1 : Nat) : Int) by omega]
    simpa using this
theorem heldIntS_ev (n : Nat) (a : Int) (hn : n ≤ 1000000000) (ha : 0 ≤ a ∧ a ≤ 1000000000000000) : ∃ K, ∀ k, K ≤ k → laws_heldIntS.f k (mk a n) a = some (a + n) := by
  refine ⟨n + 1, fun k hk => ?_⟩
  unfold laws_heldIntS.f
  have := heldIntS_l0 n a hn ha n k 0 (by omega) (by omega)
  simpa using this

theorem spec_l1In_eq (x a b : Int) : spec_l1In.f x a b = some (decide (a ≤ x ∧ x ≤ b)) := by
  unfold spec_l1In.f
  by_cases h : a ≤ x <;> simp [h]
theorem impl_in_eq (x a b : Int) : impl_in.f x a b = some (decide (a ≤ x ∧ x ≤ b)) := by
  unfold impl_in.f
  by_cases h : a ≤ x <;> simp [h]
/-- Isles whose numbers are as they have to be. -/
def good (a b c : Int) : Bool := decide (1 ≤ a ∧ a ≤ 3 ∧ 1 ≤ b ∧ b ≤ 3 ∧ 0 ≤ c ∧ c ≤ 2)
theorem spec_isGood_eq (a b c : Int) : spec_isGood.f a b c = some (good a b c) := by
  unfold spec_isGood.f
  simp only [spec_l1In_eq, Option.bind_some]
  by_cases h1 : 1 ≤ a ∧ a ≤ 3 <;> by_cases h2 : 1 ≤ b ∧ b ≤ 3 <;> by_cases h3 : 0 ≤ c ∧ c ≤ 2 <;> simp [h1, h2, h3, good] <;> omega
theorem impl_IsIsles_eq (a b c : Int) : impl_IsIsles.f a b c = some (good a b c) := by
  unfold impl_IsIsles.f
  simp only [impl_in_eq, Option.bind_some]
  by_cases h1 : 1 ≤ a ∧ a ≤ 3 <;> by_cases h2 : 1 ≤ b ∧ b ≤ 3 <;> by_cases h3 : 0 ≤ c ∧ c ≤ 2 <;> simp [h1, h2, h3, good] <;> omega
theorem good_of {a b c : Int} (h : good a b c = true) : 1 ≤ a ∧ a ≤ 3 ∧ 1 ≤ b ∧ b ≤ 3 ∧ 0 ≤ c ∧ c ≤ 2 := by simpa [good] using h
theorem spec_isAll_l0 (a b c p : Int) (h1 : 1 ≤ a) (h2 : a ≤ 3) : ∀ (d k : Nat) (l : List Int), (l.length : Int) + d = 2 * a → d < k → spec_isAll.l0 k p a b c l p = some (l ++ List.replicate d p, p) := by
  intro d
  induction d with
  | zero =>
    intro k l hl hk
    obtain ⟨k, rfl⟩ : ∃ m, k = m + 1 := ⟨k - 1, by omega⟩
    simp only [spec_isAll.l0]
    rw [w64 (by omega) (by omega), if_neg (by omega)]
    simp
  | succ d ih =>
    intro k l hl hk
    obtain ⟨k, rfl⟩ : ∃ m, k = m + 1 := ⟨k - 1, by omega⟩
    simp only [spec_isAll.l0]
    rw [w64 (by omega) (by omega), if_pos (by omega), if_pos (by omega)]
    rw [ih k (l ++ [p]) (by simp; omega) (by omega), List.append_assoc, List.replicate_succ]
    rfl
theorem spec_isAll_ev (a b c p : Int) (h1 : 1 ≤ a) (h2 : a ≤ 3) : ∃ K, ∀ k, K ≤ k → spec_isAll.f k a b c p = some (List.replicate (2 * a).toNat p, p) := by
  refine ⟨(2 * a).toNat + 1, fun k hk => ?_⟩
  unfold spec_isAll.f
  rw [spec_isAll_l0 a b c p h1 h2 (2 * a).toNat k [] (by simp; omega) (by omega)]
  simp
theorem impl_allIn_eq (a b c p : Int) (h1 : 1 ≤ a) (h2 : a ≤ 3) : impl_Isles_allIn.f a b c p = some (List.replicate (2 * a).toNat p, p) := by
  unfold impl_Isles_allIn.f impl_Isles_people.f slices_Repeat_int_int.f
  simp only [Option.bind_some]
  rw [w64 (by omega) (by omega), if_pos (by simp), if_pos (by omega), if_pos (by omega)]
  rfl

theorem szIntS_eq (l : List Int) (a : Int) (hl : l.length ≤ maxLen) (h0 : 0 ≤ a) (h1 : a ≤ 9223372036854775807) : laws_szIntS.f l a = some (if a < l.length then -1 else a - l.length) := by
  unfold maxLen at hl
  unfold laws_szIntS.f
  rw [w64 (by omega) (by omega)]
  by_cases h : a < l.length
  · rw [if_pos (by omega), if_pos h]
  · rw [if_neg (by omega), if_neg h]
theorem drop_cons {α : Type} (l : List α) (i : Nat) (h : i < l.length) : ∃ y t, l.drop i = y :: t ∧ l[i]? = some y ∧ l.drop (i + 1) = t :=
  ⟨l[i], l.drop (i + 1), List.drop_eq_getElem_cons h, List.getElem?_eq_getElem h, rfl⟩
/-- All numbers of a list lie between two. -/
def allB (l : List Int) (a b : Int) : Bool := l.all fun x => decide (a ≤ x ∧ x ≤ b)
theorem index_l0 (l : List Int) (a : Int) (hl : l.length ≤ 9223372036854775000) : ∀ (d k i : Nat), i + d = l.length → d < k → ∃ r, slices_Index_int_int.l0 k l a (l.length : Int) (i : Int) = some r ∧ decide (r ≥ 0) = decide (a ∈ l.drop i) := by
  intro d
  induction d with
  | zero =>
    intro k i hi hk
    obtain ⟨k, rfl⟩ : ∃ m, k = m + 1 := ⟨k - 1, by omega⟩
    simp only [slices_Index_int_int.l0]
    rw [if_neg (by omega), List.drop_eq_nil_of_le (by omega)]
    exact ⟨-1, rfl, by simp⟩
  | succ d ih =>
    intro k i hi hk
    obtain ⟨k, rfl⟩ : ∃ m, k = m + 1 := ⟨k - 1, by omega⟩
    simp only [slices_Index_int_int.l0]
    obtain ⟨y, t, hd, hy, ht⟩ := drop_cons l i (by omega)
    rw [if_pos (by omega), if_pos (by omega), if_pos (by omega), hd, rd_at hy]
    obtain ⟨r, h1, h2⟩ := ih k (i + 1) (by omega) (by omega)
    rw [ht] at h2
    rw [show ((i + 1 : Nat) : Int) = (i : Int) + 1 by omega] at h1
    by_cases h : a = y
    · rw [if_pos h]
      exact ⟨i, rfl, by simp [h]⟩
    · rw [if_neg h, w64 (by omega) (by omega), h1]
      exact ⟨r, rfl, by rw [h2]; simp [h]⟩
theorem contains_at (l : List Int) (a : Int) (hl : l.length ≤ 9223372036854775000) (k : Nat) (hk : l.length < k) : slices_Contains_int_int.f k l a = some (decide (a ∈ l)) := by
  unfold slices_Contains_int_int.f slices_Index_int_int.f
  obtain ⟨r, h1, h2⟩ := index_l0 l a hl l.length k 0 (by omega) (by omega)
  rw [show ((0 : Nat) : Int) = 0 from rfl] at h1
  rw [h1]
  simp only [Option.bind_some, h2, List.drop_zero]
theorem contains_ev (l : List Int) (a : Int) (hl : l.length ≤ 9223372036854775000) : ∃ K, ∀ k, K ≤ k → slices_Contains_int_int.f k l a = some (decide (a ∈ l)) :=
  ⟨l.length + 1, fun k hk => contains_at l a hl k (by omega)⟩
theorem anyO_some {α : Type} {F : α → Option Bool} {p : α → Bool} (l : List α) (h : ∀ x ∈ l, F x = some (p x)) : X.anyO F l = some (l.any p) := by
  induction l with
  | nil => rfl
  | cons x l ih =>
    simp only [X.anyO, h x (by simp), Option.bind_some, ih (fun y hy => h y (by simp [hy])), List.any_cons]
    cases p x <;> simp
theorem areIn_eq (l : List Int) (a b c d : Int) : impl_areIn.f l a b c d = some (decide (c ≤ l.length ∧ (l.length : Int) ≤ d) && allB l a b) := by
  unfold impl_areIn.f
  rw [impl_in_eq]
  simp only [Option.bind_some]
  by_cases h : c ≤ l.length ∧ (l.length : Int) ≤ d
  · rw [if_pos (by simpa using h)]
    unfold slices_ContainsFunc_int_int_at_impl_areIn_1.f
    rw [anyO_some (p := fun x => !decide (a ≤ x ∧ x ≤ b)) l (fun x _ => by simp [impl_areIn_1.f, impl_in_eq])]
    simp only [Option.bind_some, h, and_self, decide_true, Bool.true_and]
    congr 1
    simp [allB, List.all_eq_not_any_not]
  · rw [if_neg (by simpa using h)]
    simp [h]
/-- Valid isles and places of them. -/
def isPl (a b c : Int) (l : List Int) (p : Int) : Bool := good a b c && (decide ((l.length : Int) = 2 * a) && (allB l 0 (c + 1) && decide (p ∈ l)))

/-- No kept one without its keeper where another keeper is. -/
def Calm (a : Nat) (t : Nat → Prop) : Prop := ¬ ((∃ i, i < a ∧ t (2 * i + 1) ∧ ¬ t (2 * i)) ∧ ∃ j, j < a ∧ t (2 * j))
noncomputable def calmB (a : Nat) (t : Nat → Prop) : Bool := @decide (Calm a t) (Classical.propDecidable _)
theorem calmB_iff (a : Nat) (t : Nat → Prop) : calmB a t = true ↔ Calm a t := by unfold calmB; simp
theorem Calm_congr {a : Nat} {t u : Nat → Prop} (h : ∀ j, j < 2 * a → (t j ↔ u j)) : Calm a t ↔ Calm a u := by
  unfold Calm
  constructor
  · rintro h1 ⟨⟨i, hi, h2, h3⟩, j, hj, h4⟩
    exact h1 ⟨⟨i, hi, (h _ (by omega)).2 h2, fun h5 => h3 ((h _ (by omega)).1 h5)⟩, j, hj, (h _ (by omega)).2 h4⟩
  · rintro h1 ⟨⟨i, hi, h2, h3⟩, j, hj, h4⟩
    exact h1 ⟨⟨i, hi, (h _ (by omega)).1 h2, fun h5 => h3 ((h _ (by omega)).2 h5)⟩, j, hj, (h _ (by omega)).1 h4⟩
theorem calmB_congr {a : Nat} {t u : Nat → Prop} (h : ∀ j, j < 2 * a → (t j ↔ u j)) : calmB a t = calmB a u := by
  rw [Bool.eq_iff_iff, calmB_iff, calmB_iff]; exact Calm_congr h
theorem some_iff {o : Option Bool} {b : Bool} (h : ∃ r, o = some r ∧ (r = true ↔ b = true)) : o = some b := by
  obtain ⟨r, rfl, h⟩ := h
  rw [Bool.eq_iff_iff.2 h]

theorem tmod2 (x : Int) (h : 0 ≤ x) : Int.tmod x 2 = x % 2 := Int.tmod_eq_emod_of_nonneg h
theorem calm_even (l : List Int) (h : ∀ x ∈ l, 0 ≤ x) : slices_ContainsFunc_int_int_at_impl_calm_1.f l = some (l.any fun y => decide (y % 2 = 0)) := by
  unfold slices_ContainsFunc_int_int_at_impl_calm_1.f
  refine anyO_some l (fun x hx => ?_)
  unfold impl_calm_1.f
  rw [tmod2 x (h x hx)]
  by_cases h2 : x % 2 = 0 <;> simp [h2]
theorem calm_l0 (l : List Int) (hl : l.length ≤ 1000000) (hp : ∀ x ∈ l, 0 ≤ x ∧ x ≤ 9223372036854775000) : ∀ (d k i : Nat), i + d = l.length → 2 * d + l.length + 2 < k →
    ∃ r, impl_calm.l0 k l l (l.length : Int) (i : Int) = some r ∧ (r = true ↔ ∀ x ∈ l.drop i, x % 2 = 0 ∨ x - 1 ∈ l ∨ ¬ ∃ y ∈ l, y % 2 = 0) := by
  intro d
  induction d with
  | zero =>
    intro k i hi hk
    obtain ⟨k, rfl⟩ : ∃ m, k = m + 1 := ⟨k - 1, by omega⟩
    simp only [impl_calm.l0]
    rw [if_neg (by omega), List.drop_eq_nil_of_le (by omega)]
    exact ⟨true, rfl, by simp⟩
  | succ d ih =>
    intro k i hi hk
    obtain ⟨k, rfl⟩ : ∃ m, k = m + 2 := ⟨k - 2, by omega⟩
    obtain ⟨y, t, hd, hy, ht⟩ := drop_cons l i (by omega)
    have hym : y ∈ l := List.mem_of_getElem? hy
    obtain ⟨hy0, hy1⟩ := hp y hym
    obtain ⟨r, h1, h2⟩ := ih k (i + 1) (by omega) (by omega)
    rw [show ((i + 1 : Nat) : Int) = (i : Int) + 1 by omega] at h1
    rw [ht] at h2
    simp only [impl_calm.l0, impl_calm.j1]
    rw [if_pos (by omega), if_pos (by omega), if_pos (by omega), rd_at hy, tmod2 y hy0, hd]
    by_cases he : y % 2 = 0
    · rw [if_pos he, if_pos (by trivial), w64 (by omega) (by omega), h1]
      refine ⟨r, rfl, h2.trans ?_⟩
      simp [he]
    · rw [if_neg he, w64 (by omega) (by omega), contains_at l (y - 1) (by omega) (k + 1) (by omega)]
      simp only [Option.bind_some]
      by_cases hc : y - 1 ∈ l
      · rw [if_pos (by simpa using hc), w64 (by omega) (by omega), h1]
        refine ⟨r, rfl, h2.trans ?_⟩
        simp [hc]
      · rw [if_neg (by simpa using hc), calm_even l (fun x hx => (hp x hx).1)]
        simp only [Option.bind_some]
        by_cases ha : ∃ y ∈ l, y % 2 = 0
        · rw [if_pos (by simpa using ha)]
          refine ⟨false, rfl, ?_⟩
          constructor
          · intro h; cases h
          · intro h
            rcases h y (by simp) with h | h | h
            · exact absurd h he
            · exact absurd h hc
            · exact absurd ha h
        · rw [if_neg (by simpa using ha), w64 (by omega) (by omega), h1]
          refine ⟨r, rfl, h2.trans ?_⟩
          simp [ha]
theorem calm_at (a : Nat) (l : List Int) (hl : l.length ≤ 1000000) (hp : ∀ x ∈ l, 0 ≤ x ∧ x < 2 * (a : Int)) (ha : a ≤ 1000000) (k : Nat) (hk : 3 * l.length + 2 < k) : impl_calm.f k l = some (calmB a fun j => (j : Int) ∈ l) := by
  refine some_iff ?_
  obtain ⟨r, h1, h2⟩ := calm_l0 l hl (fun x hx => ⟨(hp x hx).1, by have := (hp x hx).2; omega⟩) l.length k 0 (by omega) (by omega)
  refine ⟨r, h1, h2.trans ?_⟩
  rw [calmB_iff, List.drop_zero]
  unfold Calm
  constructor
  · rintro h ⟨⟨i, hi, h3, h4⟩, j, hj, h5⟩
    rcases h _ h3 with h | h | h
    · omega
    · exact h4 (show ((2 * i : Nat) : Int) ∈ l by rw [show ((2 * i : Nat) : Int) = ((2 * i + 1 : Nat) : Int) - 1 by omega]; exact h)
    · exact h ⟨_, h5, by omega⟩
  · intro h x hx
    by_cases h6 : x % 2 = 0
    · exact .inl h6
    · by_cases h7 : x - 1 ∈ l
      · exact .inr (.inl h7)
      · refine .inr (.inr ?_)
        rintro ⟨y, hy, h8⟩
        have hx2 := hp x hx
        have hy2 := hp y hy
        refine h ⟨⟨(x / 2).toNat, by omega, ?_, ?_⟩, (y / 2).toNat, by omega, ?_⟩
        · show ((2 * (x / 2).toNat + 1 : Nat) : Int) ∈ l
          rw [show ((2 * (x / 2).toNat + 1 : Nat) : Int) = x by omega]; exact hx
        · show ¬ ((2 * (x / 2).toNat : Nat) : Int) ∈ l
          rw [show ((2 * (x / 2).toNat : Nat) : Int) = x - 1 by omega]; exact h7
        · show ((2 * (y / 2).toNat : Nat) : Int) ∈ l
          rw [show ((2 * (y / 2).toNat : Nat) : Int) = y by omega]; exact hy
theorem shr_bits (N i : Nat) (hi : i ≤ 62) : shr .i64 (N : Int) (i : Int) = ((N / 2 ^ i : Nat) : Int) := by
  unfold shr
  rw [show min ((i : Int).toNat) IntKind.i64.bits = i by simp [IntKind.bits]; omega]
  rw [Int.natCast_ediv]
  simp
theorem bit4 (N i : Nat) (hi : i ≤ 60) : (Int.tmod (shr .i64 (N : Int) (i : Int)) 4 = 2) ↔ (N.testBit (i + 1) = true ∧ ¬ N.testBit i = true) := by
  rw [shr_bits N i (by omega), Int.tmod_eq_emod_of_nonneg (Int.natCast_nonneg _), Nat.testBit_eq_decide_div_mod_eq, Nat.testBit_eq_decide_div_mod_eq, Nat.pow_succ, ← Nat.div_div_eq_div_mul]
  generalize N / 2 ^ i = q
  simp only [decide_eq_true_eq]
  omega
theorem bit2 (N i : Nat) (hi : i ≤ 60) : (Int.tmod (shr .i64 (N : Int) (i : Int)) 2 = 1) ↔ N.testBit i = true := by
  rw [shr_bits N i (by omega), Int.tmod_eq_emod_of_nonneg (Int.natCast_nonneg _), Nat.testBit_eq_decide_div_mod_eq]
  generalize N / 2 ^ i = q
  simp only [decide_eq_true_eq]
  omega
theorem cuCalm_l1 (a N i : Nat) (ha : a ≤ 20) : ∀ (d k j : Nat), j + d = a → d < k →
    (∃ j', j ≤ j' ∧ j' < a ∧ N.testBit (2 * j') = true) ∧ spec_cuCalm.l1 k (a : Int) (N : Int) (i : Int) (j : Int) = some false ∨
    (¬ ∃ j', j ≤ j' ∧ j' < a ∧ N.testBit (2 * j') = true) ∧ spec_cuCalm.l1 k (a : Int) (N : Int) (i : Int) (j : Int) = spec_cuCalm.l0 (k - (d + 1)) (a : Int) (N : Int) (wrap64 ((i : Int) + 1)) := by
  intro d
  induction d with
  | zero =>
    intro k j hj hk
    obtain ⟨k, rfl⟩ : ∃ m, k = m + 1 := ⟨k - 1, by omega⟩
    refine .inr ⟨?_, ?_⟩
    · rintro ⟨j', h1, h2, _⟩; omega
    · simp only [spec_cuCalm.l1]
      rw [if_neg (by omega)]
      rfl
  | succ d ih =>
    intro k j hj hk
    obtain ⟨k, rfl⟩ : ∃ m, k = m + 1 := ⟨k - 1, by omega⟩
    have hb := bit2 N (2 * j) (by omega)
    simp only [spec_cuCalm.l1]
    rw [if_pos (by omega), w64 (by omega) (by omega), if_pos (by omega), show (2 * (j : Int)) = ((2 * j : Nat) : Int) by omega]
    by_cases h : N.testBit (2 * j) = true
    · rw [if_pos (hb.2 h)]
      exact .inl ⟨⟨j, Nat.le_refl _, by omega, h⟩, rfl⟩
    · rw [if_neg (fun h' => h (hb.1 h')), w64 (a := (j : Int) + 1) (by omega) (by omega)]
      have := ih k (j + 1) (by omega) (by omega)
      rw [show ((j + 1 : Nat) : Int) = (j : Int) + 1 by omega] at this
      rcases this with ⟨⟨j', h1, h2, h3⟩, h4⟩ | ⟨h1, h2⟩
      · exact .inl ⟨⟨j', by omega, h2, h3⟩, h4⟩
      · refine .inr ⟨?_, ?_⟩
        · rintro ⟨j', h3, h4, h5⟩
          rcases Nat.lt_or_ge j j' with h6 | h6
          · exact h1 ⟨j', h6, h4, h5⟩
          · have : j' = j := by omega
            subst this
            exact h h5
        · rw [h2, show k + 1 - (d + 1 + 1) = k - (d + 1) by omega]
theorem cuCalm_l0 (a N : Nat) (ha : a ≤ 20) : ∀ (d k i : Nat), i + d = a → d * (a + 2) < k →
    ∃ r, spec_cuCalm.l0 k (a : Int) (N : Int) (i : Int) = some r ∧ (r = true ↔ ∀ i', i ≤ i' → i' < a → ¬ ((N.testBit (2 * i' + 1) = true ∧ ¬ N.testBit (2 * i') = true) ∧ ∃ j, j < a ∧ N.testBit (2 * j) = true)) := by
  intro d
  induction d with
  | zero =>
    intro k i hi hk
    obtain ⟨k, rfl⟩ : ∃ m, k = m + 1 := ⟨k - 1, by omega⟩
    simp only [spec_cuCalm.l0]
    rw [if_neg (by omega)]
    exact ⟨true, rfl, by simp; intro i' h1 h2; omega⟩
  | succ d ih =>
    intro k i hi hk
    have hmul : (d + 1) * (a + 2) = d * (a + 2) + (a + 2) := by rw [Nat.succ_mul]
    obtain ⟨k, rfl⟩ : ∃ m, k = m + 1 := ⟨k - 1, by omega⟩
    have hb := bit4 N (2 * i) (by omega)
    simp only [spec_cuCalm.l0]
    rw [if_pos (by omega), w64 (a := 2 * (i : Int)) (by omega) (by omega), if_pos (by omega), show (2 * (i : Int)) = ((2 * i : Nat) : Int) by omega, w64 (a := (i : Int) + 1) (by omega) (by omega)]
    by_cases h : N.testBit (2 * i + 1) = true ∧ ¬ N.testBit (2 * i) = true
    · rw [if_pos (hb.2 h)]
      rcases cuCalm_l1 a N i ha a k 0 (by omega) (by omega) with ⟨⟨j, _, h1, h2⟩, h3⟩ | ⟨h1, h2⟩
      · refine ⟨false, h3, ?_⟩
        constructor
        · intro h; cases h
        · intro h4
          exact absurd ⟨h, j, h1, h2⟩ (h4 i (Nat.le_refl _) (by omega))
      · rw [w64 (by omega) (by omega)] at h2
        obtain ⟨r, h3, h4⟩ := ih (k - (a + 1)) (i + 1) (by omega) (by omega)
        rw [show ((i + 1 : Nat) : Int) = (i : Int) + 1 by omega] at h3
        refine ⟨r, h2.trans h3, h4.trans ?_⟩
        constructor
        · rintro _ i' _ _ ⟨_, j, h5, h6⟩
          exact h1 ⟨j, Nat.zero_le _, h5, h6⟩
        · intro h5 i' h6 h7
          exact h5 i' (by omega) h7
    · rw [if_neg (fun h' => h (hb.1 h'))]
      obtain ⟨r, h3, h4⟩ := ih k (i + 1) (by omega) (by omega)
      rw [show ((i + 1 : Nat) : Int) = (i : Int) + 1 by omega] at h3
      refine ⟨r, h3, h4.trans ?_⟩
      constructor
      · intro h5 i' h6 h7
        rcases Nat.lt_or_ge i i' with h8 | h8
        · exact h5 i' h8 h7
        · have : i' = i := by omega
          subst this
          exact fun h9 => h h9.1
      · intro h5 i' h6 h7
        exact h5 i' (by omega) h7
theorem cuCalm_at (a N : Nat) (ha : a ≤ 20) (k : Nat) (hk : 500 < k) : spec_cuCalm.f k (a : Int) (N : Int) = some (calmB a fun j => N.testBit j = true) := by
  refine some_iff ?_
  have hmul : a * (a + 2) ≤ 20 * 22 := Nat.mul_le_mul ha (by omega)
  obtain ⟨r, h1, h2⟩ := cuCalm_l0 a N ha a k 0 (by omega) (by omega)
  refine ⟨r, h1, h2.trans ?_⟩
  rw [calmB_iff]
  unfold Calm
  constructor
  · rintro h ⟨⟨i, hi, h3, h4⟩, j, hj, h5⟩
    exact h i (Nat.zero_le _) hi ⟨⟨h3, h4⟩, j, hj, h5⟩
  · rintro h i' _ h3 ⟨⟨h4, h5⟩, j, h6, h7⟩
    exact h ⟨⟨i', h3, h4, h5⟩, j, h6, h7⟩

/-- Calm at every place. -/
def AllCalm (a : Nat) (c : Int) (l : List Int) : Prop := ∀ p : Int, 0 ≤ p → p ≤ c + 1 → Calm a fun j => l[j]? = some p
noncomputable def allCalmB (a : Nat) (c : Int) (l : List Int) : Bool := @decide (AllCalm a c l) (Classical.propDecidable _)
theorem allCalmB_iff (a : Nat) (c : Int) (l : List Int) : allCalmB a c l = true ↔ AllCalm a c l := by unfold allCalmB; simp
/-- The bits of the numbers below n of which p holds. -/
def bitsN (p : Nat → Bool) : Nat → Nat
  | 0 => 0
  | n + 1 => if p n then bitsN p n ||| 2 ^ n else bitsN p n
theorem bitsN_lt (p : Nat → Bool) (n : Nat) : bitsN p n < 2 ^ n := by
  induction n with
  | zero => simp [bitsN]
  | succ n ih =>
    have h2 : 2 ^ n < 2 ^ (n + 1) := Nat.pow_lt_pow_right (by omega) (by omega)
    simp only [bitsN]
    split
    · exact Nat.or_lt_two_pow (by omega) h2
    · omega
theorem bitsN_test (p : Nat → Bool) (n j : Nat) : (bitsN p n).testBit j = (decide (j < n) && p j) := by
  induction n with
  | zero => simp [bitsN]
  | succ n ih =>
    simp only [bitsN]
    by_cases hp : p n = true
    · rw [if_pos hp, Nat.testBit_or, ih, Nat.testBit_two_pow]
      by_cases h1 : j < n
      · have h2 : j < n + 1 := by omega
        have h3 : ¬ n = j := by omega
        simp [h1, h2, h3]
      · by_cases h2 : j = n
        · subst h2; simp [hp]
        · have h3 : ¬ n = j := by omega
          have h4 : ¬ j < n + 1 := by omega
          simp [h1, h3, h4]
    · rw [if_neg hp, ih]
      by_cases h1 : j < n
      · have h2 : j < n + 1 := by omega
        simp [h1, h2]
      · by_cases h2 : j = n
        · subst h2; simp [hp]
        · have h4 : ¬ j < n + 1 := by omega
          simp [h1, h4]
theorem shl_one (i : Nat) (hi : i ≤ 60) : shl .i64 1 (i : Int) = ((2 ^ i : Nat) : Int) := by
  unfold shl
  rw [show min ((i : Int).toNat) IntKind.i64.bits = i by simp [IntKind.bits]; omega]
  have h : 2 ^ i ≤ 2 ^ 60 := Nat.pow_le_pow_right (by omega) hi
  have h2 : (1 : Int) * 2 ^ i = ((2 ^ i : Nat) : Int) := by simp
  rw [h2, IntKind.wrap_i64]
  have h3 : (2 : Nat) ^ 60 = 1152921504606846976 := by decide
  rw [h3] at h
  clear h2 h3
  generalize (2 : Nat) ^ i = z at h ⊢
  omega
theorem or_bits (x i : Nat) (hi : i ≤ 60) (hx : x < 2 ^ i) : Go.bits .or .i64 (x : Int) (shl .i64 1 (i : Int)) = ((x ||| 2 ^ i : Nat) : Int) := by
  have h : 2 ^ i ≤ 2 ^ 60 := Nat.pow_le_pow_right (by omega) hi
  have h3 : (2 : Nat) ^ 62 = 4611686018427387904 := by decide
  have h4 : (2 : Nat) ^ 60 = 1152921504606846976 := by decide
  rw [shl_one i hi]
  exact (bits_nat .i64 62 (by decide) (fun n h₀ h₁ => by rw [IntKind.wrap_i64]; omega) x (2 ^ i) (by omega) (by omega)).2
theorem spec_isCalm_l1 (a b c p q : Int) (l : List Int) (hl : l.length ≤ 60) : ∀ (d k i : Nat), i + d = l.length → d < k →
    spec_isCalm.l1 k p ((bitsN (fun j => decide (l[j]? = some p)) i : Nat) : Int) l (l.length : Int) (i : Int) a b c l q =
      ((spec_cuCalm.f (k - (d + 1)) a ((bitsN (fun j => decide (l[j]? = some p)) l.length : Nat) : Int)).bind fun t => if t = true then spec_isCalm.l0 (k - (d + 1)) (wrap64 (p + 1)) a b c l q else some false) := by
  intro d
  induction d with
  | zero =>
    intro k i hi hk
    obtain ⟨k, rfl⟩ : ∃ m, k = m + 1 := ⟨k - 1, by omega⟩
    simp only [spec_isCalm.l1]
    rw [if_neg (by omega), show i = l.length by omega]
    rfl
  | succ d ih =>
    intro k i hi hk
    obtain ⟨k, rfl⟩ : ∃ m, k = m + 1 := ⟨k - 1, by omega⟩
    obtain ⟨y, t, hd, hy, ht⟩ := drop_cons l i (by omega)
    simp only [spec_isCalm.l1]
    rw [if_pos (by omega), if_pos (by omega), if_pos (by omega), rd_at hy, w64 (a := (i : Int) + 1) (by omega) (by omega)]
    have := ih k (i + 1) (by omega) (by omega)
    rw [show ((i + 1 : Nat) : Int) = (i : Int) + 1 by omega, show k - (d + 1) = k + 1 - (d + 1 + 1) by omega] at this
    by_cases h : y = p
    · rw [if_pos h, or_bits _ i (by omega) (bitsN_lt _ i)]
      have hb : bitsN (fun j => decide (l[j]? = some p)) (i + 1) = bitsN (fun j => decide (l[j]? = some p)) i ||| 2 ^ i := by
        simp only [bitsN]
        rw [if_pos (by simp [hy, h])]
      rw [← hb]
      exact this
    · rw [if_neg h]
      have hb : bitsN (fun j => decide (l[j]? = some p)) (i + 1) = bitsN (fun j => decide (l[j]? = some p)) i := by
        simp only [bitsN]
        rw [if_neg (by simp [hy, h])]
      rw [← hb]
      exact this
theorem spec_isCalm_l0 (a : Nat) (b c q : Int) (l : List Int) (ha : a ≤ 20) (hl : l.length = 2 * a) (hc : c ≤ 1000) : ∀ (d k : Nat) (p : Int), 0 ≤ p → p + d = c + 2 → d * (2 * a + 2) + 600 < k →
    ∃ r, spec_isCalm.l0 k p (a : Int) b c l q = some r ∧ (r = true ↔ ∀ p', p ≤ p' → p' ≤ c + 1 → Calm a fun j => l[j]? = some p') := by
  intro d
  induction d with
  | zero =>
    intro k p hp0 hp hk
    obtain ⟨k, rfl⟩ : ∃ m, k = m + 1 := ⟨k - 1, by omega⟩
    simp only [spec_isCalm.l0]
    rw [w64 (by omega) (by omega), if_neg (by omega)]
    exact ⟨true, rfl, by simp; intro p' h1 h2; omega⟩
  | succ d ih =>
    intro k p hp0 hp hk
    have hmul : (d + 1) * (2 * a + 2) = d * (2 * a + 2) + (2 * a + 2) := by rw [Nat.succ_mul]
    obtain ⟨k, rfl⟩ : ∃ m, k = m + 1 := ⟨k - 1, by omega⟩
    simp only [spec_isCalm.l0]
    rw [w64 (by omega) (by omega), if_pos (by omega)]
    have h1 := spec_isCalm_l1 (a : Int) b c p q l (by omega) l.length k 0 (by omega) (by omega)
    rw [show ((bitsN (fun j => decide (l[j]? = some p)) 0 : Nat) : Int) = 0 from rfl, show ((0 : Nat) : Int) = 0 from rfl] at h1
    rw [h1, cuCalm_at a _ ha _ (by omega)]
    have hcong : calmB a (fun j => (bitsN (fun j => decide (l[j]? = some p)) l.length).testBit j = true) = calmB a (fun j => l[j]? = some p) := calmB_congr (fun j hj => by
      rw [bitsN_test]
      have : j < l.length := by omega
      simp [this])
    rw [hcong, w64 (by omega) (by omega)]
    simp only [Option.bind_some]
    obtain ⟨r, h2, h3⟩ := ih (k - (l.length + 1)) (p + 1) (by omega) (by omega) (by omega)
    by_cases hC : calmB a (fun j => l[j]? = some p) = true
    · rw [if_pos hC]
      refine ⟨r, h2, h3.trans ?_⟩
      constructor
      · intro h4 p' h5 h6
        rcases Int.lt_or_le p p' with h7 | h7
        · exact h4 p' (by omega) h6
        · have : p' = p := by omega
          subst this
          exact (calmB_iff _ _).1 hC
      · intro h4 p' h5 h6
        exact h4 p' (by omega) h6
    · rw [if_neg hC]
      refine ⟨false, rfl, ?_⟩
      constructor
      · intro h; cases h
      · intro h
        exact absurd ((calmB_iff _ _).2 (h p (Int.le_refl _) (by omega))) hC
theorem spec_isCalm_at (a : Nat) (b c q : Int) (l : List Int) (ha : a ≤ 20) (hl : l.length = 2 * a) (hc0 : 0 ≤ c) (hc : c ≤ 100) (k : Nat) (hk : 10000 < k) : spec_isCalm.f k (a : Int) b c l q = some (allCalmB a c l) := by
  refine some_iff ?_
  have hmul : (c + 2).toNat * (2 * a + 2) ≤ 102 * 42 := Nat.mul_le_mul (by omega) (by omega)
  obtain ⟨r, h1, h2⟩ := spec_isCalm_l0 a b c q l ha hl (by omega) (c + 2).toNat k 0 (by omega) (by omega) (by omega)
  refine ⟨r, h1, h2.trans ?_⟩
  rw [allCalmB_iff]
  rfl
theorem standing_l0 (p : Int) (l : List Int) (hl : l.length ≤ 1000000) : ∀ (d k i : Nat) (acc : List Int), i + d = l.length → acc.length ≤ i → d < k →
    ∃ g, impl_Places_standing.l0 k p acc l (l.length : Int) (i : Int) = some (acc ++ g) ∧ g.length ≤ d ∧ ∀ x, x ∈ g ↔ ∃ j : Nat, i ≤ j ∧ x = (j : Int) ∧ l[j]? = some p := by
  intro d
  induction d with
  | zero =>
    intro k i acc hi ha hk
    obtain ⟨k, rfl⟩ : ∃ m, k = m + 1 := ⟨k - 1, by omega⟩
    simp only [impl_Places_standing.l0]
    rw [if_neg (by omega)]
    refine ⟨[], by simp, by simp, fun x => ⟨fun h => by simp at h, ?_⟩⟩
    rintro ⟨j, h1, _, h2⟩
    have := (List.getElem?_eq_some_iff.1 h2).1
    omega
  | succ d ih =>
    intro k i acc hi ha hk
    obtain ⟨k, rfl⟩ : ∃ m, k = m + 1 := ⟨k - 1, by omega⟩
    obtain ⟨y, t, hd, hy, ht⟩ := drop_cons l i (by omega)
    simp only [impl_Places_standing.l0]
    rw [if_pos (by omega), if_pos (by omega), if_pos (by omega), rd_at hy, w64 (a := (i : Int) + 1) (by omega) (by omega)]
    by_cases h : y = p
    · rw [if_pos h, if_pos (by omega)]
      obtain ⟨g, h1, h2, h3⟩ := ih k (i + 1) (acc ++ [(i : Int)]) (by omega) (by simp; omega) (by omega)
      rw [show ((i + 1 : Nat) : Int) = (i : Int) + 1 by omega] at h1
      refine ⟨(i : Int) :: g, by rw [h1]; simp, by simp; omega, fun x => ?_⟩
      rw [List.mem_cons, h3]
      constructor
      · rintro (rfl | ⟨j, h4, h5, h6⟩)
        · exact ⟨i, Nat.le_refl _, rfl, by rw [hy, h]⟩
        · exact ⟨j, by omega, h5, h6⟩
      · rintro ⟨j, h4, h5, h6⟩
        rcases Nat.lt_or_ge i j with h7 | h7
        · exact .inr ⟨j, h7, h5, h6⟩
        · exact .inl (by rw [h5]; omega)
    · rw [if_neg h]
      obtain ⟨g, h1, h2, h3⟩ := ih k (i + 1) acc (by omega) (by omega) (by omega)
      rw [show ((i + 1 : Nat) : Int) = (i : Int) + 1 by omega] at h1
      refine ⟨g, h1, by omega, fun x => ?_⟩
      rw [h3]
      constructor
      · rintro ⟨j, h4, h5, h6⟩
        exact ⟨j, by omega, h5, h6⟩
      · rintro ⟨j, h4, h5, h6⟩
        rcases Nat.lt_or_ge i j with h7 | h7
        · exact ⟨j, h7, h5, h6⟩
        · have : j = i := by omega
          subst this
          rw [hy] at h6
          exact absurd (Option.some.inj h6) h
theorem standing_at (p q : Int) (l : List Int) (hl : l.length ≤ 1000000) (k : Nat) (hk : l.length < k) : ∃ g, impl_Places_standing.f k l q p = some g ∧ g.length ≤ l.length ∧ ∀ x, x ∈ g ↔ ∃ j : Nat, x = (j : Int) ∧ l[j]? = some p := by
  obtain ⟨g, h1, h2, h3⟩ := standing_l0 p l hl l.length k 0 [] (by omega) (by simp) hk
  refine ⟨g, by unfold impl_Places_standing.f; rw [show (0 : Int) = ((0 : Nat) : Int) from rfl, h1]; simp, h2, fun x => ?_⟩
  rw [h3]
  simp
theorem areCalm_l0 (a : Nat) (c q : Int) (l : List Int) (ha : a ≤ 20) (hl : l.length = 2 * a) (hc : c ≤ 1000) : ∀ (d k : Nat) (p : Int), 0 ≤ p → p + d = c + 2 → d + 200 < k →
    ∃ r, impl_Isles_areCalm.l0 k (c + 2) p l q = some r ∧ (r = true ↔ ∀ p', p ≤ p' → p' ≤ c + 1 → Calm a fun j => l[j]? = some p') := by
  intro d
  induction d with
  | zero =>
    intro k p hp0 hp hk
    obtain ⟨k, rfl⟩ : ∃ m, k = m + 1 := ⟨k - 1, by omega⟩
    simp only [impl_Isles_areCalm.l0]
    rw [if_neg (by omega)]
    exact ⟨true, rfl, by simp; intro p' h1 h2; omega⟩
  | succ d ih =>
    intro k p hp0 hp hk
    obtain ⟨k, rfl⟩ : ∃ m, k = m + 1 := ⟨k - 1, by omega⟩
    simp only [impl_Isles_areCalm.l0]
    obtain ⟨g, h1, h2, h3⟩ := standing_at p q l (by omega) k (by omega)
    have hr : ∀ x ∈ g, 0 ≤ x ∧ x < 2 * (a : Int) := by
      intro x hx
      obtain ⟨j, h4, h5⟩ := (h3 x).1 hx
      have := (List.getElem?_eq_some_iff.1 h5).1
      omega
    have hcong : calmB a (fun j => (j : Int) ∈ g) = calmB a (fun j => l[j]? = some p) := calmB_congr (fun j hj => by
      rw [h3]
      constructor
      · rintro ⟨j', h4, h5⟩
        have : j = j' := by omega
        subst this
        exact h5
      · intro h4
        exact ⟨j, rfl, h4⟩)
    rw [if_pos (by omega), h1]
    simp only [Option.bind_some]
    rw [calm_at a g (by omega) hr (by omega) k (by omega), hcong, w64 (by omega) (by omega)]
    simp only [Option.bind_some]
    obtain ⟨r, h4, h5⟩ := ih k (p + 1) (by omega) (by omega) (by omega)
    by_cases hC : calmB a (fun j => l[j]? = some p) = true
    · rw [if_pos hC]
      refine ⟨r, h4, h5.trans ?_⟩
      constructor
      · intro h6 p' h7 h8
        rcases Int.lt_or_le p p' with h9 | h9
        · exact h6 p' (by omega) h8
        · have : p' = p := by omega
          subst this
          exact (calmB_iff _ _).1 hC
      · intro h6 p' h7 h8
        exact h6 p' (by omega) h8
    · rw [if_neg hC]
      refine ⟨false, rfl, ?_⟩
      constructor
      · intro h; cases h
      · intro h
        exact absurd ((calmB_iff _ _).2 (h p (Int.le_refl _) (by omega))) hC
theorem areCalm_at (a : Nat) (b c q : Int) (l : List Int) (ha : a ≤ 20) (hl : l.length = 2 * a) (hc0 : 0 ≤ c) (hc : c ≤ 100) (k : Nat) (hk : 1000 < k) : impl_Isles_areCalm.f k (a : Int) b c l q = some (allCalmB a c l) := by
  refine some_iff ?_
  obtain ⟨r, h1, h2⟩ := areCalm_l0 a c q l ha hl (by omega) (c + 2).toNat k 0 (by omega) (by omega) (by omega)
  unfold impl_Isles_areCalm.f impl_Isles_far.f
  simp only [Option.bind_some]
  rw [w64 (a := c + 1) (by omega) (by omega), w64 (by omega) (by omega), show c + 1 + 1 = c + 2 by omega]
  refine ⟨r, h1, h2.trans ?_⟩
  rw [allCalmB_iff]
  rfl
/-- What valid places say of their numbers. -/
theorem isPl_of {a b c : Int} {l : List Int} {p : Int} (h : isPl a b c l p = true) : good a b c = true ∧ (l.length : Int) = 2 * a ∧ (∀ x ∈ l, 0 ≤ x ∧ x ≤ c + 1) ∧ p ∈ l := by
  simp only [isPl, allB, Bool.and_eq_true, decide_eq_true_eq, List.all_eq_true] at h
  exact ⟨h.1, h.2.1, h.2.2.1, h.2.2.2⟩

/-- All at the indexes g of a list are put at one place. -/
def setAll (tt : Int) : List Int → List Int → List Int
  | [], l => l
  | x :: g, l => setAll tt g (l.set x.toNat tt)
theorem setAll_length (tt : Int) (g : List Int) : ∀ l, (setAll tt g l).length = l.length := by
  induction g with
  | nil => intro l; rfl
  | cons x g ih => intro l; simp [setAll, ih]
theorem isSail_l0 (tt r : Int) (g g' : List Int) (hg : g.length ≤ 1000000) : ∀ (d k i : Nat) (y : List Int), i + d = g.length → (∀ x ∈ g, 0 ≤ x ∧ x < y.length) → d < k →
    spec_isSail.l0 k g (g.length : Int) (i : Int) tt g' y r = some (setAll tt (g.drop i) y, r) := by
  intro d
  induction d with
  | zero =>
    intro k i y hi hy hk
    obtain ⟨k, rfl⟩ : ∃ m, k = m + 1 := ⟨k - 1, by omega⟩
    simp only [spec_isSail.l0]
    rw [if_neg (by omega), List.drop_eq_nil_of_le (by omega)]
    rfl
  | succ d ih =>
    intro k i y hi hy hk
    obtain ⟨k, rfl⟩ : ∃ m, k = m + 1 := ⟨k - 1, by omega⟩
    obtain ⟨z, t, hd, hz, ht⟩ := drop_cons g i (by omega)
    have hzm := hy z (List.mem_of_getElem? hz)
    simp only [spec_isSail.l0]
    rw [if_pos (by omega), if_pos (by omega), if_pos (by omega), rd_at hz, if_pos (by omega), if_pos (by omega), w64 (by omega) (by omega)]
    have := ih k (i + 1) (y.set z.toNat tt) (by omega) (by simpa using hy) (by omega)
    rw [show ((i + 1 : Nat) : Int) = (i : Int) + 1 by omega] at this
    rw [this, hd, ht]
    rfl
theorem isSail_at (l g : List Int) (q tt : Int) (hg : g.length ≤ 1000000) (hl : l.length ≤ 1000000) (hy : ∀ x ∈ g, 0 ≤ x ∧ x < l.length) (k : Nat) (hk : g.length < k) : spec_isSail.f k l q tt g = some (setAll tt g l, tt) := by
  unfold spec_isSail.f spec_l1Own.f
  simp only [Option.bind_some, List.nil_append]
  rw [if_pos (by simp; omega)]
  simp only [Option.bind_some]
  have := isSail_l0 tt tt g g hg g.length k 0 l (by omega) hy hk
  rw [List.drop_zero, show ((0 : Nat) : Int) = 0 from rfl] at this
  exact this
theorem behind_l0 (tt r : Int) (g : List Int) (hg : g.length ≤ 1000000) : ∀ (d k i : Nat) (y : List Int), i + d = g.length → (∀ x ∈ g, 0 ≤ x ∧ x < y.length) → d < k →
    impl_Places_behind.l0 k tt g (g.length : Int) (i : Int) y r = some (setAll tt (g.drop i) y, r) := by
  intro d
  induction d with
  | zero =>
    intro k i y hi hy hk
    obtain ⟨k, rfl⟩ : ∃ m, k = m + 1 := ⟨k - 1, by omega⟩
    simp only [impl_Places_behind.l0]
    rw [if_neg (by omega), List.drop_eq_nil_of_le (by omega)]
    rfl
  | succ d ih =>
    intro k i y hi hy hk
    obtain ⟨k, rfl⟩ : ∃ m, k = m + 1 := ⟨k - 1, by omega⟩
    obtain ⟨z, t, hd, hz, ht⟩ := drop_cons g i (by omega)
    have hzm := hy z (List.mem_of_getElem? hz)
    simp only [impl_Places_behind.l0]
    rw [if_pos (by omega), if_pos (by omega), if_pos (by omega), rd_at hz, if_pos (by omega), if_pos (by omega), w64 (by omega) (by omega)]
    have := ih k (i + 1) (y.set z.toNat tt) (by omega) (by simpa using hy) (by omega)
    rw [show ((i + 1 : Nat) : Int) = (i : Int) + 1 by omega] at this
    rw [this, hd, ht]
    rfl
theorem behind_at (l g : List Int) (q tt : Int) (hg : g.length ≤ 1000000) (hl : l.length ≤ 1000000) (hy : ∀ x ∈ g, 0 ≤ x ∧ x < l.length) (k : Nat) (hk : g.length < k) : impl_Places_behind.f k l q tt g = some (setAll tt g l, tt) := by
  unfold impl_Places_behind.f slices_Clone_int_int.f
  rw [if_pos (by omega)]
  simp only [Option.bind_some]
  have := behind_l0 tt tt g hg g.length k 0 l (by omega) hy hk
  rw [List.drop_zero, show ((0 : Nat) : Int) = 0 from rfl] at this
  exact this
/-- From index i on each number is above the one before. -/
def Rises (g : List Int) (i : Nat) : Prop := ∀ j : Nat, i ≤ j → 1 ≤ j → j < g.length → rd g ((j - 1 : Nat) : Int) < rd g (j : Int)
theorem l1Rising_l0 (g : List Int) (a b : Int) (hg : g.length ≤ 1000000) : ∀ (d k i : Nat), i + d = g.length → d < k →
    ∃ r, spec_l1Rising.l0 k g a b g (g.length : Int) (i : Int) = some r ∧ (r = true ↔ allB (g.drop i) a b = true ∧ Rises g i) := by
  intro d
  induction d with
  | zero =>
    intro k i hi hk
    obtain ⟨k, rfl⟩ : ∃ m, k = m + 1 := ⟨k - 1, by omega⟩
    simp only [spec_l1Rising.l0]
    rw [if_neg (by omega), List.drop_eq_nil_of_le (by omega)]
    exact ⟨true, rfl, by simp [allB]; intro j h1 h2 h3; omega⟩
  | succ d ih =>
    intro k i hi hk
    obtain ⟨k, rfl⟩ : ∃ m, k = m + 1 := ⟨k - 1, by omega⟩
    obtain ⟨z, t, hd, hz, ht⟩ := drop_cons g i (by omega)
    obtain ⟨r, h1, h2⟩ := ih k (i + 1) (by omega) (by omega)
    rw [show ((i + 1 : Nat) : Int) = (i : Int) + 1 by omega] at h1
    rw [ht] at h2
    simp only [spec_l1Rising.l0]
    rw [if_pos (by omega), if_pos (by omega), if_pos (by omega), spec_l1In_eq, w64 (a := (i : Int) + 1) (by omega) (by omega), h1, hd]
    simp only [Option.bind_some]
    have hz' := rd_at hz
    have hal : allB (z :: t) a b = true ↔ (a ≤ z ∧ z ≤ b) ∧ allB t a b = true := by simp [allB]
    by_cases hb : a ≤ z ∧ z ≤ b
    · rw [if_pos (by rw [hz']; simpa using hb)]
      by_cases h0 : (i : Int) > 0
      · rw [if_pos h0, w64 (by omega) (by omega), if_pos (by omega), if_pos (by omega)]
        by_cases hlt : rd g ((i : Int) - 1) ≥ rd g (i : Int)
        · rw [if_pos hlt]
          refine ⟨false, rfl, ⟨fun h => (by cases h), fun h => ?_⟩⟩
          have h3 := h.2 i (Nat.le_refl _) (by omega) (by omega)
          rw [show ((i - 1 : Nat) : Int) = (i : Int) - 1 by omega] at h3
          omega
        · rw [if_neg hlt]
          refine ⟨r, rfl, h2.trans ?_⟩
          rw [hal]
          constructor
          · rintro ⟨h4, h5⟩
            refine ⟨⟨hb, h4⟩, fun j h6 h7 h8 => ?_⟩
            rcases Nat.lt_or_ge i j with h9 | h9
            · exact h5 j (by omega) h7 h8
            · have : j = i := by omega
              subst this
              rw [show ((j - 1 : Nat) : Int) = (j : Int) - 1 by omega]
              omega
          · rintro ⟨⟨_, h4⟩, h5⟩
            exact ⟨h4, fun j h6 h7 h8 => h5 j (by omega) h7 h8⟩
      · rw [if_neg h0]
        refine ⟨r, rfl, h2.trans ?_⟩
        rw [hal]
        constructor
        · rintro ⟨h4, h5⟩
          exact ⟨⟨hb, h4⟩, fun j h6 h7 h8 => h5 j (by omega) h7 h8⟩
        · rintro ⟨⟨_, h4⟩, h5⟩
          exact ⟨h4, fun j h6 h7 h8 => h5 j (by omega) h7 h8⟩
    · rw [if_neg (by rw [hz']; simpa using hb)]
      exact ⟨false, rfl, ⟨fun h => (by cases h), fun h => absurd (hal.1 h.1).1 hb⟩⟩
theorem rises_l0 (g : List Int) (hg : g.length ≤ 1000000) : ∀ (d k i : Nat), i + d = g.length + 1 → 1 ≤ i → d < k →
    ∃ r, impl_rises.l0 k g (i : Int) = some r ∧ (r = true ↔ Rises g i) := by
  intro d
  induction d with
  | zero =>
    intro k i hi h1 hk
    obtain ⟨k, rfl⟩ : ∃ m, k = m + 1 := ⟨k - 1, by omega⟩
    simp only [impl_rises.l0]
    rw [if_neg (by omega)]
    exact ⟨true, rfl, by simp; intro j h1 h2 h3; omega⟩
  | succ d ih =>
    intro k i hi h1 hk
    obtain ⟨k, rfl⟩ : ∃ m, k = m + 1 := ⟨k - 1, by omega⟩
    simp only [impl_rises.l0]
    by_cases hlt : (i : Int) < g.length
    · obtain ⟨r, h2, h3⟩ := ih k (i + 1) (by omega) (by omega) (by omega)
      rw [show ((i + 1 : Nat) : Int) = (i : Int) + 1 by omega] at h2
      rw [if_pos hlt, if_pos (by omega), w64 (a := (i : Int) - 1) (by omega) (by omega), if_pos (by omega), if_pos (by omega), w64 (by omega) (by omega), h2]
      by_cases hle : rd g (i : Int) ≤ rd g ((i : Int) - 1)
      · rw [if_pos hle]
        refine ⟨false, rfl, ⟨fun h => (by cases h), fun h => ?_⟩⟩
        have h4 := h i (Nat.le_refl _) (by omega) (by omega)
        rw [show ((i - 1 : Nat) : Int) = (i : Int) - 1 by omega] at h4
        omega
      · rw [if_neg hle]
        refine ⟨r, rfl, h3.trans ⟨fun h5 j h6 h7 h8 => ?_, fun h5 j h6 h7 h8 => h5 j (by omega) h7 h8⟩⟩
        rcases Nat.lt_or_ge i j with h9 | h9
        · exact h5 j (by omega) h7 h8
        · have : j = i := by omega
          subst this
          rw [show ((j - 1 : Nat) : Int) = (j : Int) - 1 by omega]
          omega
    · rw [if_neg hlt]
      exact ⟨true, rfl, by simp; intro j h1 h2 h3; omega⟩
theorem or_bit (x i : Nat) (hi : i ≤ 60) (hx : x < 2 ^ 61) : Go.bits .or .i64 (x : Int) (shl .i64 1 (i : Int)) = ((x ||| 2 ^ i : Nat) : Int) := by
  have h : 2 ^ i ≤ 2 ^ 60 := Nat.pow_le_pow_right (by omega) hi
  have h3 : (2 : Nat) ^ 62 = 4611686018427387904 := by decide
  have h4 : (2 : Nat) ^ 60 = 1152921504606846976 := by decide
  have h5 : (2 : Nat) ^ 61 = 2305843009213693952 := by decide
  rw [shl_one i hi]
  exact (bits_nat .i64 62 (by decide) (fun n h₀ h₁ => by rw [IntKind.wrap_i64]; omega) x (2 ^ i) (by omega) (by omega)).2
theorem cuBits_l0 (g : List Int) (hg : g.length ≤ 1000000) (hr : ∀ x ∈ g, 0 ≤ x ∧ x < 40) : ∀ (d k i M : Nat), i + d = g.length → M < 2 ^ 41 → d < k →
    ∃ N : Nat, spec_cuBits.l0 k (M : Int) g (g.length : Int) (i : Int) = some (N : Int) ∧ ∀ j : Nat, N.testBit j = true ↔ M.testBit j = true ∨ (j : Int) ∈ g.drop i := by
  intro d
  induction d with
  | zero =>
    intro k i M hi hM hk
    obtain ⟨k, rfl⟩ : ∃ m, k = m + 1 := ⟨k - 1, by omega⟩
    simp only [spec_cuBits.l0]
    rw [if_neg (by omega), List.drop_eq_nil_of_le (by omega)]
    exact ⟨M, rfl, by simp⟩
  | succ d ih =>
    intro k i M hi hM hk
    obtain ⟨k, rfl⟩ : ∃ m, k = m + 1 := ⟨k - 1, by omega⟩
    obtain ⟨z, t, hd, hz, ht⟩ := drop_cons g i (by omega)
    have hzm := hr z (List.mem_of_getElem? hz)
    obtain ⟨n, rfl⟩ := Int.eq_ofNat_of_zero_le hzm.1
    have hn : 2 ^ n < 2 ^ 41 := Nat.pow_lt_pow_right (by omega) (by omega)
    have h61 : (2 : Nat) ^ 41 < 2 ^ 61 := by decide
    simp only [spec_cuBits.l0]
    rw [if_pos (by omega), if_pos (by omega), if_pos (by omega), rd_at hz, if_pos (by omega), or_bit M n (by omega) (by omega), w64 (by omega) (by omega)]
    obtain ⟨N, h1, h2⟩ := ih k (i + 1) (M ||| 2 ^ n) (by omega) (Nat.or_lt_two_pow hM hn) (by omega)
    rw [show ((i + 1 : Nat) : Int) = (i : Int) + 1 by omega] at h1
    refine ⟨N, h1, fun j => ?_⟩
    rw [h2, hd, ht, Nat.testBit_or, Nat.testBit_two_pow, Bool.or_eq_true, decide_eq_true_eq, List.mem_cons]
    constructor
    · rintro ((h | h) | h)
      · exact .inl h
      · exact .inr (.inl (by omega))
      · exact .inr (.inr h)
    · rintro (h | h | h)
      · exact .inl (.inl h)
      · exact .inl (.inr (by omega))
      · exact .inr h
/-- A voyage in calm places: as both tell it. -/
def Voy (n : Nat) (b c : Int) (l : List Int) (p tt : Int) (g : List Int) : Prop :=
  (0 ≤ tt ∧ tt ≤ c + 1) ∧ ¬ tt = p ∧ (1 ≤ (g.length : Int) ∧ (g.length : Int) ≤ b) ∧ (allB g 0 (2 * n - 1) = true ∧ Rises g 0) ∧ (∀ x ∈ g, rd l x = p) ∧ (calmB n fun j => (j : Int) ∈ g) = true ∧ allCalmB n c (setAll tt g l) = true
noncomputable def voyB (n : Nat) (b c : Int) (l : List Int) (p tt : Int) (g : List Int) : Bool := @decide (Voy n b c l p tt g) (Classical.propDecidable _)
theorem voyB_iff (n : Nat) (b c : Int) (l : List Int) (p tt : Int) (g : List Int) : voyB n b c l p tt g = true ↔ Voy n b c l p tt g := by unfold voyB; simp
theorem allB_iff (g : List Int) (a b : Int) : allB g a b = true ↔ ∀ x ∈ g, a ≤ x ∧ x ≤ b := by simp [allB]
theorem isCan_l0 (n : Nat) (b c : Int) (l : List Int) (p tt : Int) (g : List Int) (hn : n ≤ 3) (hl : l.length = 2 * n) (hc : 0 ≤ c ∧ c ≤ 2) (hg : g.length ≤ 3) (hr : ∀ x ∈ g, 0 ≤ x ∧ x ≤ 2 * (n : Int) - 1) :
    ∀ (d k i : Nat), i + d = g.length → d + 15000 < k →
    ∃ r, spec_isCan.l0 k g (g.length : Int) (i : Int) (n : Int) b c l p tt g = some r ∧ (r = true ↔ (∀ x ∈ g.drop i, rd l x = p) ∧ (calmB n fun j => (j : Int) ∈ g) = true ∧ allCalmB n c (setAll tt g l) = true) := by
  intro d
  induction d with
  | zero =>
    intro k i hi hk
    obtain ⟨k, rfl⟩ : ∃ m, k = m + 1 := ⟨k - 1, by omega⟩
    obtain ⟨N, h1, h2⟩ := cuBits_l0 g (by omega) (fun x hx => by have := hr x hx; omega) g.length k 0 0 (by omega) (by decide) (by omega)
    rw [show ((0 : Nat) : Int) = 0 from rfl] at h1
    have hcal : (calmB n fun j => N.testBit j = true) = calmB n fun j => (j : Int) ∈ g := calmB_congr (fun j _ => by rw [h2]; simp)
    have e2 := cuCalm_at n N (by omega) k (by omega)
    rw [hcal] at e2
    have e3 := isSail_at l g p tt (by omega) (by omega) (fun x hx => by have := hr x hx; omega) k (by omega)
    have e4 := spec_isCalm_at n b c tt (setAll tt g l) (by omega) (by rw [setAll_length]; exact hl) (by omega) (by omega) k (by omega)
    simp only [spec_isCan.l0, spec_cuBits.f]
    rw [if_neg (by omega), List.drop_eq_nil_of_le (by omega), h1, Option.bind_some, e2, Option.bind_some]
    by_cases h : (calmB n fun j => (j : Int) ∈ g) = true
    · rw [if_pos h, e3, Option.bind_some, e4, Option.bind_some]
      exact ⟨_, rfl, by simp [h]⟩
    · rw [if_neg h]
      exact ⟨false, rfl, by simp [h]⟩
  | succ d ih =>
    intro k i hi hk
    obtain ⟨k, rfl⟩ : ∃ m, k = m + 1 := ⟨k - 1, by omega⟩
    obtain ⟨z, t, hd, hz, ht⟩ := drop_cons g i (by omega)
    have hzm := hr z (List.mem_of_getElem? hz)
    obtain ⟨r, h1, h2⟩ := ih k (i + 1) (by omega) (by omega)
    rw [show ((i + 1 : Nat) : Int) = (i : Int) + 1 by omega] at h1
    rw [ht] at h2
    simp only [spec_isCan.l0]
    rw [if_pos (by omega), if_pos (by omega), if_pos (by omega), rd_at hz, if_pos (by omega), if_pos (by omega), w64 (by omega) (by omega), h1, hd]
    by_cases hp : rd l z = p
    · rw [if_pos hp]
      exact ⟨r, rfl, h2.trans (by simp [hp])⟩
    · rw [if_neg hp]
      exact ⟨false, rfl, by simp [hp]⟩
theorem isCan_at (n : Nat) (b c : Int) (l : List Int) (p tt : Int) (g : List Int) (hgd : good (n : Int) b c = true) (hl : l.length = 2 * n) (k : Nat) (hk : 20000 < k) : spec_isCan.f k (n : Int) b c l p tt g = some (voyB n b c l p tt g) := by
  have hg' := good_of hgd
  refine some_iff ?_
  simp only [voyB_iff]
  obtain ⟨k', rfl⟩ : ∃ m, k = m + 1 := ⟨k - 1, by omega⟩
  unfold spec_isCan.f
  rw [w64 (a := c + 1) (by omega) (by omega), spec_l1In_eq, Option.bind_some]
  by_cases h1 : 0 ≤ tt ∧ tt ≤ c + 1
  · rw [if_pos (by simpa using h1)]
    by_cases h2 : tt = p
    · rw [if_pos h2]
      exact ⟨false, by simp [spec_isCan.j0], ⟨fun h => (by cases h), fun h => absurd h2 h.2.1⟩⟩
    · rw [if_neg h2, spec_l1In_eq, Option.bind_some]
      by_cases h3 : 1 ≤ (g.length : Int) ∧ (g.length : Int) ≤ b
      · rw [if_pos (by simpa using h3)]
        obtain ⟨r, h4, h5⟩ := l1Rising_l0 g 0 (2 * n - 1) (by omega) g.length (k' + 1) 0 (by omega) (by omega)
        rw [show ((0 : Nat) : Int) = 0 from rfl] at h4
        rw [List.drop_zero] at h5
        unfold spec_l1Rising.f
        rw [show wrap64 ((l.length : Int) - 1) = 2 * n - 1 by rw [w64 (by omega) (by omega)]; omega, h4, Option.bind_some]
        by_cases hr : r = true
        · subst hr
          have h6 := h5.1 rfl
          obtain ⟨r', h7, h8⟩ := isCan_l0 n b c l p tt g (by omega) hl (by omega) (by omega) ((allB_iff _ _ _).1 h6.1) g.length k' 0 (by omega) (by omega)
          rw [show ((0 : Nat) : Int) = 0 from rfl] at h7
          rw [List.drop_zero] at h8
          refine ⟨r', by simp only [spec_isCan.j0, Bool.not_true, Bool.false_eq_true, if_false]; exact h7, h8.trans ?_⟩
          exact ⟨fun h => ⟨h1, h2, h3, h6, h⟩, fun h => h.2.2.2.2⟩
        · have hr' : r = false := by simpa using hr
          subst hr'
          refine ⟨false, by simp [spec_isCan.j0], ⟨fun h => (by cases h), fun h => ?_⟩⟩
          exact absurd (h5.2 h.2.2.2.1) (by simp)
      · rw [if_neg (by simpa using h3)]
        exact ⟨false, by simp [spec_isCan.j0], ⟨fun h => (by cases h), fun h => absurd h.2.2.1 h3⟩⟩
  · rw [if_neg (by simpa using h1)]
    exact ⟨false, by simp [spec_isCan.j0], ⟨fun h => (by cases h), fun h => absurd h.1 h1⟩⟩
theorem isVoyage_at (n : Nat) (b c : Int) (l : List Int) (p tt : Int) (g : List Int) (hgd : good (n : Int) b c = true) (hl : l.length = 2 * n) (k : Nat) (hk : 20000 < k) : impl_Isles_isVoyage.f k (n : Int) b c l p tt g = some (voyB n b c l p tt g) := by
  have hg' := good_of hgd
  refine some_iff ?_
  simp only [voyB_iff]
  obtain ⟨k', rfl⟩ : ∃ m, k = m + 1 := ⟨k - 1, by omega⟩
  unfold impl_Isles_isVoyage.f impl_Isles_far.f impl_Isles_people.f
  rw [Option.bind_some, w64 (a := c + 1) (by omega) (by omega), impl_in_eq, Option.bind_some]
  by_cases h1 : 0 ≤ tt ∧ tt ≤ c + 1
  · rw [if_pos (by simpa using h1)]
    by_cases h2 : tt = p
    · rw [if_pos h2]
      exact ⟨false, by simp [impl_Isles_isVoyage.j0], ⟨fun h => (by cases h), fun h => absurd h2 h.2.1⟩⟩
    · rw [if_neg h2, Option.bind_some, w64 (a := 2 * (n : Int)) (by omega) (by omega), w64 (a := 2 * (n : Int) - 1) (by omega) (by omega), areIn_eq, Option.bind_some]
      by_cases h3 : 1 ≤ (g.length : Int) ∧ (g.length : Int) ≤ b
      · by_cases ha : allB g 0 (2 * n - 1) = true
        · rw [if_pos (by simp [h3, ha])]
          have har := (allB_iff _ _ _).1 ha
          obtain ⟨r, h4, h5⟩ := rises_l0 g (by omega) g.length (k' + 1) 1 (by omega) (by omega) (by omega)
          rw [show ((1 : Nat) : Int) = 1 from rfl] at h4
          have h50 : r = true ↔ Rises g 0 := h5.trans ⟨fun h j _ h6 h7 => h j h6 h6 h7, fun h j _ h6 h7 => h j (by omega) h6 h7⟩
          unfold impl_rises.f
          rw [h4, Option.bind_some]
          by_cases hr : r = true
          · subst hr
            have h6 := h50.1 rfl
            have e1 : slices_ContainsFunc_int_int_at_impl_Isles_isVoyage_1.f g l p = some (g.any fun x => rd l x != p) := by
              unfold slices_ContainsFunc_int_int_at_impl_Isles_isVoyage_1.f
              refine anyO_some g (fun x hx => ?_)
              have := har x hx
              unfold impl_Isles_isVoyage_1.f
              rw [if_pos (by omega), if_pos (by omega)]
            have e2 := calm_at n g (by omega) (fun x hx => by have := har x hx; omega) (by omega) k' (by omega)
            have e3 := behind_at l g p tt (by omega) (by omega) (fun x hx => by have := har x hx; omega) k' (by omega)
            have e4 := areCalm_at n b c tt (setAll tt g l) (by omega) (by rw [setAll_length]; exact hl) (by omega) (by omega) k' (by omega)
            simp only [impl_Isles_isVoyage.j0, Bool.not_true, Bool.false_eq_true, if_false]
            rw [e1, Option.bind_some]
            by_cases hany : (g.any fun x => rd l x != p) = true
            · rw [if_pos hany]
              refine ⟨false, rfl, ⟨fun h => (by cases h), fun h => ?_⟩⟩
              obtain ⟨x, hx, hx2⟩ := List.any_eq_true.1 hany
              rw [h.2.2.2.2.1 x hx] at hx2
              simp at hx2
            · rw [if_neg hany, e2, Option.bind_some]
              have hall : ∀ x ∈ g, rd l x = p := by
                intro x hx
                apply Classical.byContradiction
                intro hne
                exact hany (List.any_eq_true.2 ⟨x, hx, by simpa using hne⟩)
              by_cases hcal : (calmB n fun j => (j : Int) ∈ g) = true
              · rw [if_pos hcal, e3, Option.bind_some, e4, Option.bind_some]
                exact ⟨_, rfl, ⟨fun h => ⟨h1, h2, h3, ⟨ha, h6⟩, hall, hcal, h⟩, fun h => h.2.2.2.2.2.2⟩⟩
              · rw [if_neg hcal]
                exact ⟨false, rfl, ⟨fun h => (by cases h), fun h => absurd h.2.2.2.2.2.1 hcal⟩⟩
          · have hr' : r = false := by simpa using hr
            subst hr'
            refine ⟨false, by simp [impl_Isles_isVoyage.j0], ⟨fun h => (by cases h), fun h => ?_⟩⟩
            exact absurd (h50.2 h.2.2.2.1.2) (by simp)
        · rw [if_neg (by simp [ha])]
          exact ⟨false, by simp [impl_Isles_isVoyage.j0], ⟨fun h => (by cases h), fun h => absurd h.2.2.2.1.1 ha⟩⟩
      · rw [if_neg (by simp; intro h; omega)]
        exact ⟨false, by simp [impl_Isles_isVoyage.j0], ⟨fun h => (by cases h), fun h => absurd h.2.2.1 h3⟩⟩
  · rw [if_neg (by simpa using h1)]
    exact ⟨false, by simp [impl_Isles_isVoyage.j0], ⟨fun h => (by cases h), fun h => absurd h.1 h1⟩⟩
/-- Valid isles and calm places of them. -/
noncomputable def askB (a b c : Int) (l : List Int) (p : Int) : Bool := isPl a b c l p && allCalmB a.toNat c l
theorem askB_of {a b c : Int} {l : List Int} {p : Int} (h : askB a b c l p = true) : isPl a b c l p = true ∧ allCalmB a.toNat c l = true := by simpa [askB] using h

theorem szVoyage_eq (x : Int) (l : List Int) (a : Int) (hl : l.length ≤ maxLen) (h0 : 0 ≤ a) (h1 : a ≤ 9223372036854775807) : laws_szVoyage.f x l a = some (if a < l.length then -1 else a - l.length) := by
  unfold laws_szVoyage.f
  rw [szIntS_eq l a hl h0 h1]
  simp only [Option.bind_some]
  by_cases h : a < l.length
  · simp [h]
  · rw [if_neg h, if_neg (by omega)]
theorem toVoyage_ev (x : Int) (l : List Int) (hl : l.length ≤ 35184372088832) : ∃ K, ∀ k, K ≤ k → laws_toVoyage.f k x l = some (x, l) := by
  obtain ⟨K, h⟩ := toIntS_ev l hl
  refine ⟨K, fun k hk => ?_⟩
  unfold laws_toVoyage.f
  rw [h k hk]
  rfl
theorem eqVoyage_ev (x : Int) (a : List Int) (y : Int) (b : List Int) (hb : a.length ≤ 9223372036854775000) : ∃ K, ∀ k, K ≤ k → laws_eqVoyage.f k x a y b = some (decide (x = y ∧ a = b)) := by
  obtain ⟨K, h⟩ := eqIntS_ev a b hb
  refine ⟨K, fun k hk => ?_⟩
  unfold laws_eqVoyage.f
  rw [h k hk]
  by_cases h1 : a = b <;> by_cases h2 : x = y <;> simp [h1, h2]

theorem rd44_at {l : List S38} {i : Nat} {x : S38} (h : l[i]? = some x) : rd_T38 l (i : Int) = x := by simp [rd_T38, h]
theorem szVoyageS_l0 (l : List S38) (hl : l.length ≤ maxLen) (hv : ∀ v ∈ l, v.f1.length ≤ maxLen) : ∀ (d i : Nat) (a : Int), i + d = l.length → 0 ≤ a → a ≤ 1048576 →
    ∃ (r : Int) (K : Nat), (0 ≤ r → ∀ v ∈ l.drop i, (v.f1.length : Int) ≤ a) ∧ ∀ k, K ≤ k → laws_szVoyageS.l0 k l a (i : Int) = some r := by
  try unfold maxLen at *
  intro d
  induction d with
  | zero =>
    intro i a hi h0 h1
    refine ⟨a, 1, by rw [List.drop_eq_nil_of_le (by omega)]; simp, fun k hk => ?_⟩
    obtain ⟨k, rfl⟩ : ∃ m, k = m + 1 := ⟨k - 1, by omega⟩
    simp only [laws_szVoyageS.l0]
    rw [if_neg (by omega)]
  | succ d ih =>
    intro i a hi h0 h1
    obtain ⟨z, t, hd, hz, ht⟩ := drop_cons l i (by omega)
    have hzl := hv z (List.mem_of_getElem? hz)
    have hs := szVoyage_eq z.f0 z.f1 a hzl h0 (by omega)
    by_cases hlt : a < z.f1.length
    · rw [if_pos hlt] at hs
      refine ⟨-1, 1, by omega, fun k hk => ?_⟩
      obtain ⟨k, rfl⟩ : ∃ m, k = m + 1 := ⟨k - 1, by omega⟩
      simp only [laws_szVoyageS.l0]
      rw [if_pos (by omega), if_pos (by omega), rd44_at hz, hs, Option.bind_some, if_pos (by omega)]
    · rw [if_neg hlt] at hs
      obtain ⟨r, K, h2, h3⟩ := ih (i + 1) (a - z.f1.length) (by omega) (by omega) (by omega)
      refine ⟨r, K + 1, fun hr v hvm => ?_, fun k hk => ?_⟩
      · rw [hd, List.mem_cons] at hvm
        rcases hvm with rfl | hvm
        · omega
        · rw [ht] at h2
          have := h2 hr v hvm
          omega
      · obtain ⟨k, rfl⟩ : ∃ m, k = m + 1 := ⟨k - 1, by omega⟩
        have := h3 k (by omega)
        rw [show ((i + 1 : Nat) : Int) = (i : Int) + 1 by omega] at this
        simp only [laws_szVoyageS.l0]
        rw [if_pos (by omega), if_pos (by omega), rd44_at hz, hs, Option.bind_some, if_neg (by omega), w64 (by omega) (by omega), this]
theorem szVoyageS_ev (l : List S38) (a : Int) (hl : l.length ≤ maxLen) (hv : ∀ v ∈ l, v.f1.length ≤ maxLen) (h0 : 0 ≤ a) (h1 : a ≤ 1048576) :
    ∃ (r : Int) (K : Nat), (0 ≤ r → (l.length : Int) ≤ a ∧ ∀ v ∈ l, (v.f1.length : Int) ≤ a) ∧ ∀ k, K ≤ k → laws_szVoyageS.f k l a = some r := by
  try unfold maxLen at *
  by_cases h : a - (l.length : Int) < 0
  · refine ⟨-1, 0, by omega, fun k _ => ?_⟩
    unfold laws_szVoyageS.f
    rw [w64 (by omega) (by omega), if_pos h]
  · obtain ⟨r, K, h2, h3⟩ := szVoyageS_l0 l hl hv l.length 0 (a - l.length) (by omega) (by omega) (by omega)
    refine ⟨r, K, fun hr => ⟨by omega, fun v hvm => ?_⟩, fun k hk => ?_⟩
    · have := h2 hr v (by simpa using hvm)
      omega
    · unfold laws_szVoyageS.f
      rw [w64 (by omega) (by omega), if_neg h]
      exact h3 k hk
/-- A law's voyage as the program's own. -/
def conv (v : S38) : S43 := ⟨v.f0, v.f1⟩
theorem toVoyageS_l0 (l : List S38) (hl : l.length ≤ 1048576) (hv : ∀ v ∈ l, v.f1.length ≤ 1048576) : ∀ (d i : Nat) (y : List S43), i + d = l.length → y.length = l.length → (∀ j, j < i → y[j]? = (l.map conv)[j]?) →
    ∃ (K : Nat), ∀ k, K ≤ k → laws_toVoyageS.l0 k l y (i : Int) = some (l.map conv) := by
  intro d
  induction d with
  | zero =>
    intro i y hi hy hj
    refine ⟨1, fun k hk => ?_⟩
    obtain ⟨k, rfl⟩ : ∃ m, k = m + 1 := ⟨k - 1, by omega⟩
    simp only [laws_toVoyageS.l0]
    rw [if_neg (by omega)]
    congr 1
    apply List.ext_getElem?
    intro j
    rcases Nat.lt_or_ge j i with h | h
    · exact hj j h
    · rw [List.getElem?_eq_none (by omega), List.getElem?_eq_none (by simp; omega)]
  | succ d ih =>
    intro i y hi hy hj
    obtain ⟨z, t, hd, hz, ht⟩ := drop_cons l i (by omega)
    obtain ⟨K1, e1⟩ := toVoyage_ev z.f0 z.f1 (by have := hv z (List.mem_of_getElem? hz); omega)
    obtain ⟨K2, e2⟩ := ih (i + 1) (y.set i (conv z)) (by omega) (by simpa using hy) (fun j hj2 => by
      rw [List.getElem?_set]
      by_cases hij : i = j
      · subst hij
        rw [if_pos rfl, if_pos (by omega), List.getElem?_map, hz]
        rfl
      · rw [if_neg hij]
        exact hj j (by omega))
    refine ⟨K1 + K2 + 1, fun k hk => ?_⟩
    obtain ⟨k, rfl⟩ : ∃ m, k = m + 1 := ⟨k - 1, by omega⟩
    have h2 := e2 k (by omega)
    rw [show ((i + 1 : Nat) : Int) = (i : Int) + 1 by omega] at h2
    simp only [laws_toVoyageS.l0]
    rw [if_pos (by omega), if_pos (by omega), rd44_at hz, e1 k (by omega), Option.bind_some, if_pos (by omega), w64 (by omega) (by omega)]
    exact h2
theorem toVoyageS_ev (l : List S38) (hl : l.length ≤ 1048576) (hv : ∀ v ∈ l, v.f1.length ≤ 1048576) : ∃ K, ∀ k, K ≤ k → laws_toVoyageS.f k l = some (l.map conv) := by
  obtain ⟨K, h⟩ := toVoyageS_l0 l hl hv l.length 0 (List.replicate ((l.length : Int)).toNat z43) (by omega) (by simp) (by intro j hj; omega)
  refine ⟨K, fun k hk => ?_⟩
  unfold laws_toVoyageS.f
  rw [if_pos (by omega), if_pos (by omega)]
  exact h k hk
theorem rd49_at {l : List S43} {i : Nat} {x : S43} (h : l[i]? = some x) : rd_T43 l (i : Int) = x := by simp [rd_T43, h]
theorem eqVoyageS_l0 (L : List S43) (hl : L.length ≤ 1048576) (hv : ∀ v ∈ L, v.f1.length ≤ 1048576) : ∀ (d i : Nat), i + d = L.length → ∃ K, ∀ k, K ≤ k → laws_eqVoyageS.l0 k L L (i : Int) = some true := by
  intro d
  induction d with
  | zero =>
    intro i hi
    refine ⟨1, fun k hk => ?_⟩
    obtain ⟨k, rfl⟩ : ∃ m, k = m + 1 := ⟨k - 1, by omega⟩
    simp only [laws_eqVoyageS.l0]
    rw [if_neg (by omega)]
  | succ d ih =>
    intro i hi
    obtain ⟨z, t, hd, hz, ht⟩ := drop_cons L i (by omega)
    obtain ⟨K1, e1⟩ := eqVoyage_ev z.f0 z.f1 z.f0 z.f1 (by have := hv z (List.mem_of_getElem? hz); omega)
    obtain ⟨K2, e2⟩ := ih (i + 1) (by omega)
    refine ⟨K1 + K2 + 1, fun k hk => ?_⟩
    obtain ⟨k, rfl⟩ : ∃ m, k = m + 1 := ⟨k - 1, by omega⟩
    have h2 := e2 k (by omega)
    rw [show ((i + 1 : Nat) : Int) = (i : Int) + 1 by omega] at h2
    simp only [laws_eqVoyageS.l0]
    rw [if_pos (by omega), if_pos (by omega), if_pos (by omega), rd49_at hz, e1 k (by omega), Option.bind_some, if_pos (by simp), w64 (by omega) (by omega)]
    exact h2
theorem eqVoyageS_ev (L : List S43) (hl : L.length ≤ 1048576) (hv : ∀ v ∈ L, v.f1.length ≤ 1048576) : ∃ K, ∀ k, K ≤ k → laws_eqVoyageS.f k L L = some true := by
  obtain ⟨K, h⟩ := eqVoyageS_l0 L hl hv L.length 0 (by omega)
  refine ⟨K, fun k hk => ?_⟩
  unfold laws_eqVoyageS.f
  rw [if_pos rfl]
  exact h k hk
/-- Where voyages lead, and the first one that is none. -/
noncomputable def play (n : Nat) (b c : Int) : List S43 → Nat → List Int → Int → List Int × Int × Option Nat
  | [], _, l, p => (l, p, none)
  | v :: vs, i, l, p => if voyB n b c l p v.f0 v.f1 = true then play n b c vs (i + 1) (setAll v.f0 v.f1 l) v.f0 else (l, p, some i)
theorem play_length (n : Nat) (b c : Int) : ∀ (vs : List S43) (i : Nat) (l : List Int) (p : Int), (play n b c vs i l p).1.length = l.length := by
  intro vs
  induction vs with
  | nil => intro i l p; rfl
  | cons v vs ih =>
    intro i l p
    simp only [play]
    split
    · rw [ih, setAll_length]
    · rfl
theorem play_index (n : Nat) (b c : Int) : ∀ (vs : List S43) (i j : Nat) (l : List Int) (p : Int), (play n b c vs i l p).2.2 = some j → i ≤ j ∧ j < i + vs.length := by
  intro vs
  induction vs with
  | nil => intro i j l p h; simp [play] at h
  | cons v vs ih =>
    intro i j l p h
    simp only [play] at h
    split at h
    · have := ih _ _ _ _ h
      simp only [List.length_cons]
      omega
    · simp only [Option.some.injEq] at h
      simp only [List.length_cons]
      omega
theorem rdp_at {l : List S43} {i : Nat} {x : S43} (h : l[i]? = some x) : rd_T43 l (i : Int) = x := by simp [rd_T43, h]
theorem voy_rows {n : Nat} {b c : Int} {l : List Int} {p t : Int} {g : List Int} (hl : l.length = 2 * n) (hb : b ≤ 3) (h : voyB n b c l p t g = true) : g.length ≤ 3 ∧ ∀ x ∈ g, 0 ≤ x ∧ x < l.length := by
  have hV := (voyB_iff _ _ _ _ _ _ _).1 h
  have har := (allB_iff _ _ _).1 hV.2.2.2.1.1
  have hgl := hV.2.2.1
  exact ⟨by omega, fun x hx => by have := har x hx; omega⟩
theorem sailed_l0 (n : Nat) (b c : Int) (vs : List S43) (hgd : good (n : Int) b c = true) (hvs : vs.length ≤ 1000) : ∀ (d k i : Nat) (l : List Int) (p : Int), i + d = vs.length → l.length = 2 * n → d + 30000 < k →
    impl_Isles_sailed.l0 k vs (vs.length : Int) (i : Int) (n : Int) b c l p = some ((play n b c (vs.drop i) i l p).1, (play n b c (vs.drop i) i l p).2.1, match (play n b c (vs.drop i) i l p).2.2 with | none => -1 | some j => (j : Int)) := by
  have hg' := good_of hgd
  intro d
  induction d with
  | zero =>
    intro k i l p hi hl hk
    obtain ⟨k, rfl⟩ : ∃ m, k = m + 1 := ⟨k - 1, by omega⟩
    simp only [impl_Isles_sailed.l0]
    rw [if_neg (by omega), List.drop_eq_nil_of_le (by omega), behind_at l [] p p (by simp) (by omega) (by simp) k (by simp; omega), Option.bind_some]
    rfl
  | succ d ih =>
    intro k i l p hi hl hk
    obtain ⟨k, rfl⟩ : ∃ m, k = m + 1 := ⟨k - 1, by omega⟩
    obtain ⟨z, t, hd, hz, ht⟩ := drop_cons vs i (by omega)
    simp only [impl_Isles_sailed.l0]
    rw [if_pos (by omega), if_pos (by omega), if_pos (by omega), rdp_at hz, isVoyage_at n b c l p z.f0 z.f1 hgd hl k (by omega), Option.bind_some, hd]
    by_cases hv : voyB n b c l p z.f0 z.f1 = true
    · obtain ⟨hg1, hg2⟩ := voy_rows hl (by omega) hv
      rw [if_pos hv, behind_at l z.f1 p z.f0 (by omega) (by omega) hg2 k (by omega), Option.bind_some, w64 (by omega) (by omega)]
      have := ih k (i + 1) (setAll z.f0 z.f1 l) z.f0 (by omega) (by rw [setAll_length]; exact hl) (by omega)
      rw [show ((i + 1 : Nat) : Int) = (i : Int) + 1 by omega, ht] at this
      simp only [play, if_pos hv]
      exact this
    · rw [if_neg hv]
      simp only [play, if_neg hv]
theorem sailed_at (n : Nat) (b c : Int) (vs : List S43) (l : List Int) (p : Int) (hgd : good (n : Int) b c = true) (hvs : vs.length ≤ 1000) (hl : l.length = 2 * n) (k : Nat) (hk : 40000 < k) :
    impl_Isles_sailed.f k (n : Int) b c l p vs = some ((play n b c vs 0 l p).1, (play n b c vs 0 l p).2.1, match (play n b c vs 0 l p).2.2 with | none => -1 | some j => (j : Int)) := by
  unfold impl_Isles_sailed.f
  exact sailed_l0 n b c vs hgd hvs vs.length k 0 l p (by omega) hl (by omega)

theorem rdv_at {D R : List S43} {v : S43} : rd_T43 (D ++ v :: R) (D.length : Int) = v := by simp [rd_T43]
/-- How many numbers there are in voyages, and what they are behind the mark. -/
def cntV : List S43 → Int
  | [] => 0
  | v :: l => 1 + v.f1.length + cntV l
theorem cntV_nn : ∀ L, 0 ≤ cntV L
  | [] => by simp [cntV]
  | v :: l => by have := cntV_nn l; simp only [cntV]; omega
theorem cntV_le (m : Nat) : ∀ L : List S43, (∀ v ∈ L, v.f1.length ≤ m) → cntV L ≤ L.length * (1 + m)
  | [], _ => by simp [cntV]
  | v :: l, h => by
    have h1 := cntV_le m l (fun u hu => h u (List.mem_cons_of_mem _ hu))
    have h2 := h v (by simp)
    simp only [cntV, List.length_cons]
    rw [show ((l.length + 1 : Nat) : Int) = (l.length : Int) + 1 from rfl, Int.add_mul]
    omega
def markVS : Int → List S43 → List S43
  | _, [] => []
  | a, v :: l => ⟨a, mk (a + 1) v.f1.length⟩ :: markVS (a + 1 + v.f1.length) l
theorem markVS_length : ∀ L a, (markVS a L).length = L.length
  | [], _ => rfl
  | _ :: l, _ => by simp [markVS, markVS_length l]
theorem markVoyageS_l0 : ∀ (R D : List S43) (a : Int), D.length + R.length ≤ 1000000000 → (∀ v ∈ R, v.f1.length ≤ 1000000000) → 0 ≤ a → a + cntV R ≤ 900000000000000 →
    ∃ K, ∀ k, K ≤ k → laws_markVoyageS.l0 k (D ++ R) a (D.length : Int) = some (a + cntV R, D ++ markVS a R)
  | [], D, a, _, _, _, _ => ⟨1, fun k hk => by
    obtain ⟨k, rfl⟩ : ∃ m, k = m + 1 := ⟨k - 1, by omega⟩
    simp only [laws_markVoyageS.l0]
    rw [if_neg (by simp)]
    simp [cntV, markVS]⟩
  | v :: R, D, a, hl, hv, ha, hc => by
    have hc' := cntV_nn R
    simp only [cntV] at hc
    simp only [List.length_cons] at hl
    have hvl := hv v (by simp)
    obtain ⟨K1, e1⟩ := markIntS_ev v.f1 (a + 1) (by omega) (by omega)
    obtain ⟨K2, e2⟩ := markVoyageS_l0 R (D ++ [⟨a, mk (a + 1) v.f1.length⟩]) (a + 1 + v.f1.length) (by simp; omega) (fun u hu => hv u (List.mem_cons_of_mem _ hu)) (by omega) (by omega)
    refine ⟨K1 + K2 + 1, fun k hk => ?_⟩
    obtain ⟨k, rfl⟩ : ∃ m, k = m + 1 := ⟨k - 1, by omega⟩
    have h2 := e2 k (by omega)
    simp only [laws_markVoyageS.l0]
    rw [if_pos (by simp; omega), if_pos (by omega), rdv_at, w64 (by omega) (by omega), e1 k (by omega), Option.bind_some, w64 (by omega) (by omega)]
    rw [show ((D.length : Int)).toNat = D.length by omega, List.set_append_right _ _ (Nat.le_refl _), Nat.sub_self, List.set_cons_zero]
    rw [List.append_assoc, List.singleton_append, List.length_append, List.length_singleton, show ((D.length + 1 : Nat) : Int) = (D.length : Int) + 1 by omega] at h2
    rw [h2]
    simp only [cntV, markVS, List.append_assoc, List.singleton_append]
    congr 2
    omega
theorem markVoyageS_ev (L : List S43) (a : Int) (hl : L.length ≤ 1048576) (hv : ∀ v ∈ L, v.f1.length ≤ 1048576) (ha : 0 ≤ a) (ha2 : a ≤ 100000000000) : ∃ K, ∀ k, K ≤ k → laws_markVoyageS.f k L a = some (a + cntV L, markVS a L) := by
  have h1 := cntV_le 1048576 L hv
  have h2 : (L.length : Int) * (1 + ((1048576 : Nat) : Int)) ≤ 1048576 * 1048577 := by omega
  obtain ⟨K, e⟩ := markVoyageS_l0 L [] a (by simp; omega) (fun v hvm => by have := hv v hvm; omega) ha (by omega)
  exact ⟨K, fun k hk => by unfold laws_markVoyageS.f; simpa using e k hk⟩
theorem heldVoyageS_l0 : ∀ (R D : List S43) (a : Int), D.length + R.length ≤ 1000000000 → (∀ v ∈ R, v.f1.length ≤ 1000000000) → 0 ≤ a → a + cntV R ≤ 900000000000000 →
    ∃ K, ∀ k, K ≤ k → laws_heldVoyageS.l0 k (D ++ markVS a R) a (D.length : Int) = some (a + cntV R)
  | [], D, a, _, _, _, _ => ⟨1, fun k hk => by
    obtain ⟨k, rfl⟩ : ∃ m, k = m + 1 := ⟨k - 1, by omega⟩
    simp only [laws_heldVoyageS.l0]
    rw [if_neg (by simp [markVS])]
    simp [cntV]⟩
  | v :: R, D, a, hl, hv, ha, hc => by
    have hc' := cntV_nn R
    simp only [cntV] at hc
    simp only [List.length_cons] at hl
    have hvl := hv v (by simp)
    obtain ⟨K1, e1⟩ := heldIntS_ev v.f1.length (a + 1) (by omega) (by omega)
    obtain ⟨K2, e2⟩ := heldVoyageS_l0 R (D ++ [⟨a, mk (a + 1) v.f1.length⟩]) (a + 1 + v.f1.length) (by simp; omega) (fun u hu => hv u (List.mem_cons_of_mem _ hu)) (by omega) (by omega)
    refine ⟨K1 + K2 + 1, fun k hk => ?_⟩
    obtain ⟨k, rfl⟩ : ∃ m, k = m + 1 := ⟨k - 1, by omega⟩
    have h2 := e2 k (by omega)
    have hm : markVS a (v :: R) = ⟨a, mk (a + 1) v.f1.length⟩ :: markVS (a + 1 + v.f1.length) R := rfl
    rw [hm]
    simp only [laws_heldVoyageS.l0]
    rw [if_pos (by simp; omega), if_pos (by omega), rdv_at, if_pos rfl, w64 (by omega) (by omega), e1 k (by omega), Option.bind_some, if_neg (by omega), w64 (by omega) (by omega)]
    rw [List.append_assoc, List.singleton_append, List.length_append, List.length_singleton, show ((D.length + 1 : Nat) : Int) = (D.length : Int) + 1 by omega] at h2
    rw [h2]
    simp only [cntV]
    congr 1
    omega
theorem heldVoyageS_ev (L : List S43) (a : Int) (hl : L.length ≤ 1048576) (hv : ∀ v ∈ L, v.f1.length ≤ 1048576) (ha : 0 ≤ a) (ha2 : a ≤ 100000000000) : ∃ K, ∀ k, K ≤ k → laws_heldVoyageS.f k (markVS a L) a = some (a + cntV L) := by
  have h1 := cntV_le 1048576 L hv
  have h2 : (L.length : Int) * (1 + ((1048576 : Nat) : Int)) ≤ 1048576 * 1048577 := by omega
  obtain ⟨K, e⟩ := heldVoyageS_l0 L [] a (by simp; omega) (fun v hvm => by have := hv v hvm; omega) ha (by omega)
  exact ⟨K, fun k hk => by unfold laws_heldVoyageS.f; simpa using e k hk⟩

/-- Places as one number over a base. -/
def codeB (B : Int) : Int → List Int → Int
  | p, [] => p
  | p, x :: l => codeB B (p * B + x) l
theorem codeB_inj (B : Int) (hB : 0 < B) : ∀ (l m : List Int) (p q : Int), l.length = m.length → (∀ x ∈ l, 0 ≤ x ∧ x < B) → (∀ x ∈ m, 0 ≤ x ∧ x < B) → codeB B p l = codeB B q m → p = q ∧ l = m
  | [], [], p, q, _, _, _, h => ⟨h, rfl⟩
  | [], y :: m, p, q, hl, _, _, h => by simp at hl
  | x :: l, [], p, q, hl, _, _, h => by simp at hl
  | x :: l, y :: m, p, q, hl, hx, hy, h => by
    have h1 := codeB_inj B hB l m (p * B + x) (q * B + y) (by simpa using hl) (fun z hz => hx z (List.mem_cons_of_mem _ hz)) (fun z hz => hy z (List.mem_cons_of_mem _ hz)) h
    have hx0 := hx x (List.mem_cons_self ..)
    have hy0 := hy y (List.mem_cons_self ..)
    have e1 : (p * B + x) / B = p := by
      rw [Int.add_comm, Int.add_mul_ediv_right _ _ (by omega), Int.ediv_eq_zero_of_lt hx0.1 hx0.2]
      omega
    have e2 : (q * B + y) / B = q := by
      rw [Int.add_comm, Int.add_mul_ediv_right _ _ (by omega), Int.ediv_eq_zero_of_lt hy0.1 hy0.2]
      omega
    have h2 : p = q := by rw [← e1, ← e2, h1.1]
    subst h2
    exact ⟨rfl, by rw [show x = y by have := h1.1; omega, h1.2]⟩
theorem codeB_iff (B : Int) (hB : 0 < B) (l m : List Int) (p q : Int) (hl : l.length = m.length) (hx : ∀ x ∈ l, 0 ≤ x ∧ x < B) (hy : ∀ x ∈ m, 0 ≤ x ∧ x < B) : codeB B p l = codeB B q m ↔ p = q ∧ l = m :=
  ⟨codeB_inj B hB l m p q hl hx hy, fun h => by rw [h.1, h.2]⟩
theorem code_step (B s x : Int) (j : Nat) (hB : 2 ≤ B ∧ B ≤ 4) (hs : 0 ≤ s ∧ s < 4 ^ j) (hx : 0 ≤ x ∧ x < B) (hj : j ≤ 20) :
    wrap64 (s * B) = s * B ∧ wrap64 (s * B + x) = s * B + x ∧ 0 ≤ s * B + x ∧ s * B + x < 4 ^ (j + 1) := by
  have h1 : (4 : Int) ^ (j + 1) = 4 ^ j * 4 := by rw [Int.pow_succ]
  have h2 : (4 : Int) ^ j ≤ 4 ^ 20 := by
    exact_mod_cast Nat.pow_le_pow_right (n := 4) (by omega) hj
  have h3 : (4 : Int) ^ 20 = 1099511627776 := by decide
  generalize (4 : Int) ^ j = P at *
  have hc : B = 2 ∨ B = 3 ∨ B = 4 := by omega
  rcases hc with rfl | rfl | rfl
  all_goals exact ⟨w64 (by omega) (by omega), w64 (by omega) (by omega), by omega, by omega⟩
theorem isCode_l0 (a b c : Int) (l : List Int) (hc : 0 ≤ c ∧ c ≤ 2) (hl : l.length ≤ 10) (hx : ∀ x ∈ l, 0 ≤ x ∧ x < c + 2) : ∀ (d k i j : Nat) (s : Int), i + d = l.length → 0 ≤ s ∧ s < 4 ^ j → j + d ≤ 20 → d < k →
    spec_isCode.l0 k s l (l.length : Int) (i : Int) a b c = some (codeB (c + 2) s (l.drop i)) := by
  intro d
  induction d with
  | zero =>
    intro k i j s hi hs hj hk
    obtain ⟨k, rfl⟩ : ∃ m, k = m + 1 := ⟨k - 1, by omega⟩
    simp only [spec_isCode.l0]
    rw [if_neg (by omega), List.drop_eq_nil_of_le (by omega)]
    rfl
  | succ d ih =>
    intro k i j s hi hs hj hk
    obtain ⟨k, rfl⟩ : ∃ m, k = m + 1 := ⟨k - 1, by omega⟩
    obtain ⟨z, t, hd, hz, ht⟩ := drop_cons l i (by omega)
    have hzm := hx z (List.mem_of_getElem? hz)
    obtain ⟨e1, e2, e3, e4⟩ := code_step (c + 2) s z j (by omega) hs hzm (by omega)
    have := ih k (i + 1) (j + 1) (s * (c + 2) + z) (by omega) ⟨e3, e4⟩ (by omega) (by omega)
    rw [show ((i + 1 : Nat) : Int) = (i : Int) + 1 by omega] at this
    simp only [spec_isCode.l0]
    rw [if_pos (by omega), if_pos (by omega), if_pos (by omega), rd_at hz, w64 (a := c + 2) (by omega) (by omega), e1, e2, w64 (a := (i : Int) + 1) (by omega) (by omega), this, hd, ht]
    rfl
theorem isCode_at (a b c : Int) (l : List Int) (p : Int) (hc : 0 ≤ c ∧ c ≤ 2) (hl : l.length ≤ 10) (hp : 0 ≤ p ∧ p ≤ 3) (hx : ∀ x ∈ l, 0 ≤ x ∧ x < c + 2) (k : Nat) (hk : 11 < k) :
    spec_isCode.f k a b c l p = some (codeB (c + 2) p l) := by
  unfold spec_isCode.f
  exact isCode_l0 a b c l hc hl hx l.length k 0 1 p (by omega) ⟨by omega, by rw [show (4 : Int) ^ 1 = 4 by decide]; omega⟩ (by omega) (by omega)
theorem code_l0 (l : List Int) (hl : l.length ≤ 10) (hx : ∀ x ∈ l, 0 ≤ x ∧ x < 4) : ∀ (d k i j : Nat) (s : Int), i + d = l.length → 0 ≤ s ∧ s < 4 ^ j → j + d ≤ 20 → d < k →
    impl_Places_code.l0 k s l (l.length : Int) (i : Int) = some (codeB 4 s (l.drop i)) := by
  intro d
  induction d with
  | zero =>
    intro k i j s hi hs hj hk
    obtain ⟨k, rfl⟩ : ∃ m, k = m + 1 := ⟨k - 1, by omega⟩
    simp only [impl_Places_code.l0]
    rw [if_neg (by omega), List.drop_eq_nil_of_le (by omega)]
    rfl
  | succ d ih =>
    intro k i j s hi hs hj hk
    obtain ⟨k, rfl⟩ : ∃ m, k = m + 1 := ⟨k - 1, by omega⟩
    obtain ⟨z, t, hd, hz, ht⟩ := drop_cons l i (by omega)
    have hzm := hx z (List.mem_of_getElem? hz)
    obtain ⟨e1, e2, e3, e4⟩ := code_step 4 s z j (by omega) hs hzm (by omega)
    have := ih k (i + 1) (j + 1) (s * 4 + z) (by omega) ⟨e3, e4⟩ (by omega) (by omega)
    rw [show ((i + 1 : Nat) : Int) = (i : Int) + 1 by omega] at this
    simp only [impl_Places_code.l0]
    rw [if_pos (by omega), if_pos (by omega), if_pos (by omega), rd_at hz, e1, e2, w64 (a := (i : Int) + 1) (by omega) (by omega), this, hd, ht]
    rfl
theorem code_at (l : List Int) (p : Int) (hl : l.length ≤ 10) (hp : 0 ≤ p ∧ p ≤ 3) (hx : ∀ x ∈ l, 0 ≤ x ∧ x < 4) (k : Nat) (hk : 11 < k) :
    impl_Places_code.f k l p = some (codeB 4 p l) := by
  unfold impl_Places_code.f
  exact code_l0 l hl hx l.length k 0 1 p (by omega) ⟨by omega, by rw [show (4 : Int) ^ 1 = 4 by decide]; omega⟩ (by omega) (by omega)
/-- Where the boat lies before each voyage. -/
def priors : Int → List S43 → List Int
  | _, [] => []
  | p, v :: vs => p :: priors v.f0 vs
/-- The voyages told back, the last one last. -/
def backs (f : Int) : Int → List S43 → List S43
  | _, [] => []
  | p, v :: vs => ⟨f - p, v.f1⟩ :: backs f v.f0 vs
theorem priors_length : ∀ (vs : List S43) (p : Int), (priors p vs).length = vs.length
  | [], p => rfl
  | v :: vs, p => by simp [priors, priors_length vs]
theorem backs_length (f : Int) : ∀ (vs : List S43) (p : Int), (backs f p vs).length = vs.length
  | [], p => rfl
  | v :: vs, p => by simp [backs, backs_length f vs]
theorem backs_at (f : Int) : ∀ (vs : List S43) (p : Int) (i : Nat) (z : S43), vs[i]? = some z → ∃ q, (priors p vs)[i]? = some q ∧ (backs f p vs)[i]? = some ⟨f - q, z.f1⟩
  | [], p, i, z, h => by simp at h
  | v :: vs, p, 0, z, h => by
    simp only [List.getElem?_cons_zero, Option.some.injEq] at h
    subst h
    exact ⟨p, rfl, rfl⟩
  | v :: vs, p, i + 1, z, h => by
    simp only [List.getElem?_cons_succ] at h
    obtain ⟨q, h1, h2⟩ := backs_at f vs v.f0 i z h
    exact ⟨q, by simpa [priors] using h1, by simpa [backs] using h2⟩
theorem priors_in (c : Int) : ∀ (vs : List S43) (p : Int), (0 ≤ p ∧ p ≤ c) → (∀ v ∈ vs, 0 ≤ v.f0 ∧ v.f0 ≤ c) → ∀ q ∈ priors p vs, 0 ≤ q ∧ q ≤ c
  | [], p, _, _, q, hq => by simp [priors] at hq
  | v :: vs, p, hp, hv, q, hq => by
    simp only [priors, List.mem_cons] at hq
    rcases hq with rfl | hq
    · exact hp
    · exact priors_in c vs v.f0 (hv v (List.mem_cons_self ..)) (fun u hu => hv u (List.mem_cons_of_mem _ hu)) q hq
theorem setAll_in (tt : Int) (P : Int → Prop) (ht : P tt) (g : List Int) : ∀ l : List Int, (∀ x ∈ l, P x) → ∀ x ∈ setAll tt g l, P x := by
  induction g with
  | nil => intro l h; exact h
  | cons y g ih =>
    intro l h
    refine ih _ (fun x hx => ?_)
    rcases List.mem_or_eq_of_mem_set hx with h1 | h1
    · exact h x h1
    · exact h1 ▸ ht
theorem play_in (n : Nat) (b c : Int) : ∀ (vs : List S43) (i : Nat) (l : List Int) (p : Int), (play n b c vs i l p).2.2 = none → (0 ≤ p ∧ p ≤ c + 1) → (∀ x ∈ l, 0 ≤ x ∧ x ≤ c + 1) →
    (∀ v ∈ vs, 0 ≤ v.f0 ∧ v.f0 ≤ c + 1) ∧ (∀ v ∈ vs, (v.f1.length : Int) ≤ b) ∧ (0 ≤ (play n b c vs i l p).2.1 ∧ (play n b c vs i l p).2.1 ≤ c + 1) ∧ ∀ x ∈ (play n b c vs i l p).1, 0 ≤ x ∧ x ≤ c + 1 := by
  intro vs
  induction vs with
  | nil =>
    intro i l p _ hp hx
    exact ⟨by simp, by simp, hp, hx⟩
  | cons v vs ih =>
    intro i l p h hp hx
    simp only [play] at h ⊢
    by_cases hv : voyB n b c l p v.f0 v.f1 = true
    · rw [if_pos hv] at h
      simp only [if_pos hv]
      have hV := (voyB_iff _ _ _ _ _ _ _).1 hv
      obtain ⟨h1, h0, h2, h3⟩ := ih (i + 1) (setAll v.f0 v.f1 l) v.f0 h hV.1 (setAll_in v.f0 (fun x => 0 ≤ x ∧ x ≤ c + 1) hV.1 v.f1 l hx)
      refine ⟨fun u hu => ?_, fun u hu => ?_, h2, h3⟩
      · rcases List.mem_cons.1 hu with rfl | hu
        · exact hV.1
        · exact h1 u hu
      · rcases List.mem_cons.1 hu with rfl | hu
        · exact hV.2.2.1.2
        · exact h0 u hu
    · rw [if_neg hv] at h
      simp at h
theorem BackS_l0 (n : Nat) (b c : Int) (vs : List S43) (hgd : good (n : Int) b c = true) (hvs : vs.length ≤ 1000) : ∀ (d k i : Nat) (l : List Int) (p : Int) (x7 : List Int), i + d = vs.length → x7.length = i → l.length = 2 * n → d + 30000 < k →
    spec_BackVoyages.l0 k vs x7 vs (vs.length : Int) (i : Int) (n : Int) b c l p = match (play n b c (vs.drop i) i l p).2.2 with
      | some _ => some ([], false)
      | none => spec_BackVoyages.l0 (k - d) vs (x7 ++ priors p (vs.drop i)) vs (vs.length : Int) (vs.length : Int) (n : Int) b c (play n b c (vs.drop i) i l p).1 (play n b c (vs.drop i) i l p).2.1 := by
  have hg' := good_of hgd
  intro d
  induction d with
  | zero =>
    intro k i l p x7 hi h7 hl hk
    have : i = vs.length := by omega
    subst this
    rw [List.drop_eq_nil_of_le (by omega)]
    simp [play, priors]
  | succ d ih =>
    intro k i l p x7 hi h7 hl hk
    obtain ⟨k, rfl⟩ : ∃ m, k = m + 1 := ⟨k - 1, by omega⟩
    obtain ⟨z, t, hd, hz, ht⟩ := drop_cons vs i (by omega)
    rw [show k + 1 - (d + 1) = k - d by omega]
    conv => lhs; simp only [spec_BackVoyages.l0]
    rw [if_pos (by omega), if_pos (by omega), if_pos (by omega), rdp_at hz, isCan_at n b c l p z.f0 z.f1 hgd hl k (by omega), Option.bind_some, hd]
    by_cases hv : voyB n b c l p z.f0 z.f1 = true
    · obtain ⟨hg1, hg2⟩ := voy_rows hl (by omega) hv
      rw [if_pos hv, if_pos (by omega), isSail_at l z.f1 p z.f0 (by omega) (by omega) hg2 k (by omega), Option.bind_some, w64 (by omega) (by omega)]
      have := ih k (i + 1) (setAll z.f0 z.f1 l) z.f0 (x7 ++ [p]) (by omega) (by simp [h7]) (by rw [setAll_length]; exact hl) (by omega)
      rw [show ((i + 1 : Nat) : Int) = (i : Int) + 1 by omega, ht] at this
      simp only [play, if_pos hv, priors]
      rw [List.append_assoc, List.singleton_append] at this
      exact this
    · rw [if_neg hv]
      simp only [play, if_neg hv]
theorem BackS_l1 (vs : List S43) (a b c p : Int) (hc : 0 ≤ c ∧ c ≤ 2) (hvs : vs.length ≤ 1000) (hp : 0 ≤ p ∧ p ≤ c + 1) (hv : ∀ v ∈ vs, 0 ≤ v.f0 ∧ v.f0 ≤ c + 1) (hr : ∀ v ∈ vs, (v.f1.length : Int) ≤ b) (hb : b ≤ 3) : ∀ (i k : Nat), i ≤ vs.length → i < k →
    spec_BackVoyages.l1 k vs (priors p vs) ((backs (c + 1) p vs).drop i).reverse ((i : Int) - 1) a b c = some ((backs (c + 1) p vs).reverse, true) := by
  intro i
  induction i with
  | zero =>
    intro k hi hk
    obtain ⟨k, rfl⟩ : ∃ m, k = m + 1 := ⟨k - 1, by omega⟩
    simp only [spec_BackVoyages.l1]
    rw [if_neg (by omega), List.drop_zero]
  | succ i ih =>
    intro k hi hk
    obtain ⟨k, rfl⟩ : ∃ m, k = m + 1 := ⟨k - 1, by omega⟩
    obtain ⟨z, t, hd, hz, ht⟩ := drop_cons vs i (by omega)
    obtain ⟨q, h1, h2⟩ := backs_at (c + 1) vs p i z hz
    have hq := priors_in (c + 1) vs p hp hv q (List.mem_of_getElem? h1)
    have hzr := hr z (List.mem_of_getElem? hz)
    obtain ⟨z', t', hd', hz', ht'⟩ := drop_cons (backs (c + 1) p vs) i (by rw [backs_length]; omega)
    rw [hz', Option.some.injEq] at h2
    have := ih k (by omega) (by omega)
    rw [hd', List.reverse_cons, h2, ← ht'] at this
    have hlen : ((backs (c + 1) p vs).drop (i + 1)).reverse.length ≤ 1000 := by simp [backs_length]; omega
    simp only [spec_BackVoyages.l1, spec_l1Own.f]
    rw [show ((i + 1 : Nat) : Int) - 1 = (i : Int) by omega, if_pos (by omega), if_pos (by omega), priors_length, if_pos (by omega), if_pos (by omega), rdp_at hz, Option.bind_some, if_pos (by simp; omega), Option.bind_some, if_pos (by omega), rd_at h1, w64 (a := c + 1) (by omega) (by omega), w64 (a := c + 1 - q) (by omega) (by omega), w64 (by omega) (by omega), List.nil_append]
    exact this
theorem BackI_l0 (vs : List S43) (a b c : Int) (hc : 0 ≤ c ∧ c ≤ 2) (hvs : vs.length ≤ 1000) (hv : ∀ v ∈ vs, 0 ≤ v.f0 ∧ v.f0 ≤ c + 1) (hr : ∀ v ∈ vs, (v.f1.length : Int) ≤ b) (hb : b ≤ 3) : ∀ (d k i : Nat) (p : Int) (out : List S43), i + d = vs.length → out.length = i → (0 ≤ p ∧ p ≤ c + 1) → d < k →
    impl_BackVoyages.l0 k out p vs (vs.length : Int) (i : Int) a b c = some ((out ++ backs (c + 1) p (vs.drop i)).reverse, true) := by
  intro d
  induction d with
  | zero =>
    intro k i p out hi ho hp hk
    obtain ⟨k, rfl⟩ : ∃ m, k = m + 1 := ⟨k - 1, by omega⟩
    simp only [impl_BackVoyages.l0, impl_Voyage.f]
    rw [if_neg (by omega), List.drop_eq_nil_of_le (by omega), if_pos (by omega), Option.bind_some]
    simp [backs]
  | succ d ih =>
    intro k i p out hi ho hp hk
    obtain ⟨k, rfl⟩ : ∃ m, k = m + 1 := ⟨k - 1, by omega⟩
    obtain ⟨z, t, hd, hz, ht⟩ := drop_cons vs i (by omega)
    have hz0 := hv z (List.mem_of_getElem? hz)
    have hz1 := hr z (List.mem_of_getElem? hz)
    have := ih k (i + 1) z.f0 (out ++ [⟨c + 1 - p, z.f1⟩]) (by omega) (by simp [ho]) hz0 (by omega)
    rw [show ((i + 1 : Nat) : Int) = (i : Int) + 1 by omega, ht, List.append_assoc, List.singleton_append] at this
    simp only [impl_BackVoyages.l0, impl_Isles_far.f, slices_Clone_int_int.f]
    rw [if_pos (by omega), if_pos (by omega), if_pos (by omega), Option.bind_some, rdp_at hz, if_pos (by omega), Option.bind_some, if_pos (by omega), w64 (a := c + 1) (by omega) (by omega), w64 (a := c + 1 - p) (by omega) (by omega), w64 (by omega) (by omega), hd]
    exact this

theorem backs_row (f b : Int) : ∀ (vs : List S43) (p : Int), (∀ v ∈ vs, (v.f1.length : Int) ≤ b) → ∀ v ∈ backs f p vs, (v.f1.length : Int) ≤ b
  | [], p, _, v, h => by simp [backs] at h
  | u :: vs, p, hb, v, h => by
    simp only [backs, List.mem_cons] at h
    rcases h with rfl | h
    · exact hb u (List.mem_cons_self ..)
    · exact backs_row f b vs u.f0 (fun w hw => hb w (List.mem_cons_of_mem _ hw)) v h
theorem BackVoyages_both (a b c : Int) (L : List S43) (hL0 : L.length ≤ 1048576) : ∃ (R : List S43) (ok : Bool) (K : Nat), R.length ≤ 1000 ∧ (∀ v ∈ R, v.f1.length ≤ 3) ∧ ∀ k, K ≤ k → spec_BackVoyages.f k a b c L = some (R, ok) ∧ impl_BackVoyages.f k a b c L = some (R, ok) := by
  by_cases hg : good a b c = true
  · have hg' := good_of hg
    obtain ⟨n, rfl⟩ := Int.eq_ofNat_of_zero_le (show 0 ≤ a by omega)
    by_cases hL : (L.length : Int) > 40
    · refine ⟨[], false, 1, by simp, by simp, fun k hk => ?_⟩
      obtain ⟨m, rfl⟩ : ∃ m, k = m + 1 := ⟨k - 1, by omega⟩
      refine ⟨?_, ?_⟩
      · unfold spec_BackVoyages.f
        rw [spec_isGood_eq, Option.bind_some, if_pos hg]
        simp only [spec_BackVoyages.j0]
        rw [if_pos (by simpa using hL)]
      · unfold impl_BackVoyages.f
        rw [impl_IsIsles_eq, Option.bind_some, if_pos hg]
        simp only [impl_BackVoyages.j0]
        rw [if_pos (by simpa using hL)]
    · obtain ⟨K1, e1⟩ := spec_isAll_ev (n : Int) b c 0 hg'.1 hg'.2.1
      obtain ⟨K2, e2⟩ := spec_isAll_ev (n : Int) b c (c + 1) hg'.1 hg'.2.1
      have i1 := impl_allIn_eq (n : Int) b c 0 hg'.1 hg'.2.1
      have i2 := impl_allIn_eq (n : Int) b c (c + 1) hg'.1 hg'.2.1
      generalize hA : (List.replicate (2 * (n : Int)).toNat (0 : Int)) = A at *
      generalize hF : (List.replicate (2 * (n : Int)).toNat (c + 1)) = F at *
      have hAl : A.length = 2 * n := by rw [← hA]; simp; omega
      have hFl : F.length = 2 * n := by rw [← hF]; simp; omega
      have hAx : ∀ x ∈ A, 0 ≤ x ∧ x ≤ c + 1 := fun x hx => by
        rw [← hA] at hx
        have := List.eq_of_mem_replicate hx
        omega
      have hFx : ∀ x ∈ F, 0 ≤ x ∧ x ≤ c + 1 := fun x hx => by
        rw [← hF] at hx
        have := List.eq_of_mem_replicate hx
        omega
      have s1 := fun k hk => BackS_l0 n b c L hg (by omega) L.length k 0 A 0 [] (by omega) rfl hAl hk
      rw [show ((0 : Nat) : Int) = 0 from rfl, List.drop_zero] at s1
      have s2 := fun k hk => sailed_at n b c L A 0 hg (by omega) hAl k hk
      have fr : impl_Isles_far.f (n : Int) b c = some (c + 1) := by
        unfold impl_Isles_far.f
        rw [w64 (by omega) (by omega)]
      have hpl := play_length n b c L 0 A 0
      have hpi := play_in n b c L 0 A 0
      cases ho : (play n b c L 0 A 0).2.2 with
      | some j =>
        refine ⟨[], false, K1 + 60000, by simp, by simp, fun k hk => ?_⟩
        obtain ⟨m, rfl⟩ : ∃ m, k = m + 1 := ⟨k - 1, by omega⟩
        refine ⟨?_, ?_⟩
        · unfold spec_BackVoyages.f
          rw [spec_isGood_eq, Option.bind_some, if_pos hg]
          simp only [spec_BackVoyages.j0]
          rw [if_neg (by simpa using hL), e1 m (by omega), Option.bind_some]
          dsimp only
          rw [s1 m (by omega), ho]
        · unfold impl_BackVoyages.f
          rw [impl_IsIsles_eq, Option.bind_some, if_pos hg]
          simp only [impl_BackVoyages.j0]
          rw [if_neg (by simpa using hL), i1, Option.bind_some]
          dsimp only
          rw [s2 m (by omega), ho, Option.bind_some]
          have hj : ((j : Nat) : Int) ≥ 0 := Int.natCast_nonneg j
          dsimp only
          rw [if_pos hj]
          obtain ⟨m, rfl⟩ : ∃ q, m = q + 1 := ⟨m - 1, by omega⟩
          simp only [impl_BackVoyages.j1, if_true]
      | none =>
        obtain ⟨hv0, hv1, hq, hQ⟩ := hpi ho (by omega) hAx
        generalize hP : (play n b c L 0 A 0).1 = P at *
        generalize hB : (play n b c L 0 A 0).2.1 = q at *
        have c1 := isCode_at (n : Int) b c P q (by omega) (by omega) (by omega) (fun x hx => by have := hQ x hx; omega)
        have c2 := isCode_at (n : Int) b c F (c + 1) (by omega) (by omega) (by omega) (fun x hx => by have := hFx x hx; omega)
        have d1 := code_at P q (by omega) (by omega) (fun x hx => by have := hQ x hx; omega)
        have d2 := code_at F (c + 1) (by omega) (by omega) (fun x hx => by have := hFx x hx; omega)
        have k1 := codeB_iff (c + 2) (by omega) P F q (c + 1) (by omega) (fun x hx => by have := hQ x hx; omega) (fun x hx => by have := hFx x hx; omega)
        have k2 := codeB_iff 4 (by omega) P F q (c + 1) (by omega) (fun x hx => by have := hQ x hx; omega) (fun x hx => by have := hFx x hx; omega)
        by_cases hE : q = c + 1 ∧ P = F
        · have t1 := k1.2 hE
          have t2 := k2.2 hE
          refine ⟨(backs (c + 1) 0 L).reverse, true, K1 + K2 + 60000, ?_, fun v hv => ?_, fun k hk => ?_⟩
          · simp [backs_length]
            omega
          · have := backs_row (c + 1) b L 0 hv1 v (List.mem_reverse.1 hv)
            omega
          · obtain ⟨m, rfl⟩ : ∃ m, k = m + 1 := ⟨k - 1, by omega⟩
            refine ⟨?_, ?_⟩
            · unfold spec_BackVoyages.f
              rw [spec_isGood_eq, Option.bind_some, if_pos hg]
              simp only [spec_BackVoyages.j0]
              rw [if_neg (by simpa using hL), e1 m (by omega), Option.bind_some]
              dsimp only
              rw [s1 m (by omega), ho]
              dsimp only
              obtain ⟨r, hr⟩ : ∃ r, m - L.length = r + 1 := ⟨m - L.length - 1, by omega⟩
              rw [hr]
              simp only [spec_BackVoyages.l0]
              rw [if_neg (by omega), c1 r (by omega), Option.bind_some, w64 (a := c + 1) (by omega) (by omega), e2 r (by omega), Option.bind_some]
              dsimp only
              rw [c2 r (by omega), Option.bind_some, if_pos t1, w64 (by omega) (by omega)]
              have := BackS_l1 L (n : Int) b c 0 (by omega) (by omega) (by omega) hv0 hv1 (by omega) L.length r (Nat.le_refl _) (by omega)
              rw [List.drop_eq_nil_of_le (by rw [backs_length]; exact Nat.le_refl _)] at this
              exact this
            · unfold impl_BackVoyages.f
              rw [impl_IsIsles_eq, Option.bind_some, if_pos hg]
              simp only [impl_BackVoyages.j0]
              rw [if_neg (by simpa using hL), i1, Option.bind_some]
              dsimp only
              rw [s2 m (by omega), ho, Option.bind_some]
              dsimp only
              rw [if_neg (by omega), d1 m (by omega), Option.bind_some]
              rw [fr, Option.bind_some, i2, Option.bind_some]
              dsimp only
              rw [d2 m (by omega), Option.bind_some]
              obtain ⟨m, rfl⟩ : ∃ q, m = q + 1 := ⟨m - 1, by omega⟩
              simp only [impl_BackVoyages.j1]
              rw [if_neg (by simpa using t2)]
              have := BackI_l0 L (n : Int) b c (by omega) (by omega) hv0 hv1 (by omega) L.length m 0 0 [] (by omega) rfl (by omega) (by omega)
              rw [List.drop_zero, List.nil_append] at this
              exact this
        · refine ⟨[], false, K1 + K2 + 60000, by simp, by simp, fun k hk => ?_⟩
          have t1 : ¬ codeB (c + 2) q P = codeB (c + 2) (c + 1) F := fun h => hE (k1.1 h)
          have t2 : ¬ codeB 4 q P = codeB 4 (c + 1) F := fun h => hE (k2.1 h)
          obtain ⟨m, rfl⟩ : ∃ m, k = m + 1 := ⟨k - 1, by omega⟩
          refine ⟨?_, ?_⟩
          · unfold spec_BackVoyages.f
            rw [spec_isGood_eq, Option.bind_some, if_pos hg]
            simp only [spec_BackVoyages.j0]
            rw [if_neg (by simpa using hL), e1 m (by omega), Option.bind_some]
            dsimp only
            rw [s1 m (by omega), ho]
            dsimp only
            obtain ⟨r, hr⟩ : ∃ r, m - L.length = r + 1 := ⟨m - L.length - 1, by omega⟩
            rw [hr]
            simp only [spec_BackVoyages.l0]
            rw [if_neg (by omega), c1 r (by omega), Option.bind_some, w64 (a := c + 1) (by omega) (by omega), e2 r (by omega), Option.bind_some]
            dsimp only
            rw [c2 r (by omega), Option.bind_some, if_neg t1]
          · unfold impl_BackVoyages.f
            rw [impl_IsIsles_eq, Option.bind_some, if_pos hg]
            simp only [impl_BackVoyages.j0]
            rw [if_neg (by simpa using hL), i1, Option.bind_some]
            dsimp only
            rw [s2 m (by omega), ho, Option.bind_some]
            dsimp only
            rw [if_neg (by omega), d1 m (by omega), Option.bind_some]
            rw [fr, Option.bind_some, i2, Option.bind_some]
            dsimp only
            rw [d2 m (by omega), Option.bind_some]
            obtain ⟨m, rfl⟩ : ∃ q, m = q + 1 := ⟨m - 1, by omega⟩
            simp only [impl_BackVoyages.j1]
            rw [if_pos (by simpa using t2)]
  · refine ⟨[], false, 1, by simp, by simp, fun k hk => ?_⟩
    obtain ⟨m, rfl⟩ : ∃ m, k = m + 1 := ⟨k - 1, by omega⟩
    refine ⟨?_, ?_⟩
    · unfold spec_BackVoyages.f
      rw [spec_isGood_eq, Option.bind_some, if_neg hg]
      simp [spec_BackVoyages.j0]
    · unfold impl_BackVoyages.f
      rw [impl_IsIsles_eq, Option.bind_some, if_neg hg]
      simp [impl_BackVoyages.j0]
theorem FnExactBackVoyages : laws_FnExactBackVoyages.Pure := by
  intro a b c vs _ _ _ hvs
  obtain ⟨r, K0, h2, e0⟩ := szVoyageS_ev vs 1048576 hvs.1 (fun v hv => (hvs.2 v hv).2.1) (by omega) (by omega)
  by_cases hr : r < 0
  · refine ⟨K0, ?_⟩
    simp [laws_FnExactBackVoyages.f, e0, hr]
  · obtain ⟨h3, h4⟩ := h2 (by omega)
    have hc1 : (vs.map conv).length ≤ 1048576 := by simp; omega
    have hc2 : ∀ v ∈ vs.map conv, v.f1.length ≤ 1048576 := fun v hv => by
      obtain ⟨u, hu, rfl⟩ := List.mem_map.1 hv
      have := h4 u hu
      simp only [conv]
      omega
    obtain ⟨K1, e1⟩ := toVoyageS_ev vs (by omega) (fun v hv => by have := h4 v hv; omega)
    obtain ⟨L, ok, K2, hL, hL2, e2⟩ := BackVoyages_both a b c (vs.map conv) hc1
    have e2a := fun k hk => (e2 k hk).1
    have e2b := fun k hk => (e2 k hk).2
    have hL3 : ∀ v ∈ L, v.f1.length ≤ 1048576 := fun v hv => by have := hL2 v hv; omega
    obtain ⟨K7, e7⟩ := eqVoyageS_ev L (by omega) hL3
    obtain ⟨K6, e6⟩ := eqVoyageS_ev (vs.map conv) hc1 hc2
    obtain ⟨K8, e8⟩ := markVoyageS_ev (vs.map conv) 1 hc1 hc2 (by omega) (by omega)
    obtain ⟨K9, e9⟩ := markVoyageS_ev L 1 (by omega) hL3 (by omega) (by omega)
    obtain ⟨K10, e10⟩ := heldVoyageS_ev L 1 (by omega) hL3 (by omega) (by omega)
    have hn := cntV_nn L
    have hn2 := cntV_nn (vs.map conv)
    have h5 : ¬ (1 + cntV (vs.map conv) < 0) := by omega
    have h6 : ¬ (1 + cntV L < 0) := by omega
    refine ⟨K0 + K1 + K2 + K6 + K7 + K8 + K9 + K10, ?_⟩
    generalize hk : K0 + K1 + K2 + K6 + K7 + K8 + K9 + K10 = k
    unfold laws_FnExactBackVoyages.f
    rw [e0 k (by omega), Option.bind_some, if_neg hr]
    simp only [laws_toIsles.f, Option.bind_some]
    rw [e1 k (by omega), Option.bind_some, e2a k (by omega), Option.bind_some, Option.bind_some]
    try dsimp only
    rw [e2b k (by omega), Option.bind_some]
    try dsimp only
    rw [e7 k (by omega), Option.bind_some, if_pos rfl, if_neg (by simp), Option.bind_some]
    try dsimp only
    rw [e6 k (by omega), Option.bind_some, if_pos (by simp), e8 k (by omega), Option.bind_some]
    try dsimp only
    rw [if_neg h5, Option.bind_some, if_pos rfl, e9 k (by omega), Option.bind_some]
    try dsimp only
    rw [e10 k (by omega), Option.bind_some, if_neg h6, if_pos rfl, Option.bind_some]
    try dsimp only
    rw [e2b k (by omega), Option.bind_some]
    try dsimp only
    rw [e7 k (by omega), Option.bind_some, if_pos rfl, if_neg (by simp), Option.bind_some, if_neg h6, if_pos rfl]
end Go.Proofs.Ytldeaeeolibpjag.Q.Pure
