/- The plain laws of this claim: over numbers and lists alone. -/
import Derived.Test.YtldeaeeolibpjaaQx
import Derived.Laws.BitsLemmas
namespace Go.Proofs.Ytldeaeeolibpjaa.Q.Pure
open Go.RowKit Go.Proofs.Ytldeaeeolibpjaa Go.Proofs.Ytldeaeeolibpjaa.Q Go.Proofs.YtldeaeeolibpjaaW.PrintWords Go.Proofs.YtldeaeeolibpjaaW.PrintLast Go.Proofs.YtldeaeeolibpjaaW.PrintMore

theorem w64 {a : Int} (h0 : -9223372036854775808 ≤ a) (h1 : a ≤ 9223372036854775807) : wrap64 a = a := by unfold wrap64; omega

/-- a, a + 1, .., n numbers. -/
def mk (a : Int) : Nat → List Int
  | 0 => []
  | n + 1 => a :: mk (a + 1) n
theorem mk_length (a : Int) (n : Nat) : (mk a n).length = n := by induction n generalizing a with
  | zero => rfl
  | succ n ih => simp [mk, ih]
theorem mk_at (n : Nat) : ∀ (a : Int) (i : Nat), i < n → (mk a n)[i]? = some (a + i) := by
  induction n with
  | zero => intro a i h; omega
  | succ n ih =>
    intro a i h
    cases i with
    | zero => simp [mk]
    | succ i => simp only [mk, List.getElem?_cons_succ]; rw [ih (a + 1) i (by omega)]; congr 1; omega
theorem rd_at {l : List Int} {i : Nat} {x : Int} (h : l[i]? = some x) : rd l (i : Int) = x := by simp [rd, h]
theorem rd_of {l : List Int} {i : Nat} (h : i < l.length) : l[i]? = some (rd l (i : Int)) := by simp [rd, h]

theorem toIntS_l0 (l : List Int) (hl : l.length ≤ 35184372088832) : ∀ (d k i : Nat) (y : List Int), y.length = l.length → i + d = l.length → (∀ j, j < i → y[j]? = l[j]?) → d < k → laws_toIntS.l0 k l y (i : Int) = some l := by
  intro d
  induction d with
  | zero =>
    intro k i y hy hi hj hk
    obtain ⟨k, rfl⟩ : ∃ m, k = m + 1 := ⟨k - 1, by omega⟩
    simp only [laws_toIntS.l0]
    rw [if_neg (by omega)]
    congr 1
    apply List.ext_getElem?
    intro j
    rcases Nat.lt_or_ge j i with h | h
    · exact hj j h
    · rw [List.getElem?_eq_none (by omega), List.getElem?_eq_none (by omega)]
  | succ d ih =>
    intro k i y hy hi hj hk
    obtain ⟨k, rfl⟩ : ∃ m, k = m + 1 := ⟨k - 1, by omega⟩
    simp only [laws_toIntS.l0]
    rw [if_pos (by omega), if_pos (by omega), if_pos (by omega), w64 (by omega) (by omega)]
    have := ih k (i + 1) (y.set i (rd l i)) (by simpa using hy) (by omega) (fun j h => by
      rcases Nat.lt_or_ge j i with h2 | h2
      · rw [List.getElem?_set_ne (by omega)]; exact hj j h2
      · have : j = i := by omega
        subst this
        rw [List.getElem?_set_self (by omega)]
        exact (rd_of (by omega)).symm) (by omega)
    simpa using this
theorem toIntS_ev (l : List Int) (hl : l.length ≤ 35184372088832) : ∃ K, ∀ k, K ≤ k → laws_toIntS.f k l = some l := by
  refine ⟨l.length + 1, fun k hk => ?_⟩
  unfold laws_toIntS.f
  rw [if_pos (by omega), if_pos (by simpa using hl)]
  exact toIntS_l0 l hl l.length k 0 _ (by simp) (by omega) (fun j h => by omega) (by omega)

theorem eqIntS_l0 (a b : List Int) (hl : a.length = b.length) (hb : a.length ≤ 9223372036854775000) : ∀ (d k i : Nat), i + d = a.length → (∀ j, j < i → a[j]? = b[j]?) → d < k → laws_eqIntS.l0 k a b (i : Int) = some (decide (a = b)) := by
  intro d
  induction d with
  | zero =>
    intro k i hi hj hk
    obtain ⟨k, rfl⟩ : ∃ m, k = m + 1 := ⟨k - 1, by omega⟩
    simp only [laws_eqIntS.l0]
    rw [if_neg (by omega)]
    have : a = b := by
      apply List.ext_getElem?
      intro j
      rcases Nat.lt_or_ge j i with h | h
      · exact hj j h
      · rw [List.getElem?_eq_none (by omega), List.getElem?_eq_none (by omega)]
    simp [this]
  | succ d ih =>
    intro k i hi hj hk
    obtain ⟨k, rfl⟩ : ∃ m, k = m + 1 := ⟨k - 1, by omega⟩
    simp only [laws_eqIntS.l0]
    rw [if_pos (by omega), if_pos (by omega), if_pos (by omega)]
    by_cases he : rd a (i : Int) = rd b (i : Int)
    · rw [if_pos he, w64 (by omega) (by omega)]
      have := ih k (i + 1) (by omega) (fun j h => by
        rcases Nat.lt_or_ge j i with h2 | h2
        · exact hj j h2
        · have : j = i := by omega
          subst this
          rw [rd_of (by omega), rd_of (by omega), he]) (by omega)
      simpa using this
    · rw [if_neg he]
      have : a ≠ b := fun h => he (by rw [h])
      simp [this]
theorem eqIntS_ev (a b : List Int) (hb : a.length ≤ 9223372036854775000) : ∃ K, ∀ k, K ≤ k → laws_eqIntS.f k a b = some (decide (a = b)) := by
  refine ⟨a.length + 1, fun k hk => ?_⟩
  unfold laws_eqIntS.f
  by_cases hl : a.length = b.length
  · rw [if_pos (by omega)]
    exact eqIntS_l0 a b hl hb a.length k 0 (by omega) (fun j h => by omega) (by omega)
  · rw [if_neg (by omega)]
    have : a ≠ b := fun h => hl (by rw [h])
    simp [this]
theorem markIntS_l0 (n : Nat) (a0 : Int) (hn : n ≤ 1000000000) (ha : 0 ≤ a0 ∧ a0 ≤ 1000000000000000) : ∀ (d k i : Nat) (y : List Int), y.length = n → i + d = n → (∀ j, j < i → y[j]? = some (a0 + j)) → d < k → laws_markIntS.l0 k y (a0 + i) (i : Int) = some (a0 + n, mk a0 n) := by
  intro d
  induction d with
  | zero =>
    intro k i y hy hi hj hk
    obtain ⟨k, rfl⟩ : ∃ m, k = m + 1 := ⟨k - 1, by omega⟩
    simp only [laws_markIntS.l0]
    rw [if_neg (by omega)]
    have : y = mk a0 n := by
      apply List.ext_getElem?
      intro j
      rcases Nat.lt_or_ge j i with h | h
      · rw [hj j h, mk_at n a0 j (by omega)]
      · rw [List.getElem?_eq_none (by omega), List.getElem?_eq_none (by rw [mk_length]; omega)]
    rw [this]
    have : i = n := by omega
    rw [this]
  | succ d ih =>
    intro k i y hy hi hj hk
    obtain ⟨k, rfl⟩ : ∃ m, k = m + 1 := ⟨k - 1, by omega⟩
    simp only [laws_markIntS.l0]
    rw [if_pos (by omega), if_pos (by omega), w64 (by omega) (by omega), w64 (by omega) (by omega)]
    have := ih k (i + 1) (y.set i (a0 + i)) (by simpa using hy) (by omega) (fun j h => by
      rcases Nat.lt_or_ge j i with h2 | h2
      · rw [List.getElem?_set_ne (by omega)]; exact hj j h2
      · have : j = i := by omega
        subst this
        rw [List.getElem?_set_self (by omega)]) (by omega)
    rw [show a0 + (i : Int) + 1 = a0 + ((i + 1 : Nat) : Int) by omega]
    simpa using this
theorem markIntS_ev (l : List Int) (a : Int) (hn : l.length ≤ 1000000000) (ha : 0 ≤ a ∧ a ≤ 1000000000000000) : ∃ K, ∀ k, K ≤ k → laws_markIntS.f k l a = some (a + l.length, mk a l.length) := by
  refine ⟨l.length + 1, fun k hk => ?_⟩
  unfold laws_markIntS.f
  have := markIntS_l0 l.length a hn ha l.length k 0 l rfl (by omega) (fun j h => by omega) (by omega)
  simpa using this
theorem heldIntS_l0 (n : Nat) (a0 : Int) (hn : n ≤ 1000000000) (ha : 0 ≤ a0 ∧ a0 ≤ 1000000000000000) : ∀ (d k i : Nat), i + d = n → d < k → laws_heldIntS.l0 k (mk a0 n) (a0 + i) (i : Int) = some (a0 + n) := by
  intro d
  induction d with
  | zero =>
    intro k i hi hk
    obtain ⟨k, rfl⟩ : ∃ m, k = m + 1 := ⟨k - 1, by omega⟩
    simp only [laws_heldIntS.l0]
    rw [if_neg (by rw [mk_length]; omega)]
    have : i = n := by omega
    rw [this]
  | succ d ih =>
    intro k i hi hk
    obtain ⟨k, rfl⟩ : ∃ m, k = m + 1 := ⟨k - 1, by omega⟩
    simp only [laws_heldIntS.l0]
    rw [if_pos (by rw [mk_length]; omega), if_pos (by omega), if_pos (rd_at (mk_at n a0 i (by omega))), w64 (by omega) (by omega), w64 (by omega) (by omega)]
    have := ih k (i + 1) (by omega) (by omega)
    rw [show a0 + (i : Int) + 1 = a0 + ((i + 1 : Nat) : Int) by omega]
    simpa using this
theorem heldIntS_ev (n : Nat) (a : Int) (hn : n ≤ 1000000000) (ha : 0 ≤ a ∧ a ≤ 1000000000000000) : ∃ K, ∀ k, K ≤ k → laws_heldIntS.f k (mk a n) a = some (a + n) := by
  refine ⟨n + 1, fun k hk => ?_⟩
  unfold laws_heldIntS.f
  have := heldIntS_l0 n a hn ha n k 0 (by omega) (by omega)
  simpa using this

theorem eqPlaces_ev (a b : List Int) (x y : Int) (hb : a.length ≤ 9223372036854775000) : ∃ K, ∀ k, K ≤ k → laws_eqPlaces.f k a x b y = some (decide (a = b ∧ x = y)) := by
  obtain ⟨K, h⟩ := eqIntS_ev a b hb
  refine ⟨K, fun k hk => ?_⟩
  unfold laws_eqPlaces.f
  rw [h k hk]
  by_cases h1 : a = b <;> by_cases h2 : x = y <;> simp [h1, h2]
theorem markPlaces_ev (l : List Int) (x a : Int) (hn : l.length ≤ 1000000000) (ha : 0 ≤ a ∧ a ≤ 1000000000000000) : ∃ K, ∀ k, K ≤ k → laws_markPlaces.f k l x a = some (a + l.length, mk a l.length) := by
  obtain ⟨K, h⟩ := markIntS_ev l a hn ha
  refine ⟨K, fun k hk => ?_⟩
  unfold laws_markPlaces.f
  rw [h k hk]
  rfl
theorem spec_l1In_eq (x a b : Int) : spec_l1In.f x a b = some (decide (a ≤ x ∧ x ≤ b)) := by
  unfold spec_l1In.f
  by_cases h : a ≤ x <;> simp [h]
theorem impl_in_eq (x a b : Int) : impl_in.f x a b = some (decide (a ≤ x ∧ x ≤ b)) := by
  unfold impl_in.f
  by_cases h : a ≤ x <;> simp [h]
/-- Isles whose numbers are as they have to be. -/
def good (a b c : Int) : Bool := decide (1 ≤ a ∧ a ≤ 3 ∧ 1 ≤ b ∧ b ≤ 3 ∧ 0 ≤ c ∧ c ≤ 2)
theorem spec_isGood_eq (a b c : Int) : spec_isGood.f a b c = some (good a b c) := by
  unfold spec_isGood.f
  simp only [spec_l1In_eq, Option.bind_some]
  by_cases h1 : 1 ≤ a ∧ a ≤ 3 <;> by_cases h2 : 1 ≤ b ∧ b ≤ 3 <;> by_cases h3 : 0 ≤ c ∧ c ≤ 2 <;> simp [h1, h2, h3, good] <;> omega
theorem impl_IsIsles_eq (a b c : Int) : impl_IsIsles.f a b c = some (good a b c) := by
  unfold impl_IsIsles.f
  simp only [impl_in_eq, Option.bind_some]
  by_cases h1 : 1 ≤ a ∧ a ≤ 3 <;> by_cases h2 : 1 ≤ b ∧ b ≤ 3 <;> by_cases h3 : 0 ≤ c ∧ c ≤ 2 <;> simp [h1, h2, h3, good] <;> omega
theorem good_of {a b c : Int} (h : good a b c = true) : 1 ≤ a ∧ a ≤ 3 ∧ 1 ≤ b ∧ b ≤ 3 ∧ 0 ≤ c ∧ c ≤ 2 := by simpa [good] using h

theorem szIntS_eq (l : List Int) (a : Int) (hl : l.length ≤ maxLen) (h0 : 0 ≤ a) (h1 : a ≤ 9223372036854775807) : laws_szIntS.f l a = some (if a < l.length then -1 else a - l.length) := by
  unfold maxLen at hl
  unfold laws_szIntS.f
  rw [w64 (by omega) (by omega)]
  by_cases h : a < l.length
  · rw [if_pos (by omega), if_pos h]
  · rw [if_neg (by omega), if_neg h]
theorem szPlaces_eq (l : List Int) (x a : Int) (hl : l.length ≤ maxLen) (h0 : 0 ≤ a) (h1 : a ≤ 9223372036854775807) : laws_szPlaces.f l x a = some (if a < l.length then -1 else a - l.length) := by
  unfold laws_szPlaces.f
  rw [szIntS_eq l a hl h0 h1]
  simp only [Option.bind_some]
  by_cases h : a < l.length
  · simp [h]
  · rw [if_neg h, if_neg (by omega)]
theorem toPlaces_ev (l : List Int) (x : Int) (hl : l.length ≤ 35184372088832) : ∃ K, ∀ k, K ≤ k → laws_toPlaces.f k l x = some (l, x) := by
  obtain ⟨K, h⟩ := toIntS_ev l hl
  refine ⟨K, fun k hk => ?_⟩
  unfold laws_toPlaces.f
  rw [h k hk]
  rfl
theorem drop_cons {α : Type} (l : List α) (i : Nat) (h : i < l.length) : ∃ y t, l.drop i = y :: t ∧ l[i]? = some y ∧ l.drop (i + 1) = t :=
  ⟨l[i], l.drop (i + 1), List.drop_eq_getElem_cons h, List.getElem?_eq_getElem h, rfl⟩
/-- All numbers of a list lie between two. -/
def allB (l : List Int) (a b : Int) : Bool := l.all fun x => decide (a ≤ x ∧ x ≤ b)
theorem l1All_l0 (l : List Int) (a b : Int) (hl : l.length ≤ 9223372036854775000) : ∀ (d k i : Nat), i + d = l.length → d < k → spec_l1All.l0 k a b l (l.length : Int) (i : Int) = some (allB (l.drop i) a b) := by
  intro d
  induction d with
  | zero =>
    intro k i hi hk
    obtain ⟨k, rfl⟩ : ∃ m, k = m + 1 := ⟨k - 1, by omega⟩
    simp only [spec_l1All.l0]
    rw [if_neg (by omega), List.drop_eq_nil_of_le (by omega)]
    rfl
  | succ d ih =>
    intro k i hi hk
    obtain ⟨k, rfl⟩ : ∃ m, k = m + 1 := ⟨k - 1, by omega⟩
    simp only [spec_l1All.l0]
    obtain ⟨y, t, hd, hy, ht⟩ := drop_cons l i (by omega)
    rw [if_pos (by omega), if_pos (by omega), if_pos (by omega), spec_l1In_eq, hd]
    simp only [Option.bind_some, rd_at hy]
    have := ih k (i + 1) (by omega) (by omega)
    rw [ht] at this
    rw [show ((i + 1 : Nat) : Int) = (i : Int) + 1 by omega] at this
    by_cases h : a ≤ y ∧ y ≤ b
    · rw [if_pos (by simpa using h), w64 (by omega) (by omega), this]
      simp [allB, h]
    · rw [if_neg (by simpa using h)]
      simp [allB, h]
theorem l1All_ev (l : List Int) (a b : Int) (hl : l.length ≤ 9223372036854775000) : ∃ K, ∀ k, K ≤ k → spec_l1All.f k l a b = some (allB l a b) := by
  refine ⟨l.length + 1, fun k hk => ?_⟩
  unfold spec_l1All.f
  simpa using l1All_l0 l a b hl l.length k 0 (by omega) (by omega)
theorem l1Has_l0 (l : List Int) (a : Int) (hl : l.length ≤ 9223372036854775000) : ∀ (d k i : Nat), i + d = l.length → d < k → spec_l1Has.l0 k a l (l.length : Int) (i : Int) = some (decide (a ∈ l.drop i)) := by
  intro d
  induction d with
  | zero =>
    intro k i hi hk
    obtain ⟨k, rfl⟩ : ∃ m, k = m + 1 := ⟨k - 1, by omega⟩
    simp only [spec_l1Has.l0]
    rw [if_neg (by omega), List.drop_eq_nil_of_le (by omega)]
    simp
  | succ d ih =>
    intro k i hi hk
    obtain ⟨k, rfl⟩ : ∃ m, k = m + 1 := ⟨k - 1, by omega⟩
    simp only [spec_l1Has.l0]
    obtain ⟨y, t, hd, hy, ht⟩ := drop_cons l i (by omega)
    rw [if_pos (by omega), if_pos (by omega), if_pos (by omega), hd, rd_at hy]
    have := ih k (i + 1) (by omega) (by omega)
    rw [ht] at this
    rw [show ((i + 1 : Nat) : Int) = (i : Int) + 1 by omega] at this
    by_cases h : y = a
    · rw [if_pos h]
      simp [h]
    · rw [if_neg h, w64 (by omega) (by omega), this]
      have h' : ¬ a = y := fun e => h e.symm
      simp [h']
theorem l1Has_ev (l : List Int) (a : Int) (hl : l.length ≤ 9223372036854775000) : ∃ K, ∀ k, K ≤ k → spec_l1Has.f k l a = some (decide (a ∈ l)) := by
  refine ⟨l.length + 1, fun k hk => ?_⟩
  unfold spec_l1Has.f
  simpa using l1Has_l0 l a hl l.length k 0 (by omega) (by omega)
theorem index_l0 (l : List Int) (a : Int) (hl : l.length ≤ 9223372036854775000) : ∀ (d k i : Nat), i + d = l.length → d < k → ∃ r, slices_Index_int_int.l0 k l a (l.length : Int) (i : Int) = some r ∧ decide (r ≥ 0) = decide (a ∈ l.drop i) := by
  intro d
  induction d with
  | zero =>
    intro k i hi hk
    obtain ⟨k, rfl⟩ : ∃ m, k = m + 1 := ⟨k - 1, by omega⟩
    simp only [slices_Index_int_int.l0]
    rw [if_neg (by omega), List.drop_eq_nil_of_le (by omega)]
    exact ⟨-1, rfl, by simp⟩
  | succ d ih =>
    intro k i hi hk
    obtain ⟨k, rfl⟩ : ∃ m, k = m + 1 := ⟨k - 1, by omega⟩
    simp only [slices_Index_int_int.l0]
    obtain ⟨y, t, hd, hy, ht⟩ := drop_cons l i (by omega)
    rw [if_pos (by omega), if_pos (by omega), if_pos (by omega), hd, rd_at hy]
    obtain ⟨r, h1, h2⟩ := ih k (i + 1) (by omega) (by omega)
    rw [ht] at h2
    rw [show ((i + 1 : Nat) : Int) = (i : Int) + 1 by omega] at h1
    by_cases h : a = y
    · rw [if_pos h]
      exact ⟨i, rfl, by simp [h]⟩
    · rw [if_neg h, w64 (by omega) (by omega), h1]
      exact ⟨r, rfl, by rw [h2]; simp [h]⟩
theorem contains_at (l : List Int) (a : Int) (hl : l.length ≤ 9223372036854775000) (k : Nat) (hk : l.length < k) : slices_Contains_int_int.f k l a = some (decide (a ∈ l)) := by
  unfold slices_Contains_int_int.f slices_Index_int_int.f
  obtain ⟨r, h1, h2⟩ := index_l0 l a hl l.length k 0 (by omega) (by omega)
  rw [show ((0 : Nat) : Int) = 0 from rfl] at h1
  rw [h1]
  simp only [Option.bind_some, h2, List.drop_zero]
theorem contains_ev (l : List Int) (a : Int) (hl : l.length ≤ 9223372036854775000) : ∃ K, ∀ k, K ≤ k → slices_Contains_int_int.f k l a = some (decide (a ∈ l)) :=
  ⟨l.length + 1, fun k hk => contains_at l a hl k (by omega)⟩
theorem anyO_some {α : Type} {F : α → Option Bool} {p : α → Bool} (l : List α) (h : ∀ x ∈ l, F x = some (p x)) : X.anyO F l = some (l.any p) := by
  induction l with
  | nil => rfl
  | cons x l ih =>
    simp only [X.anyO, h x (by simp), Option.bind_some, ih (fun y hy => h y (by simp [hy])), List.any_cons]
    cases p x <;> simp
theorem areIn_eq (l : List Int) (a b c d : Int) : impl_areIn.f l a b c d = some (decide (c ≤ l.length ∧ (l.length : Int) ≤ d) && allB l a b) := by
  unfold impl_areIn.f
  rw [impl_in_eq]
  simp only [Option.bind_some]
  by_cases h : c ≤ l.length ∧ (l.length : Int) ≤ d
  · rw [if_pos (by simpa using h)]
    unfold slices_ContainsFunc_int_int_at_impl_areIn_1.f
    rw [anyO_some (p := fun x => !decide (a ≤ x ∧ x ≤ b)) l (fun x _ => by simp [impl_areIn_1.f, impl_in_eq])]
    simp only [Option.bind_some, h, and_self, decide_true, Bool.true_and]
    congr 1
    simp [allB, List.all_eq_not_any_not]
  · rw [if_neg (by simpa using h)]
    simp [h]
/-- Valid isles and places of them. -/
def isPl (a b c : Int) (l : List Int) (p : Int) : Bool := good a b c && (decide ((l.length : Int) = 2 * a) && (allB l 0 (c + 1) && decide (p ∈ l)))
theorem spec_isPlaces_ev (a b c : Int) (l : List Int) (p : Int) (hl : l.length ≤ 9223372036854775000) : ∃ K, ∀ k, K ≤ k → spec_isPlaces.f k a b c l p = some (isPl a b c l p) := by
  by_cases hg : good a b c = true
  · have hg' := good_of hg
    obtain ⟨K1, e1⟩ := l1All_ev l 0 (c + 1) hl
    obtain ⟨K2, e2⟩ := l1Has_ev l p hl
    refine ⟨K1 + K2, fun k hk => ?_⟩
    unfold spec_isPlaces.f
    rw [spec_isGood_eq, w64 (by omega) (by omega), w64 (by omega) (by omega), e1 k (by omega), e2 k (by omega)]
    simp only [hg, Option.bind_some, if_true, isPl, Bool.true_and]
    by_cases h1 : (l.length : Int) = 2 * a <;> cases h2 : allB l 0 (c + 1) <;> simp [h1]
  · refine ⟨0, fun k _ => ?_⟩
    unfold spec_isPlaces.f
    rw [spec_isGood_eq]
    simp [isPl, hg]
theorem impl_arePlaces_ev (a b c : Int) (l : List Int) (p : Int) (hl : l.length ≤ 9223372036854775000) (hg : good a b c = true) : ∃ K, ∀ k, K ≤ k → impl_Isles_arePlaces.f k a b c l p = some (isPl a b c l p) := by
  have hg' := good_of hg
  obtain ⟨K2, e2⟩ := contains_ev l p hl
  refine ⟨K2, fun k hk => ?_⟩
  unfold impl_Isles_arePlaces.f impl_Isles_far.f impl_Isles_people.f
  simp only [Option.bind_some]
  rw [w64 (by omega) (by omega), w64 (by omega) (by omega), areIn_eq, e2 k (by omega)]
  simp only [Option.bind_some, isPl, hg, Bool.true_and]
  by_cases h1 : (l.length : Int) = 2 * a
  · cases h2 : allB l 0 (c + 1) <;> simp [h1]
  · have h3 : ¬ (2 * a ≤ (l.length : Int) ∧ (l.length : Int) ≤ 2 * a) := by omega
    simp [h1, h3]
theorem impl_ArePlaces_ev (a b c : Int) (l : List Int) (p : Int) (hl : l.length ≤ 9223372036854775000) : ∃ K, ∀ k, K ≤ k → impl_ArePlaces.f k a b c l p = some (isPl a b c l p) := by
  by_cases hg : good a b c = true
  · obtain ⟨K, e⟩ := impl_arePlaces_ev a b c l p hl hg
    refine ⟨K, fun k hk => ?_⟩
    unfold impl_ArePlaces.f
    rw [impl_IsIsles_eq, e k hk]
    simp [hg]
  · refine ⟨0, fun k _ => ?_⟩
    unfold impl_ArePlaces.f
    rw [impl_IsIsles_eq]
    simp [isPl, hg]

/-- No kept one without its keeper where another keeper is. -/
def Calm (a : Nat) (t : Nat → Prop) : Prop := ¬ ((∃ i, i < a ∧ t (2 * i + 1) ∧ ¬ t (2 * i)) ∧ ∃ j, j < a ∧ t (2 * j))
noncomputable def calmB (a : Nat) (t : Nat → Prop) : Bool := @decide (Calm a t) (Classical.propDecidable _)
theorem calmB_iff (a : Nat) (t : Nat → Prop) : calmB a t = true ↔ Calm a t := by unfold calmB; simp
theorem Calm_congr {a : Nat} {t u : Nat → Prop} (h : ∀ j, j < 2 * a → (t j ↔ u j)) : Calm a t ↔ Calm a u := by
  unfold Calm
  constructor
  · rintro h1 ⟨⟨i, hi, h2, h3⟩, j, hj, h4⟩
    exact h1 ⟨⟨i, hi, (h _ (by omega)).2 h2, fun h5 => h3 ((h _ (by omega)).1 h5)⟩, j, hj, (h _ (by omega)).2 h4⟩
  · rintro h1 ⟨⟨i, hi, h2, h3⟩, j, hj, h4⟩
    exact h1 ⟨⟨i, hi, (h _ (by omega)).1 h2, fun h5 => h3 ((h _ (by omega)).2 h5)⟩, j, hj, (h _ (by omega)).1 h4⟩
theorem calmB_congr {a : Nat} {t u : Nat → Prop} (h : ∀ j, j < 2 * a → (t j ↔ u j)) : calmB a t = calmB a u := by
  rw [Bool.eq_iff_iff, calmB_iff, calmB_iff]; exact Calm_congr h
theorem some_iff {o : Option Bool} {b : Bool} (h : ∃ r, o = some r ∧ (r = true ↔ b = true)) : o = some b := by
  obtain ⟨r, rfl, h⟩ := h
  rw [Bool.eq_iff_iff.2 h]

theorem tmod2 (x : Int) (h : 0 ≤ x) : Int.tmod x 2 = x % 2 := Int.tmod_eq_emod_of_nonneg h
theorem calm_even (l : List Int) (h : ∀ x ∈ l, 0 ≤ x) : slices_ContainsFunc_int_int_at_impl_calm_1.f l = some (l.any fun y => decide (y % 2 = 0)) := by
  unfold slices_ContainsFunc_int_int_at_impl_calm_1.f
  refine anyO_some l (fun x hx => ?_)
  unfold impl_calm_1.f
  rw [tmod2 x (h x hx)]
  by_cases h2 : x % 2 = 0 <;> simp [h2]
theorem calm_l0 (l : List Int) (hl : l.length ≤ 1000000) (hp : ∀ x ∈ l, 0 ≤ x ∧ x ≤ 9223372036854775000) : ∀ (d k i : Nat), i + d = l.length → 2 * d + l.length + 2 < k →
    ∃ r, impl_calm.l0 k l l (l.length : Int) (i : Int) = some r ∧ (r = true ↔ ∀ x ∈ l.drop i, x % 2 = 0 ∨ x - 1 ∈ l ∨ ¬ ∃ y ∈ l, y % 2 = 0) := by
  intro d
  induction d with
  | zero =>
    intro k i hi hk
    obtain ⟨k, rfl⟩ : ∃ m, k = m + 1 := ⟨k - 1, by omega⟩
    simp only [impl_calm.l0]
    rw [if_neg (by omega), List.drop_eq_nil_of_le (by omega)]
    exact ⟨true, rfl, by simp⟩
  | succ d ih =>
    intro k i hi hk
    obtain ⟨k, rfl⟩ : ∃ m, k = m + 2 := ⟨k - 2, by omega⟩
    obtain ⟨y, t, hd, hy, ht⟩ := drop_cons l i (by omega)
    have hym : y ∈ l := List.mem_of_getElem? hy
    obtain ⟨hy0, hy1⟩ := hp y hym
    obtain ⟨r, h1, h2⟩ := ih k (i + 1) (by omega) (by omega)
    rw [show ((i + 1 : Nat) : Int) = (i : Int) + 1 by omega] at h1
    rw [ht] at h2
    simp only [impl_calm.l0, impl_calm.j1]
    rw [if_pos (by omega), if_pos (by omega), if_pos (by omega), rd_at hy, tmod2 y hy0, hd]
    by_cases he : y % 2 = 0
    · rw [if_pos he, if_pos (by trivial), w64 (by omega) (by omega), h1]
      refine ⟨r, rfl, h2.trans ?_⟩
      simp [he]
    · rw [if_neg he, w64 (by omega) (by omega), contains_at l (y - 1) (by omega) (k + 1) (by omega)]
      simp only [Option.bind_some]
      by_cases hc : y - 1 ∈ l
      · rw [if_pos (by simpa using hc), w64 (by omega) (by omega), h1]
        refine ⟨r, rfl, h2.trans ?_⟩
        simp [hc]
      · rw [if_neg (by simpa using hc), calm_even l (fun x hx => (hp x hx).1)]
        simp only [Option.bind_some]
        by_cases ha : ∃ y ∈ l, y % 2 = 0
        · rw [if_pos (by simpa using ha)]
          refine ⟨false, rfl, ?_⟩
          constructor
          · intro h; cases h
          · intro h
            rcases h y (by simp) with h | h | h
            · exact absurd h he
            · exact absurd h hc
            · exact absurd ha h
        · rw [if_neg (by simpa using ha), w64 (by omega) (by omega), h1]
          refine ⟨r, rfl, h2.trans ?_⟩
          simp [ha]
theorem calm_at (a : Nat) (l : List Int) (hl : l.length ≤ 1000000) (hp : ∀ x ∈ l, 0 ≤ x ∧ x < 2 * (a : Int)) (ha : a ≤ 1000000) (k : Nat) (hk : 3 * l.length + 2 < k) : impl_calm.f k l = some (calmB a fun j => (j : Int) ∈ l) := by
  refine some_iff ?_
  obtain ⟨r, h1, h2⟩ := calm_l0 l hl (fun x hx => ⟨(hp x hx).1, by have := (hp x hx).2; omega⟩) l.length k 0 (by omega) (by omega)
  refine ⟨r, h1, h2.trans ?_⟩
  rw [calmB_iff, List.drop_zero]
  unfold Calm
  constructor
  · rintro h ⟨⟨i, hi, h3, h4⟩, j, hj, h5⟩
    rcases h _ h3 with h | h | h
    · omega
    · exact h4 (show ((2 * i : Nat) : Int) ∈ l by rw [show ((2 * i : Nat) : Int) = ((2 * i + 1 : Nat) : Int) - 1 by omega]; exact h)
    · exact h ⟨_, h5, by omega⟩
  · intro h x hx
    by_cases h6 : x % 2 = 0
    · exact .inl h6
    · by_cases h7 : x - 1 ∈ l
      · exact .inr (.inl h7)
      · refine .inr (.inr ?_)
        rintro ⟨y, hy, h8⟩
        have hx2 := hp x hx
        have hy2 := hp y hy
        refine h ⟨⟨(x / 2).toNat, by omega, ?_, ?_⟩, (y / 2).toNat, by omega, ?_⟩
        · show ((2 * (x / 2).toNat + 1 : Nat) : Int) ∈ l
          rw [show ((2 * (x / 2).toNat + 1 : Nat) : Int) = x by omega]; exact hx
        · show ¬ ((2 * (x / 2).toNat : Nat) : Int) ∈ l
          rw [show ((2 * (x / 2).toNat : Nat) : Int) = x - 1 by omega]; exact h7
        · show ((2 * (y / 2).toNat : Nat) : Int) ∈ l
          rw [show ((2 * (y / 2).toNat : Nat) : Int) = y by omega]; exact hy
theorem shr_bits (N i : Nat) (hi : i ≤ 62) : shr .i64 (N : Int) (i : Int) = ((N / 2 ^ i : Nat) : Int) := by
  unfold shr
  rw [show min ((i : Int).toNat) IntKind.i64.bits = i by simp [IntKind.bits]; omega]
  rw [Int.natCast_ediv]
  simp
theorem bit4 (N i : Nat) (hi : i ≤ 60) : (Int.tmod (shr .i64 (N : Int) (i : Int)) 4 = 2) ↔ (N.testBit (i + 1) = true ∧ ¬ N.testBit i = true) := by
  rw [shr_bits N i (by omega), Int.tmod_eq_emod_of_nonneg (Int.natCast_nonneg _), Nat.testBit_eq_decide_div_mod_eq, Nat.testBit_eq_decide_div_mod_eq, Nat.pow_succ, ← Nat.div_div_eq_div_mul]
  generalize N / 2 ^ i = q
  simp only [decide_eq_true_eq]
  omega
theorem bit2 (N i : Nat) (hi : i ≤ 60) : (Int.tmod (shr .i64 (N : Int) (i : Int)) 2 = 1) ↔ N.testBit i = true := by
  rw [shr_bits N i (by omega), Int.tmod_eq_emod_of_nonneg (Int.natCast_nonneg _), Nat.testBit_eq_decide_div_mod_eq]
  generalize N / 2 ^ i = q
  simp only [decide_eq_true_eq]
  omega
theorem cuCalm_l1 (a N i : Nat) (ha : a ≤ 20) : ∀ (d k j : Nat), j + d = a → d < k →
    (∃ j', j ≤ j' ∧ j' < a ∧ N.testBit (2 * j') = true) ∧ spec_cuCalm.l1 k (a : Int) (N : Int) (i : Int) (j : Int) = some false ∨
    (¬ ∃ j', j ≤ j' ∧ j' < a ∧ N.testBit (2 * j') = true) ∧ spec_cuCalm.l1 k (a : Int) (N : Int) (i : Int) (j : Int) = spec_cuCalm.l0 (k - (d + 1)) (a : Int) (N : Int) (wrap64 ((i : Int) + 1)) := by
  intro d
  induction d with
  | zero =>
    intro k j hj hk
    obtain ⟨k, rfl⟩ : ∃ m, k = m + 1 := ⟨k - 1, by omega⟩
    refine .inr ⟨?_, ?_⟩
    · rintro ⟨j', h1, h2, _⟩; omega
    · simp only [spec_cuCalm.l1]
      rw [if_neg (by omega)]
      rfl
  | succ d ih =>
    intro k j hj hk
    obtain ⟨k, rfl⟩ : ∃ m, k = m + 1 := ⟨k - 1, by omega⟩
    have hb := bit2 N (2 * j) (by omega)
    simp only [spec_cuCalm.l1]
    rw [if_pos (by omega), w64 (by omega) (by omega), if_pos (by omega), show (2 * (j : Int)) = ((2 * j : Nat) : Int) by omega]
    by_cases h : N.testBit (2 * j) = true
    · rw [if_pos (hb.2 h)]
      exact .inl ⟨⟨j, Nat.le_refl _, by omega, h⟩, rfl⟩
    · rw [if_neg (fun h' => h (hb.1 h')), w64 (a := (j : Int) + 1) (by omega) (by omega)]
      have := ih k (j + 1) (by omega) (by omega)
      rw [show ((j + 1 : Nat) : Int) = (j : Int) + 1 by omega] at this
      rcases this with ⟨⟨j', h1, h2, h3⟩, h4⟩ | ⟨h1, h2⟩
      · exact .inl ⟨⟨j', by omega, h2, h3⟩, h4⟩
      · refine .inr ⟨?_, ?_⟩
        · rintro ⟨j', h3, h4, h5⟩
          rcases Nat.lt_or_ge j j' with h6 | h6
          · exact h1 ⟨j', h6, h4, h5⟩
          · have : j' = j := by omega
            subst this
            exact h h5
        · rw [h2, show k + 1 - (d + 1 + 1) = k - (d + 1) by omega]
theorem cuCalm_l0 (a N : Nat) (ha : a ≤ 20) : ∀ (d k i : Nat), i + d = a → d * (a + 2) < k →
    ∃ r, spec_cuCalm.l0 k (a : Int) (N : Int) (i : Int) = some r ∧ (r = true ↔ ∀ i', i ≤ i' → i' < a → ¬ ((N.testBit (2 * i' + 1) = true ∧ ¬ N.testBit (2 * i') = true) ∧ ∃ j, j < a ∧ N.testBit (2 * j) = true)) := by
  intro d
  induction d with
  | zero =>
    intro k i hi hk
    obtain ⟨k, rfl⟩ : ∃ m, k = m + 1 := ⟨k - 1, by omega⟩
    simp only [spec_cuCalm.l0]
    rw [if_neg (by omega)]
    exact ⟨true, rfl, by simp; intro i' h1 h2; omega⟩
  | succ d ih =>
    intro k i hi hk
    have hmul : (d + 1) * (a + 2) = d * (a + 2) + (a + 2) := by rw [Nat.succ_mul]
    obtain ⟨k, rfl⟩ : ∃ m, k = m + 1 := ⟨k - 1, by omega⟩
    have hb := bit4 N (2 * i) (by omega)
    simp only [spec_cuCalm.l0]
    rw [if_pos (by omega), w64 (a := 2 * (i : Int)) (by omega) (by omega), if_pos (by omega), show (2 * (i : Int)) = ((2 * i : Nat) : Int) by omega, w64 (a := (i : Int) + 1) (by omega) (by omega)]
    by_cases h : N.testBit (2 * i + 1) = true ∧ ¬ N.testBit (2 * i) = true
    · rw [if_pos (hb.2 h)]
      rcases cuCalm_l1 a N i ha a k 0 (by omega) (by omega) with ⟨⟨j, _, h1, h2⟩, h3⟩ | ⟨h1, h2⟩
      · refine ⟨false, h3, ?_⟩
        constructor
        · intro h; cases h
        · intro h4
          exact absurd ⟨h, j, h1, h2⟩ (h4 i (Nat.le_refl _) (by omega))
      · rw [w64 (by omega) (by omega)] at h2
        obtain ⟨r, h3, h4⟩ := ih (k - (a + 1)) (i + 1) (by omega) (by omega)
        rw [show ((i + 1 : Nat) : Int) = (i : Int) + 1 by omega] at h3
        refine ⟨r, h2.trans h3, h4.trans ?_⟩
        constructor
        · rintro _ i' _ _ ⟨_, j, h5, h6⟩
          exact h1 ⟨j, Nat.zero_le _, h5, h6⟩
        · intro h5 i' h6 h7
          exact h5 i' (by omega) h7
    · rw [if_neg (fun h' => h (hb.1 h'))]
      obtain ⟨r, h3, h4⟩ := ih k (i + 1) (by omega) (by omega)
      rw [show ((i + 1 : Nat) : Int) = (i : Int) + 1 by omega] at h3
      refine ⟨r, h3, h4.trans ?_⟩
      constructor
      · intro h5 i' h6 h7
        rcases Nat.lt_or_ge i i' with h8 | h8
        · exact h5 i' h8 h7
        · have : i' = i := by omega
          subst this
          exact fun h9 => h h9.1
      · intro h5 i' h6 h7
        exact h5 i' (by omega) h7
theorem cuCalm_at (a N : Nat) (ha : a ≤ 20) (k : Nat) (hk : 500 < k) : spec_cuCalm.f k (a : Int) (N : Int) = some (calmB a fun j => N.testBit j = true) := by
  refine some_iff ?_
  have hmul : a * (a + 2) ≤ 20 * 22 := Nat.mul_le_mul ha (by omega)
  obtain ⟨r, h1, h2⟩ := cuCalm_l0 a N ha a k 0 (by omega) (by omega)
  refine ⟨r, h1, h2.trans ?_⟩
  rw [calmB_iff]
  unfold Calm
  constructor
  · rintro h ⟨⟨i, hi, h3, h4⟩, j, hj, h5⟩
    exact h i (Nat.zero_le _) hi ⟨⟨h3, h4⟩, j, hj, h5⟩
  · rintro h i' _ h3 ⟨⟨h4, h5⟩, j, h6, h7⟩
    exact h ⟨⟨i', h3, h4, h5⟩, j, h6, h7⟩

/-- Calm at every place. -/
def AllCalm (a : Nat) (c : Int) (l : List Int) : Prop := ∀ p : Int, 0 ≤ p → p ≤ c + 1 → Calm a fun j => l[j]? = some p
noncomputable def allCalmB (a : Nat) (c : Int) (l : List Int) : Bool := @decide (AllCalm a c l) (Classical.propDecidable _)
theorem allCalmB_iff (a : Nat) (c : Int) (l : List Int) : allCalmB a c l = true ↔ AllCalm a c l := by unfold allCalmB; simp
/-- The bits of the numbers below n of which p holds. -/
def bitsN (p : Nat → Bool) : Nat → Nat
  | 0 => 0
  | n + 1 => if p n then bitsN p n ||| 2 ^ n else bitsN p n
theorem bitsN_lt (p : Nat → Bool) (n : Nat) : bitsN p n < 2 ^ n := by
  induction n with
  | zero => simp [bitsN]
  | succ n ih =>
    have h2 : 2 ^ n < 2 ^ (n + 1) := Nat.pow_lt_pow_right (by omega) (by omega)
    simp only [bitsN]
    split
    · exact Nat.or_lt_two_pow (by omega) h2
    · omega
theorem bitsN_test (p : Nat → Bool) (n j : Nat) : (bitsN p n).testBit j = (decide (j < n) && p j) := by
  induction n with
  | zero => simp [bitsN]
  | succ n ih =>
    simp only [bitsN]
    by_cases hp : p n = true
    · rw [if_pos hp, Nat.testBit_or, ih, Nat.testBit_two_pow]
      by_cases h1 : j < n
      · have h2 : j < n + 1 := by omega
        have h3 : ¬ n = j := by omega
        simp [h1, h2, h3]
      · by_cases h2 : j = n
        · subst h2; simp [hp]
        · have h3 : ¬ n = j := by omega
          have h4 : ¬ j < n + 1 := by omega
          simp [h1, h3, h4]
    · rw [if_neg hp, ih]
      by_cases h1 : j < n
      · have h2 : j < n + 1 := by omega
        simp [h1, h2]
      · by_cases h2 : j = n
        · subst h2; simp [hp]
        · have h4 : ¬ j < n + 1 := by omega
          simp [h1, h4]
theorem shl_one (i : Nat) (hi : i ≤ 60) : shl .i64 1 (i : Int) = ((2 ^ i : Nat) : Int) := by
  unfold shl
  rw [show min ((i : Int).toNat) IntKind.i64.bits = i by simp [IntKind.bits]; omega]
  have h : 2 ^ i ≤ 2 ^ 60 := Nat.pow_le_pow_right (by omega) hi
  have h2 : (1 : Int) * 2 ^ i = ((2 ^ i : Nat) : Int) := by simp
  rw [h2, IntKind.wrap_i64]
  have h3 : (2 : Nat) ^ 60 = 1152921504606846976 := by decide
  rw [h3] at h
  clear h2 h3
  generalize (2 : Nat) ^ i = z at h ⊢
  omega
theorem or_bits (x i : Nat) (hi : i ≤ 60) (hx : x < 2 ^ i) : Go.bits .or .i64 (x : Int) (shl .i64 1 (i : Int)) = ((x ||| 2 ^ i : Nat) : Int) := by
  have h : 2 ^ i ≤ 2 ^ 60 := Nat.pow_le_pow_right (by omega) hi
  have h3 : (2 : Nat) ^ 62 = 4611686018427387904 := by decide
  have h4 : (2 : Nat) ^ 60 = 1152921504606846976 := by decide
  rw [shl_one i hi]
  exact (bits_nat .i64 62 (by decide) (fun n h₀ h₁ => by rw [IntKind.wrap_i64]; omega) x (2 ^ i) (by omega) (by omega)).2
theorem spec_isCalm_l1 (a b c p q : Int) (l : List Int) (hl : l.length ≤ 60) : ∀ (d k i : Nat), i + d = l.length → d < k →
    spec_isCalm.l1 k p ((bitsN (fun j => decide (l[j]? = some p)) i : Nat) : Int) l (l.length : Int) (i : Int) a b c l q =
      ((spec_cuCalm.f (k - (d + 1)) a ((bitsN (fun j => decide (l[j]? = some p)) l.length : Nat) : Int)).bind fun t => if t = true then spec_isCalm.l0 (k - (d + 1)) (wrap64 (p + 1)) a b c l q else some false) := by
  intro d
  induction d with
  | zero =>
    intro k i hi hk
    obtain ⟨k, rfl⟩ : ∃ m, k = m + 1 := ⟨k - 1, by omega⟩
    simp only [spec_isCalm.l1]
    rw [if_neg (by omega), show i = l.length by omega]
    rfl
  | succ d ih =>
    intro k i hi hk
    obtain ⟨k, rfl⟩ : ∃ m, k = m + 1 := ⟨k - 1, by omega⟩
    obtain ⟨y, t, hd, hy, ht⟩ := drop_cons l i (by omega)
    simp only [spec_isCalm.l1]
    rw [if_pos (by omega), if_pos (by omega), if_pos (by omega), rd_at hy, w64 (a := (i : Int) + 1) (by omega) (by omega)]
    have := ih k (i + 1) (by omega) (by omega)
    rw [show ((i + 1 : Nat) : Int) = (i : Int) + 1 by omega, show k - (d + 1) = k + 1 - (d + 1 + 1) by omega] at this
    by_cases h : y = p
    · rw [if_pos h, or_bits _ i (by omega) (bitsN_lt _ i)]
      have hb : bitsN (fun j => decide (l[j]? = some p)) (i + 1) = bitsN (fun j => decide (l[j]? = some p)) i ||| 2 ^ i := by
        simp only [bitsN]
        rw [if_pos (by simp [hy, h])]
      rw [← hb]
      exact this
    · rw [if_neg h]
      have hb : bitsN (fun j => decide (l[j]? = some p)) (i + 1) = bitsN (fun j => decide (l[j]? = some p)) i := by
        simp only [bitsN]
        rw [if_neg (by simp [hy, h])]
      rw [← hb]
      exact this
theorem spec_isCalm_l0 (a : Nat) (b c q : Int) (l : List Int) (ha : a ≤ 20) (hl : l.length = 2 * a) (hc : c ≤ 1000) : ∀ (d k : Nat) (p : Int), 0 ≤ p → p + d = c + 2 → d * (2 * a + 2) + 600 < k →
    ∃ r, spec_isCalm.l0 k p (a : Int) b c l q = some r ∧ (r = true ↔ ∀ p', p ≤ p' → p' ≤ c + 1 → Calm a fun j => l[j]? = some p') := by
  intro d
  induction d with
  | zero =>
    intro k p hp0 hp hk
    obtain ⟨k, rfl⟩ : ∃ m, k = m + 1 := ⟨k - 1, by omega⟩
    simp only [spec_isCalm.l0]
    rw [w64 (by omega) (by omega), if_neg (by omega)]
    exact ⟨true, rfl, by simp; intro p' h1 h2; omega⟩
  | succ d ih =>
    intro k p hp0 hp hk
    have hmul : (d + 1) * (2 * a + 2) = d * (2 * a + 2) + (2 * a + 2) := by rw [Nat.succ_mul]
    obtain ⟨k, rfl⟩ : ∃ m, k = m + 1 := ⟨k - 1, by omega⟩
    simp only [spec_isCalm.l0]
    rw [w64 (by omega) (by omega), if_pos (by omega)]
    have h1 := spec_isCalm_l1 (a : Int) b c p q l (by omega) l.length k 0 (by omega) (by omega)
    rw [show ((bitsN (fun j => decide (l[j]? = some p)) 0 : Nat) : Int) = 0 from rfl, show ((0 : Nat) : Int) = 0 from rfl] at h1
    rw [h1, cuCalm_at a _ ha _ (by omega)]
    have hcong : calmB a (fun j => (bitsN (fun j => decide (l[j]? = some p)) l.length).testBit j = true) = calmB a (fun j => l[j]? = some p) := calmB_congr (fun j hj => by
      rw [bitsN_test]
      have : j < l.length := by omega
      simp [this])
    rw [hcong, w64 (by omega) (by omega)]
    simp only [Option.bind_some]
    obtain ⟨r, h2, h3⟩ := ih (k - (l.length + 1)) (p + 1) (by omega) (by omega) (by omega)
    by_cases hC : calmB a (fun j => l[j]? = some p) = true
    · rw [if_pos hC]
      refine ⟨r, h2, h3.trans ?_⟩
      constructor
      · intro h4 p' h5 h6
        rcases Int.lt_or_le p p' with h7 | h7
        · exact h4 p' (by omega) h6
        · have : p' = p := by omega
          subst this
          exact (calmB_iff _ _).1 hC
      · intro h4 p' h5 h6
        exact h4 p' (by omega) h6
    · rw [if_neg hC]
      refine ⟨false, rfl, ?_⟩
      constructor
      · intro h; cases h
      · intro h
        exact absurd ((calmB_iff _ _).2 (h p (Int.le_refl _) (by omega))) hC
theorem spec_isCalm_at (a : Nat) (b c q : Int) (l : List Int) (ha : a ≤ 20) (hl : l.length = 2 * a) (hc0 : 0 ≤ c) (hc : c ≤ 100) (k : Nat) (hk : 10000 < k) : spec_isCalm.f k (a : Int) b c l q = some (allCalmB a c l) := by
  refine some_iff ?_
  have hmul : (c + 2).toNat * (2 * a + 2) ≤ 102 * 42 := Nat.mul_le_mul (by omega) (by omega)
  obtain ⟨r, h1, h2⟩ := spec_isCalm_l0 a b c q l ha hl (by omega) (c + 2).toNat k 0 (by omega) (by omega) (by omega)
  refine ⟨r, h1, h2.trans ?_⟩
  rw [allCalmB_iff]
  rfl
theorem standing_l0 (p : Int) (l : List Int) (hl : l.length ≤ 1000000) : ∀ (d k i : Nat) (acc : List Int), i + d = l.length → acc.length ≤ i → d < k →
    ∃ g, impl_Places_standing.l0 k p acc l (l.length : Int) (i : Int) = some (acc ++ g) ∧ g.length ≤ d ∧ ∀ x, x ∈ g ↔ ∃ j : Nat, i ≤ j ∧ x = (j : Int) ∧ l[j]? = some p := by
  intro d
  induction d with
  | zero =>
    intro k i acc hi ha hk
    obtain ⟨k, rfl⟩ : ∃ m, k = m + 1 := ⟨k - 1, by omega⟩
    simp only [impl_Places_standing.l0]
    rw [if_neg (by omega)]
    refine ⟨[], by simp, by simp, fun x => ⟨fun h => by simp at h, ?_⟩⟩
    rintro ⟨j, h1, _, h2⟩
    have := (List.getElem?_eq_some_iff.1 h2).1
    omega
  | succ d ih =>
    intro k i acc hi ha hk
    obtain ⟨k, rfl⟩ : ∃ m, k = m + 1 := ⟨k - 1, by omega⟩
    obtain ⟨y, t, hd, hy, ht⟩ := drop_cons l i (by omega)
    simp only [impl_Places_standing.l0]
    rw [if_pos (by omega), if_pos (by omega), if_pos (by omega), rd_at hy, w64 (a := (i : Int) + 1) (by omega) (by omega)]
    by_cases h : y = p
    · rw [if_pos h, if_pos (by omega)]
      obtain ⟨g, h1, h2, h3⟩ := ih k (i + 1) (acc ++ [(i : Int)]) (by omega) (by simp; omega) (by omega)
      rw [show ((i + 1 : Nat) : Int) = (i : Int) + 1 by omega] at h1
      refine ⟨(i : Int) :: g, by rw [h1]; simp, by simp; omega, fun x => ?_⟩
      rw [List.mem_cons, h3]
      constructor
      · rintro (rfl | ⟨j, h4, h5, h6⟩)
        · exact ⟨i, Nat.le_refl _, rfl, by rw [hy, h]⟩
        · exact ⟨j, by omega, h5, h6⟩
      · rintro ⟨j, h4, h5, h6⟩
        rcases Nat.lt_or_ge i j with h7 | h7
        · exact .inr ⟨j, h7, h5, h6⟩
        · exact .inl (by rw [h5]; omega)
    · rw [if_neg h]
      obtain ⟨g, h1, h2, h3⟩ := ih k (i + 1) acc (by omega) (by omega) (by omega)
      rw [show ((i + 1 : Nat) : Int) = (i : Int) + 1 by omega] at h1
      refine ⟨g, h1, by omega, fun x => ?_⟩
      rw [h3]
      constructor
      · rintro ⟨j, h4, h5, h6⟩
        exact ⟨j, by omega, h5, h6⟩
      · rintro ⟨j, h4, h5, h6⟩
        rcases Nat.lt_or_ge i j with h7 | h7
        · exact ⟨j, h7, h5, h6⟩
        · have : j = i := by omega
          subst this
          rw [hy] at h6
          exact absurd (Option.some.inj h6) h
theorem standing_at (p q : Int) (l : List Int) (hl : l.length ≤ 1000000) (k : Nat) (hk : l.length < k) : ∃ g, impl_Places_standing.f k l q p = some g ∧ g.length ≤ l.length ∧ ∀ x, x ∈ g ↔ ∃ j : Nat, x = (j : Int) ∧ l[j]? = some p := by
  obtain ⟨g, h1, h2, h3⟩ := standing_l0 p l hl l.length k 0 [] (by omega) (by simp) hk
  refine ⟨g, by unfold impl_Places_standing.f; rw [show (0 : Int) = ((0 : Nat) : Int) from rfl, h1]; simp, h2, fun x => ?_⟩
  rw [h3]
  simp
theorem areCalm_l0 (a : Nat) (c q : Int) (l : List Int) (ha : a ≤ 20) (hl : l.length = 2 * a) (hc : c ≤ 1000) : ∀ (d k : Nat) (p : Int), 0 ≤ p → p + d = c + 2 → d + 200 < k →
    ∃ r, impl_Isles_areCalm.l0 k (c + 2) p l q = some r ∧ (r = true ↔ ∀ p', p ≤ p' → p' ≤ c + 1 → Calm a fun j => l[j]? = some p') := by
  intro d
  induction d with
  | zero =>
    intro k p hp0 hp hk
    obtain ⟨k, rfl⟩ : ∃ m, k = m + 1 := ⟨k - 1, by omega⟩
    simp only [impl_Isles_areCalm.l0]
    rw [if_neg (by omega)]
    exact ⟨true, rfl, by simp; intro p' h1 h2; omega⟩
  | succ d ih =>
    intro k p hp0 hp hk
    obtain ⟨k, rfl⟩ : ∃ m, k = m + 1 := ⟨k - 1, by omega⟩
    simp only [impl_Isles_areCalm.l0]
    obtain ⟨g, h1, h2, h3⟩ := standing_at p q l (by omega) k (by omega)
    have hr : ∀ x ∈ g, 0 ≤ x ∧ x < 2 * (a : Int) := by
      intro x hx
      obtain ⟨j, h4, h5⟩ := (h3 x).1 hx
      have := (List.getElem?_eq_some_iff.1 h5).1
      omega
    have hcong : calmB a (fun j => (j : Int) ∈ g) = calmB a (fun j => l[j]? = some p) := calmB_congr (fun j hj => by
      rw [h3]
      constructor
      · rintro ⟨j', h4, h5⟩
        have : j = j' := by omega
        subst this
        exact h5
      · intro h4
        exact ⟨j, rfl, h4⟩)
    rw [if_pos (by omega), h1]
    simp only [Option.bind_some]
    rw [calm_at a g (by omega) hr (by omega) k (by omega), hcong, w64 (by omega) (by omega)]
    simp only [Option.bind_some]
    obtain ⟨r, h4, h5⟩ := ih k (p + 1) (by omega) (by omega) (by omega)
    by_cases hC : calmB a (fun j => l[j]? = some p) = true
    · rw [if_pos hC]
      refine ⟨r, h4, h5.trans ?_⟩
      constructor
      · intro h6 p' h7 h8
        rcases Int.lt_or_le p p' with h9 | h9
        · exact h6 p' (by omega) h8
        · have : p' = p := by omega
          subst this
          exact (calmB_iff _ _).1 hC
      · intro h6 p' h7 h8
        exact h6 p' (by omega) h8
    · rw [if_neg hC]
      refine ⟨false, rfl, ?_⟩
      constructor
      · intro h; cases h
      · intro h
        exact absurd ((calmB_iff _ _).2 (h p (Int.le_refl _) (by omega))) hC
theorem areCalm_at (a : Nat) (b c q : Int) (l : List Int) (ha : a ≤ 20) (hl : l.length = 2 * a) (hc0 : 0 ≤ c) (hc : c ≤ 100) (k : Nat) (hk : 1000 < k) : impl_Isles_areCalm.f k (a : Int) b c l q = some (allCalmB a c l) := by
  refine some_iff ?_
  obtain ⟨r, h1, h2⟩ := areCalm_l0 a c q l ha hl (by omega) (c + 2).toNat k 0 (by omega) (by omega) (by omega)
  unfold impl_Isles_areCalm.f impl_Isles_far.f
  simp only [Option.bind_some]
  rw [w64 (a := c + 1) (by omega) (by omega), w64 (by omega) (by omega), show c + 1 + 1 = c + 2 by omega]
  refine ⟨r, h1, h2.trans ?_⟩
  rw [allCalmB_iff]
  rfl
/-- What valid places say of their numbers. -/
theorem isPl_of {a b c : Int} {l : List Int} {p : Int} (h : isPl a b c l p = true) : good a b c = true ∧ (l.length : Int) = 2 * a ∧ (∀ x ∈ l, 0 ≤ x ∧ x ≤ c + 1) ∧ p ∈ l := by
  simp only [isPl, allB, Bool.and_eq_true, decide_eq_true_eq, List.all_eq_true] at h
  exact ⟨h.1, h.2.1, h.2.2.1, h.2.2.2⟩

/-- All at the indexes g of a list are put at one place. -/
def setAll (tt : Int) : List Int → List Int → List Int
  | [], l => l
  | x :: g, l => setAll tt g (l.set x.toNat tt)
theorem setAll_length (tt : Int) (g : List Int) : ∀ l, (setAll tt g l).length = l.length := by
  induction g with
  | nil => intro l; rfl
  | cons x g ih => intro l; simp [setAll, ih]
theorem isSail_l0 (tt r : Int) (g g' : List Int) (hg : g.length ≤ 1000000) : ∀ (d k i : Nat) (y : List Int), i + d = g.length → (∀ x ∈ g, 0 ≤ x ∧ x < y.length) → d < k →
    spec_isSail.l0 k g (g.length : Int) (i : Int) tt g' y r = some (setAll tt (g.drop i) y, r) := by
  intro d
  induction d with
  | zero =>
    intro k i y hi hy hk
    obtain ⟨k, rfl⟩ : ∃ m, k = m + 1 := ⟨k - 1, by omega⟩
    simp only [spec_isSail.l0]
    rw [if_neg (by omega), List.drop_eq_nil_of_le (by omega)]
    rfl
  | succ d ih =>
    intro k i y hi hy hk
    obtain ⟨k, rfl⟩ : ∃ m, k = m + 1 := ⟨k - 1, by omega⟩
    obtain ⟨z, t, hd, hz, ht⟩ := drop_cons g i (by omega)
    have hzm := hy z (List.mem_of_getElem? hz)
    simp only [spec_isSail.l0]
    rw [if_pos (by omega), if_pos (by omega), if_pos (by omega), rd_at hz, if_pos (by omega), if_pos (by omega), w64 (by omega) (by omega)]
    have := ih k (i + 1) (y.set z.toNat tt) (by omega) (by simpa using hy) (by omega)
    rw [show ((i + 1 : Nat) : Int) = (i : Int) + 1 by omega] at this
    rw [this, hd, ht]
    rfl
theorem isSail_at (l g : List Int) (q tt : Int) (hg : g.length ≤ 1000000) (hl : l.length ≤ 1000000) (hy : ∀ x ∈ g, 0 ≤ x ∧ x < l.length) (k : Nat) (hk : g.length < k) : spec_isSail.f k l q tt g = some (setAll tt g l, tt) := by
  unfold spec_isSail.f spec_l1Own.f
  simp only [Option.bind_some, List.nil_append]
  rw [if_pos (by simp; omega)]
  simp only [Option.bind_some]
  have := isSail_l0 tt tt g g hg g.length k 0 l (by omega) hy hk
  rw [List.drop_zero, show ((0 : Nat) : Int) = 0 from rfl] at this
  exact this
theorem behind_l0 (tt r : Int) (g : List Int) (hg : g.length ≤ 1000000) : ∀ (d k i : Nat) (y : List Int), i + d = g.length → (∀ x ∈ g, 0 ≤ x ∧ x < y.length) → d < k →
    impl_Places_behind.l0 k tt g (g.length : Int) (i : Int) y r = some (setAll tt (g.drop i) y, r) := by
  intro d
  induction d with
  | zero =>
    intro k i y hi hy hk
    obtain ⟨k, rfl⟩ : ∃ m, k = m + 1 := ⟨k - 1, by omega⟩
    simp only [impl_Places_behind.l0]
    rw [if_neg (by omega), List.drop_eq_nil_of_le (by omega)]
    rfl
  | succ d ih =>
    intro k i y hi hy hk
    obtain ⟨k, rfl⟩ : ∃ m, k = m + 1 := ⟨k - 1, by omega⟩
    obtain ⟨z, t, hd, hz, ht⟩ := drop_cons g i (by omega)
    have hzm := hy z (List.mem_of_getElem? hz)
    simp only [impl_Places_behind.l0]
    rw [if_pos (by omega), if_pos (by omega), if_pos (by omega), rd_at hz, if_pos (by omega), if_pos (by omega), w64 (by omega) (by omega)]
    have := ih k (i + 1) (y.set z.toNat tt) (by omega) (by simpa using hy) (by omega)
    rw [show ((i + 1 : Nat) : Int) = (i : Int) + 1 by omega] at this
    rw [this, hd, ht]
    rfl
theorem behind_at (l g : List Int) (q tt : Int) (hg : g.length ≤ 1000000) (hl : l.length ≤ 1000000) (hy : ∀ x ∈ g, 0 ≤ x ∧ x < l.length) (k : Nat) (hk : g.length < k) : impl_Places_behind.f k l q tt g = some (setAll tt g l, tt) := by
  unfold impl_Places_behind.f slices_Clone_int_int.f
  rw [if_pos (by omega)]
  simp only [Option.bind_some]
  have := behind_l0 tt tt g hg g.length k 0 l (by omega) hy hk
  rw [List.drop_zero, show ((0 : Nat) : Int) = 0 from rfl] at this
  exact this
/-- From index i on each number is above the one before. -/
def Rises (g : List Int) (i : Nat) : Prop := ∀ j : Nat, i ≤ j → 1 ≤ j → j < g.length → rd g ((j - 1 : Nat) : Int) < rd g (j : Int)
theorem l1Rising_l0 (g : List Int) (a b : Int) (hg : g.length ≤ 1000000) : ∀ (d k i : Nat), i + d = g.length → d < k →
    ∃ r, spec_l1Rising.l0 k g a b g (g.length : Int) (i : Int) = some r ∧ (r = true ↔ allB (g.drop i) a b = true ∧ Rises g i) := by
  intro d
  induction d with
  | zero =>
    intro k i hi hk
    obtain ⟨k, rfl⟩ : ∃ m, k = m + 1 := ⟨k - 1, by omega⟩
    simp only [spec_l1Rising.l0]
    rw [if_neg (by omega), List.drop_eq_nil_of_le (by omega)]
    exact ⟨true, rfl, by simp [allB]; intro j h1 h2 h3; omega⟩
  | succ d ih =>
    intro k i hi hk
    obtain ⟨k, rfl⟩ : ∃ m, k = m + 1 := ⟨k - 1, by omega⟩
    obtain ⟨z, t, hd, hz, ht⟩ := drop_cons g i (by omega)
    obtain ⟨r, h1, h2⟩ := ih k (i + 1) (by omega) (by omega)
    rw [show ((i + 1 : Nat) : Int) = (i : Int) + 1 by omega] at h1
    rw [ht] at h2
    simp only [spec_l1Rising.l0]
    rw [if_pos (by omega), if_pos (by omega), if_pos (by omega), spec_l1In_eq, w64 (a := (i : Int) + 1) (by omega) (by omega), h1, hd]
    simp only [Option.bind_some]
    have hz' := rd_at hz
    have hal : allB (z :: t) a b = true ↔ (a ≤ z ∧ z ≤ b) ∧ allB t a b = true := by simp [allB]
    by_cases hb : a ≤ z ∧ z ≤ b
    · rw [if_pos (by rw [hz']; simpa using hb)]
      by_cases h0 : (i : Int) > 0
      · rw [if_pos h0, w64 (by omega) (by omega), if_pos (by omega), if_pos (by omega)]
        by_cases hlt : rd g ((i : Int) - 1) ≥ rd g (i : Int)
        · rw [if_pos hlt]
          refine ⟨false, rfl, ⟨fun h => (by cases h), fun h => ?_⟩⟩
          have h3 := h.2 i (Nat.le_refl _) (by omega) (by omega)
          rw [show ((i - 1 : Nat) : Int) = (i : Int) - 1 by omega] at h3
          omega
        · rw [if_neg hlt]
          refine ⟨r, rfl, h2.trans ?_⟩
          rw [hal]
          constructor
          · rintro ⟨h4, h5⟩
            refine ⟨⟨hb, h4⟩, fun j h6 h7 h8 => ?_⟩
            rcases Nat.lt_or_ge i j with h9 | h9
            · exact h5 j (by omega) h7 h8
            · have : j = i := by omega
              subst this
              rw [show ((j - 1 : Nat) : Int) = (j : Int) - 1 by omega]
              omega
          · rintro ⟨⟨_, h4⟩, h5⟩
            exact ⟨h4, fun j h6 h7 h8 => h5 j (by omega) h7 h8⟩
      · rw [if_neg h0]
        refine ⟨r, rfl, h2.trans ?_⟩
        rw [hal]
        constructor
        · rintro ⟨h4, h5⟩
          exact ⟨⟨hb, h4⟩, fun j h6 h7 h8 => h5 j (by omega) h7 h8⟩
        · rintro ⟨⟨_, h4⟩, h5⟩
          exact ⟨h4, fun j h6 h7 h8 => h5 j (by omega) h7 h8⟩
    · rw [if_neg (by rw [hz']; simpa using hb)]
      exact ⟨false, rfl, ⟨fun h => (by cases h), fun h => absurd (hal.1 h.1).1 hb⟩⟩
theorem or_bit (x i : Nat) (hi : i ≤ 60) (hx : x < 2 ^ 61) : Go.bits .or .i64 (x : Int) (shl .i64 1 (i : Int)) = ((x ||| 2 ^ i : Nat) : Int) := by
  have h : 2 ^ i ≤ 2 ^ 60 := Nat.pow_le_pow_right (by omega) hi
  have h3 : (2 : Nat) ^ 62 = 4611686018427387904 := by decide
  have h4 : (2 : Nat) ^ 60 = 1152921504606846976 := by decide
  have h5 : (2 : Nat) ^ 61 = 2305843009213693952 := by decide
  rw [shl_one i hi]
  exact (bits_nat .i64 62 (by decide) (fun n h₀ h₁ => by rw [IntKind.wrap_i64]; omega) x (2 ^ i) (by omega) (by omega)).2
theorem cuBits_l0 (g : List Int) (hg : g.length ≤ 1000000) (hr : ∀ x ∈ g, 0 ≤ x ∧ x < 40) : ∀ (d k i M : Nat), i + d = g.length → M < 2 ^ 41 → d < k →
    ∃ N : Nat, spec_cuBits.l0 k (M : Int) g (g.length : Int) (i : Int) = some (N : Int) ∧ ∀ j : Nat, N.testBit j = true ↔ M.testBit j = true ∨ (j : Int) ∈ g.drop i := by
  intro d
  induction d with
  | zero =>
    intro k i M hi hM hk
    obtain ⟨k, rfl⟩ : ∃ m, k = m + 1 := ⟨k - 1, by omega⟩
    simp only [spec_cuBits.l0]
    rw [if_neg (by omega), List.drop_eq_nil_of_le (by omega)]
    exact ⟨M, rfl, by simp⟩
  | succ d ih =>
    intro k i M hi hM hk
    obtain ⟨k, rfl⟩ : ∃ m, k = m + 1 := ⟨k - 1, by omega⟩
    obtain ⟨z, t, hd, hz, ht⟩ := drop_cons g i (by omega)
    have hzm := hr z (List.mem_of_getElem? hz)
    obtain ⟨n, rfl⟩ := Int.eq_ofNat_of_zero_le hzm.1
    have hn : 2 ^ n < 2 ^ 41 := Nat.pow_lt_pow_right (by omega) (by omega)
    have h61 : (2 : Nat) ^ 41 < 2 ^ 61 := by decide
    simp only [spec_cuBits.l0]
    rw [if_pos (by omega), if_pos (by omega), if_pos (by omega), rd_at hz, if_pos (by omega), or_bit M n (by omega) (by omega), w64 (by omega) (by omega)]
    obtain ⟨N, h1, h2⟩ := ih k (i + 1) (M ||| 2 ^ n) (by omega) (Nat.or_lt_two_pow hM hn) (by omega)
    rw [show ((i + 1 : Nat) : Int) = (i : Int) + 1 by omega] at h1
    refine ⟨N, h1, fun j => ?_⟩
    rw [h2, hd, ht, Nat.testBit_or, Nat.testBit_two_pow, Bool.or_eq_true, decide_eq_true_eq, List.mem_cons]
    constructor
    · rintro ((h | h) | h)
      · exact .inl h
      · exact .inr (.inl (by omega))
      · exact .inr (.inr h)
    · rintro (h | h | h)
      · exact .inl (.inl h)
      · exact .inl (.inr (by omega))
      · exact .inr h
/-- A voyage in calm places: as both tell it. -/
def Voy (n : Nat) (b c : Int) (l : List Int) (p tt : Int) (g : List Int) : Prop :=
  (0 ≤ tt ∧ tt ≤ c + 1) ∧ ¬ tt = p ∧ (1 ≤ (g.length : Int) ∧ (g.length : Int) ≤ b) ∧ (allB g 0 (2 * n - 1) = true ∧ Rises g 0) ∧ (∀ x ∈ g, rd l x = p) ∧ (calmB n fun j => (j : Int) ∈ g) = true ∧ allCalmB n c (setAll tt g l) = true
noncomputable def voyB (n : Nat) (b c : Int) (l : List Int) (p tt : Int) (g : List Int) : Bool := @decide (Voy n b c l p tt g) (Classical.propDecidable _)
theorem voyB_iff (n : Nat) (b c : Int) (l : List Int) (p tt : Int) (g : List Int) : voyB n b c l p tt g = true ↔ Voy n b c l p tt g := by unfold voyB; simp
theorem allB_iff (g : List Int) (a b : Int) : allB g a b = true ↔ ∀ x ∈ g, a ≤ x ∧ x ≤ b := by simp [allB]
theorem isCan_l0 (n : Nat) (b c : Int) (l : List Int) (p tt : Int) (g : List Int) (hn : n ≤ 3) (hl : l.length = 2 * n) (hc : 0 ≤ c ∧ c ≤ 2) (hg : g.length ≤ 3) (hr : ∀ x ∈ g, 0 ≤ x ∧ x ≤ 2 * (n : Int) - 1) :
    ∀ (d k i : Nat), i + d = g.length → d + 15000 < k →
    ∃ r, spec_isCan.l0 k g (g.length : Int) (i : Int) (n : Int) b c l p tt g = some r ∧ (r = true ↔ (∀ x ∈ g.drop i, rd l x = p) ∧ (calmB n fun j => (j : Int) ∈ g) = true ∧ allCalmB n c (setAll tt g l) = true) := by
  intro d
  induction d with
  | zero =>
    intro k i hi hk
    obtain ⟨k, rfl⟩ : ∃ m, k = m + 1 := ⟨k - 1, by omega⟩
    obtain ⟨N, h1, h2⟩ := cuBits_l0 g (by omega) (fun x hx => by have := hr x hx; omega) g.length k 0 0 (by omega) (by decide) (by omega)
    rw [show ((0 : Nat) : Int) = 0 from rfl] at h1
    have hcal : (calmB n fun j => N.testBit j = true) = calmB n fun j => (j : Int) ∈ g := calmB_congr (fun j _ => by rw [h2]; simp)
    have e2 := cuCalm_at n N (by omega) k (by omega)
    rw [hcal] at e2
    have e3 := isSail_at l g p tt (by omega) (by omega) (fun x hx => by have := hr x hx; omega) k (by omega)
    have e4 := spec_isCalm_at n b c tt (setAll tt g l) (by omega) (by rw [setAll_length]; exact hl) (by omega) (by omega) k (by omega)
    simp only [spec_isCan.l0, spec_cuBits.f]
    rw [if_neg (by omega), List.drop_eq_nil_of_le (by omega), h1, Option.bind_some, e2, Option.bind_some]
    by_cases h : (calmB n fun j => (j : Int) ∈ g) = true
    · rw [if_pos h, e3, Option.bind_some, e4, Option.bind_some]
      exact ⟨_, rfl, by simp [h]⟩
    · rw [if_neg h]
      exact ⟨false, rfl, by simp [h]⟩
  | succ d ih =>
    intro k i hi hk
    obtain ⟨k, rfl⟩ : ∃ m, k = m + 1 := ⟨k - 1, by omega⟩
    obtain ⟨z, t, hd, hz, ht⟩ := drop_cons g i (by omega)
    have hzm := hr z (List.mem_of_getElem? hz)
    obtain ⟨r, h1, h2⟩ := ih k (i + 1) (by omega) (by omega)
    rw [show ((i + 1 : Nat) : Int) = (i : Int) + 1 by omega] at h1
    rw [ht] at h2
    simp only [spec_isCan.l0]
    rw [if_pos (by omega), if_pos (by omega), if_pos (by omega), rd_at hz, if_pos (by omega), if_pos (by omega), w64 (by omega) (by omega), h1, hd]
    by_cases hp : rd l z = p
    · rw [if_pos hp]
      exact ⟨r, rfl, h2.trans (by simp [hp])⟩
    · rw [if_neg hp]
      exact ⟨false, rfl, by simp [hp]⟩
theorem isCan_at (n : Nat) (b c : Int) (l : List Int) (p tt : Int) (g : List Int) (hgd : good (n : Int) b c = true) (hl : l.length = 2 * n) (k : Nat) (hk : 20000 < k) : spec_isCan.f k (n : Int) b c l p tt g = some (voyB n b c l p tt g) := by
  have hg' := good_of hgd
  refine some_iff ?_
  simp only [voyB_iff]
  obtain ⟨k', rfl⟩ : ∃ m, k = m + 1 := ⟨k - 1, by omega⟩
  unfold spec_isCan.f
  rw [w64 (a := c + 1) (by omega) (by omega), spec_l1In_eq, Option.bind_some]
  by_cases h1 : 0 ≤ tt ∧ tt ≤ c + 1
  · rw [if_pos (by simpa using h1)]
    by_cases h2 : tt = p
    · rw [if_pos h2]
      exact ⟨false, by simp [spec_isCan.j0], ⟨fun h => (by cases h), fun h => absurd h2 h.2.1⟩⟩
    · rw [if_neg h2, spec_l1In_eq, Option.bind_some]
      by_cases h3 : 1 ≤ (g.length : Int) ∧ (g.length : Int) ≤ b
      · rw [if_pos (by simpa using h3)]
        obtain ⟨r, h4, h5⟩ := l1Rising_l0 g 0 (2 * n - 1) (by omega) g.length (k' + 1) 0 (by omega) (by omega)
        rw [show ((0 : Nat) : Int) = 0 from rfl] at h4
        rw [List.drop_zero] at h5
        unfold spec_l1Rising.f
        rw [show wrap64 ((l.length : Int) - 1) = 2 * n - 1 by rw [w64 (by omega) (by omega)]; omega, h4, Option.bind_some]
        by_cases hr : r = true
        · subst hr
          have h6 := h5.1 rfl
          obtain ⟨r', h7, h8⟩ := isCan_l0 n b c l p tt g (by omega) hl (by omega) (by omega) ((allB_iff _ _ _).1 h6.1) g.length k' 0 (by omega) (by omega)
          rw [show ((0 : Nat) : Int) = 0 from rfl] at h7
          rw [List.drop_zero] at h8
          refine ⟨r', by simp only [spec_isCan.j0, Bool.not_true, Bool.false_eq_true, if_false]; exact h7, h8.trans ?_⟩
          exact ⟨fun h => ⟨h1, h2, h3, h6, h⟩, fun h => h.2.2.2.2⟩
        · have hr' : r = false := by simpa using hr
          subst hr'
          refine ⟨false, by simp [spec_isCan.j0], ⟨fun h => (by cases h), fun h => ?_⟩⟩
          exact absurd (h5.2 h.2.2.2.1) (by simp)
      · rw [if_neg (by simpa using h3)]
        exact ⟨false, by simp [spec_isCan.j0], ⟨fun h => (by cases h), fun h => absurd h.2.2.1 h3⟩⟩
  · rw [if_neg (by simpa using h1)]
    exact ⟨false, by simp [spec_isCan.j0], ⟨fun h => (by cases h), fun h => absurd h.1 h1⟩⟩
/-- Valid isles and calm places of them. -/
noncomputable def askB (a b c : Int) (l : List Int) (p : Int) : Bool := isPl a b c l p && allCalmB a.toNat c l
theorem askB_of {a b c : Int} {l : List Int} {p : Int} (h : askB a b c l p = true) : isPl a b c l p = true ∧ allCalmB a.toNat c l = true := by simpa [askB] using h
theorem spec_isAsked_ev (a b c : Int) (l : List Int) (p : Int) (hl : l.length ≤ 9223372036854775000) : ∃ K, ∀ k, K ≤ k → spec_isAsked.f k a b c l p = some (askB a b c l p) := by
  obtain ⟨K, e⟩ := spec_isPlaces_ev a b c l p hl
  refine ⟨K + 20000, fun k hk => ?_⟩
  unfold spec_isAsked.f
  rw [e k (by omega), Option.bind_some]
  by_cases h : isPl a b c l p = true
  · obtain ⟨hg, h1, _, _⟩ := isPl_of h
    have hg' := good_of hg
    obtain ⟨n, rfl⟩ := Int.eq_ofNat_of_zero_le (show 0 ≤ a by omega)
    rw [if_pos h, spec_isCalm_at n b c p l (by omega) (by omega) (by omega) (by omega) k (by omega), Option.bind_some]
    simp [askB, h]
  · rw [if_neg h]
    simp [askB, h]
theorem impl_areAsked_ev (a b c : Int) (l : List Int) (p : Int) (hl : l.length ≤ 9223372036854775000) : ∃ K, ∀ k, K ≤ k → impl_Isles_areAsked.f k a b c l p = some (askB a b c l p) := by
  obtain ⟨K, e⟩ := impl_ArePlaces_ev a b c l p hl
  refine ⟨K + 20000, fun k hk => ?_⟩
  unfold impl_Isles_areAsked.f
  rw [e k (by omega), Option.bind_some]
  by_cases h : isPl a b c l p = true
  · obtain ⟨hg, h1, _, _⟩ := isPl_of h
    have hg' := good_of hg
    obtain ⟨n, rfl⟩ := Int.eq_ofNat_of_zero_le (show 0 ≤ a by omega)
    rw [if_pos h, areCalm_at n b c p l (by omega) (by omega) (by omega) (by omega) k (by omega), Option.bind_some]
    simp [askB, h]
  · rw [if_neg h]
    simp [askB, h]

theorem eqVoyage_ev (x : Int) (a : List Int) (y : Int) (b : List Int) (hb : a.length ≤ 9223372036854775000) : ∃ K, ∀ k, K ≤ k → laws_eqVoyage.f k x a y b = some (decide (x = y ∧ a = b)) := by
  obtain ⟨K, h⟩ := eqIntS_ev a b hb
  refine ⟨K, fun k hk => ?_⟩
  unfold laws_eqVoyage.f
  rw [h k hk]
  by_cases h1 : a = b <;> by_cases h2 : x = y <;> simp [h1, h2]

theorem rd49_at {l : List S48} {i : Nat} {x : S48} (h : l[i]? = some x) : rd_T48 l (i : Int) = x := by simp [rd_T48, h]
theorem eqVoyageS_l0 (L : List S48) (hl : L.length ≤ 1048576) (hv : ∀ v ∈ L, v.f1.length ≤ 1048576) : ∀ (d i : Nat), i + d = L.length → ∃ K, ∀ k, K ≤ k → laws_eqVoyageS.l0 k L L (i : Int) = some true := by
  intro d
  induction d with
  | zero =>
    intro i hi
    refine ⟨1, fun k hk => ?_⟩
    obtain ⟨k, rfl⟩ : ∃ m, k = m + 1 := ⟨k - 1, by omega⟩
    simp only [laws_eqVoyageS.l0]
    rw [if_neg (by omega)]
  | succ d ih =>
    intro i hi
    obtain ⟨z, t, hd, hz, ht⟩ := drop_cons L i (by omega)
    obtain ⟨K1, e1⟩ := eqVoyage_ev z.f0 z.f1 z.f0 z.f1 (by have := hv z (List.mem_of_getElem? hz); omega)
    obtain ⟨K2, e2⟩ := ih (i + 1) (by omega)
    refine ⟨K1 + K2 + 1, fun k hk => ?_⟩
    obtain ⟨k, rfl⟩ : ∃ m, k = m + 1 := ⟨k - 1, by omega⟩
    have h2 := e2 k (by omega)
    rw [show ((i + 1 : Nat) : Int) = (i : Int) + 1 by omega] at h2
    simp only [laws_eqVoyageS.l0]
    rw [if_pos (by omega), if_pos (by omega), if_pos (by omega), rd49_at hz, e1 k (by omega), Option.bind_some, if_pos (by simp), w64 (by omega) (by omega)]
    exact h2
theorem eqVoyageS_ev (L : List S48) (hl : L.length ≤ 1048576) (hv : ∀ v ∈ L, v.f1.length ≤ 1048576) : ∃ K, ∀ k, K ≤ k → laws_eqVoyageS.f k L L = some true := by
  obtain ⟨K, h⟩ := eqVoyageS_l0 L hl hv L.length 0 (by omega)
  refine ⟨K, fun k hk => ?_⟩
  unfold laws_eqVoyageS.f
  rw [if_pos rfl]
  exact h k hk

theorem rdv_at {D R : List S48} {v : S48} : rd_T48 (D ++ v :: R) (D.length : Int) = v := by simp [rd_T48]
/-- How many numbers there are in voyages, and what they are behind the mark. -/
def cntV : List S48 → Int
  | [] => 0
  | v :: l => 1 + v.f1.length + cntV l
theorem cntV_nn : ∀ L, 0 ≤ cntV L
  | [] => by simp [cntV]
  | v :: l => by have := cntV_nn l; simp only [cntV]; omega
theorem cntV_le (m : Nat) : ∀ L : List S48, (∀ v ∈ L, v.f1.length ≤ m) → cntV L ≤ L.length * (1 + m)
  | [], _ => by simp [cntV]
  | v :: l, h => by
    have h1 := cntV_le m l (fun u hu => h u (List.mem_cons_of_mem _ hu))
    have h2 := h v (by simp)
    simp only [cntV, List.length_cons]
    rw [show ((l.length + 1 : Nat) : Int) = (l.length : Int) + 1 from rfl, Int.add_mul]
    omega
def markVS : Int → List S48 → List S48
  | _, [] => []
  | a, v :: l => ⟨a, mk (a + 1) v.f1.length⟩ :: markVS (a + 1 + v.f1.length) l
theorem markVS_length : ∀ L a, (markVS a L).length = L.length
  | [], _ => rfl
  | _ :: l, _ => by simp [markVS, markVS_length l]
theorem markVoyageS_l0 : ∀ (R D : List S48) (a : Int), D.length + R.length ≤ 1000000000 → (∀ v ∈ R, v.f1.length ≤ 1000000000) → 0 ≤ a → a + cntV R ≤ 900000000000000 →
    ∃ K, ∀ k, K ≤ k → laws_markVoyageS.l0 k (D ++ R) a (D.length : Int) = some (a + cntV R, D ++ markVS a R)
  | [], D, a, _, _, _, _ => ⟨1, fun k hk => by
    obtain ⟨k, rfl⟩ : ∃ m, k = m + 1 := ⟨k - 1, by omega⟩
    simp only [laws_markVoyageS.l0]
    rw [if_neg (by simp)]
    simp [cntV, markVS]⟩
  | v :: R, D, a, hl, hv, ha, hc => by
    have hc' := cntV_nn R
    simp only [cntV] at hc
    simp only [List.length_cons] at hl
    have hvl := hv v (by simp)
    obtain ⟨K1, e1⟩ := markIntS_ev v.f1 (a + 1) (by omega) (by omega)
    obtain ⟨K2, e2⟩ := markVoyageS_l0 R (D ++ [⟨a, mk (a + 1) v.f1.length⟩]) (a + 1 + v.f1.length) (by simp; omega) (fun u hu => hv u (List.mem_cons_of_mem _ hu)) (by omega) (by omega)
    refine ⟨K1 + K2 + 1, fun k hk => ?_⟩
    obtain ⟨k, rfl⟩ : ∃ m, k = m + 1 := ⟨k - 1, by omega⟩
    have h2 := e2 k (by omega)
    simp only [laws_markVoyageS.l0]
    rw [if_pos (by simp; omega), if_pos (by omega), rdv_at, w64 (by omega) (by omega), e1 k (by omega), Option.bind_some, w64 (by omega) (by omega)]
    rw [show ((D.length : Int)).toNat = D.length by omega, List.set_append_right _ _ (Nat.le_refl _), Nat.sub_self, List.set_cons_zero]
    rw [List.append_assoc, List.singleton_append, List.length_append, List.length_singleton, show ((D.length + 1 : Nat) : Int) = (D.length : Int) + 1 by omega] at h2
    rw [h2]
    simp only [cntV, markVS, List.append_assoc, List.singleton_append]
    congr 2
    omega
theorem markVoyageS_ev (L : List S48) (a : Int) (hl : L.length ≤ 1048576) (hv : ∀ v ∈ L, v.f1.length ≤ 1048576) (ha : 0 ≤ a) (ha2 : a ≤ 100000000000) : ∃ K, ∀ k, K ≤ k → laws_markVoyageS.f k L a = some (a + cntV L, markVS a L) := by
  have h1 := cntV_le 1048576 L hv
  have h2 : (L.length : Int) * (1 + ((1048576 : Nat) : Int)) ≤ 1048576 * 1048577 := by omega
  obtain ⟨K, e⟩ := markVoyageS_l0 L [] a (by simp; omega) (fun v hvm => by have := hv v hvm; omega) ha (by omega)
  exact ⟨K, fun k hk => by unfold laws_markVoyageS.f; simpa using e k hk⟩
theorem heldVoyageS_l0 : ∀ (R D : List S48) (a : Int), D.length + R.length ≤ 1000000000 → (∀ v ∈ R, v.f1.length ≤ 1000000000) → 0 ≤ a → a + cntV R ≤ 900000000000000 →
    ∃ K, ∀ k, K ≤ k → laws_heldVoyageS.l0 k (D ++ markVS a R) a (D.length : Int) = some (a + cntV R)
  | [], D, a, _, _, _, _ => ⟨1, fun k hk => by
    obtain ⟨k, rfl⟩ : ∃ m, k = m + 1 := ⟨k - 1, by omega⟩
    simp only [laws_heldVoyageS.l0]
    rw [if_neg (by simp [markVS])]
    simp [cntV]⟩
  | v :: R, D, a, hl, hv, ha, hc => by
    have hc' := cntV_nn R
    simp only [cntV] at hc
    simp only [List.length_cons] at hl
    have hvl := hv v (by simp)
    obtain ⟨K1, e1⟩ := heldIntS_ev v.f1.length (a + 1) (by omega) (by omega)
    obtain ⟨K2, e2⟩ := heldVoyageS_l0 R (D ++ [⟨a, mk (a + 1) v.f1.length⟩]) (a + 1 + v.f1.length) (by simp; omega) (fun u hu => hv u (List.mem_cons_of_mem _ hu)) (by omega) (by omega)
    refine ⟨K1 + K2 + 1, fun k hk => ?_⟩
    obtain ⟨k, rfl⟩ : ∃ m, k = m + 1 := ⟨k - 1, by omega⟩
    have h2 := e2 k (by omega)
    have hm : markVS a (v :: R) = ⟨a, mk (a + 1) v.f1.length⟩ :: markVS (a + 1 + v.f1.length) R := rfl
    rw [hm]
    simp only [laws_heldVoyageS.l0]
    rw [if_pos (by simp; omega), if_pos (by omega), rdv_at, if_pos rfl, w64 (by omega) (by omega), e1 k (by omega), Option.bind_some, if_neg (by omega), w64 (by omega) (by omega)]
    rw [List.append_assoc, List.singleton_append, List.length_append, List.length_singleton, show ((D.length + 1 : Nat) : Int) = (D.length : Int) + 1 by omega] at h2
    rw [h2]
    simp only [cntV]
    congr 1
    omega
theorem heldVoyageS_ev (L : List S48) (a : Int) (hl : L.length ≤ 1048576) (hv : ∀ v ∈ L, v.f1.length ≤ 1048576) (ha : 0 ≤ a) (ha2 : a ≤ 100000000000) : ∃ K, ∀ k, K ≤ k → laws_heldVoyageS.f k (markVS a L) a = some (a + cntV L) := by
  have h1 := cntV_le 1048576 L hv
  have h2 : (L.length : Int) * (1 + ((1048576 : Nat) : Int)) ≤ 1048576 * 1048577 := by omega
  obtain ⟨K, e⟩ := heldVoyageS_l0 L [] a (by simp; omega) (fun v hvm => by have := hv v hvm; omega) ha (by omega)
  exact ⟨K, fun k hk => by unfold laws_heldVoyageS.f; simpa using e k hk⟩

/-- The lists of some people that begin with a list, at most so long. -/
def grps (most : Int) : List Int → List Int → List (List Int)
  | [], _ => []
  | x :: rest, l => if (l.length : Int) < most then (l ++ [x]) :: (grps most rest (l ++ [x]) ++ grps most rest l) else []
theorem grps_full (most : Int) (rest l : List Int) (h : ¬ (l.length : Int) < most) : grps most rest l = [] := by
  cases rest with
  | nil => rfl
  | cons x r => simp [grps, h]
theorem grps_len (most : Int) : ∀ (rest l : List Int), (grps most rest l).length + 1 ≤ 2 ^ rest.length
  | [], _ => by simp [grps]
  | x :: rest, l => by
    have h1 := grps_len most rest (l ++ [x])
    have h2 := grps_len most rest l
    simp only [grps]
    split
    · simp only [List.length_cons, List.length_append, Nat.pow_succ]
      omega
    · simp only [List.length_nil, List.length_cons, Nat.pow_succ]
      omega
theorem grps_mem (most : Int) : ∀ (rest l g : List Int), g ∈ grps most rest l → ∃ s, g = l ++ s ∧ s ≠ [] ∧ s.Sublist rest ∧ (g.length : Int) ≤ most
  | [], _, g, h => by simp [grps] at h
  | x :: rest, l, g, h => by
    simp only [grps] at h
    split at h
    · rename_i hlt
      simp only [List.mem_cons, List.mem_append] at h
      rcases h with rfl | h | h
      · exact ⟨[x], rfl, by simp, by simp, by simp; omega⟩
      · obtain ⟨s, h1, h2, h3, h4⟩ := grps_mem most rest (l ++ [x]) g h
        exact ⟨x :: s, by rw [h1]; simp, by simp, List.Sublist.cons_cons _ h3, h4⟩
      · obtain ⟨s, h1, h2, h3, h4⟩ := grps_mem most rest l g h
        exact ⟨s, h1, h2, List.Sublist.cons _ h3, h4⟩
    · cases h
/-- What is called back for each group, one after the other: a step that always goes on. -/
theorem onF_foldl {σ : Type} (most : Int) (F : σ → List Int → Option σ) (f : σ → List Int → σ) : ∀ (rest l : List Int) (s : σ), (∀ (pre : List (List Int)) (g : List Int), pre ++ [g] <+: grps most rest l → F (pre.foldl f s) g = some (f (pre.foldl f s) g)) → X.onF most F rest l s = some ((grps most rest l).foldl f s)
  | [], l, s, _ => rfl
  | x :: rest, l, s, h => by
    simp only [X.onF, grps] at h ⊢
    by_cases hlt : (l.length : Int) < most
    · rw [if_pos hlt]
      simp only [if_pos hlt] at h ⊢
      have h0 := h [] (l ++ [x]) (by simp)
      rw [List.foldl_nil] at h0
      rw [h0, Option.bind_some, onF_foldl most F f rest (l ++ [x]) (f s (l ++ [x])) (fun pre g hp => by
        have := h ((l ++ [x]) :: pre) g (by
          rw [List.cons_append]
          exact List.cons_prefix_cons.2 ⟨rfl, hp.trans (List.prefix_append _ _)⟩)
        simpa using this), Option.bind_some, onF_foldl most F f rest l _ (fun pre g hp => by
        have := h ((l ++ [x]) :: (grps most rest (l ++ [x]) ++ pre)) g (by
          rw [List.cons_append, List.append_assoc]
          exact List.cons_prefix_cons.2 ⟨rfl, (List.prefix_append_right_inj _).2 hp⟩)
        simpa [List.foldl_append] using this)]
      simp [List.foldl_append]
    · rw [if_neg hlt]
      simp [hlt]
theorem l1Own_eq (l : List Int) (h : l.length ≤ 1000000) : spec_l1Own.f l = some l := by
  unfold spec_l1Own.f
  rw [Option.bind_some, List.nil_append, if_pos (by simp; omega)]
theorem paGroups_f (most : Int) (people : List Int) (k i d : Nat) (l : List Int) (hd : d ≤ 20) (hi : i + d = people.length) (hl : (l.length : Int) ≤ most) (hk : 3 * d + 10 < k) (hm : most ≤ 1000)
    (H : ∀ (k2 : Nat) (acc : List (List Int)), k ≤ k2 + 2 → acc.length ≤ 1 → (l.length : Int) < most → spec_paGroups.l0 k2 people l most acc (i : Int) = some (acc ++ grps most (people.drop i) l)) :
    spec_paGroups.f k people l (i : Int) most = some ((if 0 < l.length then [l] else []) ++ grps most (people.drop i) l) := by
  obtain ⟨m, rfl⟩ : ∃ m, k = m + 2 := ⟨k - 2, by omega⟩
  have hj : ∀ acc : List (List Int), acc.length ≤ 1 → spec_paGroups.j0 (m + 1) people l (i : Int) most acc = some (acc ++ grps most (people.drop i) l) := by
    intro acc ha
    simp only [spec_paGroups.j0]
    by_cases h : (l.length : Int) = most
    · rw [if_pos h, grps_full most _ l (by omega), List.append_nil]
    · rw [if_neg h]
      exact H m acc (by omega) ha (by omega)
  simp only [spec_paGroups.f]
  by_cases h : 0 < l.length
  · rw [if_pos (by omega), if_pos h, l1Own_eq l (by omega), Option.bind_some, Option.bind_some, if_pos (by simp), List.nil_append]
    exact hj [l] (by simp)
  · rw [if_neg (by omega), if_neg h]
    exact hj [] (by simp)
theorem paGroups_both (most : Int) (people : List Int) (hp : people.length ≤ 20) (hm : most ≤ 1000) : ∀ (d : Nat),
    (∀ (k i : Nat) (l : List Int), i + d = people.length → (l.length : Int) ≤ most → 3 * d + 10 < k → spec_paGroups.f k people l (i : Int) most = some ((if 0 < l.length then [l] else []) ++ grps most (people.drop i) l)) ∧
    (∀ (k i : Nat) (l : List Int) (acc : List (List Int)), i + d = people.length → (l.length : Int) < most → 3 * d + 8 < k → acc.length + 2 ^ (d + 1) ≤ 1000000000 → spec_paGroups.l0 k people l most acc (i : Int) = some (acc ++ grps most (people.drop i) l)) := by
  intro d
  induction d with
  | zero =>
    have hl0 : ∀ (k i : Nat) (l : List Int) (acc : List (List Int)), i + 0 = people.length → (l.length : Int) < most → 3 * 0 + 8 < k → acc.length + 2 ^ (0 + 1) ≤ 1000000000 → spec_paGroups.l0 k people l most acc (i : Int) = some (acc ++ grps most (people.drop i) l) := by
      intro k i l acc hi hl hk _
      obtain ⟨k, rfl⟩ : ∃ m, k = m + 1 := ⟨k - 1, by omega⟩
      simp only [spec_paGroups.l0]
      rw [if_neg (by omega), List.drop_eq_nil_of_le (by omega)]
      simp [grps]
    refine ⟨fun k i l hi hl hk => ?_, hl0⟩
    exact paGroups_f most people k i 0 l (by omega) hi hl hk hm (fun k2 acc h1 h2 h3 => hl0 k2 i l acc hi h3 (by omega) (by omega))
  | succ d ih =>
    have hl0 : ∀ (k i : Nat) (l : List Int) (acc : List (List Int)), i + (d + 1) = people.length → (l.length : Int) < most → 3 * (d + 1) + 8 < k → acc.length + 2 ^ (d + 1 + 1) ≤ 1000000000 → spec_paGroups.l0 k people l most acc (i : Int) = some (acc ++ grps most (people.drop i) l) := by
      intro k i l acc hi hl hk ha
      obtain ⟨k, rfl⟩ : ∃ m, k = m + 1 := ⟨k - 1, by omega⟩
      obtain ⟨y, t, hd, hy, ht⟩ := drop_cons people i (by omega)
      have hg := grps_len most t (l ++ [y])
      have htl : t.length = d := by rw [← ht, List.length_drop]; omega
      rw [htl] at hg
      have e1 := ih.1 k (i + 1) (l ++ [y]) (by omega) (by simp; omega) (by omega)
      rw [ht, show ((i + 1 : Nat) : Int) = (i : Int) + 1 by omega, if_pos (by simp)] at e1
      have e2 := ih.2 k (i + 1) l (acc ++ ([l ++ [y]] ++ grps most t (l ++ [y]))) (by omega) hl (by omega) (by simp; rw [Nat.pow_succ] at ha ⊢; rw [Nat.pow_succ] at ha; omega)
      rw [ht, show ((i + 1 : Nat) : Int) = (i : Int) + 1 by omega] at e2
      simp only [spec_paGroups.l0]
      rw [if_pos (by omega), l1Own_eq l (by omega), Option.bind_some, if_pos (by omega), Option.bind_some, rd_at hy, if_pos (by simp; omega), w64 (by omega) (by omega), e1, Option.bind_some, if_pos (by simp; rw [Nat.pow_succ] at ha; rw [Nat.pow_succ] at ha; omega), e2, hd]
      simp only [grps, if_pos hl]
      simp
    refine ⟨fun k i l hi hl hk => ?_, hl0⟩
    exact paGroups_f most people k i (d + 1) l (by omega) hi hl hk hm (fun k2 acc h1 h2 h3 => hl0 k2 i l acc hi h3 (by omega) (by
      have : 2 ^ (d + 1 + 1) ≤ 2 ^ 21 := Nat.pow_le_pow_right (by omega) (by omega)
      omega))
theorem paGroups_at (most : Int) (people : List Int) (hp : people.length ≤ 20) (hm : most ≤ 1000) (h0 : 0 ≤ most) (k : Nat) (hk : 100 < k) : spec_paGroups.f k people [] 0 most = some (grps most people []) := by
  have := (paGroups_both most people hp hm people.length).1 k 0 [] (by omega) (by simpa using h0) (by omega)
  simpa using this

/-- The indexes at which a list has a number. -/
def idx (p : Int) : List Int → Nat → List Int
  | [], _ => []
  | x :: t, i => if x = p then (i : Int) :: idx p t (i + 1) else idx p t (i + 1)
theorem idx_length (p : Int) : ∀ (l : List Int) (i : Nat), (idx p l i).length ≤ l.length
  | [], _ => by simp [idx]
  | x :: t, i => by
    have := idx_length p t (i + 1)
    simp only [idx]
    split <;> simp <;> omega
theorem idx_mem (p : Int) : ∀ (l : List Int) (i : Nat) (x : Int), x ∈ idx p l i → ∃ j : Nat, x = ((i + j : Nat) : Int) ∧ l[j]? = some p
  | [], _, _, h => by simp [idx] at h
  | y :: t, i, x, h => by
    simp only [idx] at h
    have hr : x ∈ idx p t (i + 1) → ∃ j : Nat, x = ((i + j : Nat) : Int) ∧ (y :: t)[j]? = some p := fun h => by
      obtain ⟨j, h1, h2⟩ := idx_mem p t (i + 1) x h
      exact ⟨j + 1, by rw [h1]; omega, by simpa using h2⟩
    split at h
    · rename_i hy
      rcases List.mem_cons.1 h with rfl | h
      · exact ⟨0, by simp, by simp [hy]⟩
      · exact hr h
    · exact hr h
theorem idx_rising (p : Int) : ∀ (l : List Int) (i : Nat), (idx p l i).Pairwise (· < ·)
  | [], _ => by simp [idx]
  | y :: t, i => by
    simp only [idx]
    split
    · refine List.pairwise_cons.2 ⟨fun x hx => ?_, idx_rising p t (i + 1)⟩
      obtain ⟨j, h1, _⟩ := idx_mem p t (i + 1) x hx
      rw [h1]
      omega
    · exact idx_rising p t (i + 1)
theorem rises_of {g : List Int} (h : g.Pairwise (· < ·)) : Rises g 0 := by
  intro j _ h1 h2
  have h3 := List.pairwise_iff_getElem.1 h (j - 1) j (by omega) h2 (by omega)
  rw [rd_at (l := g) (i := j - 1) (x := g[j - 1]) (List.getElem?_eq_getElem (by omega)), rd_at (l := g) (i := j) (x := g[j]) (List.getElem?_eq_getElem h2)]
  exact h3
theorem standing_idx (p : Int) (l : List Int) (hl : l.length ≤ 1000000) : ∀ (d k i : Nat) (acc : List Int), i + d = l.length → acc.length ≤ i → d < k →
    impl_Places_standing.l0 k p acc l (l.length : Int) (i : Int) = some (acc ++ idx p (l.drop i) i) := by
  intro d
  induction d with
  | zero =>
    intro k i acc hi ha hk
    obtain ⟨k, rfl⟩ : ∃ m, k = m + 1 := ⟨k - 1, by omega⟩
    simp only [impl_Places_standing.l0]
    rw [if_neg (by omega), List.drop_eq_nil_of_le (by omega)]
    simp [idx]
  | succ d ih =>
    intro k i acc hi ha hk
    obtain ⟨k, rfl⟩ : ∃ m, k = m + 1 := ⟨k - 1, by omega⟩
    obtain ⟨y, t, hd, hy, ht⟩ := drop_cons l i (by omega)
    simp only [impl_Places_standing.l0]
    rw [if_pos (by omega), if_pos (by omega), if_pos (by omega), rd_at hy, w64 (by omega) (by omega), hd]
    by_cases h : y = p
    · have := ih k (i + 1) (acc ++ [(i : Int)]) (by omega) (by simp; omega) (by omega)
      rw [show ((i + 1 : Nat) : Int) = (i : Int) + 1 by omega, ht] at this
      rw [if_pos h, if_pos (by omega), this]
      simp [idx, h]
    · have := ih k (i + 1) acc (by omega) (by omega) (by omega)
      rw [show ((i + 1 : Nat) : Int) = (i : Int) + 1 by omega, ht] at this
      rw [if_neg h, this]
      simp [idx, h]
/-- The voyages to one place, out of all groups. -/
noncomputable def voysTo (n : Nat) (b c : Int) (l : List Int) (p tt : Int) (G : List (List Int)) : List S48 := (G.filter fun g => voyB n b c l p tt g).map fun g => ⟨tt, g⟩
theorem voysTo_len (n : Nat) (b c : Int) (l : List Int) (p tt : Int) (G : List (List Int)) : (voysTo n b c l p tt G).length ≤ G.length := by
  simp only [voysTo, List.length_map]
  exact List.length_filter_le _ _
/-- The voyages to the last places, so many of them. -/
noncomputable def voysUp (n : Nat) (b c : Int) (l : List Int) (p : Int) (G : List (List Int)) : Nat → List S48
  | 0 => []
  | d + 1 => voysTo n b c l p (c + 1 - d) G ++ voysUp n b c l p G d
theorem voysUp_len (n : Nat) (b c : Int) (l : List Int) (p : Int) (G : List (List Int)) : ∀ d, (voysUp n b c l p G d).length ≤ d * G.length
  | 0 => by simp [voysUp]
  | d + 1 => by
    have h1 := voysUp_len n b c l p G d
    have h2 := voysTo_len n b c l p (c + 1 - d) G
    simp only [voysUp, List.length_append, Nat.add_mul]
    omega
theorem isVoyages_l2 (n : Nat) (b c : Int) (l : List Int) (p tt : Int) (here : List Int) (G : List (List Int)) (hgd : good (n : Int) b c = true) (hl : l.length = 2 * n) (hG : G.length ≤ 100000) : ∀ (d k i : Nat) (acc : List S48), i + d = G.length → acc.length + d ≤ 1000000 → d + 30000 < k →
    spec_isVoyages.l2 k here acc tt G (G.length : Int) (i : Int) (n : Int) b c l p = spec_isVoyages.l1 (k - d - 1) here (acc ++ voysTo n b c l p tt (G.drop i)) (wrap64 (tt + 1)) (n : Int) b c l p := by
  intro d
  induction d with
  | zero =>
    intro k i acc hi ha hk
    obtain ⟨k, rfl⟩ : ∃ m, k = m + 1 := ⟨k - 1, by omega⟩
    simp only [spec_isVoyages.l2]
    rw [if_neg (by omega), List.drop_eq_nil_of_le (by omega)]
    simp [voysTo]
  | succ d ih =>
    intro k i acc hi ha hk
    obtain ⟨k, rfl⟩ : ∃ m, k = m + 1 := ⟨k - 1, by omega⟩
    obtain ⟨y, t, hd, hy, ht⟩ := drop_cons G i (by omega)
    have hrd : rd_L1 G (i : Int) = y := by simp [rd_L1, hy]
    simp only [spec_isVoyages.l2]
    rw [if_pos (by omega), if_pos (by omega), if_pos (by omega), hrd, isCan_at n b c l p tt y hgd hl k (by omega), Option.bind_some, w64 (a := (i : Int) + 1) (by omega) (by omega), hd]
    by_cases h : voyB n b c l p tt y = true
    · have := ih k (i + 1) (acc ++ [⟨tt, y⟩]) (by omega) (by simp; omega) (by omega)
      rw [show ((i + 1 : Nat) : Int) = (i : Int) + 1 by omega, ht] at this
      rw [if_pos h, if_pos (by omega), this, show k + 1 - (d + 1) - 1 = k - d - 1 by omega]
      simp [voysTo, h]
    · have := ih k (i + 1) acc (by omega) (by omega) (by omega)
      rw [show ((i + 1 : Nat) : Int) = (i : Int) + 1 by omega, ht] at this
      rw [if_neg h, this, show k + 1 - (d + 1) - 1 = k - d - 1 by omega]
      simp [voysTo, h]
theorem isVoyages_l1 (n : Nat) (b c : Int) (l : List Int) (p : Int) (here : List Int) (hgd : good (n : Int) b c = true) (hl : l.length = 2 * n) (hh : here.length ≤ 6) : ∀ (d k : Nat) (acc : List S48), d ≤ 4 → acc.length + d * 64 ≤ 1000000 → d * 200 + 40000 < k →
    spec_isVoyages.l1 k here acc (c + 2 - d) (n : Int) b c l p = some (acc ++ voysUp n b c l p (grps b here []) d) := by
  have hg' := good_of hgd
  have hgl := grps_len b here []
  have h64 : 2 ^ here.length ≤ 2 ^ 6 := Nat.pow_le_pow_right (by omega) hh
  intro d
  induction d with
  | zero =>
    intro k acc _ ha hk
    obtain ⟨k, rfl⟩ : ∃ m, k = m + 1 := ⟨k - 1, by omega⟩
    simp only [spec_isVoyages.l1]
    rw [w64 (by omega) (by omega), if_neg (by omega)]
    simp [voysUp]
  | succ d ih =>
    intro k acc hd ha hk
    obtain ⟨k, rfl⟩ : ∃ m, k = m + 1 := ⟨k - 1, by omega⟩
    have hv := voysTo_len n b c l p (c + 2 - ((d + 1 : Nat) : Int)) (grps b here [])
    have e1 := ih (k - (grps b here []).length - 1) (acc ++ voysTo n b c l p (c + 2 - ((d + 1 : Nat) : Int)) (grps b here [])) (by omega) (by rw [List.length_append]; omega) (by omega)
    have e2 := isVoyages_l2 n b c l p (c + 2 - ((d + 1 : Nat) : Int)) here (grps b here []) hgd hl (by omega) (grps b here []).length k 0 acc (by omega) (by omega) (by omega)
    rw [show ((0 : Nat) : Int) = 0 from rfl, List.drop_zero, w64 (by omega) (by omega), show c + 2 - ((d + 1 : Nat) : Int) + 1 = c + 2 - (d : Int) by omega] at e2
    simp only [spec_isVoyages.l1]
    rw [w64 (by omega) (by omega), if_pos (by omega), paGroups_at b here (by omega) (by omega) (by omega) k (by omega), Option.bind_some, e2, e1]
    simp only [voysUp, List.append_assoc]
    rw [show c + 2 - ((d + 1 : Nat) : Int) = c + 1 - (d : Int) by omega]
theorem isVoyages_l0 (n : Nat) (b c : Int) (l : List Int) (p : Int) (hgd : good (n : Int) b c = true) (hl : l.length = 2 * n) : ∀ (d k i : Nat) (acc : List Int), i + d = l.length → acc.length ≤ i → acc.length + d ≤ 6 → d + 50000 < k →
    spec_isVoyages.l0 k acc l (l.length : Int) (i : Int) (n : Int) b c l p = some (voysUp n b c l p (grps b (acc ++ idx p (l.drop i) i) []) (c + 2).toNat) := by
  have hg' := good_of hgd
  intro d
  induction d with
  | zero =>
    intro k i acc hi ha ha2 hk
    obtain ⟨k, rfl⟩ : ∃ m, k = m + 1 := ⟨k - 1, by omega⟩
    have := isVoyages_l1 n b c l p acc hgd hl (by omega) (c + 2).toNat k [] (by omega) (by simp; omega) (by omega)
    rw [show c + 2 - ((c + 2).toNat : Int) = 0 by omega] at this
    simp only [spec_isVoyages.l0]
    rw [if_neg (by omega), List.drop_eq_nil_of_le (by omega), this]
    simp [idx]
  | succ d ih =>
    intro k i acc hi ha ha2 hk
    obtain ⟨k, rfl⟩ : ∃ m, k = m + 1 := ⟨k - 1, by omega⟩
    obtain ⟨y, t, hd, hy, ht⟩ := drop_cons l i (by omega)
    simp only [spec_isVoyages.l0]
    rw [if_pos (by omega), if_pos (by omega), if_pos (by omega), rd_at hy, w64 (by omega) (by omega), hd]
    by_cases h : y = p
    · have := ih k (i + 1) (acc ++ [(i : Int)]) (by omega) (by simp; omega) (by simp; omega) (by omega)
      rw [show ((i + 1 : Nat) : Int) = (i : Int) + 1 by omega, ht] at this
      rw [if_pos h, if_pos (by omega), this]
      simp [idx, h]
    · have := ih k (i + 1) acc (by omega) (by omega) (by omega) (by omega)
      rw [show ((i + 1 : Nat) : Int) = (i : Int) + 1 by omega, ht] at this
      rw [if_neg h, this]
      simp [idx, h]
theorem isVoyages_at (n : Nat) (b c : Int) (l : List Int) (p : Int) (hgd : good (n : Int) b c = true) (hl : l.length = 2 * n) (k : Nat) (hk : 60000 < k) : spec_isVoyages.f k (n : Int) b c l p = some (voysUp n b c l p (grps b (idx p l 0) []) (c + 2).toNat) := by
  have hg' := good_of hgd
  unfold spec_isVoyages.f
  have := isVoyages_l0 n b c l p hgd hl l.length k 0 [] (by omega) (by simp) (by simp; omega) (by omega)
  simpa using this
/-- A group of people who are here: what is left to ask of it. -/
theorem voyB_grp {n : Nat} {b c : Int} {l : List Int} {p tt : Int} {g : List Int} (hgd : good (n : Int) b c = true) (hl : l.length = 2 * n) (ht : 0 ≤ tt ∧ tt ≤ c + 1) (hp : tt ≠ p) (hg : g ∈ grps b (idx p l 0) []) :
    (voyB n b c l p tt g = true ↔ (calmB n fun j => (j : Int) ∈ g) = true ∧ allCalmB n c (setAll tt g l) = true) ∧ (∀ x ∈ g, 0 ≤ x ∧ x < l.length) ∧ g.length ≤ 3 := by
  have hg' := good_of hgd
  obtain ⟨s, h1, h2, h3, h4⟩ := grps_mem b (idx p l 0) [] g hg
  rw [List.nil_append] at h1
  subst h1
  have hm : ∀ x ∈ g, ∃ j : Nat, x = (j : Int) ∧ l[j]? = some p := fun x hx => by
    obtain ⟨j, h5, h6⟩ := idx_mem p l 0 x (h3.subset hx)
    exact ⟨j, by rw [h5]; omega, h6⟩
  have hlt : ∀ x ∈ g, 0 ≤ x ∧ x < l.length := fun x hx => by
    obtain ⟨j, h5, h6⟩ := hm x hx
    have := (List.getElem?_eq_some_iff.1 h6).1
    omega
  have hlen : 1 ≤ g.length := by
    cases g with
    | nil => exact absurd rfl h2
    | cons _ _ => simp
  refine ⟨?_, hlt, by omega⟩
  rw [voyB_iff]
  refine ⟨fun h => ⟨h.2.2.2.2.2.1, h.2.2.2.2.2.2⟩, fun h => ⟨ht, hp, ⟨by omega, h4⟩, ⟨(allB_iff _ _ _).2 (fun x hx => by have := hlt x hx; omega), rises_of (List.Pairwise.sublist h3 (idx_rising p l 0))⟩, fun x hx => ?_, h.1, h.2⟩⟩
  obtain ⟨j, h5, h6⟩ := hm x hx
  rw [h5]
  exact rd_at h6
theorem voyages_step (n : Nat) (b c : Int) (l : List Int) (p tt : Int) (hgd : good (n : Int) b c = true) (hl : l.length = 2 * n) (ht : 0 ≤ tt ∧ tt ≤ c + 1) (hp : tt ≠ p) (k : Nat) (hk : 30000 < k) (s : List S48) (hs : s.length ≤ 1000000) (g : List Int) (hg : g ∈ grps b (idx p l 0) []) :
    impl_Isles_voyages_1.st k (n : Int) b c l p tt s g = some (if voyB n b c l p tt g = true then s ++ [⟨tt, g⟩] else s) := by
  have hg' := good_of hgd
  obtain ⟨h1, h2, h3⟩ := voyB_grp hgd hl ht hp hg
  unfold impl_Isles_voyages_1.st
  rw [calm_at n g (by omega) (fun x hx => by have := h2 x hx; omega) (by omega) k (by omega), Option.bind_some]
  by_cases hc : (calmB n fun j => (j : Int) ∈ g) = true
  · rw [if_pos hc, behind_at l g p tt (by omega) (by omega) h2 k (by omega), Option.bind_some]
    dsimp only
    rw [areCalm_at n b c tt (setAll tt g l) (by omega) (by rw [setAll_length]; exact hl) (by omega) (by omega) k (by omega), Option.bind_some]
    by_cases ha : allCalmB n c (setAll tt g l) = true
    · rw [if_pos ha, if_pos (by omega), if_pos (h1.2 ⟨hc, ha⟩)]
    · rw [if_neg ha, if_neg (fun h => ha (h1.1 h).2)]
  · rw [if_neg hc, if_neg (fun h => hc (h1.1 h).1)]
theorem foldl_voys (n : Nat) (b c : Int) (l : List Int) (p tt : Int) : ∀ (G : List (List Int)) (s : List S48), G.foldl (fun s g => if voyB n b c l p tt g = true then s ++ [⟨tt, g⟩] else s) s = s ++ voysTo n b c l p tt G
  | [], s => by simp [voysTo]
  | g :: G, s => by
    rw [List.foldl_cons, foldl_voys n b c l p tt G]
    by_cases h : voyB n b c l p tt g = true
    · simp [voysTo, h]
    · simp [voysTo, h]
theorem foldl_len (n : Nat) (b c : Int) (l : List Int) (p tt : Int) (G : List (List Int)) (s : List S48) : (G.foldl (fun s g => if voyB n b c l p tt g = true then s ++ [⟨tt, g⟩] else s) s).length ≤ s.length + G.length := by
  rw [foldl_voys, List.length_append]
  have := voysTo_len n b c l p tt G
  omega
theorem voysTo_here (n : Nat) (b c : Int) (l : List Int) (p : Int) (G : List (List Int)) : voysTo n b c l p p G = [] := by
  simp only [voysTo, List.map_eq_nil_iff, List.filter_eq_nil_iff]
  intro g _ h
  exact ((voyB_iff _ _ _ _ _ _ _).1 h).2.1 rfl
theorem voyages_lp (n : Nat) (b c : Int) (l : List Int) (p : Int) (hgd : good (n : Int) b c = true) (hl : l.length = 2 * n) (k : Nat) (hk : 30000 < k) : ∀ (d m : Nat) (acc : List S48), d ≤ 4 → acc.length + d * 64 ≤ 100000 → d < m → (d : Int) ≤ c + 2 →
    impl_Isles_voyages.lp k (n : Int) b c l p (idx p l 0) (c + 2) m (c + 2 - d) acc = some (acc ++ voysUp n b c l p (grps b (idx p l 0) []) d) := by
  have hg' := good_of hgd
  have hil := idx_length p l 0
  have hgl := grps_len b (idx p l 0) []
  have h64 : 2 ^ (idx p l 0).length ≤ 2 ^ 6 := Nat.pow_le_pow_right (by omega) (by omega)
  intro d
  induction d with
  | zero =>
    intro m acc _ ha hm _
    obtain ⟨m, rfl⟩ : ∃ q, m = q + 1 := ⟨m - 1, by omega⟩
    rw [impl_Isles_voyages.lp, if_neg (by omega)]
    simp [voysUp]
  | succ d ih =>
    intro m acc hd ha hm hc
    obtain ⟨m, rfl⟩ : ∃ q, m = q + 1 := ⟨m - 1, by omega⟩
    rw [impl_Isles_voyages.lp, if_pos (by omega), w64 (by omega) (by omega), show c + 2 - ((d + 1 : Nat) : Int) + 1 = c + 2 - (d : Int) by omega]
    by_cases h : c + 2 - ((d + 1 : Nat) : Int) = p
    · rw [if_pos h, ih m acc (by omega) (by omega) (by omega) (by omega)]
      simp only [voysUp]
      rw [show c + 1 - (d : Int) = p by omega, voysTo_here, List.nil_append]
    · have hv := voysTo_len n b c l p (c + 2 - ((d + 1 : Nat) : Int)) (grps b (idx p l 0) [])
      rw [if_neg h, onF_foldl b _ (fun s g => if voyB n b c l p (c + 2 - ((d + 1 : Nat) : Int)) g = true then s ++ [⟨c + 2 - ((d + 1 : Nat) : Int), g⟩] else s) (idx p l 0) [] acc (fun pre g hpre => ?_), Option.bind_some, foldl_voys, ih m _ (by omega) (by rw [List.length_append]; omega) (by omega) (by omega)]
      · simp only [voysUp, List.append_assoc]
        rw [show c + 2 - ((d + 1 : Nat) : Int) = c + 1 - (d : Int) by omega]
      · have h1 := foldl_len n b c l p (c + 2 - ((d + 1 : Nat) : Int)) pre acc
        have h2 := hpre.length_le
        simp only [List.length_append, List.length_singleton] at h2
        exact voyages_step n b c l p _ hgd hl (by omega) h k hk _ (by omega) g (hpre.subset (by simp))
theorem voyages_at (n : Nat) (b c : Int) (l : List Int) (p : Int) (hgd : good (n : Int) b c = true) (hl : l.length = 2 * n) (k : Nat) (hk : 60000 < k) : impl_Isles_voyages.f k (n : Int) b c l p = some (voysUp n b c l p (grps b (idx p l 0) []) (c + 2).toNat) := by
  have hg' := good_of hgd
  have hil := idx_length p l 0
  unfold impl_Isles_voyages.f impl_Places_standing.f impl_Isles_far.f
  have e1 := standing_idx p l (by omega) l.length k 0 [] (by omega) (by simp) (by omega)
  rw [show ((0 : Nat) : Int) = 0 from rfl, List.drop_zero, List.nil_append] at e1
  have e2 := voyages_lp n b c l p hgd hl k (by omega) (c + 2).toNat k [] (by omega) (by simp; omega) (by omega) (by omega)
  rw [show c + 2 - ((c + 2).toNat : Int) = 0 by omega, List.nil_append] at e2
  rw [e1, Option.bind_some, Option.bind_some, w64 (a := c + 1) (by omega) (by omega), w64 (by omega) (by omega), if_pos ⟨by omega, by omega⟩, show c + 1 + 1 = c + 2 by omega, e2]

theorem voysUp_row (n : Nat) (b c : Int) (l : List Int) (p : Int) (hgd : good (n : Int) b c = true) (G : List (List Int)) : ∀ d, ∀ v ∈ voysUp n b c l p G d, v.f1.length ≤ 3
  | 0, v, h => by simp [voysUp] at h
  | d + 1, v, h => by
    have hg' := good_of hgd
    simp only [voysUp, List.mem_append] at h
    rcases h with h | h
    · simp only [voysTo, List.mem_map, List.mem_filter] at h
      obtain ⟨g, ⟨_, h1⟩, rfl⟩ := h
      have := ((voyB_iff _ _ _ _ _ _ _).1 h1).2.2.1
      show g.length ≤ 3
      omega
    · exact voysUp_row n b c l p hgd G d v h
theorem VoyagesOf_both (a b c : Int) (l : List Int) (p : Int) (hl : l.length ≤ 1000000000) : ∃ (L : List S48) (ok : Bool) (K : Nat), L.length ≤ 1000 ∧ (∀ v ∈ L, v.f1.length ≤ 3) ∧ ∀ k, K ≤ k → spec_VoyagesOf.f k a b c l p = some (L, ok) ∧ impl_VoyagesOf.f k a b c l p = some (L, ok) := by
  obtain ⟨K2, e2⟩ := spec_isAsked_ev a b c l p (by omega)
  obtain ⟨K3, e3⟩ := impl_areAsked_ev a b c l p (by omega)
  by_cases h : askB a b c l p = true
  · obtain ⟨hp, _⟩ := askB_of h
    obtain ⟨hg, h1, _, _⟩ := isPl_of hp
    have hg' := good_of hg
    obtain ⟨n, rfl⟩ := Int.eq_ofNat_of_zero_le (show 0 ≤ a by omega)
    have e4 := isVoyages_at n b c l p hg (by omega)
    have e5 := voyages_at n b c l p hg (by omega)
    have hil := idx_length p l 0
    have hgl := grps_len b (idx p l 0) []
    have h64 : 2 ^ (idx p l 0).length ≤ 2 ^ 6 := Nat.pow_le_pow_right (by omega) (by omega)
    have hvl := voysUp_len n b c l p (grps b (idx p l 0) []) (c + 2).toNat
    have h4 : (c + 2).toNat * (grps b (idx p l 0) []).length ≤ 4 * 63 := Nat.mul_le_mul (by omega) (by omega)
    refine ⟨_, true, K2 + K3 + 60001, ?_, voysUp_row n b c l p hg (grps b (idx p l 0) []) (c + 2).toNat, fun k hk => ⟨?_, ?_⟩⟩
    · omega
    · unfold spec_VoyagesOf.f
      rw [e2 k (by omega), Option.bind_some, if_pos h, e4 k (by omega), Option.bind_some]
    · unfold impl_VoyagesOf.f
      rw [e3 k (by omega), Option.bind_some, if_pos h, e5 k (by omega), Option.bind_some]
  · refine ⟨[], false, K2 + K3, by simp, by simp, fun k hk => ⟨?_, ?_⟩⟩
    · unfold spec_VoyagesOf.f
      rw [e2 k (by omega), Option.bind_some, if_neg h]
    · unfold impl_VoyagesOf.f
      rw [e3 k (by omega), Option.bind_some, if_neg h]
theorem FnExactVoyagesOf : laws_FnExactVoyagesOf.Pure := by
  intro a b c l p _ _ _ hl _
  have hs := szPlaces_eq l p 1048576 hl.1 (by omega) (by omega)
  by_cases h : (1048576 : Int) < l.length
  · refine ⟨0, ?_⟩
    simp [laws_FnExactVoyagesOf.f, hs, h]
  · have h1 : ¬ ((1048576 : Int) - l.length < 0) := by omega
    obtain ⟨K1, e1⟩ := toPlaces_ev l p (by omega)
    obtain ⟨L, ok, K2, hL, hL2, e2⟩ := VoyagesOf_both a b c l p (by omega)
    have e2a := fun k hk => (e2 k hk).1
    have e2b := fun k hk => (e2 k hk).2
    have hL3 : ∀ v ∈ L, v.f1.length ≤ 1048576 := fun v hv => by have := hL2 v hv; omega
    obtain ⟨K4, e4⟩ := eqPlaces_ev l l p p (by omega)
    obtain ⟨K7, e7⟩ := eqVoyageS_ev L (by omega) hL3
    obtain ⟨K8, e8⟩ := markPlaces_ev l p 1 (by omega) (by omega)
    obtain ⟨K9, e9⟩ := markVoyageS_ev L 1 (by omega) hL3 (by omega) (by omega)
    obtain ⟨K10, e10⟩ := heldVoyageS_ev L 1 (by omega) hL3 (by omega) (by omega)
    have hn := cntV_nn L
    have h5 : ¬ (1 + (l.length : Int) < 0) := by omega
    have h6 : ¬ (1 + cntV L < 0) := by omega
    refine ⟨K1 + K2 + K4 + K7 + K8 + K9 + K10, ?_⟩
    generalize hk : K1 + K2 + K4 + K7 + K8 + K9 + K10 = k
    unfold laws_FnExactVoyagesOf.f
    rw [hs, if_neg h, Option.bind_some, if_neg h1]
    simp only [laws_toIsles.f, Option.bind_some]
    rw [e1 k (by omega), Option.bind_some]
    dsimp only
    rw [e2a k (by omega), Option.bind_some, Option.bind_some]
    dsimp only
    rw [e2b k (by omega), Option.bind_some]
    dsimp only
    rw [e7 k (by omega), Option.bind_some, if_pos rfl, if_neg (by simp), Option.bind_some]
    dsimp only
    rw [e4 k (by omega), Option.bind_some, if_pos (by simp), e8 k (by omega), Option.bind_some]
    dsimp only
    rw [if_neg h5, Option.bind_some, if_pos rfl, e9 k (by omega), Option.bind_some]
    dsimp only
    rw [e10 k (by omega), Option.bind_some, if_neg h6, if_pos rfl, Option.bind_some]
    dsimp only
    rw [e2b k (by omega), Option.bind_some]
    dsimp only
    rw [e7 k (by omega), Option.bind_some, if_pos rfl, if_neg (by simp), Option.bind_some, if_neg h6, if_pos rfl]
end Go.Proofs.Ytldeaeeolibpjaa.Q.Pure
