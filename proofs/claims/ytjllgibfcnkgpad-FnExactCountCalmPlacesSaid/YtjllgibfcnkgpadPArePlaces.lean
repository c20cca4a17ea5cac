/- Places of isles that are valid: the program and the reference tell the same. -/
import Derived.Test.YtjllgibfcnkgpadPPlaces
namespace Go.Proofs.Ytjllgibfcnkgpad.Q.Pure
open Go.RowKit Go.Proofs.Ytjllgibfcnkgpad Go.Proofs.Ytjllgibfcnkgpad.Q Go.Proofs.YtjllgibfcnkgpadW.PrintWords Go.Proofs.YtjllgibfcnkgpadW.PrintLast Go.Proofs.YtjllgibfcnkgpadW.PrintMore

theorem drop_cons {α : Type} (l : List α) (i : Nat) (h : i < l.length) : ∃ y t, l.drop i = y :: t ∧ l[i]? = some y ∧ l.drop (i + 1) = t :=
  ⟨l[i], l.drop (i + 1), List.drop_eq_getElem_cons h, List.getElem?_eq_getElem h, rfl⟩
/-- All numbers of a list lie between two. -/
def allB (l : List Int) (a b : Int) : Bool := l.all fun x => decide (a ≤ x ∧ x ≤ b)
theorem l1All_l0 (l : List Int) (a b : Int) (hl : l.length ≤ 9223372036854775000) : ∀ (d k i : Nat), i + d = l.length → d < k → spec_l1All.l0 k a b l (l.length : Int) (i : Int) = some (allB (l.drop i) a b) := by
  intro d
  induction d with
  | zero =>
    intro k i hi hk
    obtain ⟨k, rfl⟩ : ∃ m, k = m + 1 := ⟨k - 1, by omega⟩
    simp only [spec_l1All.l0]
    rw [if_neg (by omega), List.drop_eq_nil_of_le (by omega)]
    rfl
  | succ d ih =>
    intro k i hi hk
    obtain ⟨k, rfl⟩ : ∃ m, k = m + 1 := ⟨k - 1, by omega⟩
    simp only [spec_l1All.l0]
    obtain ⟨y, t, hd, hy, ht⟩ := drop_cons l i (by omega)
    rw [if_pos (by omega), if_pos (by omega), if_pos (by omega), spec_l1In_eq, hd]
    simp only [Option.bind_some, rd_at hy]
    have := ih k (i + 1) (by omega) (by omega)
    rw [ht] at this
    rw [show ((i + 1 : Nat) : Int) = (i : Int) + 1 by omega] at this
    by_cases h : a ≤ y ∧ y ≤ b
    · rw [if_pos (by simpa using h), w64 (by omega) (by omega), this]
      simp [allB, h]
    · rw [if_neg (by simpa using h)]
      simp [allB, h]
theorem l1All_ev (l : List Int) (a b : Int) (hl : l.length ≤ 9223372036854775000) : ∃ K, ∀ k, K ≤ k → spec_l1All.f k l a b = some (allB l a b) := by
  refine ⟨l.length + 1, fun k hk => ?_⟩
  unfold spec_l1All.f
  simpa using l1All_l0 l a b hl l.length k 0 (by omega) (by omega)
theorem l1Has_l0 (l : List Int) (a : Int) (hl : l.length ≤ 9223372036854775000) : ∀ (d k i : Nat), i + d = l.length → d < k → spec_l1Has.l0 k a l (l.length : Int) (i : Int) = some (decide (a ∈ l.drop i)) := by
  intro d
  induction d with
  | zero =>
    intro k i hi hk
    obtain ⟨k, rfl⟩ : ∃ m, k = m + 1 := ⟨k - 1, by omega⟩
    simp only [spec_l1Has.l0]
    rw [if_neg (by omega), List.drop_eq_nil_of_le (by omega)]
    simp
  | succ d ih =>
    intro k i hi hk
    obtain ⟨k, rfl⟩ : ∃ m, k = m + 1 := ⟨k - 1, by omega⟩
    simp only [spec_l1Has.l0]
    obtain ⟨y, t, hd, hy, ht⟩ := drop_cons l i (by omega)
    rw [if_pos (by omega), if_pos (by omega), if_pos (by omega), hd, rd_at hy]
    have := ih k (i + 1) (by omega) (by omega)
    rw [ht] at this
    rw [show ((i + 1 : Nat) : Int) = (i : Int) + 1 by omega] at this
    by_cases h : y = a
    · rw [if_pos h]
      simp [h]
    · rw [if_neg h, w64 (by omega) (by omega), this]
      have h' : ¬ a = y := fun e => h e.symm
      simp [h']
theorem l1Has_ev (l : List Int) (a : Int) (hl : l.length ≤ 9223372036854775000) : ∃ K, ∀ k, K ≤ k → spec_l1Has.f k l a = some (decide (a ∈ l)) := by
  refine ⟨l.length + 1, fun k hk => ?_⟩
  unfold spec_l1Has.f
  simpa using l1Has_l0 l a hl l.length k 0 (by omega) (by omega)
theorem index_l0 (l : List Int) (a : Int) (hl : l.length ≤ 9223372036854775000) : ∀ (d k i : Nat), i + d = l.length → d < k → ∃ r, slices_Index_int_int.l0 k l a (l.length : Int) (i : Int) = some r ∧ decide (r ≥ 0) = decide (a ∈ l.drop i) := by
  intro d
  induction d with
  | zero =>
    intro k i hi hk
    obtain ⟨k, rfl⟩ : ∃ m, k = m + 1 := ⟨k - 1, by omega⟩
    simp only [slices_Index_int_int.l0]
    rw [if_neg (by omega), List.drop_eq_nil_of_le (by omega)]
    exact ⟨-1, rfl, by simp⟩
  | succ d ih =>
    intro k i hi hk
    obtain ⟨k, rfl⟩ : ∃ m, k = m + 1 := ⟨k - 1, by omega⟩
    simp only [slices_Index_int_int.l0]
    obtain ⟨y, t, hd, hy, ht⟩ := drop_cons l i (by omega)
    rw [if_pos (by omega), if_pos (by omega), if_pos (by omega), hd, rd_at hy]
    obtain ⟨r, h1, h2⟩ := ih k (i + 1) (by omega) (by omega)
    rw [ht] at h2
    rw [show ((i + 1 : Nat) : Int) = (i : Int) + 1 by omega] at h1
    by_cases h : a = y
    · rw [if_pos h]
      exact ⟨i, rfl, by simp [h]⟩
    · rw [if_neg h, w64 (by omega) (by omega), h1]
      exact ⟨r, rfl, by rw [h2]; simp [h]⟩
theorem contains_at (l : List Int) (a : Int) (hl : l.length ≤ 9223372036854775000) (k : Nat) (hk : l.length < k) : slices_Contains_int_int.f k l a = some (decide (a ∈ l)) := by
  unfold slices_Contains_int_int.f slices_Index_int_int.f
  obtain ⟨r, h1, h2⟩ := index_l0 l a hl l.length k 0 (by omega) (by omega)
  rw [show ((0 : Nat) : Int) = 0 from rfl] at h1
  rw [h1]
  simp only [Option.bind_some, h2, List.drop_zero]
theorem contains_ev (l : List Int) (a : Int) (hl : l.length ≤ 9223372036854775000) : ∃ K, ∀ k, K ≤ k → slices_Contains_int_int.f k l a = some (decide (a ∈ l)) :=
  ⟨l.length + 1, fun k hk => contains_at l a hl k (by omega)⟩
theorem anyO_some {α : Type} {F : α → Option Bool} {p : α → Bool} (l : List α) (h : ∀ x ∈ l, F x = some (p x)) : X.anyO F l = some (l.any p) := by
  induction l with
  | nil => rfl
  | cons x l ih =>
    simp only [X.anyO, h x (by simp), Option.bind_some, ih (fun y hy => h y (by simp [hy])), List.any_cons]
    cases p x <;> simp
theorem areIn_eq (l : List Int) (a b c d : Int) : impl_areIn.f l a b c d = some (decide (c ≤ l.length ∧ (l.length : Int) ≤ d) && allB l a b) := by
  unfold impl_areIn.f
  rw [impl_in_eq]
  simp only [Option.bind_some]
  by_cases h : c ≤ l.length ∧ (l.length : Int) ≤ d
  · rw [if_pos (by simpa using h)]
    unfold slices_ContainsFunc_int_int_at_impl_areIn_1.f
    rw [anyO_some (p := fun x => !decide (a ≤ x ∧ x ≤ b)) l (fun x _ => by simp [impl_areIn_1.f, impl_in_eq])]
    simp only [Option.bind_some, h, and_self, decide_true, Bool.true_and]
    congr 1
    simp [allB, List.all_eq_not_any_not]
  · rw [if_neg (by simpa using h)]
    simp [h]
/-- Valid isles and places of them. -/
def isPl (a b c : Int) (l : List Int) (p : Int) : Bool := good a b c && (decide ((l.length : Int) = 2 * a) && (allB l 0 (c + 1) && decide (p ∈ l)))
theorem spec_isPlaces_ev (a b c : Int) (l : List Int) (p : Int) (hl : l.length ≤ 9223372036854775000) : ∃ K, ∀ k, K ≤ k → spec_isPlaces.f k a b c l p = some (isPl a b c l p) := by
  by_cases hg : good a b c = true
  · have hg' := good_of hg
    obtain ⟨K1, e1⟩ := l1All_ev l 0 (c + 1) hl
    obtain ⟨K2, e2⟩ := l1Has_ev l p hl
    refine ⟨K1 + K2, fun k hk => ?_⟩
    unfold spec_isPlaces.f
    rw [spec_isGood_eq, w64 (by omega) (by omega), w64 (by omega) (by omega), e1 k (by omega), e2 k (by omega)]
    simp only [hg, Option.bind_some, if_true, isPl, Bool.true_and]
    by_cases h1 : (l.length : Int) = 2 * a <;> cases h2 : allB l 0 (c + 1) <;> simp [h1]
  · refine ⟨0, fun k _ => ?_⟩
    unfold spec_isPlaces.f
    rw [spec_isGood_eq]
    simp [isPl, hg]
end Go.Proofs.Ytjllgibfcnkgpad.Q.Pure
