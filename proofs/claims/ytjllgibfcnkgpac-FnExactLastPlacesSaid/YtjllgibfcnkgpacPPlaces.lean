/- The laws' helpers over places, and the first and the last places of isles, as plain functions. -/
import Derived.Test.YtjllgibfcnkgpacPInts
namespace Go.Proofs.Ytjllgibfcnkgpac.Q.Pure
open Go.RowKit Go.Proofs.Ytjllgibfcnkgpac.Q Go.Proofs.YtjllgibfcnkgpacW.PrintWords Go.Proofs.YtjllgibfcnkgpacW.PrintLast Go.Proofs.YtjllgibfcnkgpacW.PrintMore

theorem eqPlaces_ev (a b : List Int) (x y : Int) (hb : a.length ≤ 9223372036854775000) : ∃ K, ∀ k, K ≤ k → laws_eqPlaces.f k a x b y = some (decide (a = b ∧ x = y)) := by
  obtain ⟨K, h⟩ := eqIntS_ev a b hb
  refine ⟨K, fun k hk => ?_⟩
  unfold laws_eqPlaces.f
  rw [h k hk]
  by_cases h1 : a = b <;> by_cases h2 : x = y <;> simp [h1, h2]
theorem markPlaces_ev (l : List Int) (x a : Int) (hn : l.length ≤ 1000000000) (ha : 0 ≤ a ∧ a ≤ 1000000000000) : ∃ K, ∀ k, K ≤ k → laws_markPlaces.f k l x a = some (a + l.length, mk a l.length) := by
  obtain ⟨K, h⟩ := markIntS_ev l a hn ha
  refine ⟨K, fun k hk => ?_⟩
  unfold laws_markPlaces.f
  rw [h k hk]
  rfl
theorem heldPlaces_ev (n : Nat) (x a : Int) (hn : n ≤ 1000000000) (ha : 0 ≤ a ∧ a ≤ 1000000000000) : ∃ K, ∀ k, K ≤ k → laws_heldPlaces.f k (mk a n) x a = some (a + n) := by
  obtain ⟨K, h⟩ := heldIntS_ev n a hn ha
  refine ⟨K, fun k hk => ?_⟩
  unfold laws_heldPlaces.f
  rw [h k hk]
  simp only [Option.bind_some]
  rw [if_neg (by omega)]
/-- Isles whose numbers are as they have to be. -/
def good (a b c : Int) : Bool := decide (1 ≤ a ∧ a ≤ 3 ∧ 1 ≤ b ∧ b ≤ 3 ∧ 0 ≤ c ∧ c ≤ 2)
theorem spec_l1In_eq (x a b : Int) : spec_l1In.f x a b = some (decide (a ≤ x ∧ x ≤ b)) := by
  unfold spec_l1In.f
  by_cases h : a ≤ x <;> simp [h]
theorem spec_isGood_eq (a b c : Int) : spec_isGood.f a b c = some (good a b c) := by
  unfold spec_isGood.f
  simp only [spec_l1In_eq, Option.bind_some]
  by_cases h1 : 1 ≤ a ∧ a ≤ 3 <;> by_cases h2 : 1 ≤ b ∧ b ≤ 3 <;> by_cases h3 : 0 ≤ c ∧ c ≤ 2 <;> simp [h1, h2, h3, good] <;> omega
theorem impl_in_eq (x a b : Int) : impl_in.f x a b = some (decide (a ≤ x ∧ x ≤ b)) := by
  unfold impl_in.f
  by_cases h : a ≤ x <;> simp [h]
theorem impl_IsIsles_eq (a b c : Int) : impl_IsIsles.f a b c = some (good a b c) := by
  unfold impl_IsIsles.f
  simp only [impl_in_eq, Option.bind_some]
  by_cases h1 : 1 ≤ a ∧ a ≤ 3 <;> by_cases h2 : 1 ≤ b ∧ b ≤ 3 <;> by_cases h3 : 0 ≤ c ∧ c ≤ 2 <;> simp [h1, h2, h3, good] <;> omega
theorem good_of {a b c : Int} (h : good a b c = true) : 1 ≤ a ∧ a ≤ 3 ∧ 1 ≤ b ∧ b ≤ 3 ∧ 0 ≤ c ∧ c ≤ 2 := by simpa [good] using h
theorem spec_isAll_l0 (a b c p : Int) (h1 : 1 ≤ a) (h2 : a ≤ 3) : ∀ (d k : Nat) (l : List Int), (l.length : Int) + d = 2 * a → d < k → spec_isAll.l0 k p a b c l p = some (l ++ List.replicate d p, p) := by
  intro d
  induction d with
  | zero =>
    intro k l hl hk
    obtain ⟨k, rfl⟩ : ∃ m, k = m + 1 := ⟨k - 1, by omega⟩
    simp only [spec_isAll.l0]
    rw [w64 (by omega) (by omega), if_neg (by omega)]
    simp
  | succ d ih =>
    intro k l hl hk
    obtain ⟨k, rfl⟩ : ∃ m, k = m + 1 := ⟨k - 1, by omega⟩
    simp only [spec_isAll.l0]
    rw [w64 (by omega) (by omega), if_pos (by omega), if_pos (by omega)]
    rw [ih k (l ++ [p]) (by simp; omega) (by omega), List.append_assoc, List.replicate_succ]
    rfl
theorem spec_isAll_ev (a b c p : Int) (h1 : 1 ≤ a) (h2 : a ≤ 3) : ∃ K, ∀ k, K ≤ k → spec_isAll.f k a b c p = some (List.replicate (2 * a).toNat p, p) := by
  refine ⟨(2 * a).toNat + 1, fun k hk => ?_⟩
  unfold spec_isAll.f
  rw [spec_isAll_l0 a b c p h1 h2 (2 * a).toNat k [] (by simp; omega) (by omega)]
  simp
theorem impl_allIn_eq (a b c p : Int) (h1 : 1 ≤ a) (h2 : a ≤ 3) : impl_Isles_allIn.f a b c p = some (List.replicate (2 * a).toNat p, p) := by
  unfold impl_Isles_allIn.f impl_Isles_people.f slices_Repeat_int_int.f
  simp only [Option.bind_some]
  rw [w64 (by omega) (by omega), if_pos (by simp), if_pos (by omega), if_pos (by omega)]
  rfl
end Go.Proofs.Ytjllgibfcnkgpac.Q.Pure
