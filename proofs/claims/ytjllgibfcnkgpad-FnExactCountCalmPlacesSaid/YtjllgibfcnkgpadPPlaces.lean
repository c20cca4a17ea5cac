/- The laws' helpers over places, and the first and the last places of isles, as plain functions. -/
import Derived.Test.YtjllgibfcnkgpadPInts
namespace Go.Proofs.Ytjllgibfcnkgpad.Q.Pure
open Go.RowKit Go.Proofs.Ytjllgibfcnkgpad.Q Go.Proofs.YtjllgibfcnkgpadW.PrintWords Go.Proofs.YtjllgibfcnkgpadW.PrintLast Go.Proofs.YtjllgibfcnkgpadW.PrintMore

/-- Isles whose numbers are as they have to be. -/
def good (a b c : Int) : Bool := decide (1 ≤ a ∧ a ≤ 3 ∧ 1 ≤ b ∧ b ≤ 3 ∧ 0 ≤ c ∧ c ≤ 2)
theorem spec_l1In_eq (x a b : Int) : spec_l1In.f x a b = some (decide (a ≤ x ∧ x ≤ b)) := by
  unfold spec_l1In.f
  by_cases h : a ≤ x <;> simp [h]
theorem spec_isGood_eq (a b c : Int) : spec_isGood.f a b c = some (good a b c) := by
  unfold spec_isGood.f
  simp only [spec_l1In_eq, Option.bind_some]
  by_cases h1 : 1 ≤ a ∧ a ≤ 3 <;> by_cases h2 : 1 ≤ b ∧ b ≤ 3 <;> by_cases h3 : 0 ≤ c ∧ c ≤ 2 <;> simp [h1, h2, h3, good] <;> omega
theorem impl_in_eq (x a b : Int) : impl_in.f x a b = some (decide (a ≤ x ∧ x ≤ b)) := by
  unfold impl_in.f
  by_cases h : a ≤ x <;> simp [h]
theorem impl_IsIsles_eq (a b c : Int) : impl_IsIsles.f a b c = some (good a b c) := by
  unfold impl_IsIsles.f
  simp only [impl_in_eq, Option.bind_some]
  by_cases h1 : 1 ≤ a ∧ a ≤ 3 <;> by_cases h2 : 1 ≤ b ∧ b ≤ 3 <;> by_cases h3 : 0 ≤ c ∧ c ≤ 2 <;> simp [h1, h2, h3, good] <;> omega
theorem good_of {a b c : Int} (h : good a b c = true) : 1 ≤ a ∧ a ≤ 3 ∧ 1 ≤ b ∧ b ≤ 3 ∧ 0 ≤ c ∧ c ≤ 2 := by simpa [good] using h
end Go.Proofs.Ytjllgibfcnkgpad.Q.Pure
