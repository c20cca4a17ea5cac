/- The plain statement behind the law FnExactCountCalmPlaces: over numbers alone. -/
import Derived.Test.YtjllgibfcnkgpadPCount
namespace Go.Proofs.Ytjllgibfcnkgpad.Q.Pure
open Go.RowKit Go.Proofs.Ytjllgibfcnkgpad Go.Proofs.Ytjllgibfcnkgpad.Q Go.Proofs.YtjllgibfcnkgpadW.PrintWords Go.Proofs.YtjllgibfcnkgpadW.PrintLast Go.Proofs.YtjllgibfcnkgpadW.PrintMore

theorem CountCalm_both (a b c : Int) : ∃ (x : Int × Bool) (K : Nat), ∀ k, K ≤ k → spec_CountCalmPlaces.f k a b c = some x ∧ impl_CountCalmPlaces.f k a b c = some x := by
  by_cases h : good a b c = true
  · have hg' := good_of h
    refine ⟨(((calms a b c : Nat) : Int), true), 200000, fun k hk => ?_⟩
    refine ⟨?_, ?_⟩
    · have := isCount_at a b c h (2 * a).toNat k [] (by simp) (by omega)
      unfold spec_CountCalmPlaces.f
      rw [spec_isGood_eq]
      simp only [h, Option.bind_some, if_true, this]
      rfl
    · have hp : 4 * 4 ^ (2 * a).toNat ≤ 100000 := by
        have h1 : 4 ^ (2 * a).toNat ≤ 4 ^ 6 := Nat.pow_le_pow_right (by omega) (by omega)
        have h3 : (4 : Nat) ^ 6 = 4096 := by decide
        rw [h3] at h1
        omega
      have := count_l0 a b c (4 * 4 ^ (2 * a).toNat) h hp (4 * 4 ^ (2 * a).toNat) k 0 (by omega) (by omega)
      unfold impl_CountCalmPlaces.f
      rw [impl_IsIsles_eq, many_at a b c (by omega) (by omega) k (by omega)]
      simp only [h, Option.bind_some, if_true]
      rw [show (0 : Int) = ((sumN (fun code => one a b c (digs (2 * a).toNat code) (code / 4 ^ (2 * a).toNat)) 0 : Nat) : Int) from rfl]
      refine Eq.trans this ?_
      rw [calms_codes a b c (by omega)]
  · refine ⟨(0, false), 0, fun k hk => ?_⟩
    simp [spec_CountCalmPlaces.f, impl_CountCalmPlaces.f, spec_isGood_eq, impl_IsIsles_eq, h]
theorem FnExactCountCalmPlaces : laws_FnExactCountCalmPlaces.Pure := by
  intro a b c _ _ _
  obtain ⟨x, K, e⟩ := CountCalm_both a b c
  refine ⟨K, ?_⟩
  simp [laws_FnExactCountCalmPlaces.f, laws_toIsles.f, (e K (Nat.le_refl _)).1, (e K (Nat.le_refl _)).2]
end Go.Proofs.Ytjllgibfcnkgpad.Q.Pure
