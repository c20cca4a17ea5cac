/- The plain statement behind the law FnExactLastPlaces: over numbers and lists alone. -/
import Derived.Test.YtjllgibfcnkgpacPPlaces
namespace Go.Proofs.Ytjllgibfcnkgpac.Q.Pure
open Go.RowKit Go.Proofs.Ytjllgibfcnkgpac.Q Go.Proofs.YtjllgibfcnkgpacW.PrintWords Go.Proofs.YtjllgibfcnkgpacW.PrintLast Go.Proofs.YtjllgibfcnkgpacW.PrintMore

theorem FnExactLastPlaces : laws_FnExactLastPlaces.Pure := by
  intro a b c _ _ _
  obtain ⟨L, p, ok, hl, ⟨K1, e1⟩, ⟨K2, e2⟩⟩ : ∃ (L : List Int) (p : Int) (ok : Bool), L.length ≤ 1000000 ∧ (∃ K, ∀ k, K ≤ k → spec_LastPlaces.f k a b c = some (L, p, ok)) ∧ (∃ K, ∀ k : Nat, K ≤ k → impl_LastPlaces.f a b c = some (L, p, ok)) := by
    by_cases hg : good a b c = true
    · have hg' := good_of hg
      obtain ⟨K1, e1⟩ := spec_isAll_ev a b c (c + 1) hg'.1 hg'.2.1
      have e2 := impl_allIn_eq a b c (c + 1) hg'.1 hg'.2.1
      refine ⟨List.replicate (2 * a).toNat (c + 1), c + 1, true, by simp; omega, ⟨K1, fun k hk => ?_⟩, ⟨0, fun k _ => ?_⟩⟩
      · have hw : wrap64 (c + 1) = c + 1 := w64 (by omega) (by omega)
        simp only [spec_LastPlaces.f, hw, spec_isGood_eq, hg, Option.bind_some, if_true, e1 k hk]
      · have hw : wrap64 (c + 1) = c + 1 := w64 (by omega) (by omega)
        simp only [impl_LastPlaces.f, impl_Isles_far.f, hw, impl_IsIsles_eq, hg, Option.bind_some, if_true, e2]
    · have hg : good a b c = false := by simpa using hg
      refine ⟨[], 0, false, by simp, ⟨0, fun k hk => ?_⟩, ⟨0, fun k _ => ?_⟩⟩
      · simp [spec_LastPlaces.f, spec_isGood_eq, hg]
      · simp [impl_LastPlaces.f, impl_IsIsles_eq, hg]
  have e2 := e2 K2 (Nat.le_refl _)
  obtain ⟨K3, e3⟩ := eqPlaces_ev L L p p (by omega)
  obtain ⟨K4, e4⟩ := markPlaces_ev L p 1 (by omega) (by omega)
  obtain ⟨K5, e5⟩ := heldPlaces_ev L.length p 1 (by omega) (by omega)
  have h0 : ¬ (1 + (L.length : Int) < 0) := by omega
  refine ⟨K1 + K3 + K4 + K5 + 9, ?_⟩
  simp (disch := omega) only [laws_FnExactLastPlaces.f, laws_FnExactLastPlaces.j0, laws_FnExactLastPlaces.j1, laws_toIsles.f, e1, e2, e3, e4, e5, h0, Option.bind_some, and_self, decide_true, if_true, if_false, bne_self_eq_false, Bool.false_eq_true]
end Go.Proofs.Ytjllgibfcnkgpac.Q.Pure
