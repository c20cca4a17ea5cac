/- The plain statement behind the law FnExactAreCalm: over numbers and lists alone. -/
import Derived.Test.YtjllgibfcnkgpaePAreCalm
namespace Go.Proofs.Ytjllgibfcnkgpae.Q.Pure
open Go.RowKit Go.Proofs.Ytjllgibfcnkgpae Go.Proofs.Ytjllgibfcnkgpae.Q Go.Proofs.YtjllgibfcnkgpaeW.PrintWords Go.Proofs.YtjllgibfcnkgpaeW.PrintLast Go.Proofs.YtjllgibfcnkgpaeW.PrintMore

theorem AreCalm_both (a b c : Int) (l : List Int) (p : Int) (hl : l.length ≤ 9223372036854775000) : ∃ (x : Bool × Bool) (K : Nat), ∀ k, K ≤ k → spec_AreCalm.f k a b c l p = some x ∧ impl_AreCalm.f k a b c l p = some x := by
  obtain ⟨K2, e2⟩ := spec_isPlaces_ev a b c l p hl
  obtain ⟨K3, e3⟩ := impl_ArePlaces_ev a b c l p hl
  by_cases h : isPl a b c l p = true
  · obtain ⟨hg, h1, _, _⟩ := isPl_of h
    have hg' := good_of hg
    obtain ⟨n, rfl⟩ := Int.eq_ofNat_of_zero_le (show 0 ≤ a by omega)
    refine ⟨(allCalmB n c l, true), K2 + K3 + 20000, fun k hk => ?_⟩
    have s1 := spec_isCalm_at n b c p l (by omega) (by omega) (by omega) (by omega) k (by omega)
    have s2 := areCalm_at n b c p l (by omega) (by omega) (by omega) (by omega) k (by omega)
    refine ⟨?_, ?_⟩
    · simp only [spec_AreCalm.f, e2 k (by omega), h, Option.bind_some, if_true, s1]
    · simp only [impl_AreCalm.f, e3 k (by omega), h, Option.bind_some, if_true, s2]
  · refine ⟨(false, false), K2 + K3, fun k hk => ?_⟩
    simp [spec_AreCalm.f, impl_AreCalm.f, e2 k (by omega), e3 k (by omega), h]
theorem FnExactAreCalm : laws_FnExactAreCalm.Pure := by
  intro a b c l p _ _ _ hl _
  have hs := szPlaces_eq l p 1048576 hl.1 (by omega) (by omega)
  by_cases h : (1048576 : Int) < l.length
  · refine ⟨0, ?_⟩
    simp [laws_FnExactAreCalm.f, hs, h]
  · have h1 : ¬ ((1048576 : Int) - l.length < 0) := by omega
    obtain ⟨K1, e1⟩ := toPlaces_ev l p (by omega)
    obtain ⟨x, K2, e2⟩ := AreCalm_both a b c l p (by omega)
    obtain ⟨K4, e4⟩ := eqPlaces_ev l l p p (by omega)
    have e2a := fun k hk => (e2 k hk).1
    have e2b := fun k hk => (e2 k hk).2
    refine ⟨K1 + K2 + K4 + 9, ?_⟩
    simp (disch := omega) only [laws_FnExactAreCalm.f, laws_FnExactAreCalm.j0, hs, h, h1, e1, e2a, e2b, e4, laws_toIsles.f, Option.bind_some, if_false, bne_self_eq_false, Bool.false_eq_true, and_self, decide_true, if_true]
end Go.Proofs.Ytjllgibfcnkgpae.Q.Pure
