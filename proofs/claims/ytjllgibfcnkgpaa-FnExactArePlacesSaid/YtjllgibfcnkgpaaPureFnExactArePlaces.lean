/- The plain statement behind the law FnExactArePlaces: over numbers and lists alone. -/
import Derived.Test.YtjllgibfcnkgpaaPArePlaces
namespace Go.Proofs.Ytjllgibfcnkgpaa.Q.Pure
open Go.RowKit Go.Proofs.Ytjllgibfcnkgpaa Go.Proofs.Ytjllgibfcnkgpaa.Q Go.Proofs.YtjllgibfcnkgpaaW.PrintWords Go.Proofs.YtjllgibfcnkgpaaW.PrintLast Go.Proofs.YtjllgibfcnkgpaaW.PrintMore

theorem FnExactArePlaces : laws_FnExactArePlaces.Pure := by
  intro a b c l p _ _ _ hl _
  have hs := szPlaces_eq l p 1048576 hl.1 (by omega) (by omega)
  by_cases h : (1048576 : Int) < l.length
  · refine ⟨0, ?_⟩
    simp [laws_FnExactArePlaces.f, hs, h]
  · have h1 : ¬ ((1048576 : Int) - l.length < 0) := by omega
    obtain ⟨K1, e1⟩ := toPlaces_ev l p (by omega)
    obtain ⟨K2, e2⟩ := spec_isPlaces_ev a b c l p (by omega)
    obtain ⟨K3, e3⟩ := impl_ArePlaces_ev a b c l p (by omega)
    obtain ⟨K4, e4⟩ := eqPlaces_ev l l p p (by omega)
    refine ⟨K1 + K2 + K3 + K4, ?_⟩
    simp (disch := omega) only [laws_FnExactArePlaces.f, hs, h, h1, e1, e2, e3, e4, spec_ArePlaces.f, laws_toIsles.f, Option.bind_some, if_false, bne_self_eq_false, Bool.false_eq_true, and_self, decide_true, if_true]
end Go.Proofs.Ytjllgibfcnkgpaa.Q.Pure
