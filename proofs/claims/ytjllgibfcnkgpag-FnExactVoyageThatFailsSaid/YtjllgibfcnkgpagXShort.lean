/- Short words for what the printed walks say again and again: their proofs are found where they are used; and a walk that is cut into texts. -/
import Derived.ProofKit
import Derived.Deep.Slices
import Derived.Test.YtjllgibfcnkgpagWWords
import Derived.Test.YtjllgibfcnkgpagWLast
import Derived.Test.YtjllgibfcnkgpagWMore
set_option linter.unusedVariables false
namespace Go.Proofs.Ytjllgibfcnkgpag.X
open Go.RowKit Go.Proofs.YtjllgibfcnkgpagW.PrintWords Go.Proofs.YtjllgibfcnkgpagW.PrintLast Go.Proofs.YtjllgibfcnkgpagW.PrintMore Go.Deep

/-- What is left of a goal at a cut. -/
structure Box (P : Prop) : Prop where
  out : P
structure Rest (G : Prop) where
  P : Prop
  go : Box P → G
theorem B {q p : Prop} (a : Aside0 q) (h : q → p := by intro h_; (with_reducible repeat (first | refine blk_drewN ?_ _ | refine blk_drew ?_ | refine blk_alloc ?_ _)); exact h_) : p := h a.out
theorem K {q p : Prop} (a : Aside0 q) (h : q → p := by intro h_; (with_reducible repeat (first | apply Kd.R_alloc | apply Kd.R_drewN | apply Kd.R_drew)); exact h_) : p := h a.out
theorem G {p : Prop} (h : p := by repeat (first | (with_reducible first | exact HB.out | apply below_alloc | apply pw_below_drewN | apply below_drew1 | refine below_set ?_ (Aside0.out (by assumption))) | exact HB.out)) : p := h
theorem S {p : Prop} (h : p := by first | (simp only [putAll, Act.put, List.setIfInBounds_toArray, List.set_cons_zero, List.set_cons_succ]; done) | (simp only [putAll, Act.put, List.setIfInBounds_toArray, List.set_cons_zero, List.set_cons_succ]; rfl)) : p := h
end Go.Proofs.Ytjllgibfcnkgpag.X
