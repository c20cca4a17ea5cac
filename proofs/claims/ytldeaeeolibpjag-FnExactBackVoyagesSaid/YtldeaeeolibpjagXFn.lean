/- Function values that the program hands on: what is asked of them, and what a search by one tells, as plain functions. -/
import Derived.WalkKit
import Derived.Test.YtldeaeeolibpjagWWords
set_option linter.unusedVariables false
namespace Go.Proofs.Ytldeaeeolibpjag.X
open Go.RowKit Go.Proofs.YtldeaeeolibpjagW.PrintWords
/-- The place of the first element of which F holds, from place i on; -1. -/
def idxO {α : Type} (F : α → Option Bool) : List α → Int → Option Int
  | [], _ => some (-1)
  | x :: l, i => (F x).bind fun b => if b = true then some i else idxO F l (i + 1)
/-- What is asked of a function value: from world w on it answers as F, and what lay lies. -/
def FnAt (P : Program) (w : World) (g : Nat) (lb : Array Value) {α : Type} (enc : α → Value) (F : α → Option Bool) : Prop :=
  ∀ (W : World) (x : α) (r : Bool), Below w.heap.size w W → F x = some r → Calls P g (#[enc x] ++ lb) W fun e w' => e = .returned (.bool r) ∧ Below W.heap.size W w'
/-- Does F hold of an element: asked one after the other. -/
def anyO {α : Type} (F : α → Option Bool) : List α → Option Bool
  | [] => some false
  | x :: l => (F x).bind fun b => if b = true then some true else anyO F l
theorem idxO_any {α : Type} (F : α → Option Bool) (l : List α) : ∀ (i : Int) (b : Bool), 0 ≤ i → anyO F l = some b → ∃ r, idxO F l i = some r ∧ decide (r ≥ 0) = b := by
  induction l with
  | nil => intro i b hi h; simp [anyO] at h; subst h; exact ⟨-1, rfl, by decide⟩
  | cons x l ih =>
    intro i b hi h
    simp only [anyO] at h
    obtain ⟨c, h1, h2⟩ := Option.bind_eq_some_iff.1 h
    simp only [idxO, h1, Option.bind_some]
    cases c with
    | true => simp at h2; subst h2; exact ⟨i, by simp, by simpa using hi⟩
    | false => simp at h2; obtain ⟨r, h3, h4⟩ := ih (i + 1) b (by omega) h2; exact ⟨r, by simpa using h3, h4⟩
theorem anyO_mono {α : Type} {F G : α → Option Bool} (h : ∀ x, LeO (F x) (G x)) (l : List α) : LeO (anyO F l) (anyO G l) := by
  induction l with
  | nil => exact LeO.refl _
  | cons x l ih =>
    simp only [anyO]
    refine LeO.bind (h x) fun b => ?_
    split
    · exact LeO.refl _
    · exact ih
end Go.Proofs.Ytldeaeeolibpjag.X
