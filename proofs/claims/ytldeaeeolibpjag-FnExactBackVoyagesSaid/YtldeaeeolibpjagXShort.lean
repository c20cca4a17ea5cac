/- Short words for what the printed walks say again and again: their proofs are found where they are used; and a walk that is cut into texts. -/
import Derived.ProofKit
import Derived.Deep.Slices
import Derived.Test.YtldeaeeolibpjagWWords
import Derived.Test.YtldeaeeolibpjagWLast
import Derived.Test.YtldeaeeolibpjagWMore
set_option linter.unusedVariables false
namespace Go.Proofs.Ytldeaeeolibpjag.X
open Go.RowKit Go.Proofs.YtldeaeeolibpjagW.PrintWords Go.Proofs.YtldeaeeolibpjagW.PrintLast Go.Proofs.YtldeaeeolibpjagW.PrintMore Go.Deep

/-- What is left of a goal at a cut. -/
structure Box (P : Prop) : Prop where
  out : P
structure Rest (G : Prop) where
  P : Prop
  go : Box P → G
theorem B {q p : Prop} (a : Aside0 q) (h : q → p := by intro h_; (with_reducible repeat (first | refine blk_drewN ?_ _ | refine blk_drew ?_ | refine blk_alloc ?_ _)); exact h_) : p := h a.out
theorem K {q p : Prop} (a : Aside0 q) (h : q → p := by intro h_; (with_reducible repeat (first | apply Kd.R_alloc | apply Kd.R_drewN | apply Kd.R_drew)); exact h_) : p := h a.out
theorem L {q p : Prop} (a : Aside0 q) (h : q → p := by intro h_; (with_reducible repeat (first | apply Kd.S_alloc | apply Kd.S_drewN | apply Kd.S_drew)); exact h_) : p := h a.out
theorem D {p : Prop} [Decidable p] (h : decide p = true := by first | (with_reducible assumption) | assumption) : p := of_decide_eq_true h
theorem G {p : Prop} (h : p := by repeat (first | (with_reducible first | exact HB.out | apply below_alloc | apply pw_below_drewN | apply below_drew1 | refine below_set ?_ (Aside0.out (by assumption))) | exact HB.out)) : p := h
theorem S {p : Prop} (h : p := by first | (simp only [putAll, Act.put, List.setIfInBounds_toArray, List.set_cons_zero, List.set_cons_succ]; done) | (simp only [putAll, Act.put, List.setIfInBounds_toArray, List.set_cons_zero, List.set_cons_succ]; rfl)) : p := h
theorem M {p : Prop} (h : p := by (try simp only [List.map_toArray, List.map_cons, List.map_nil]); first | done | rfl | (simp only [List.length_drop, List.length_take]; rfl)) : p := h
theorem BB {w w' W : World} {g : Nat} {o : Obj} (a : Aside0 (w.heap[g]? = some o)) (hb : Below w'.heap.size w' W) (h : w.heap[g]? = some o → w'.heap[g]? = some o := by intro h_; (with_reducible repeat (first | refine blk_drewN ?_ _ | refine blk_drew ?_ | refine blk_alloc ?_ _)); exact h_) : W.heap[g]? = some o := blk_below (h a.out) hb
theorem BL {w w' : World} {g : Nat} {o : Obj} (a : Aside0 (w.heap[g]? = some o)) (h : w.heap[g]? = some o → w'.heap[g]? = some o := by intro h_; (with_reducible repeat (first | refine blk_drewN ?_ _ | refine blk_drew ?_ | refine blk_alloc ?_ _)); exact h_) : g < w'.heap.size := blk_lt (h a.out)
theorem A {p : Prop} (h : p) : Aside0 p := ⟨h⟩
theorem NL {w w' : World} {g g' : Nat} {o : Obj} (hg : g' = w'.heap.size) (a : Aside0 (w.heap[g]? = some o)) (h : w.heap[g]? = some o → w'.heap[g]? = some o := by intro h_; (with_reducible repeat (first | refine blk_drewN ?_ _ | refine blk_drew ?_ | refine blk_alloc ?_ _)); exact h_) : g ≠ g' := by rw [hg]; exact Nat.ne_of_lt (blk_lt (h a.out))
theorem NG {w w' : World} {g g' : Nat} {o : Obj} (hg : g' = w'.heap.size) (a : Aside0 (w.heap[g]? = some o)) (h : w.heap[g]? = some o → w'.heap[g]? = some o := by intro h_; (with_reducible repeat (first | refine blk_drewN ?_ _ | refine blk_drew ?_ | refine blk_alloc ?_ _)); exact h_) : g' ≠ g := by rw [hg]; exact Nat.ne_of_gt (blk_lt (h a.out))
theorem C {q p : Prop} (a : q) (h : q → p := by intro h_; repeat (first | exact h_ | (with_reducible refine Kd.C_alloc ?_ _) | (with_reducible refine Kd.C_drewN ?_ _) | (with_reducible refine Kd.C_drew ?_))) : p := h a
theorem R {p : Prop} (h : p := by first | (go_simp; done) | (go_simp; rfl)) : p := h
theorem Pu {p : Prop} (h : p := by simp only [Act.put, List.setIfInBounds_toArray, List.set_cons_zero, List.set_cons_succ, i64_w, i32_w]; rfl) : p := h
theorem Pa {p : Prop} (h : p := by simp only [putAll, Act.put, List.setIfInBounds_toArray, List.set_cons_zero, List.set_cons_succ]; rfl) : p := h
end Go.Proofs.Ytldeaeeolibpjag.X
