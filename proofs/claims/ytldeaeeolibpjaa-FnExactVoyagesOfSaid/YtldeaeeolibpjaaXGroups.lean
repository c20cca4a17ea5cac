/- Lists that are handed to a function value, one after the other: what is asked of it, and what becomes of what it writes. -/
import Derived.WalkKit
import Derived.Laws.EntriesVeiled
import Derived.Test.YtldeaeeolibpjaaWWords
import Derived.Test.YtldeaeeolibpjaaWKept
import Derived.Test.YtldeaeeolibpjaaWMore
set_option linter.unusedVariables false
namespace Go.Proofs.Ytldeaeeolibpjaa.X
open Go.RowKit Go.Proofs.YtldeaeeolibpjaaW.PrintWords Go.Proofs.YtldeaeeolibpjaaW.PrintMore
/-- Groups of a list's elements, at most so many, each handed to a step; behind it those that begin with it. -/
def onF {σ : Type} (most : Int) (step : σ → List Int → Option σ) : List Int → List Int → σ → Option σ
  | [], _, s => some s
  | x :: rest, l, s => if (l.length : Int) < most then (step s (l ++ [x])).bind fun s1 => (onF most step rest (l ++ [x]) s1).bind fun s2 => onF most step rest l s2 else some s
theorem onF_mono {σ : Type} {most : Int} {f g : σ → List Int → Option σ} (h : ∀ s l, LeO (f s l) (g s l)) : ∀ (p l : List Int) (s : σ), LeO (onF most f p l s) (onF most g p l s)
  | [], _, s => LeO.refl _
  | x :: p, l, s => by
    simp only [onF]
    exact LeO.ite (LeO.bind (h _ _) (fun _ => LeO.bind (onF_mono h p _ _) (fun _ => onF_mono h p _ _))) (LeO.refl _)
/-- P holds, by blocks that aren't written (O). -/
def Safe (W : World) (O : Nat → Prop) (P : World → Prop) : Prop := ∃ Q : Nat → Prop, (∀ k, Q k → k < W.heap.size ∧ ¬ O k) ∧ ∀ W' : World, (∀ k, Q k → W'.heap[k]? = W.heap[k]?) → P W'
section
variable {W W1 : World} {O O1 : Nat → Prop} {P R : World → Prop}
theorem Safe.now (h : Safe W O P) : P W := by
  obtain ⟨Q, _, h2⟩ := h
  exact h2 W (fun _ _ => rfl)
theorem Safe.step (h : Safe W O P) (hk : Kept W W1 O) (ho : ∀ k, O1 k → O k ∨ W.heap.size ≤ k) : Safe W1 O1 P := by
  obtain ⟨Q, h1, h2⟩ := h
  refine ⟨Q, fun k hq => ?_, fun W' hW => h2 W' (fun k hq => (hW k hq).trans (hk.2 k (h1 k hq).1 (h1 k hq).2))⟩
  obtain ⟨h3, h4⟩ := h1 k hq
  exact ⟨Nat.lt_of_lt_of_le h3 hk.1, fun h5 => (ho k h5).elim h4 (fun h6 => by omega)⟩
theorem Safe.below (h : Safe W O P) (hb : Below W.heap.size W W1) : Safe W1 O P := h.step (Kept.of_below hb O) (fun _ hk => .inl hk)
theorem Safe.and (h : Safe W O P) (h' : Safe W O R) : Safe W O (fun w => P w ∧ R w) := by
  obtain ⟨Q, h1, h2⟩ := h
  obtain ⟨Q', h1', h2'⟩ := h'
  exact ⟨fun k => Q k ∨ Q' k, fun k hk => hk.elim (h1 k) (h1' k), fun W' hW => ⟨h2 W' (fun k hk => hW k (.inl hk)), h2' W' (fun k hk => hW k (.inr hk))⟩⟩
theorem Safe.mono (h : Safe W O P) (hi : ∀ w, P w → R w) : Safe W O R := by
  obtain ⟨Q, h1, h2⟩ := h
  exact ⟨Q, h1, fun W' hW => hi _ (h2 W' hW)⟩
theorem Safe.blk {g : Nat} {o : Obj} (h : W.heap[g]? = some o) (hg : ¬ O g) : Safe W O (fun w => w.heap[g]? = some o) :=
  ⟨fun k => k = g, fun k hk => ⟨by rw [hk]; exact blk_lt h, by rw [hk]; exact hg⟩, fun W' hW => (hW g rfl).trans h⟩
theorem Safe.pure {p : Prop} (h : p) : Safe W O (fun _ => p) := ⟨fun _ => False, fun _ hk => hk.elim, fun _ _ => h⟩
/-- A row of one's own of one block, which isn't written. -/
theorem Safe.row {α : Type} {d : Kd α} {e base n c : Nat} {ok : Nat → Prop} {A : Option Addr} {xs : List α} (hE : d.E = []) (h : d.R e W base ok (.slice A n c) xs) (ho : ∀ k, (Value.slice A n c).ownBlock = some k → ¬ O k) : Safe W O (fun w => d.C w A xs.length xs) := by
  refine ⟨fun k => some k = (Value.slice A n c).ownBlock, fun k hk => ⟨Kd.R_lt h k hk.symm, ho k hk.symm⟩, fun W' hW => ?_⟩
  have h2 := Kd.R_move (Kd.R_tight hE h) (fun k hk => hW k hk)
  exact (Kd.R_reads' h2).2.2
/-- What lay before all that is written. -/
theorem Safe.old {w0 : World} {α : Type} {d : Kd α} (hd : Kd.Heap d) {A : Option Addr} {n : Nat} {xs : List α} (h : d.C w0 A n xs) (hb : Below w0.heap.size w0 W) (ho : ∀ k, O k → w0.heap.size ≤ k) : Safe W O (fun w => d.C w A n xs) :=
  ⟨fun k => k < w0.heap.size, fun k hk => ⟨Nat.lt_of_lt_of_le hk hb.size, fun h2 => by have := ho k h2; omega⟩, fun W' hW => hd.C (fun k hlt => (hW k hlt).trans (hb.block k hlt)) h⟩
end
theorem tne {w : World} {k q q' : Nat} {c c' : Array Value} (h : w.heap[k]? = some (.cells c q (0, 0))) (h' : w.heap[k]? = some (.cells c' q' (0, 0))) (hq : q ≠ q') : False := by
  rw [h] at h'
  injection h' with h'
  injection h' with _ h'
  exact hq h'
/-- Nothing has been written on the way. -/
theorem PB {W W' : World} (h : Below W.heap.size W W' := by repeat (first | exact Below.refl _ _ | apply below_alloc | apply pw_below_drewN | apply below_drew1)) : Below W.heap.size W W' := h
/-- A function value that takes a list which is new and not written again: its state, and the blocks that it writes (O). -/
structure Cb (P : Program) (w0 : World) (e : Nat) (g : Nat) (lb : Array Value) {σ : Type} (I : World → σ → (Nat → Prop) → Prop) (step : σ → List Int → Option σ) : Prop where
  stab : ∀ {W W' : World} {s : σ} {O : Nat → Prop}, I W s O → Below W.heap.size W W' → I W' s O
  lt : ∀ {W : World} {s : σ} {O : Nat → Prop}, I W s O → ∀ k, O k → k < W.heap.size
  call : ∀ (W0 W : World) (s s' : σ) (O : Nat → Prop) (v : Value) (l : List Int), I W0 s O → Below w0.heap.size w0 W0 → Below W0.heap.size W0 W → (Kd.int .i64).R e W W0.heap.size (fun _ => True) v l → step s l = some s' →
    Calls P g (#[v] ++ lb) W fun x w' => x = .returned (.tuple #[]) ∧ ∃ O', I w' s' O' ∧ Kept W w' O ∧ (∀ k, O' k → O k ∨ W.heap.size ≤ k) ∧ Below w0.heap.size w0 w'
end Go.Proofs.Ytldeaeeolibpjaa.X
