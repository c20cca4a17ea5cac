/- Rows of rows that are handed to what writes them: which blocks are theirs, and that the others' are not. -/
import Derived.WalkKit
import Derived.Test.YtldeaeeolibpjagWWords
import Derived.Test.YtldeaeeolibpjagWApart
import Derived.Test.YtldeaeeolibpjagWMore
import Derived.Test.YtldeaeeolibpjagWN
set_option linter.unusedVariables false
namespace Go.Proofs.Ytldeaeeolibpjag.X
open Go.RowKit Go.Proofs.YtldeaeeolibpjagW.PrintWords Go.Proofs.YtldeaeeolibpjagW.PrintMore
section
variable {α β : Type} {d : Kd α} {d' : Kd β} {e e' : Nat} {w w1 W : World} {base nb : Nat} {ok P : Nat → Prop} {u v : Value} {xs : List α} {ys : List β}
/-- The size, by a letter. -/
theorem nb_of {n : Nat} (_ : Below n w w1) : ∃ nb, n = nb := ⟨_, rfl⟩
/-- An elder row's blocks lie below the size. -/
theorem R_ltb (hn : w.heap.size = nb) (h : d.R e w base ok v xs) : d.R e w base (fun k => ok k ∧ k < nb) v xs := Kd.R_mono (Kd.R_bound h) (fun k hk => ⟨hk.1, by rw [← hn]; exact hk.2.2.1⟩)
theorem S_ltb (hn : w.heap.size = nb) (h : Kd.S d e w base ok v xs) : Kd.S d e w base (fun k => ok k ∧ k < nb) v xs := Kd.S_mono (Kd.S_bound h) (fun k hk => ⟨hk.1, by rw [← hn]; exact hk.2.2.1⟩)
/-- A new row's blocks lie above it. -/
theorem S_geb (hn : base = nb) (h : Kd.S d e w base ok v xs) : Kd.S d e w base (fun k => ok k ∧ nb ≤ k) v xs := Kd.S_mono (Kd.S_bound h) (fun k hk => ⟨hk.1, by rw [← hn]; exact hk.2.1⟩)
theorem S_gtb {g : Nat} (hg : g < base) (h : Kd.S d e w base ok v xs) : Kd.S d e w base (fun k => ok k ∧ g < k) v xs := Kd.S_mono (Kd.S_bound h) (fun k hk => ⟨hk.1, Nat.lt_of_lt_of_le hg hk.2.1⟩)
theorem N_ltb (hn : w.heap.size = nb) (h : Kd.N d e w base ok v xs) : Kd.N d e w base (fun k => ok k ∧ k < nb) v xs := Kd.N_mono (Kd.N_bound h) (fun k hk => ⟨hk.1, by have := hk.2; omega⟩)
theorem N_sep (h : Kd.N d e w base ok v xs) (hp : ∀ k, ok k → ¬ P k) : Kd.N d e w base (fun k => ok k ∧ ¬ P k) v xs := Kd.N_mono h (fun k hk => ⟨hk, hp k hk⟩)
/-- A row of rows that is handed over: its blocks by a letter. -/
theorem S_given (h : Kd.S d e w base ok v xs) : ∃ P : Nat → Prop, Kd.S d e w base P v xs ∧ ∀ k, P k → ok k ∧ base ≤ k ∧ k < w.heap.size ∧ ∃ q, q ∈ e :: d.E ∧ ∃ cells, w.heap[k]? = some (.cells cells q (0, 0)) :=
  ⟨_, Kd.S_bound h, fun _ hk => hk⟩
theorem typed_ne {k q q' : Nat} {c c' : Array Value} (h : w.heap[k]? = some (.cells c q (0, 0))) (h' : w.heap[k]? = some (.cells c' q' (0, 0))) : q = q' := by
  rw [h] at h'
  injection h' with h'
  injection h' with _ h'
/-- Another row, told apart from it: by types .. -/
theorem R_sepE {es : List Nat} (h : d.R e w base ok v xs) (hp : ∀ k, P k → ∃ q, q ∈ es ∧ ∃ cells, w.heap[k]? = some (.cells cells q (0, 0))) (ht : ∀ q, q ∈ e :: d.E → q ∉ es) : d.R e w base (fun k => ok k ∧ ¬ P k) v xs :=
  Kd.R_mono (Kd.R_bound h) (fun k hk => ⟨hk.1, fun h2 => by
    obtain ⟨q, hq, c, hc⟩ := hk.2.2.2
    obtain ⟨q', hq', c', hc'⟩ := hp k h2
    obtain rfl := typed_ne hc hc'
    exact ht q hq hq'⟩)
theorem S_sepE {es : List Nat} (h : Kd.S d e w base ok v xs) (hp : ∀ k, P k → ∃ q, q ∈ es ∧ ∃ cells, w.heap[k]? = some (.cells cells q (0, 0))) (ht : ∀ q, q ∈ e :: d.E → q ∉ es) : Kd.S d e w base (fun k => ok k ∧ ¬ P k) v xs :=
  Kd.S_mono (Kd.S_bound h) (fun k hk => ⟨hk.1, fun h2 => by
    obtain ⟨q, hq, c, hc⟩ := hk.2.2.2
    obtain ⟨q', hq', c', hc'⟩ := hp k h2
    obtain rfl := typed_ne hc hc'
    exact ht q hq hq'⟩)
/-- .. a row of one block, which the other's are not .. -/
theorem R_sepT (hE : d.E = []) (h : d.R e w base ok v xs) (hp : ∀ k, P k → some k ≠ v.ownBlock) : d.R e w base (fun k => ok k ∧ ¬ P k) v xs :=
  Kd.R_mono (Kd.R_tight2 hE h) (fun k hk => ⟨hk.2, fun h2 => hp k h2 hk.1⟩)
/-- .. or by what is known of the blocks. -/
theorem S_sep (h : Kd.S d e w base ok v xs) (hp : ∀ k, ok k → ¬ P k) : Kd.S d e w base (fun k => ok k ∧ ¬ P k) v xs := Kd.S_mono h (fun k hk => ⟨hk, hp k hk⟩)
/-- A variable in memory is none of them, by its type. -/
theorem box_sepE {es : List Nat} {g t : Nat} {cells : Array Value} (hb : w.heap[g]? = some (.cells cells t (0, 0))) (hp : ∀ k, P k → ∃ q, q ∈ es ∧ ∃ cells, w.heap[k]? = some (.cells cells q (0, 0))) (ht : t ∉ es) : ¬ P g := fun h => by
  obtain ⟨q', hq', c', hc'⟩ := hp g h
  obtain rfl := typed_ne hb hc'
  exact ht hq'
end
end Go.Proofs.Ytldeaeeolibpjag.X
