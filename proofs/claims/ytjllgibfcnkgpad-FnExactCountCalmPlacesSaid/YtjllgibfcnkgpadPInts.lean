/- The laws' own helpers over lists of whole numbers, as plain functions: a copy, a comparison, marks, a look for marks. -/
import Derived.Test.YtjllgibfcnkgpadQx
namespace Go.Proofs.Ytjllgibfcnkgpad.Q.Pure
open Go.RowKit Go.Proofs.Ytjllgibfcnkgpad.Q Go.Proofs.YtjllgibfcnkgpadW.PrintWords Go.Proofs.YtjllgibfcnkgpadW.PrintLast Go.Proofs.YtjllgibfcnkgpadW.PrintMore

theorem w64 {a : Int} (h0 : -9223372036854775808 ≤ a) (h1 : a ≤ 9223372036854775807) : wrap64 a = a := by unfold wrap64; omega

/-- a, a + 1, .., n numbers. -/
def mk (a : Int) : Nat → List Int
  | 0 => []
  | n + 1 => a :: mk (a + 1) n
theorem mk_length (a : Int) (n : Nat) : (mk a n).length = n := by induction n generalizing a with
  | zero => rfl
  | succ n ih => simp [mk, ih]
theorem mk_at (n : Nat) : ∀ (a : Int) (i : Nat), i < n → (mk a n)[i]? = some (a + i) := by
  induction n with
  | zero => intro a i h; omega
  | succ n ih =>
    intro a i h
    cases i with
    | zero => simp [mk]
    | succ i => simp only [mk, List.getElem?_cons_succ]; rw [ih (a + 1) i (by omega)]; congr 1; omega
theorem rd_at {l : List Int} {i : Nat} {x : Int} (h : l[i]? = some x) : rd l (i : Int) = x := by simp [rd, h]
theorem rd_of {l : List Int} {i : Nat} (h : i < l.length) : l[i]? = some (rd l (i : Int)) := by simp [rd, h]

end Go.Proofs.Ytjllgibfcnkgpad.Q.Pure
