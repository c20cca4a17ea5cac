/- The laws' own helpers over lists of whole numbers, as plain functions: a copy, a comparison, marks, a look for marks. -/
import Derived.Test.YtjllgibfcnkgpacQx
namespace Go.Proofs.Ytjllgibfcnkgpac.Q.Pure
open Go.RowKit Go.Proofs.Ytjllgibfcnkgpac.Q Go.Proofs.YtjllgibfcnkgpacW.PrintWords Go.Proofs.YtjllgibfcnkgpacW.PrintLast Go.Proofs.YtjllgibfcnkgpacW.PrintMore

theorem w64 {a : Int} (h0 : -9223372036854775808 ≤ a) (h1 : a ≤ 9223372036854775807) : wrap64 a = a := by unfold wrap64; omega

/-- a, a + 1, .., n numbers. -/
def mk (a : Int) : Nat → List Int
  | 0 => []
  | n + 1 => a :: mk (a + 1) n
theorem mk_length (a : Int) (n : Nat) : (mk a n).length = n := by induction n generalizing a with
  | zero => rfl
  | succ n ih => simp [mk, ih]
theorem mk_at (n : Nat) : ∀ (a : Int) (i : Nat), i < n → (mk a n)[i]? = some (a + i) := by
  induction n with
  | zero => intro a i h; omega
  | succ n ih =>
    intro a i h
    cases i with
    | zero => simp [mk]
    | succ i => simp only [mk, List.getElem?_cons_succ]; rw [ih (a + 1) i (by omega)]; congr 1; omega
theorem rd_at {l : List Int} {i : Nat} {x : Int} (h : l[i]? = some x) : rd l (i : Int) = x := by simp [rd, h]
theorem rd_of {l : List Int} {i : Nat} (h : i < l.length) : l[i]? = some (rd l (i : Int)) := by simp [rd, h]

theorem eqIntS_l0 (a b : List Int) (hl : a.length = b.length) (hb : a.length ≤ 9223372036854775000) : ∀ (d k i : Nat), i + d = a.length → (∀ j, j < i → a[j]? = b[j]?) → d < k → laws_eqIntS.l0 k a b (i : Int) = some (decide (a = b)) := by
  intro d
  induction d with
  | zero =>
    intro k i hi hj hk
    obtain ⟨k, rfl⟩ : ∃ m, k = m + 1 := ⟨k - 1, by omega⟩
    simp only [laws_eqIntS.l0]
    rw [if_neg (by omega)]
    have : a = b := by
      apply List.ext_getElem?
      intro j
      rcases Nat.lt_or_ge j i with h | h
      · exact hj j h
      · rw [List.getElem?_eq_none (by omega), List.getElem?_eq_none (by omega)]
    simp [this]
  | succ d ih =>
    intro k i hi hj hk
    obtain ⟨k, rfl⟩ : ∃ m, k = m + 1 := ⟨k - 1, by omega⟩
    simp only [laws_eqIntS.l0]
    rw [if_pos (by omega), if_pos (by omega), if_pos (by omega)]
    by_cases he : rd a (i : Int) = rd b (i : Int)
    · rw [if_pos he, w64 (by omega) (by omega)]
      have := ih k (i + 1) (by omega) (fun j h => by
        rcases Nat.lt_or_ge j i with h2 | h2
        · exact hj j h2
        · have : j = i := by omega
          subst this
          rw [rd_of (by omega), rd_of (by omega), he]) (by omega)
      simpa using this
    · rw [if_neg he]
      have : a ≠ b := fun h => he (by rw [h])
      simp [this]
theorem eqIntS_ev (a b : List Int) (hb : a.length ≤ 9223372036854775000) : ∃ K, ∀ k, K ≤ k → laws_eqIntS.f k a b = some (decide (a = b)) := by
  refine ⟨a.length + 1, fun k hk => ?_⟩
  unfold laws_eqIntS.f
  by_cases hl : a.length = b.length
  · rw [if_pos (by omega)]
    exact eqIntS_l0 a b hl hb a.length k 0 (by omega) (fun j h => by omega) (by omega)
  · rw [if_neg (by omega)]
    have : a ≠ b := fun h => hl (by rw [h])
    simp [this]
theorem markIntS_l0 (n : Nat) (a0 : Int) (hn : n ≤ 1000000000) (ha : 0 ≤ a0 ∧ a0 ≤ 1000000000000) : ∀ (d k i : Nat) (y : List Int), y.length = n → i + d = n → (∀ j, j < i → y[j]? = some (a0 + j)) → d < k → laws_markIntS.l0 k y (a0 + i) (i : Int) = some (a0 + n, mk a0 n) := by
  intro d
  induction d with
  | zero =>
    intro k i y hy hi hj hk
    obtain ⟨k, rfl⟩ : ∃ m, k = m + 1 := ⟨k - 1, by omega⟩
    simp only [laws_markIntS.l0]
    rw [if_neg (by omega)]
    have : y = mk a0 n := by
      apply List.ext_getElem?
      intro j
      rcases Nat.lt_or_ge j i with h | h
      · rw [hj j h, mk_at n a0 j (by omega)]
      · rw [List.getElem?_eq_none (by omega), List.getElem?_eq_none (by rw [mk_length]; omega)]
    rw [this]
    have : i = n := by omega
    rw [this]
  | succ d ih =>
    intro k i y hy hi hj hk
    obtain ⟨k, rfl⟩ : ∃ m, k = m + 1 := ⟨k - 1, by omega⟩
    simp only [laws_markIntS.l0]
    rw [if_pos (by omega), if_pos (by omega), w64 (by omega) (by omega), w64 (by omega) (by omega)]
    have := ih k (i + 1) (y.set i (a0 + i)) (by simpa using hy) (by omega) (fun j h => by
      rcases Nat.lt_or_ge j i with h2 | h2
      · rw [List.getElem?_set_ne (by omega)]; exact hj j h2
      · have : j = i := by omega
        subst this
        rw [List.getElem?_set_self (by omega)]) (by omega)
    rw [show a0 + (i : Int) + 1 = a0 + ((i + 1 : Nat) : Int) by omega]
    simpa using this
theorem markIntS_ev (l : List Int) (a : Int) (hn : l.length ≤ 1000000000) (ha : 0 ≤ a ∧ a ≤ 1000000000000) : ∃ K, ∀ k, K ≤ k → laws_markIntS.f k l a = some (a + l.length, mk a l.length) := by
  refine ⟨l.length + 1, fun k hk => ?_⟩
  unfold laws_markIntS.f
  have := markIntS_l0 l.length a hn ha l.length k 0 l rfl (by omega) (fun j h => by omega) (by omega)
  simpa using this
theorem heldIntS_l0 (n : Nat) (a0 : Int) (hn : n ≤ 1000000000) (ha : 0 ≤ a0 ∧ a0 ≤ 1000000000000) : ∀ (d k i : Nat), i + d = n → d < k → laws_heldIntS.l0 k (mk a0 n) (a0 + i) (i : Int) = some (a0 + n) := by
  intro d
  induction d with
  | zero =>
    intro k i hi hk
    obtain ⟨k, rfl⟩ : ∃ m, k = m + 1 := ⟨k - 1, by omega⟩
    simp only [laws_heldIntS.l0]
    rw [if_neg (by rw [mk_length]; omega)]
    have : i = n := by omega
    rw [this]
  | succ d ih =>
    intro k i hi hk
    obtain ⟨k, rfl⟩ : ∃ m, k = m + 1 := ⟨k - 1, by omega⟩
    simp only [laws_heldIntS.l0]
    rw [if_pos (by rw [mk_length]; omega), if_pos (by omega), if_pos (rd_at (mk_at n a0 i (by omega))), w64 (by omega) (by omega), w64 (by omega) (by omega)]
    have := ih k (i + 1) (by omega) (by omega)
    rw [show a0 + (i : Int) + 1 = a0 + ((i + 1 : Nat) : Int) by omega]
    simpa using this
theorem heldIntS_ev (n : Nat) (a : Int) (hn : n ≤ 1000000000) (ha : 0 ≤ a ∧ a ≤ 1000000000000) : ∃ K, ∀ k, K ≤ k → laws_heldIntS.f k (mk a n) a = some (a + n) := by
  refine ⟨n + 1, fun k hk => ?_⟩
  unfold laws_heldIntS.f
  have := heldIntS_l0 n a hn ha n k 0 (by omega) (by omega)
  simpa using this
end Go.Proofs.Ytjllgibfcnkgpac.Q.Pure
