/- The evaluator and what it gives of the functions, part 4. No conditions of ours: a law's row is in YtdgfpjlmpnfcgaaLFnVoyagesSail. -/
import Derived.Test.YtdgfpjlmpnfcgaaE3
import Derived.IntWalk
namespace Go.Proofs.Ytdgfpjlmpnfcgaa.Ev
open Go
set_option linter.unusedVariables false
set_option linter.unusedSimpArgs false
attribute [local simp] til_getE til_length til_get til_drop til_take til_append til_nil til_cons til_replicate til_set
def inB (x a b : Int) : Bool := decide (a ≤ x ∧ x ≤ b)
theorem inB_iff (x a b : Int) : inB x a b = true ↔ a ≤ x ∧ x ≤ b := by simp [inB]
theorem w76 {n : Int} (h : -9223372036854775808 ≤ n ∧ n ≤ 9223372036854775807) : IntKind.i64.wrap n = n := IntWalk.i64_in n h

@[simp] theorem r68 (x a b : Int) : ownR env 68 [ti x, ti a, ti b] = some (.t (tb (inB x a b)), []) := by
  rw [own_ir e68 _ rfl]
  by_cases h : a ≤ x <;> simp [ir68, ir68_c, h, inB]
@[simp] theorem r40 (x a b : Int) : ownR env 40 [ti x, ti a, ti b] = some (.t (tb (inB x a b)), []) := by
  rw [own_ir e40 _ rfl]
  by_cases h : a ≤ x <;> simp [ir40, ir40_c, h, inB]
def good (a b c : Int) : Bool := inB a 1 3 && inB b 1 3 && inB c 0 2
theorem good_of {a b c : Int} (h : good a b c = true) : 1 ≤ a ∧ a ≤ 3 ∧ 1 ≤ b ∧ b ≤ 3 ∧ 0 ≤ c ∧ c ≤ 2 := by simp [good, inB] at h; omega
@[simp] theorem r12 (a b c : Int) : ownR env 12 [.agg [ti a, ti b, ti c]] = some (.t (tb (good a b c)), []) := by
  rw [own_ir e12 _ rfl]
  cases h1 : inB a 1 3 <;> cases h2 : inB b 1 3 <;> simp [ir12, ir12_c, h1, h2, good]
@[simp] theorem r41 (a b c : Int) : ownR env 41 [.agg [ti a, ti b, ti c]] = some (.t (tb (good a b c)), []) := by
  rw [own_ir e41 _ rfl]
  cases h1 : inB a 1 3 <;> cases h2 : inB b 1 3 <;> simp [ir41, ir41_c, h1, h2, good]
theorem r66 (a b c : Int) (h : 0 ≤ a ∧ a ≤ 10) : ownR env 66 [.agg [ti a, ti b, ti c]] = some (.t (ti (2 * a)), []) := by
  rw [own_ir e66 _ rfl]
  simp [ir66, ir66_c, w76 (n := 2 * a) (by omega)]
theorem r51 (a b c : Int) (h : 0 ≤ c ∧ c ≤ 10) : ownR env 51 [.agg [ti a, ti b, ti c]] = some (.t (ti (c + 1)), []) := by
  rw [own_ir e51 _ rfl]
  simp [ir51, ir51_c, w76 (n := c + 1) (by omega)]
theorem r75 (l : List Int) (h : l.length ≤ 1000) : ownR env 75 [tl l] = some (.ref 0 0 l.length, [.pure 1 (til l)]) := by
  rw [own_ir e75 _ rfl]
  simp [ir75, ir75_c, show l.length ≤ 68719476736 by omega, til_flat]
def stand (p : Int) : Nat → List Int → List Int
  | _, [] => []
  | i, x :: xs => if x = p then (i : Int) :: stand p (i + 1) xs else stand p (i + 1) xs
theorem l57 (xs : List Int) (p : Int) (hl : xs.length ≤ 1000) : ∀ (d i : Nat) (acc : List Int), i + d = xs.length → acc.length ≤ i →
    loopF env true [1, 5, 10, 11, 12] ir57_b0 ([(1, .t (ti p)), (5, .ref 0 0 acc.length), (10, .t (tl xs)), (11, .t (ti xs.length)), (12, .t (ti i))], [.pure 1 (til acc)]) =
      some (.exit 0, [(1, .t (ti p)), (5, .ref 0 0 (acc ++ stand p i (xs.drop i)).length), (10, .t (tl xs)), (11, .t (ti xs.length)), (12, .t (ti xs.length)), (13, .t (tb false))], [.pure 1 (til (acc ++ stand p i (xs.drop i)))])
  | 0, i, acc, hi, _ => by
    rw [x57_0]
    have : i = xs.length := by omega
    subst this
    simp [ir57_d0, stand]
  | d + 1, i, acc, hi, ha => by
    rw [x57_0]
    have hlt : i < xs.length := by omega
    have ha2 : acc.length + 1 ≤ 68719476736 := by omega
    have hw : IntKind.i64.wrap ((i : Int) + 1) = (i : Int) + 1 := w76 (by omega)
    have hd : xs.drop i = xs[i] :: xs.drop (i + 1) := List.drop_eq_getElem_cons hlt
    by_cases h : xs[i] = p
    · have ih := l57 xs p hl d (i + 1) (acc ++ [(i : Int)]) (by omega) (by simp; omega)
      have hs : stand p i (xs.drop i) = (i : Int) :: stand p (i + 1) (xs.drop (i + 1)) := by rw [hd, stand, if_pos h]
      simp at ih
      simp [ir57_d0, hlt, h, ha2, hw, hs, ih]
    · have ih := l57 xs p hl d (i + 1) acc (by omega) (by omega)
      have hs : stand p i (xs.drop i) = stand p (i + 1) (xs.drop (i + 1)) := by rw [hd, stand, if_neg h]
      simp at ih
      simp [ir57_d0, hlt, h, hw, hs, ih]
theorem r57 (xs : List Int) (b p : Int) (hl : xs.length ≤ 1000) : ownR env 57 [.agg [tl xs, ti b], ti p] = some (.ref 0 0 (stand p 0 xs).length, [.pure 1 (til (stand p 0 xs))]) := by
  rw [own_ir e57 _ rfl]
  have h := l57 xs p hl xs.length 0 [] (by omega) (by simp)
  simp at h
  simp [ir57, ir57_c, h, til_flat]
end Go.Proofs.Ytdgfpjlmpnfcgaa.Ev

namespace Go.Proofs.Ytdgfpjlmpnfcgaa.Ev
open Go
set_option linter.unusedVariables false
set_option linter.unusedSimpArgs false
attribute [local simp] til_getE til_length til_get til_drop til_take til_append til_nil til_cons til_replicate til_set
def setAll (t : Int) : List Int → List Int → List Int
  | [], l => l
  | k :: g, l => setAll t g (l.set k.toNat t)
theorem setAll_length (t : Int) : ∀ (g l : List Int), (setAll t g l).length = l.length
  | [], l => rfl
  | k :: g, l => by rw [setAll, setAll_length]; simp

theorem l43 (g : List Int) (t : Int) (n : Nat) (hn : n ≤ 1000) (hg : g.length ≤ 1000) (hk : ∀ k ∈ g, 0 ≤ k ∧ k < n) : ∀ (d i : Nat) (y : List Int), i + d = g.length → y.length = n →
    loopF env true [1, 6, 7, 15, 16, 17] ir43_b0 ([(1, .t (ti t)), (6, .ptr 0 0 0), (7, .ptr 1 0 0), (15, .t (tl g)), (16, .t (ti g.length)), (17, .t (ti i))], [.box 2 [.t .nil, .t (ti 0)], .box 2 [.ref 2 0 n, .t (ti t)], .pure 1 (til y)]) =
      some (.exit 0, [(1, .t (ti t)), (6, .ptr 0 0 0), (7, .ptr 1 0 0), (15, .t (tl g)), (16, .t (ti g.length)), (17, .t (ti g.length)), (18, .t (tb false))], [.box 2 [.t .nil, .t (ti 0)], .box 2 [.ref 2 0 n, .t (ti t)], .pure 1 (til (setAll t (g.drop i) y))])
  | 0, i, y, hi, hy => by
    rw [x43_0]
    have : i = g.length := by omega
    subst this
    simp [ir43_d0, setAll]
  | d + 1, i, y, hi, hy => by
    rw [x43_0]
    have hlt : i < g.length := by omega
    have hw : IntKind.i64.wrap ((i : Int) + 1) = (i : Int) + 1 := w76 (by omega)
    have hd : g.drop i = g[i] :: g.drop (i + 1) := List.drop_eq_getElem_cons hlt
    have hs : setAll t (g.drop i) y = setAll t (g.drop (i + 1)) (y.set (g[i]).toNat t) := by rw [hd, setAll]
    have hkk := hk g[i] (List.getElem_mem hlt)
    have hkn : (g[i]).toNat < y.length := by omega
    have ih := l43 g t n hn hg hk d (i + 1) (y.set (g[i]).toNat t) (by omega) (by simpa using hy)
    simp at ih
    simp [ir43_d0, hlt, hw, hs, hkk.1, hkk.2, hkn, ih]
theorem r43 (xs g : List Int) (p t : Int) (h : xs.length ≤ 1000) (hg : g.length ≤ 1000) (hk : ∀ k ∈ g, 0 ≤ k ∧ k < xs.length) : ownR env 43 [.agg [tl xs, ti p], ti t, tl g] = some (.agg [.ref 0 0 xs.length, .t (ti t)], [.pure 1 (til (setAll t g xs))]) := by
  rw [own_ir e43 _ rfl]
  have hl := l43 g t xs.length h hg hk g.length 0 xs (by omega) rfl
  simp at hl
  simp [ir43, ir43_c, clone_til, show xs.length ≤ 68719476736 by omega, hl, til_flat]
end Go.Proofs.Ytdgfpjlmpnfcgaa.Ev

namespace Go.Proofs.Ytdgfpjlmpnfcgaa.Ev
open Go
set_option linter.unusedVariables false
set_option linter.unusedSimpArgs false
attribute [local simp] til_getE til_length til_get til_drop til_take til_append til_nil til_cons til_replicate til_set
def codeW (b p : Int) (xs : List Int) : Int := xs.foldl (fun a x => IntKind.i64.wrap (IntKind.i64.wrap (a * b) + x)) p
theorem codeW_cons (b p x : Int) (xs : List Int) : codeW b p (x :: xs) = codeW b (IntKind.i64.wrap (IntKind.i64.wrap (p * b) + x)) xs := rfl

theorem l50 (a b c n : Int) (ha : 0 ≤ a ∧ a ≤ 10) (m : Nat) (hm : (m : Int) = 2 * a) : ∀ (d i : Nat), i + d = m → 0 < i →
    loopF env true [1, 2, 4, 5] ir50_b0 ([(1, .t (ti n)), (2, .ptr 0 0 0), (4, .ptr 1 0 0), (5, .ptr 2 0 0)], [.box 3 [.t (ti a), .t (ti b), .t (ti c)], .box 2 [.t .nil, .t (ti 0)], .box 2 [.ref 3 0 i, .t (ti n)], .pure 1 (til (List.replicate i n))]) =
      some (.exit 0, [(1, .t (ti n)), (2, .ptr 0 0 0), (4, .ptr 1 0 0), (5, .ptr 2 0 0), (8, .ptr 2 0 0), (9, .ref 3 0 m), (10, .t (ti m)), (11, .ptr 0 0 0), (12, .t (ti a)), (13, .t (ti (2 * a))), (14, .t (tb false))], [.box 3 [.t (ti a), .t (ti b), .t (ti c)], .box 2 [.t .nil, .t (ti 0)], .box 2 [.ref 3 0 m, .t (ti n)], .pure 1 (til (List.replicate m n))])
  | 0, i, hi, h0 => by
    rw [x50_0]
    have hw : IntKind.i64.wrap (2 * a) = 2 * a := w76 (by omega)
    have : i = m := by omega
    subst this
    simp [ir50_d0, hw, hm]
  | d + 1, i, hi, h0 => by
    rw [x50_0]
    have hw : IntKind.i64.wrap (2 * a) = 2 * a := w76 (by omega)
    have hlt : (i : Int) < 2 * a := by omega
    have ih := l50 a b c n ha m hm d (i + 1) (by omega) (by omega)
    have hr : List.replicate (i + 1) n = List.replicate i n ++ [n] := List.replicate_succ'
    rw [hr] at ih
    simp at ih
    simp [ir50_d0, hw, hlt, show i + 1 ≤ 68719476736 by omega, ih]
theorem r50 (a b c n : Int) (ha : 1 ≤ a ∧ a ≤ 10) : ownR env 50 [.agg [ti a, ti b, ti c], ti n] = some (.agg [.ref 0 0 (2 * a).toNat, .t (ti n)], [.pure 1 (til (List.replicate (2 * a).toNat n))]) := by
  rw [own_ir e50 _ rfl]
  have hw : IntKind.i64.wrap (2 * a) = 2 * a := w76 (by omega)
  have hl := l50 a b c n (by omega) (2 * a).toNat (by omega) ((2 * a).toNat - 1) 1 (by omega) (by omega)
  simp at hl
  simp [ir50, ir50_c]
  rw [x50_0]
  simp [ir50_d0, hw, show 0 < 2 * a by omega, hl, til_flat]
end Go.Proofs.Ytdgfpjlmpnfcgaa.Ev

namespace Go.Proofs.Ytdgfpjlmpnfcgaa.Ev
open Go
set_option linter.unusedVariables false
set_option linter.unusedSimpArgs false
attribute [local simp] til_getE til_length til_get til_drop til_take til_append til_nil til_cons til_replicate til_set
def indexI (x : Int) : Nat → List Int → Int
  | _, [] => -1
  | i, y :: ys => if x = y then i else indexI x (i + 1) ys
theorem indexI_nonneg (x : Int) : ∀ (ys : List Int) (i : Nat), 0 ≤ indexI x i ys ↔ x ∈ ys
  | [], i => by simp [indexI]
  | y :: ys, i => by
    simp only [indexI]
    split
    · rename_i h; simp [h]
    · rename_i h; rw [indexI_nonneg x ys (i + 1)]; simp [h]

theorem l84 (g : List Int) (x : Int) (hg : g.length ≤ 1000000) : ∀ (d i : Nat) (R : Option (V × Heap)), i + d = g.length →
    endO [.tmp 4] (andN (outB 0 (loopF env true [0, 1, 7, 8] ir84_b0 ([(0, .t (tl g)), (1, .t (ti x)), (7, .t (ti g.length)), (8, .t (ti i))], []))) (execD env (.seq (.reg false [] [⟨some 4, none, .mv (.k (ti (-1)))⟩]) .ret))) = some (.t (ti (indexI x i (g.drop i))), [])
  | 0, i, R, hi => by
    rw [x84_0]
    have : i = g.length := by omega
    subst this
    simp [ir84_d0, indexI]
  | d + 1, i, R, hi => by
    rw [x84_0]
    have hlt : i < g.length := by omega
    have hw : IntKind.i64.wrap ((i : Int) + 1) = (i : Int) + 1 := w76 (by omega)
    have ih := l84 g x hg d (i + 1) R (by omega)
    by_cases h : x = g[i]
    · have hs : indexI x i (g.drop i) = (i : Int) := by rw [List.drop_eq_getElem_cons hlt, indexI, if_pos h]
      simp [ir84_d0, hlt, hw, ← h, hs]
    · have hs : indexI x i (g.drop i) = indexI x (i + 1) (g.drop (i + 1)) := by rw [List.drop_eq_getElem_cons hlt, indexI, if_neg h]
      simp at ih
      simp [ir84_d0, hlt, hw, hs, h, ih]
theorem r84 (g : List Int) (x : Int) (hg : g.length ≤ 1000000) : ownR env 84 [tl g, ti x] = some (.t (ti (indexI x 0 g)), []) := by
  rw [own_ir e84 _ rfl]
  have hl := l84 g x hg g.length 0 none (by omega)
  simp at hl
  simp [ir84, ir84_c, hl]
theorem r67 (g : List Int) (x : Int) (hg : g.length ≤ 1000000) : ownR env 67 [tl g, ti x] = some (.t (tb (decide (x ∈ g))), []) := by
  rw [own_ir e67 _ rfl]
  simp [ir67, ir67_c, r84 g x hg, indexI_nonneg]
@[simp] theorem r82 (x : Int) : ownR env 82 [ti x] = some (.t (tb (decide (x.tmod 2 = 0))), []) := by
  rw [own_ir e82 _ rfl]
  simp [ir82, ir82_c]
def evenI : Nat → List Int → Int
  | _, [] => -1
  | i, y :: ys => if y.tmod 2 = 0 then i else evenI (i + 1) ys
theorem evenI_nonneg : ∀ (ys : List Int) (i : Nat), 0 ≤ evenI i ys ↔ ∃ y ∈ ys, y.tmod 2 = 0
  | [], i => by simp [evenI]
  | y :: ys, i => by
    simp only [evenI]
    split
    · rename_i h; simp [h]
    · rename_i h; rw [evenI_nonneg ys (i + 1)]; simp [h]
theorem l85 (g : List Int) (hg : g.length ≤ 1000000) : ∀ (d i : Nat), i + d = g.length →
    endO [.tmp 4] (andN (outB 0 (loopF env true [0, 1, 7, 8] ir85_b0 ([(0, .t (tl g)), (1, .t (.clo 82 [] [])), (7, .t (ti g.length)), (8, .t (ti i))], []))) (execD env (.seq (.reg false [] [⟨some 4, none, .mv (.k (ti (-1)))⟩]) .ret))) = some (.t (ti (evenI i (g.drop i))), [])
  | 0, i, hi => by
    rw [x85_0]
    have : i = g.length := by omega
    subst this
    simp [ir85_d0, evenI]
  | d + 1, i, hi => by
    rw [x85_0]
    have hlt : i < g.length := by omega
    have hw : IntKind.i64.wrap ((i : Int) + 1) = (i : Int) + 1 := w76 (by omega)
    have ih := l85 g hg d (i + 1) (by omega)
    by_cases h : (g[i]).tmod 2 = 0
    · have hs : evenI i (g.drop i) = (i : Int) := by rw [List.drop_eq_getElem_cons hlt, evenI, if_pos h]
      simp [ir85_d0, hlt, hw, hs, h]
    · have hs : evenI i (g.drop i) = evenI (i + 1) (g.drop (i + 1)) := by rw [List.drop_eq_getElem_cons hlt, evenI, if_neg h]
      simp at ih
      simp [ir85_d0, hlt, hw, hs, h, ih]
theorem r85 (g : List Int) (hg : g.length ≤ 1000000) : ownR env 85 [tl g, .clo 82 [] []] = some (.t (ti (evenI 0 g)), []) := by
  rw [own_ir e85 _ rfl]
  have hl := l85 g hg g.length 0 (by omega)
  simp at hl
  simp [ir85, ir85_c, hl]
theorem r70 (g : List Int) (hg : g.length ≤ 1000000) : ownR env 70 [tl g, .clo 82 [] []] = some (.t (tb (decide (∃ y ∈ g, y.tmod 2 = 0))), []) := by
  rw [own_ir e70 _ rfl]
  simp [ir70, ir70_c, r85 g hg, evenI_nonneg]
def calmI (g l : List Int) : Bool := l.all fun k => decide (k.tmod 2 = 0) || decide (IntKind.i64.wrap (k - 1) ∈ g) || !decide (∃ y ∈ g, y.tmod 2 = 0)
theorem l60 (g : List Int) (hg : g.length ≤ 1000000) : ∀ (d i : Nat), i + d = g.length →
    endO [.tmp 2] (andN (outB 0 (loopF env true [0, 5, 6, 7] ir60_b0 ([(0, .t (tl g)), (5, .t (tl g)), (6, .t (ti g.length)), (7, .t (ti i))], []))) (execD env (.seq (.reg false [] [⟨some 2, none, .mv (.k (tb true))⟩]) .ret))) = some (.t (tb (calmI g (g.drop i))), [])
  | 0, i, hi => by
    rw [x60_0]
    have : i = g.length := by omega
    subst this
    simp [ir60_d0, calmI]
  | d + 1, i, hi => by
    rw [x60_0]
    have hlt : i < g.length := by omega
    have hw : IntKind.i64.wrap ((i : Int) + 1) = (i : Int) + 1 := w76 (by omega)
    have ih := l60 g hg d (i + 1) (by omega)
    have hs : calmI g (g.drop i) = ((decide ((g[i]).tmod 2 = 0) || decide (IntKind.i64.wrap (g[i] - 1) ∈ g) || !decide (∃ y ∈ g, y.tmod 2 = 0)) && calmI g (g.drop (i + 1))) := by rw [List.drop_eq_getElem_cons hlt]; rfl
    simp at ih
    rw [hs]
    have h43 := r67 g (IntKind.i64.wrap (g[i] - 1)) hg
    have h44 := r70 g hg
    generalize decide (∃ y ∈ g, y.tmod 2 = 0) = b3 at *
    generalize decide (IntKind.i64.wrap (g[i] - 1) ∈ g) = b2 at *
    by_cases h1 : (g[i]).tmod 2 = 0
    · simp [ir60_d0, hlt, hw, h1, ih]
    · cases b2 with
      | true => simp [ir60_d0, hlt, hw, h1, h43, ih]
      | false =>
        cases b3 with
        | true => simp [ir60_d0, hlt, hw, h1, h43, h44, ih]
        | false => simp [ir60_d0, hlt, hw, h1, h43, h44, ih]
theorem r60 (g : List Int) (hg : g.length ≤ 1000000) : ownR env 60 [tl g] = some (.t (tb (calmI g g)), []) := by
  rw [own_ir e60 _ rfl]
  have hl := l60 g hg g.length 0 (by omega)
  simp at hl
  simp [ir60, ir60_c, hl]
end Go.Proofs.Ytdgfpjlmpnfcgaa.Ev

namespace Go.Proofs.Ytdgfpjlmpnfcgaa.Ev
open Go
set_option linter.unusedVariables false
set_option linter.unusedSimpArgs false
attribute [local simp] til_getE til_length til_get til_drop til_take til_append til_nil til_cons til_replicate til_set
theorem l73 (g : List Int) (a b : Int) (hg : g.length ≤ 1000000) : ∀ (d i : Nat), i + d = g.length → 
    endO [.tmp 6] (andN (outB 0 (loopF env true [0, 1, 2, 9, 10, 11] ir73_b0 ([(0, .t (tl g)), (1, .t (ti a)), (2, .t (ti b)), (9, .t (tl g)), (10, .t (ti g.length)), (11, .t (ti i))], []))) (execD env (.seq (.reg false [] [⟨some 6, none, .mv (.k (tb true))⟩]) .ret))) =
      some (.t (tb ((g.drop i).all (fun x => inB x a b) && (List.range' i d).all fun j => decide (j = 0) || decide (g[j - 1]?.getD 0 < g[j]?.getD 0))), [])
  | 0, i, hi => by
    rw [x73_0]
    have : i = g.length := by omega
    subst this
    simp [ir73_d0]
  | d + 1, i, hi => by
    rw [x73_0]
    have hlt : i < g.length := by omega
    have hw : IntKind.i64.wrap ((i : Int) + 1) = (i : Int) + 1 := w76 (by omega)
    have hw2 : IntKind.i64.wrap ((i : Int) - 1) = (i : Int) - 1 := w76 (by omega)
    have ih := l73 g a b hg d (i + 1) (by omega)
    have hs : (g.drop i).all (fun x => inB x a b) = (inB g[i] a b && (g.drop (i + 1)).all (fun x => inB x a b)) := by rw [List.drop_eq_getElem_cons hlt]; rfl
    have hr : List.range' i (d + 1) = i :: List.range' (i + 1) d := rfl
    rw [hs, hr, List.all_cons]
    generalize (g.drop (i + 1)).all (fun x => inB x a b) = A at *
    generalize ((List.range' (i + 1) d).all fun j => decide (j = 0) || decide (g[j - 1]?.getD 0 < g[j]?.getD 0)) = R at *
    simp at ih
    cases h1 : inB g[i] a b with
    | false => simp [ir73_d0, hlt, hw, h1]
    | true =>
      rcases Nat.eq_zero_or_pos i with h0 | h0
      · subst h0
        have hw0 : IntKind.i64.wrap 1 = 1 := w76 (by omega)
        simp at ih
        simp [ir73_d0, hlt, h1, ih, hw0]
      · have e2001 : ((i : Int) - 1).toNat = i - 1 := by omega
        have e2002 : i - 1 < g.length := by omega
        by_cases h2 : g[i] ≤ g[i - 1]
        · have h3 : ¬ (g[i - 1] < g[i]) := by omega
          simp [ir73_d0, hlt, hw, hw2, h1, h0, e2001, e2002, h2, h3, ih, show (1 : Int) ≤ i by omega, show i ≠ 0 by omega]
        · have h3 : g[i - 1] < g[i] := by omega
          simp [ir73_d0, hlt, hw, hw2, h1, h0, e2001, e2002, h2, h3, ih, show (1 : Int) ≤ i by omega, show i ≠ 0 by omega]
def risesB (a b : Int) (g : List Int) : Bool := g.all (fun x => inB x a b) && (List.range' 0 g.length).all fun j => decide (j = 0) || decide (g[j - 1]?.getD 0 < g[j]?.getD 0)
theorem r73 (g : List Int) (a b : Int) (hg : g.length ≤ 1000000) : ownR env 73 [tl g, ti a, ti b] = some (.t (tb (risesB a b g)), []) := by
  rw [own_ir e73 _ rfl]
  have hl := l73 g a b hg g.length 0 (by omega)
  simp at hl
  simp [ir73, ir73_c, hl, risesB]
end Go.Proofs.Ytdgfpjlmpnfcgaa.Ev

namespace Go.Proofs.Ytdgfpjlmpnfcgaa.Ev
open Go
set_option linter.unusedVariables false
set_option linter.unusedSimpArgs false
attribute [local simp] til_getE til_length til_get til_drop til_take til_append til_nil til_cons til_replicate til_set
theorem or64 (x y : Nat) (hx : x < 2 ^ 62) (hy : y < 2 ^ 62) : orI .i64 (x : Int) (y : Int) = ((x ||| y : Nat) : Int) := by
  unfold orI
  have e : ∀ z : Nat, z < 2 ^ 62 → (BitVec.ofInt 64 (z : Int)).toNat = z := fun z hz => by
    rw [BitVec.toNat_ofInt]; omega
  have h : (BitVec.ofInt IntKind.i64.bits (x : Int) ||| BitVec.ofInt IntKind.i64.bits (y : Int)).toNat = x ||| y := by
    show (BitVec.ofInt 64 (x : Int) ||| BitVec.ofInt 64 (y : Int)).toNat = _
    rw [BitVec.toNat_or, e x hx, e y hy]
  rw [h]
  have := Nat.or_lt_two_pow hx hy
  exact w76 (by omega)
theorem shl64 (i : Nat) (hi : i ≤ 60) : shlI .i64 1 (i : Int) = ((2 ^ i : Nat) : Int) := by
  unfold shlI
  have e : min ((i : Int)).toNat IntKind.i64.bits = i := by show min ((i : Int)).toNat 64 = i; omega
  rw [e]
  have : (2 : Nat) ^ i ≤ 2 ^ 60 := Nat.pow_le_pow_right (by decide) hi
  have e2002 : (1 : Int) * 2 ^ i = ((2 ^ i : Nat) : Int) := by simp
  rw [e2002]
  generalize (2 : Nat) ^ i = M at *
  exact w76 (by omega)
theorem shr64 (N i : Nat) (hi : i ≤ 60) : shrI .i64 (N : Int) (i : Int) = ((N / 2 ^ i : Nat) : Int) := by
  unfold shrI
  have e : min ((i : Int)).toNat IntKind.i64.bits = i := by show min ((i : Int)).toNat 64 = i; omega
  rw [e, Int.fdiv_eq_ediv_of_nonneg _ (by exact Int.le_of_lt (Int.pow_pos (by decide)))]
  simp
def bitsI : List Int → Nat → Nat
  | [], N => N
  | k :: g, N => bitsI g (N ||| 2 ^ k.toNat)
theorem l74 (g : List Int) (hg : g.length ≤ 1000000) (hk : ∀ k ∈ g, 0 ≤ k ∧ k < 40) : ∀ (d i N : Nat), i + d = g.length → N < 2 ^ 61 →
    loopF env true [3, 6, 7, 8] ir74_b0 ([(3, .t (ti N)), (6, .t (tl g)), (7, .t (ti g.length)), (8, .t (ti i))], []) =
      some (.exit 0, [(3, .t (ti (bitsI (g.drop i) N : Nat))), (6, .t (tl g)), (7, .t (ti g.length)), (8, .t (ti g.length)), (9, .t (tb false))], [])
  | 0, i, N, hi, hN => by
    rw [x74_0]
    have : i = g.length := by omega
    subst this
    simp [ir74_d0, bitsI]
  | d + 1, i, N, hi, hN => by
    rw [x74_0]
    have hlt : i < g.length := by omega
    have hw : IntKind.i64.wrap ((i : Int) + 1) = (i : Int) + 1 := w76 (by omega)
    have hs : bitsI (g.drop i) N = bitsI (g.drop (i + 1)) (N ||| 2 ^ (g[i]).toNat) := by rw [List.drop_eq_getElem_cons hlt, bitsI]
    have hkk := hk g[i] (List.getElem_mem hlt)
    obtain ⟨k, hke⟩ : ∃ k : Nat, g[i] = k := ⟨(g[i]).toNat, by omega⟩
    have hp : (2 : Nat) ^ k < 2 ^ 61 := Nat.pow_lt_pow_right (by decide) (by omega)
    have hor := Nat.or_lt_two_pow hN hp
    have ih := l74 g hg hk d (i + 1) (N ||| 2 ^ k) (by omega) hor
    have h1 := shl64 k (by omega)
    have h2 := or64 N (2 ^ k) (by omega) (by omega)
    simp only [hke, Int.toNat_natCast] at hs
    rw [hs]
    generalize bitsI (g.drop (i + 1)) (N ||| 2 ^ k) = Z at ih ⊢
    generalize hM : (2 : Nat) ^ k = M at *
    generalize N ||| M = NM at *
    simp at ih
    simp [ir74_d0, hlt, hw, hke, h1, h2, ih, show ¬ ((k : Int) < 0) by omega]
theorem r74 (g : List Int) (hg : g.length ≤ 1000000) (hk : ∀ k ∈ g, 0 ≤ k ∧ k < 40) : ownR env 74 [tl g] = some (.t (ti (bitsI g 0 : Nat)), []) := by
  rw [own_ir e74 _ rfl]
  have hl := l74 g hg hk g.length 0 0 (by omega) (by decide)
  simp at hl
  simp [ir74, ir74_c, hl]
end Go.Proofs.Ytdgfpjlmpnfcgaa.Ev

namespace Go.Proofs.Ytdgfpjlmpnfcgaa.Ev
open Go
set_option linter.unusedVariables false
set_option linter.unusedSimpArgs false
attribute [local simp] til_getE til_length til_get til_drop til_take til_append til_nil til_cons til_replicate til_set
theorem l39i (a N : Nat) (ha : a ≤ 20) (i : Int) : ∀ (d j : Nat), j + d = a →
    if (List.range' j d).any (fun j => decide (N / 2 ^ (2 * j) % 2 = 1)) then ∃ fr, loopF env true [0, 1, 5, 6] ir64_b0 ([(0, .t (ti a)), (1, .t (ti N)), (5, .t (ti i)), (6, .t (ti j))], []) = some (.ret, fr, []) ∧ fr.get 4 = .t (tb false)
    else loopF env true [0, 1, 5, 6] ir64_b0 ([(0, .t (ti a)), (1, .t (ti N)), (5, .t (ti i)), (6, .t (ti j))], []) = some (.exit 2, [(0, .t (ti a)), (1, .t (ti N)), (5, .t (ti i)), (6, .t (ti a)), (18, .t (ti a)), (19, .t (ti a)), (20, .t (tb false))], [])
  | 0, j, hi => by
    rw [x64_0]
    have : j = a := by omega
    subst this
    simp [ir64_d0]
  | d + 1, j, hi => by
    rw [x64_0]
    have hlt : j < a := by omega
    have hw : IntKind.i64.wrap ((j : Int) + 1) = (j : Int) + 1 := w76 (by omega)
    have hw2 : IntKind.i64.wrap (2 * (j : Int)) = ((2 * j : Nat) : Int) := by rw [w76 (by omega)]; omega
    have hsh := shr64 N (2 * j) (by omega)
    have ih := l39i a N ha i d (j + 1) (by omega)
    have hr : List.range' j (d + 1) = j :: List.range' (j + 1) d := rfl
    rw [hr, List.any_cons]
    generalize ((List.range' (j + 1) d).any fun j => decide (N / 2 ^ (2 * j) % 2 = 1)) = R at *
    generalize N / 2 ^ (2 * j) = M at *
    generalize hJ : 2 * j = J at *
    by_cases h : M % 2 = 1
    · have h1 : (M : Int).tmod 2 = 1 := by rw [Int.tmod_eq_emod_of_nonneg (by omega)]; omega
      have h2 : (M : Int) % 2 = 1 := by omega
      simp [ir64_d0, hlt, hw2, hsh, h, h1, h2, show ¬ ((J : Int) < 0) by omega]
    · have h1 : ¬ (M : Int).tmod 2 = 1 := by rw [Int.tmod_eq_emod_of_nonneg (by omega)]; omega
      have h2 : ¬ (M : Int) % 2 = 1 := by omega
      have h3 : M % 2 = 0 := by omega
      have h4 : (M : Int) % 2 = 0 := by omega
      simp at ih
      simp [ir64_d0, hlt, hw, hw2, hsh, h, h1, h2, h3, h4, show ¬ ((J : Int) < 0) by omega, ih]
def cuB (a N : Nat) : Bool := !((List.range' 0 a).any (fun i => decide (N / 2 ^ (2 * i) % 4 = 2)) && (List.range' 0 a).any (fun j => decide (N / 2 ^ (2 * j) % 2 = 1)))
theorem l64 (a N : Nat) (ha : a ≤ 20) : ∀ (d i : Nat), i + d = a →
    endO [.tmp 4] (andN (outB 0 (loopF env true [0, 1, 5] ir64_b1 ([(0, .t (ti a)), (1, .t (ti N)), (5, .t (ti i))], []))) (execD env (.seq (.reg false [] [⟨some 4, none, .mv (.k (tb true))⟩]) .ret))) =
      some (.t (tb (!((List.range' i d).any (fun i => decide (N / 2 ^ (2 * i) % 4 = 2)) && (List.range' 0 a).any (fun j => decide (N / 2 ^ (2 * j) % 2 = 1))))), [])
  | 0, i, hi => by
    rw [x64_1]
    have : i = a := by omega
    subst this
    simp [ir64_d1]
  | d + 1, i, hi => by
    rw [x64_1]
    have hlt : i < a := by omega
    have hw : IntKind.i64.wrap ((i : Int) + 1) = (i : Int) + 1 := w76 (by omega)
    have hw2 : IntKind.i64.wrap (2 * (i : Int)) = ((2 * i : Nat) : Int) := by rw [w76 (by omega)]; omega
    have hsh := shr64 N (2 * i) (by omega)
    have hin := l39i a N ha i a 0 (by omega)
    have ih := l64 a N ha d (i + 1) (by omega)
    have hr : List.range' i (d + 1) = i :: List.range' (i + 1) d := rfl
    rw [hr, List.any_cons]
    generalize ((List.range' 0 a).any fun j => decide (N / 2 ^ (2 * j) % 2 = 1)) = B at *
    generalize ((List.range' (i + 1) d).any fun i => decide (N / 2 ^ (2 * i) % 4 = 2)) = R at *
    generalize N / 2 ^ (2 * i) = M at *
    generalize hJ : 2 * i = J at *
    simp at ih hin
    by_cases h : M % 4 = 2
    · have h1 : (M : Int).tmod 4 = 2 := by rw [Int.tmod_eq_emod_of_nonneg (by omega)]; omega
      have h2 : (M : Int) % 4 = 2 := by omega
      cases B with
      | true =>
        simp at hin
        obtain ⟨fr, k2001, k2002⟩ := hin
        simp [ir64_d1, hlt, hw, hw2, hsh, h, h1, h2, show ¬ ((J : Int) < 0) by omega, k2001, k2002]
      | false =>
        simp at hin
        simp [ir64_d1, hlt, hw, hw2, hsh, h, h1, h2, show ¬ ((J : Int) < 0) by omega, hin, ih]
    · have h1 : ¬ (M : Int).tmod 4 = 2 := by rw [Int.tmod_eq_emod_of_nonneg (by omega)]; omega
      have h2 : ¬ (M : Int) % 4 = 2 := by omega
      simp [ir64_d1, hlt, hw, hw2, hsh, h, h1, h2, show ¬ ((J : Int) < 0) by omega, ih]
theorem r64 (a N : Nat) (ha : a ≤ 20) : ownR env 64 [ti a, ti N] = some (.t (tb (cuB a N)), []) := by
  rw [own_ir e64 _ rfl]
  have hl := l64 a N ha a 0 (by omega)
  simp at hl
  simp [ir64, ir64_c, hl, cuB]
end Go.Proofs.Ytdgfpjlmpnfcgaa.Ev

namespace Go.Proofs.Ytdgfpjlmpnfcgaa.Ev
open Go
set_option linter.unusedVariables false
set_option linter.unusedSimpArgs false
attribute [local simp] til_getE til_length til_get til_drop til_take til_append til_nil til_cons til_replicate til_set
def bitsAt (p : Int) : Nat → List Int → Nat → Nat
  | _, [], N => N
  | i, x :: xs, N => if x = p then bitsAt p (i + 1) xs (N ||| 2 ^ i) else bitsAt p (i + 1) xs N
theorem l41i (a b c : Int) (q p : Int) (g : List Int) (hg : g.length ≤ 40) : ∀ (d i N : Nat), i + d = g.length → N < 2 ^ 61 →
    loopF env true [2, 3, 5, 6, 17, 18, 19] ir37_b0 ([(2, .ptr 0 0 0), (3, .ptr 1 0 0), (5, .t (ti p)), (6, .t (ti N)), (17, .t (tl g)), (18, .t (ti g.length)), (19, .t (ti i))], [.box 3 [.t (ti a), .t (ti b), .t (ti c)], .box 2 [.t (tl g), .t (ti q)]]) =
      some (.exit 2, [(2, .ptr 0 0 0), (3, .ptr 1 0 0), (5, .t (ti p)), (6, .t (ti (bitsAt p i (g.drop i) N : Nat))), (17, .t (tl g)), (18, .t (ti g.length)), (19, .t (ti g.length)), (20, .t (tb false))], [.box 3 [.t (ti a), .t (ti b), .t (ti c)], .box 2 [.t (tl g), .t (ti q)]])
  | 0, i, N, hi, hN => by
    rw [x37_0]
    have : i = g.length := by omega
    subst this
    simp [ir37_d0, bitsAt]
  | d + 1, i, N, hi, hN => by
    rw [x37_0]
    have hlt : i < g.length := by omega
    have hw : IntKind.i64.wrap ((i : Int) + 1) = (i : Int) + 1 := w76 (by omega)
    have hp : (2 : Nat) ^ i < 2 ^ 61 := Nat.pow_lt_pow_right (by decide) (by omega)
    have hor := Nat.or_lt_two_pow hN hp
    by_cases h : g[i] = p
    · have hs : bitsAt p i (g.drop i) N = bitsAt p (i + 1) (g.drop (i + 1)) (N ||| 2 ^ i) := by rw [List.drop_eq_getElem_cons hlt, bitsAt, if_pos h]
      have ih := l41i a b c q p g hg d (i + 1) (N ||| 2 ^ i) (by omega) hor
      have h1 := shl64 i (by omega)
      have h2 := or64 N (2 ^ i) (by omega) (by omega)
      rw [hs]
      generalize bitsAt p (i + 1) (g.drop (i + 1)) (N ||| 2 ^ i) = Z at ih ⊢
      generalize hM : (2 : Nat) ^ i = M at *
      generalize N ||| M = NM at *
      simp at ih
      simp [ir37_d0, hlt, hw, h, h1, h2, ih, show ¬ ((i : Int) < 0) by omega]
    · have hs : bitsAt p i (g.drop i) N = bitsAt p (i + 1) (g.drop (i + 1)) N := by rw [List.drop_eq_getElem_cons hlt, bitsAt, if_neg h]
      have ih := l41i a b c q p g hg d (i + 1) N (by omega) hN
      rw [hs]
      generalize bitsAt p (i + 1) (g.drop (i + 1)) N = Z at ih ⊢
      simp at ih
      simp [ir37_d0, hlt, hw, h, ih]
theorem l37 (a : Nat) (ha : a ≤ 20) (b c : Int) (hc : 0 ≤ c ∧ c ≤ 2) (q : Int) (g : List Int) (hg : g.length ≤ 40) : ∀ (d i : Nat), ((i + d : Nat) : Int) = c + 2 →
    endO [.tmp 4] (andN (outB 0 (loopF env true [2, 3, 5] ir37_b1 ([(2, .ptr 0 0 0), (3, .ptr 1 0 0), (5, .t (ti i))], [.box 3 [.t (ti a), .t (ti b), .t (ti c)], .box 2 [.t (tl g), .t (ti q)]]))) (execD env (.seq (.reg false [] [⟨some 4, none, .mv (.k (tb true))⟩]) .ret))) =
      some (.t (tb ((List.range' i d).all fun i => cuB a (bitsAt i 0 g 0))), [.box 3 [.t (ti a), .t (ti b), .t (ti c)], .box 2 [.t (tl g), .t (ti q)]])
  | 0, i, hi => by
    rw [x37_1]
    have hw : IntKind.i64.wrap (c + 1) = c + 1 := w76 (by omega)
    simp [ir37_d1, hw, show ¬ ((i : Int) ≤ c + 1) by omega]
  | d + 1, i, hi => by
    rw [x37_1]
    have hlt : (i : Int) ≤ c + 1 := by omega
    have hw0 : IntKind.i64.wrap (c + 1) = c + 1 := w76 (by omega)
    have hw : IntKind.i64.wrap ((i : Int) + 1) = (i : Int) + 1 := w76 (by omega)
    have ih := l37 a ha b c hc q g hg d (i + 1) (by omega)
    have hin := l41i a b c q i g hg g.length 0 0 (by omega) (by decide)
    have hr : List.range' i (d + 1) = i :: List.range' (i + 1) d := rfl
    have h39 := r64 a (bitsAt i 0 g 0) ha
    rw [hr, List.all_cons]
    simp at hin ih
    generalize ((List.range' (i + 1) d).all fun i => cuB a (bitsAt i 0 g 0)) = R at *
    generalize bitsAt i 0 g 0 = N at *
    cases h : cuB a N with
    | true => simp [ir37_d1, hlt, hw0, hw, hin, h39, h, ih]
    | false =>
      simp [ir37_d1, hlt, hw0, hw, hin, h39, h, ih]
def calmS (a : Nat) (c : Int) (g : List Int) : Bool := (List.range' 0 (c + 2).toNat).all fun i => cuB a (bitsAt i 0 g 0)
theorem r37 (a : Nat) (ha : a ≤ 20) (b c : Int) (hc : 0 ≤ c ∧ c ≤ 2) (q : Int) (g : List Int) (hg : g.length ≤ 40) : ownR env 37 [.agg [ti a, ti b, ti c], .agg [tl g, ti q]] = some (.t (tb (calmS a c g)), []) := by
  rw [own_ir e37 _ rfl]
  have hl := l37 a ha b c hc q g hg (c + 2).toNat 0 (by omega)
  simp at hl
  simp [ir37, ir37_c, hl, calmS]
end Go.Proofs.Ytdgfpjlmpnfcgaa.Ev

namespace Go.Proofs.Ytdgfpjlmpnfcgaa.Ev
open Go
set_option linter.unusedVariables false
set_option linter.unusedSimpArgs false
attribute [local simp] til_getE til_length til_get til_drop til_take til_append til_nil til_cons til_replicate til_set
theorem stand_length (p : Int) : ∀ (xs : List Int) (i : Nat), (stand p i xs).length ≤ xs.length
  | [], i => by simp [stand]
  | x :: xs, i => by
    have := stand_length p xs (i + 1)
    simp only [stand]
    split <;> simp <;> omega
theorem l35 (c : Int) (hc : 0 ≤ c ∧ c ≤ 10) (q : Int) (g : List Int) (hg : g.length ≤ 1000) : ∀ (d i : Nat), ((i + d : Nat) : Int) = c + 2 →
    andO (endO [.tmp 4] (andN (outB 0 (loopF env true [3, 8, 9] ir35_b0 ([(3, .ptr 0 0 0), (8, .t (ti (c + 1 + 1))), (9, .t (ti i))], [.box 2 [.t (tl g), .t (ti q)]]))) (execD env (.seq (.reg false [] [⟨some 4, none, .mv (.k (tb true))⟩]) .ret)))) ownEnd =
      some (.t (tb ((List.range' i d).all fun i => calmI (stand i 0 g) (stand i 0 g))), [])
  | 0, i, hi => by
    rw [x35_0]
    simp [ir35_d0, show ¬ ((i : Int) < c + 1 + 1) by omega]
  | d + 1, i, hi => by
    rw [x35_0]
    have hlt : (i : Int) < c + 1 + 1 := by omega
    have hw : IntKind.i64.wrap ((i : Int) + 1) = (i : Int) + 1 := w76 (by omega)
    have ih := l35 c hc q g hg d (i + 1) (by omega)
    have hr : List.range' i (d + 1) = i :: List.range' (i + 1) d := rfl
    have h30 := r57 g q i hg
    have h34 := r60 (stand i 0 g) (by have := stand_length i g 0; omega)
    rw [hr, List.all_cons]
    simp at ih
    generalize ((List.range' (i + 1) d).all fun i => calmI (stand i 0 g) (stand i 0 g)) = R at *
    generalize stand i 0 g = L at *
    cases h : calmI L L with
    | true => simp [ir35_d0, hlt, hw, h30, h34, h, ih]
    | false =>
      simp [ir35_d0, hlt, hw, h30, h34, h, ih]
def calmP (c : Int) (g : List Int) : Bool := (List.range' 0 (c + 2).toNat).all fun i => calmI (stand i 0 g) (stand i 0 g)
theorem r35 (a b c : Int) (hc : 0 ≤ c ∧ c ≤ 2) (q : Int) (g : List Int) (hg : g.length ≤ 1000) : ownR env 35 [.agg [ti a, ti b, ti c], .agg [tl g, ti q]] = some (.t (tb (calmP c g)), []) := by
  rw [own_ir e35 _ rfl]
  have hl := l35 c (by omega) q g hg (c + 2).toNat 0 (by omega)
  simp at hl
  simp [ir35, ir35_c, r51 a b c (by omega), w76 (n := c + 1 + 1) (by omega), hl, calmP]
  
theorem l46 (g : List Int) (t q : Int) (xs : List Int) (n : Nat) (hn : n ≤ 1000) (hg : g.length ≤ 1000) (hk : ∀ k ∈ g, 0 ≤ k ∧ k < n) : ∀ (d i : Nat) (y : List Int), i + d = g.length → y.length = n →
    loopF env true [3, 4, 5, 15, 16, 17] ir46_b0 ([(3, .ptr 0 0 0), (4, .ptr 1 0 0), (5, .ptr 2 0 0), (15, .t (tl g)), (16, .t (ti g.length)), (17, .t (ti i))], [.box 2 [.t (ti t), .t (tl g)], .box 2 [.t .nil, .t (ti 0)], .box 2 [.ref 3 0 n, .t (ti t)], .pure 1 (til y)]) =
      some (.exit 0, [(3, .ptr 0 0 0), (4, .ptr 1 0 0), (5, .ptr 2 0 0), (15, .t (tl g)), (16, .t (ti g.length)), (17, .t (ti g.length)), (18, .t (tb false))], [.box 2 [.t (ti t), .t (tl g)], .box 2 [.t .nil, .t (ti 0)], .box 2 [.ref 3 0 n, .t (ti t)], .pure 1 (til (setAll t (g.drop i) y))])
  | 0, i, y, hi, hy => by
    rw [x46_0]
    have : i = g.length := by omega
    subst this
    simp [ir46_d0, setAll]
  | d + 1, i, y, hi, hy => by
    rw [x46_0]
    have hlt : i < g.length := by omega
    have hw : IntKind.i64.wrap ((i : Int) + 1) = (i : Int) + 1 := w76 (by omega)
    have hs : setAll t (g.drop i) y = setAll t (g.drop (i + 1)) (y.set (g[i]).toNat t) := by rw [List.drop_eq_getElem_cons hlt, setAll]
    have hkk := hk g[i] (List.getElem_mem hlt)
    have hkn : (g[i]).toNat < y.length := by omega
    have ih := l46 g t q xs n hn hg hk d (i + 1) (y.set (g[i]).toNat t) (by omega) (by simpa using hy)
    simp at ih
    simp [ir46_d0, hlt, hw, hs, hkk.1, hkk.2, hkn, ih]
theorem r46 (xs g : List Int) (p t : Int) (h : xs.length ≤ 1000) (hg : g.length ≤ 1000) (hk : ∀ k ∈ g, 0 ≤ k ∧ k < xs.length) : ownR env 46 [.agg [tl xs, ti p], .agg [ti t, tl g]] = some (.agg [.ref 0 0 xs.length, .t (ti t)], [.pure 1 (til (setAll t g xs))]) := by
  rw [own_ir e46 _ rfl]
  have hl := l46 g t p xs xs.length h hg hk g.length 0 xs (by omega) rfl
  simp at hl
  simp [ir46, ir46_c, r75 xs h, hl, til_flat]
end Go.Proofs.Ytdgfpjlmpnfcgaa.Ev

namespace Go.Proofs.Ytdgfpjlmpnfcgaa.Ev
open Go
set_option linter.unusedVariables false
set_option linter.unusedSimpArgs false
attribute [local simp] til_getE til_length til_get til_drop til_take til_append til_nil til_cons til_replicate til_set
def atB (l : List Int) (p : Int) (g : List Int) : Bool := g.all fun k => decide (l[k.toNat]?.getD 0 = p)
theorem l45 (A B C2 p t : Int) (l g : List Int) (hg : g.length ≤ 1000000) (hk : ∀ k ∈ g, 0 ≤ k ∧ k < l.length) : ∀ (d i : Nat), i + d = g.length →
    if atB l p (g.drop i) then loopF env true [3, 4, 5, 43, 44, 45] ir45_b0 ([(3, .ptr 0 0 0), (4, .ptr 1 0 0), (5, .ptr 2 0 0), (43, .t (tl g)), (44, .t (ti g.length)), (45, .t (ti i))], [.box 3 [.t (ti A), .t (ti B), .t (ti C2)], .box 2 [.t (tl l), .t (ti p)], .box 2 [.t (ti t), .t (tl g)]]) =
      some (.exit 0, [(3, .ptr 0 0 0), (4, .ptr 1 0 0), (5, .ptr 2 0 0), (43, .t (tl g)), (44, .t (ti g.length)), (45, .t (ti g.length)), (46, .t (tb false))], [.box 3 [.t (ti A), .t (ti B), .t (ti C2)], .box 2 [.t (tl l), .t (ti p)], .box 2 [.t (ti t), .t (tl g)]])
    else ∃ fr H, loopF env true [3, 4, 5, 43, 44, 45] ir45_b0 ([(3, .ptr 0 0 0), (4, .ptr 1 0 0), (5, .ptr 2 0 0), (43, .t (tl g)), (44, .t (ti g.length)), (45, .t (ti i))], [.box 3 [.t (ti A), .t (ti B), .t (ti C2)], .box 2 [.t (tl l), .t (ti p)], .box 2 [.t (ti t), .t (tl g)]]) = some (.ret, fr, H) ∧ fr.get 6 = .t (tb false)
  | 0, i, hi => by
    rw [x45_0]
    have : i = g.length := by omega
    subst this
    simp [ir45_d0, atB]
  | d + 1, i, hi => by
    rw [x45_0]
    have hlt : i < g.length := by omega
    have hw : IntKind.i64.wrap ((i : Int) + 1) = (i : Int) + 1 := w76 (by omega)
    have hkk := hk g[i] (List.getElem_mem hlt)
    obtain ⟨k, hke⟩ : ∃ k : Nat, g[i] = k := ⟨(g[i]).toNat, by omega⟩
    have hkn : k < l.length := by omega
    have hs : atB l p (g.drop i) = (decide (l[k] = p) && atB l p (g.drop (i + 1))) := by
      rw [List.drop_eq_getElem_cons hlt]; simp [atB, hke, hkn]
    have ih := l45 A B C2 p t l g hg hk d (i + 1) (by omega)
    rw [hs]
    generalize atB l p (g.drop (i + 1)) = R at *
    simp at ih
    by_cases h : l[k] = p
    · simp [ir45_d0, hlt, hw, hke, hkn, h, ih]
    · simp [ir45_d0, hlt, hw, hke, hkn, h, ih]
def canB (a : Nat) (b c : Int) (l : List Int) (p t : Int) (g : List Int) : Bool :=
  inB t 0 (c + 1) && !decide (t = p) && inB g.length 1 b && risesB 0 (l.length - 1) g && atB l p g && cuB a (bitsI g 0) && calmS a c (setAll t g l)
theorem risesB_in {a b : Int} {g : List Int} (h : risesB a b g = true) : ∀ k ∈ g, a ≤ k ∧ k ≤ b := fun k hk => by
  unfold risesB at h
  rw [Bool.and_eq_true, List.all_eq_true] at h
  exact (inB_iff _ _ _).1 (h.1 k hk)
theorem r45 (a : Nat) (b c : Int) (hgd : good a b c = true) (l : List Int) (hl : l.length = 2 * a) (p t : Int) (g : List Int) (hg : g.length ≤ 1000) : ownR env 45 [.agg [ti a, ti b, ti c], .agg [tl l, ti p], .agg [ti t, tl g]] = some (.t (tb (canB a b c l p t g)), []) := by
  rw [own_ir e45 _ rfl]
  have hgo := good_of hgd
  have hw1 : IntKind.i64.wrap (c + 1) = c + 1 := w76 (by omega)
  have hw2 : IntKind.i64.wrap ((l.length : Int) - 1) = l.length - 1 := w76 (by omega)
  have h38 := r73 g 0 (l.length - 1) (by omega)
  have h27 := fun hk => l45 a b c p t l g (by omega) hk g.length 0 (by omega)
  unfold canB
  cases h1 : inB t 0 (c + 1) with
  | false => simp [ir45, ir45_c, hw1, h1]
  | true =>
    by_cases h2 : t = p
    · subst h2; simp [ir45, ir45_c, hw1, h1]
    · cases h3 : inB g.length 1 b with
      | false => simp [ir45, ir45_c, hw1, h1, h2, h3]
      | true =>
        cases h4 : risesB 0 (l.length - 1) g with
        | false => simp [ir45, ir45_c, hw1, hw2, h1, h2, h3, h38, h4]
        | true =>
          have hin := risesB_in h4
          have hk : ∀ k ∈ g, 0 ≤ k ∧ k < l.length := fun k hk => by have := hin k hk; omega
          have h27' := h27 hk
          simp at h27'
          cases h5 : atB l p g with
          | false =>
            simp [h5] at h27'
            obtain ⟨fr, ⟨H, k2001⟩, k2002⟩ := h27'
            simp [ir45, ir45_c, hw1, hw2, h1, h2, h3, h38, h4, k2001, k2002]
          | true =>
            simp [h5] at h27'
            have h40 := r74 g (by omega) fun k hkk => by have := hk k hkk; omega
            have h39 := r64 a (bitsI g 0) (by omega)
            have h16 := r46 l g p t (by omega) hg hk
            have h41 := r37 a (by omega) b c (by omega) t (setAll t g l) (by rw [setAll_length]; omega)
            have hsl := setAll_length t g l
            generalize setAll t g l = L at *
            generalize bitsI g 0 = N at *
            cases h6 : cuB a N with
            | false => simp [ir45, ir45_c, hw1, hw2, h1, h2, h3, h38, h4, h27', h40, h39, h6]
            | true =>
              have htk : L.take l.length = L := List.take_of_length_le (by omega)
              simp [ir45, ir45_c, hw1, hw2, h1, h2, h3, h38, h4, h27', h40, h39, h6, h16, h41, htk]
end Go.Proofs.Ytdgfpjlmpnfcgaa.Ev

namespace Go.Proofs.Ytdgfpjlmpnfcgaa.Ev
open Go
set_option linter.unusedVariables false
set_option linter.unusedSimpArgs false
theorem til_snoc (l : List Int) (x : Int) : til l ++ [.int .i64 x] = til (l ++ [x]) := by simp [til]
theorem til_fold (a b : List Int) : til a ++ til b = til (a ++ b) := by simp [til]
theorem take_snoc {α : Type} (l : List α) (x : α) : (l ++ [x]).take (l.length + 1) = l ++ [x] := List.take_of_length_le (by simp)
attribute [local simp] til_getE til_length til_get til_drop til_take til_snoc til_fold take_snoc
structure IsList (x : T) (l : List Int) : Prop where
  len : ∀ H, evLen H 1 (.t x) = some (l.length : Int)
  ix : ∀ H (i : Nat) (h : i < l.length), evIxa H 1 (.t x) (.t (.int .i64 i)) = some (.rptr (.int .i64 l[i]) 0)
  own : l.length ≤ 1000 → ownR env 75 [x] = some (.ref 0 0 l.length, [.pure 1 (til l)])
theorem isList_tl (l : List Int) : IsList (tl l) l := ⟨fun H => by simp, fun H i h => by simp [h], fun h => r75 l h⟩
theorem isList_nil : IsList .nil [] := ⟨fun H => rfl, fun H i h => by simp at h, fun _ => by
  rw [own_ir e75 _ rfl]
  simp [ir75, ir75_c, til_nil]⟩

def tll (gl : List (List Int)) : List T := gl.map fun l => .lst 1 (til l)
theorem tll_length (gl : List (List Int)) : (tll gl).length = gl.length := by simp [tll]
theorem tll_take (gl : List (List Int)) (n : Nat) : (tll gl).take n = tll (gl.take n) := by simp [tll, List.map_take]
theorem tll_get (gl : List (List Int)) (i : Nat) : (tll gl)[i]? = gl[i]?.map fun l => .lst 1 (til l) := by simp [tll]
theorem tll_getE (gl : List (List Int)) (i : Nat) (h : i < (tll gl).length) : (tll gl)[i] = .lst 1 (til (gl[i]'(by simpa [tll] using h))) := by simp [tll]
theorem tll_fold (a b : List (List Int)) : tll a ++ tll b = tll (a ++ b) := by simp [tll]
def IsL (r : Option (V × Heap)) (gl : List (List Int)) : Prop := (r = some (.t .nil, []) ∧ gl = []) ∨ r = some (.ref 0 0 gl.length, [.pure 1 (tll gl)])
def grps (most : Int) : List Int → List Int → List (List Int)
  | [], _ => []
  | x :: rest, l => if (l.length : Int) < most then (l ++ [x]) :: (grps most rest (l ++ [x]) ++ grps most rest l) else []
theorem grps_full (most : Int) (rest l : List Int) (h : ¬ (l.length : Int) < most) : grps most rest l = [] := by
  cases rest with
  | nil => rfl
  | cons x r => simp [grps, h]
theorem grps_len (most : Int) : ∀ (rest l : List Int), (grps most rest l).length + 1 ≤ 2 ^ rest.length
  | [], _ => by simp [grps]
  | x :: rest, l => by
    have h1 := grps_len most rest (l ++ [x])
    have h2 := grps_len most rest l
    simp only [grps]
    split
    · simp only [List.length_cons, List.length_append, Nat.pow_succ]
      omega
    · simp only [List.length_nil, List.length_cons, Nat.pow_succ]
      omega

attribute [local simp] tll_length tll_take tll_get tll_getE tll_fold
theorem l61 (P B : T) (people l : List Int) (hP : IsList P people) (hB : IsList B l) (hpl : people.length ≤ 20) (most : Int) (hm : most ≤ 100) (hl : (l.length : Int) < most)
    (i0 : Nat) (ih : ∀ (j : Nat), i0 ≤ j → j < people.length → IsL (ownFR env 61 [P, tl (l ++ [people[j]?.getD 0]), ti ((j : Int) + 1), ti most]) ((l ++ [people[j]?.getD 0]) :: grps most (people.drop (j + 1)) (l ++ [people[j]?.getD 0]))) :
    ∀ (d i : Nat) (acc : List (List Int)), i + d = people.length → i0 ≤ i → acc.length + (grps most (people.drop i) l).length ≤ 2 ^ 30 →
    loopF env true [0, 1, 3, 9, 10] ir61_b0 ([(0, .t P), (1, .t B), (3, .t (ti most)), (9, .ref 0 0 acc.length), (10, .t (ti i))], [.pure 1 (tll acc)]) =
      some (.exit 0, [(0, .t P), (1, .t B), (3, .t (ti most)), (9, .ref 0 0 (acc ++ grps most (people.drop i) l).length), (10, .t (ti people.length)), (25, .t (ti people.length)), (26, .t P), (27, .t (ti people.length)), (28, .t (tb false))], [.pure 1 (tll (acc ++ grps most (people.drop i) l))])
  | 0, i, acc, hi, hi0, ha => by
    rw [x61_0]
    have : i = people.length := by omega
    subst this
    simp [ir61_d0, hP.len, grps]
  | d + 1, i, acc, hi, hi0, ha => by
    rw [x61_0]
    have hlt : i < people.length := by omega
    have hw : IntKind.i64.wrap ((i : Int) + 1) = (i : Int) + 1 := w76 (by omega)
    have hi' := ih i hi0 hlt
    have hown := hB.own (by omega)
    have hix := hP.ix
    simp [hlt] at hi'
    have hg : grps most (people.drop i) l = ((l ++ [people[i]]) :: grps most (people.drop (i + 1)) (l ++ [people[i]])) ++ grps most (people.drop (i + 1)) l := by
      rw [List.drop_eq_getElem_cons hlt]; simp [grps, hl]
    rw [hg, List.length_append] at ha
    simp only [List.length_cons] at ha
    rcases hi' with ⟨_, h2⟩ | hi'
    · cases h2
    · have ihl := l61 P B people l hP hB hpl most hm hl i0 ih d (i + 1) (acc ++ ((l ++ [people[i]]) :: grps most (people.drop (i + 1)) (l ++ [people[i]]))) (by omega) (by omega) (by rw [List.length_append, List.length_cons]; omega)
      rw [hg]
      generalize grps most (people.drop (i + 1)) (l ++ [people[i]]) = G1 at *
      generalize grps most (people.drop (i + 1)) l = G2 at *
      simp at ihl
      simp [ir61_d0, hP.len, hown, hix, hlt, hw, show l.length + 1 ≤ 68719476736 by omega, show acc.length + (G1.length + 1) ≤ 68719476736 by omega, hi', ihl]
theorem l61n (P B : T) (people l : List Int) (hP : IsList P people) (hB : IsList B l) (hpl : people.length ≤ 20) (most : Int) (hm : most ≤ 100) (hl : (l.length : Int) < most) (i : Nat) (hlt : i < people.length) (G1 : List (List Int)) (hG : G1.length ≤ 2 ^ 30)
    (ih : ownFR env 61 [P, tl (l ++ [people[i]]), ti ((i : Int) + 1), ti most] = some (.ref 0 0 (G1.length + 1), [.pure 1 (tll ((l ++ [people[i]]) :: G1))])) :
    loopF env true [0, 1, 3, 9, 10] ir61_b0 ([(0, .t P), (1, .t B), (3, .t (ti most)), (9, .t .nil), (10, .t (ti i))], []) =
      loopF env true [0, 1, 3, 9, 10] ir61_b0 ([(0, .t P), (1, .t B), (3, .t (ti most)), (9, .ref 0 0 (G1.length + 1)), (10, .t (ti ((i : Int) + 1)))], [.pure 1 (tll ((l ++ [people[i]]) :: G1))]) := by
  rw [x61_0]
  have hw : IntKind.i64.wrap ((i : Int) + 1) = (i : Int) + 1 := w76 (by omega)
  have hown := hB.own (by omega)
  have hix := hP.ix
  simp [ir61_d0, hP.len, hown, hix, hlt, hw, show l.length + 1 ≤ 68719476736 by omega, show G1.length + 1 ≤ 68719476736 by omega, ih, List.take_of_length_le]
theorem r61 (P : T) (people : List Int) (hP : IsList P people) (hpl : people.length ≤ 20) (most : Int) (hm : most ≤ 100) (hm0 : 0 < most) : ∀ (d i : Nat) (B : T) (l : List Int), i + d = people.length → IsList B l → (l.length : Int) ≤ most →
    IsL (ownFR env 61 [P, B, ti i, ti most]) ((if l.length = 0 then [] else [l]) ++ grps most (people.drop i) l) := by
  intro d
  induction d using Nat.strongRecOn with
  | ind d ih =>
    intro i B l hi hB hl
    have hown := hB.own (by omega)
    have hblen := hB.len
    have hgl := grps_len most (people.drop i) l
    have hp2 : 2 ^ (people.drop i).length ≤ 2 ^ 20 := Nat.pow_le_pow_right (by decide) (by simp; omega)
    have ih' : (l.length : Int) < most → ∀ (j : Nat), i ≤ j → j < people.length → IsL (ownFR env 61 [P, tl (l ++ [people[j]?.getD 0]), ti ((j : Int) + 1), ti most]) ((l ++ [people[j]?.getD 0]) :: grps most (people.drop (j + 1)) (l ++ [people[j]?.getD 0])) := fun hlt j hij hj => by
      have := ih (people.length - (j + 1)) (by omega) (j + 1) (tl (l ++ [people[j]?.getD 0])) (l ++ [people[j]?.getD 0]) (by omega) (isList_tl _) (by rw [List.length_append]; simp; omega)
      rw [if_neg (by simp)] at this
      exact this
    rw [ownF_ir e61 _ rfl]
    rcases Nat.eq_zero_or_pos l.length with h0 | h0
    · have hlt0 : (l.length : Int) < most := by omega
      simp only [h0, if_true, List.nil_append]
      rcases Nat.lt_or_ge i people.length with hlt | hge
      · right
        have hi' := ih' hlt0 i (Nat.le_refl _) hlt
        have hx : people[i]?.getD 0 = people[i] := by simp [hlt]
        rw [hx] at hi'
        have hg : grps most (people.drop i) l = ((l ++ [people[i]]) :: grps most (people.drop (i + 1)) (l ++ [people[i]])) ++ grps most (people.drop (i + 1)) l := by
          rw [List.drop_eq_getElem_cons hlt]; simp [grps, hlt0]
        rcases hi' with ⟨_, h2⟩ | hi'
        · cases h2
        · have hlen2 : ((l ++ [people[i]]) :: grps most (people.drop (i + 1)) (l ++ [people[i]])).length + (grps most (people.drop (i + 1)) l).length ≤ 2 ^ 20 := by
            rw [hg, List.length_append] at hgl; omega
          have hn := l61n P B people l hP hB hpl most hm hlt0 i hlt (grps most (people.drop (i + 1)) (l ++ [people[i]])) (by simp at hlen2; omega) hi'
          have hr := l61 P B people l hP hB hpl most hm hlt0 i (ih' hlt0) (people.length - (i + 1)) (i + 1) ((l ++ [people[i]]) :: grps most (people.drop (i + 1)) (l ++ [people[i]])) (by omega) (by omega) (by omega)
          rw [hg]
          generalize grps most (people.drop (i + 1)) (l ++ [people[i]]) = G1 at *
          generalize grps most (people.drop (i + 1)) l = G2 at *
          simp at hr hn
          simp [ir61, ir61_c, hblen, h0, show ¬ (0 = most) by omega, hn, hr]
      · left
        have hg : grps most (people.drop i) l = [] := by rw [List.drop_of_length_le (by omega)]; rfl
        refine ⟨?_, hg⟩
        simp [ir61, ir61_c, hblen, h0, show ¬ (0 = most) by omega]
        rw [x61_0]
        simp [ir61_d0, hP.len, show ¬ (i < people.length) by omega]
    · right
      have hne : l ≠ [] := by intro e; subst e; simp at h0
      have ht : tll [l] = [T.lst 1 (til l)] := rfl
      by_cases hmost : (l.length : Int) = most
      · have hg : grps most (people.drop i) l = [] := grps_full _ _ _ (by omega)
        simp [ir61, ir61_c, hblen, hown, hmost, hm0, hne, ht, hg]
      · rcases Nat.lt_or_ge i people.length with hlt | hge
        · have hr := l61 P B people l hP hB hpl most hm (by omega) i (ih' (by omega)) (people.length - i) i [l] (by omega) (by omega) (by simp; omega)
          simp [ht] at hr
          simp [ir61, ir61_c, hblen, hown, hmost, h0, hne, ht, hr]
        · have hg : grps most (people.drop i) l = [] := by rw [List.drop_of_length_le (by omega)]; rfl
          simp [ir61, ir61_c, hblen, hown, hmost, h0, hne, ht, hg]
          rw [x61_0]
          simp [ir61_d0, hP.len, show ¬ (i < people.length) by omega]
end Go.Proofs.Ytdgfpjlmpnfcgaa.Ev

namespace Go.Proofs.Ytdgfpjlmpnfcgaa.Ev
open Go
set_option linter.unusedVariables false
set_option linter.unusedSimpArgs false
attribute [local simp] til_getE til_length til_get til_drop til_take til_snoc til_fold take_snoc tll_length tll_take tll_get tll_getE tll_fold
def nlV (k : Nat) (l : List Int) : V := if l.length = 0 then .t .nil else .ref k 0 l.length
def nlH (l : List Int) : Heap := if l.length = 0 then [] else [.pure 1 (til l)]

theorem l34_h (A B C2 p : Int) (g : List Int) (hg : g.length ≤ 1000) : ∀ (d i : Nat) (acc : List Int), i + d = g.length → acc.length ≤ i →
    loopF env true [2, 3, 5, 14, 15, 16] ir34_b2 ([(2, .ptr 0 0 0), (3, .ptr 1 0 0), (5, nlV 2 acc), (14, .t (tl g)), (15, .t (ti g.length)), (16, .t (ti i))], [.box 3 [.t (ti A), .t (ti B), .t (ti C2)], .box 2 [.t (tl g), .t (ti p)]] ++ nlH acc) =
      some (.exit 0, [(2, .ptr 0 0 0), (3, .ptr 1 0 0), (5, nlV 2 (acc ++ stand p i (g.drop i))), (14, .t (tl g)), (15, .t (ti g.length)), (16, .t (ti g.length)), (17, .t (tb false))], [.box 3 [.t (ti A), .t (ti B), .t (ti C2)], .box 2 [.t (tl g), .t (ti p)]] ++ nlH (acc ++ stand p i (g.drop i)))
  | 0, i, acc, hi, ha => by
    rw [x34_2]
    have : i = g.length := by omega
    subst this
    simp [ir34_d2, stand]
  | d + 1, i, acc, hi, ha => by
    rw [x34_2]
    have hlt : i < g.length := by omega
    have hw : IntKind.i64.wrap ((i : Int) + 1) = (i : Int) + 1 := w76 (by omega)
    by_cases h : g[i] = p
    · have hs : stand p i (g.drop i) = [(i : Int)] ++ stand p (i + 1) (g.drop (i + 1)) := by rw [List.drop_eq_getElem_cons hlt, stand, if_pos h]; rfl
      have ih := l34_h A B C2 p g hg d (i + 1) (acc ++ [(i : Int)]) (by omega) (by simp; omega)
      rw [hs, ← List.append_assoc]
      generalize acc ++ [(i : Int)] ++ stand p (i + 1) (g.drop (i + 1)) = Z at *
      cases acc with
      | nil =>
        simp [nlV, nlH, til_cons, til_nil] at ih
        simp [ir34_d2, nlV, nlH, hlt, hw, h, ih]
      | cons x acc =>
        simp [nlV, nlH] at ih
        simp [ir34_d2, nlV, nlH, hlt, hw, h, show acc.length + 1 + 1 ≤ 68719476736 by simp at ha; omega, ih]
    · have hs : stand p i (g.drop i) = stand p (i + 1) (g.drop (i + 1)) := by rw [List.drop_eq_getElem_cons hlt, stand, if_neg h]
      have ih := l34_h A B C2 p g hg d (i + 1) acc (by omega) (by omega)
      rw [hs]
      generalize acc ++ stand p (i + 1) (g.drop (i + 1)) = Z at *
      cases acc with
      | nil =>
        simp [nlV, nlH] at ih
        simp [ir34_d2, nlV, nlH, hlt, hw, h, ih]
      | cons x acc =>
        simp [nlV, nlH] at ih
        simp [ir34_d2, nlV, nlH, hlt, hw, h, ih]
def voyT (v : Int × List Int) : T := .agg [.int .i64 v.1, .lst 1 (til v.2)]
def tlv (vs : List (Int × List Int)) : List T := vs.map voyT
theorem tlv_length (vs : List (Int × List Int)) : (tlv vs).length = vs.length := by simp [tlv]
theorem tlv_snoc (vs : List (Int × List Int)) (t : Int) (g : List Int) : tlv vs ++ [.agg [.int .i64 t, .lst 1 (til g)]] = tlv (vs ++ [(t, g)]) := by simp [tlv, voyT]
theorem tlv_one (t : Int) (g : List Int) : tlv [(t, g)] = [.agg [.int .i64 t, .lst 1 (til g)]] := rfl
theorem tlv_take (vs : List (Int × List Int)) (n : Nat) : (tlv vs).take n = tlv (vs.take n) := by simp [tlv, List.map_take]
theorem tlv_getE (vs : List (Int × List Int)) (i : Nat) (h : i < (tlv vs).length) : (tlv vs)[i] = .agg [.int .i64 (vs[i]'(by simpa [tlv] using h)).1, .lst 1 (til (vs[i]'(by simpa [tlv] using h)).2)] := by simp [tlv, voyT]
def nvV (k : Nat) (l : List (Int × List Int)) : V := if l.length = 0 then .t .nil else .ref k 0 l.length
def nvH (l : List (Int × List Int)) : Heap := if l.length = 0 then [] else [.pure 2 (tlv l)]
def nvK (l : List (Int × List Int)) : Nat := if l.length = 0 then 3 else 4
def cans (a : Nat) (b c : Int) (l : List Int) (p t : Int) (gl : List (List Int)) : List (Int × List Int) := (gl.filter fun g => canB a b c l p t g).map fun g => (t, g)
theorem cans_cons (a : Nat) (b c : Int) (l : List Int) (p t : Int) (g : List Int) (gl : List (List Int)) : cans a b c l p t (g :: gl) = (if canB a b c l p t g then [(t, g)] else []) ++ cans a b c l p t gl := by
  unfold cans
  rw [List.filter_cons]
  split <;> simp

theorem l34_i (a : Nat) (b c : Int) (hgd : good a b c = true) (l : List Int) (hl : l.length = 2 * a) (p t : Int) (here : List Int) (gl : List (List Int)) (hgl : ∀ g ∈ gl, g.length ≤ 1000) (hgn : gl.length ≤ 2 ^ 20) : ∀ (d j : Nat) (out : List (Int × List Int)), j + d = gl.length → out.length + d ≤ 2 ^ 30 →
    loopF env true [2, 3, 5, 8, 9, 40, 41, 42] ir34_b0 ([(2, .ptr 0 0 0), (3, .ptr 1 0 0), (5, .ref 2 0 here.length), (8, nvV 3 out), (9, .t (ti t)), (40, .ref (nvK out) 0 gl.length), (41, .t (ti gl.length)), (42, .t (ti j))], [.box 3 [.t (ti a), .t (ti b), .t (ti c)], .box 2 [.t (tl l), .t (ti p)], .froz 1 (til here)] ++ nvH out ++ [.pure 1 (tll gl)]) =
      some (.exit 4, [(2, .ptr 0 0 0), (3, .ptr 1 0 0), (5, .ref 2 0 here.length), (8, nvV 3 (out ++ cans a b c l p t (gl.drop j))), (9, .t (ti t)), (40, .ref (nvK (out ++ cans a b c l p t (gl.drop j))) 0 gl.length), (41, .t (ti gl.length)), (42, .t (ti gl.length)), (43, .t (tb false))], [.box 3 [.t (ti a), .t (ti b), .t (ti c)], .box 2 [.t (tl l), .t (ti p)], .froz 1 (til here)] ++ nvH (out ++ cans a b c l p t (gl.drop j)) ++ [.pure 1 (tll gl)])
  | 0, j, out, hj, hb => by
    rw [x34_0]
    have : j = gl.length := by omega
    subst this
    simp [ir34_d0, cans]
  | d + 1, j, out, hj, hb => by
    rw [x34_0]
    have hlt : j < gl.length := by omega
    have hw : IntKind.i64.wrap ((j : Int) + 1) = (j : Int) + 1 := w76 (by omega)
    have h27 := r45 a b c hgd l hl p t gl[j] (hgl _ (List.getElem_mem hlt))
    have hs : cans a b c l p t (gl.drop j) = (if canB a b c l p t gl[j] then [(t, gl[j])] else []) ++ cans a b c l p t (gl.drop (j + 1)) := by rw [List.drop_eq_getElem_cons hlt, cans_cons]
    rw [hs, ← List.append_assoc]
    have ih := fun out' h => l34_i a b c hgd l hl p t here gl hgl hgn d (j + 1) out' (by omega) h
    cases hc : canB a b c l p t gl[j] with
    | true =>
      rw [hc] at h27
      simp only [if_true]
      have ih' := ih (out ++ [(t, gl[j])]) (by simp; omega)
      generalize out ++ [(t, gl[j])] ++ cans a b c l p t (gl.drop (j + 1)) = Z at *
      cases out with
      | nil =>
        simp [nvV, nvH, nvK, tlv_one] at ih'
        simp [ir34_d0, nvV, nvH, nvK, hlt, hw, h27, ih', tlv_length, tlv_snoc, tlv_take]
      | cons x out =>
        simp [nvV, nvH, nvK] at ih'
        simp [ir34_d0, nvV, nvH, nvK, hlt, hw, h27, ih', tlv_length, tlv_snoc, tlv_take, show out.length + 1 + 1 ≤ 68719476736 by simp at hb; omega]
    | false =>
      rw [hc] at h27
      simp only [Bool.false_eq_true, if_false, List.append_nil]
      have ih' := ih out (by omega)
      generalize out ++ cans a b c l p t (gl.drop (j + 1)) = Z at *
      cases out with
      | nil =>
        simp [nvV, nvH, nvK, tlv_one] at ih'
        simp [ir34_d0, nvV, nvH, nvK, hlt, hw, h27, ih']
      | cons x out =>
        simp [nvV, nvH, nvK] at ih'
        simp [ir34_d0, nvV, nvH, nvK, hlt, hw, h27, ih', tlv_length, tlv_take]

theorem grps_lens (most : Int) : ∀ (rest l g : List Int), g ∈ grps most rest l → (g.length : Int) ≤ most
  | [], _, g, h => by simp [grps] at h
  | x :: rest, l, g, h => by
    simp only [grps] at h
    split at h
    · rename_i hlt
      simp only [List.mem_cons, List.mem_append] at h
      rcases h with rfl | h | h
      · simp; omega
      · exact grps_lens most rest (l ++ [x]) g h
      · exact grps_lens most rest l g h
    · cases h
def voysS (a : Nat) (b c : Int) (l : List Int) (p : Int) (i d : Nat) : List (Int × List Int) := (List.range' i d).flatMap fun t : Nat => cans a b c l p (t : Int) (grps b (stand p 0 l) [])

theorem l34_o (a : Nat) (b c : Int) (hgd : good a b c = true) (l : List Int) (hl : l.length = 2 * a) (p : Int) (hp : stand p 0 l ≠ []) (hb : Blk) (hhb : hb = .pure 1 (til (stand p 0 l)) ∨ hb = .froz 1 (til (stand p 0 l))) : ∀ (d i : Nat) (out : List (Int × List Int)), ((i + d : Nat) : Int) = c + 2 → out.length + d * 2 ^ 8 ≤ 2 ^ 20 → (hb = .pure 1 (til (stand p 0 l)) → 0 < d) →
    loopF env true [2, 3, 5, 8, 9] ir34_b1 ([(2, .ptr 0 0 0), (3, .ptr 1 0 0), (5, .ref 2 0 (stand p 0 l).length), (8, nvV 3 out), (9, .t (ti i))], [.box 3 [.t (ti a), .t (ti b), .t (ti c)], .box 2 [.t (tl l), .t (ti p)], hb] ++ nvH out) =
      some (.exit 2, [(2, .ptr 0 0 0), (3, .ptr 1 0 0), (5, .ref 2 0 (stand p 0 l).length), (8, nvV 3 (out ++ voysS a b c l p i d)), (9, .t (ti (c + 2))), (30, .t (ti (c + 2))), (31, .ptr 0 0 2), (32, .t (ti c)), (33, .t (ti (c + 1))), (34, .t (tb false))], [.box 3 [.t (ti a), .t (ti b), .t (ti c)], .box 2 [.t (tl l), .t (ti p)], .froz 1 (til (stand p 0 l))] ++ nvH (out ++ voysS a b c l p i d))
  | 0, i, out, hi, ho, hd => by
    rw [x34_1]
    have hw : IntKind.i64.wrap (c + 1) = c + 1 := by have := good_of hgd; exact w76 (by omega)
    have hfz : hb = .froz 1 (til (stand p 0 l)) := hhb.resolve_left fun e => by have := hd e; omega
    have hie : (i : Int) = c + 2 := by omega
    simp [ir34_d1, hw, hie, hfz, voysS, show ¬ (c + 2 ≤ c + 1) by omega]
  | d + 1, i, out, hi, ho, hd => by
    rw [x34_1]
    have hgo := good_of hgd
    have hw0 : IntKind.i64.wrap (c + 1) = c + 1 := w76 (by omega)
    have hw : IntKind.i64.wrap ((i : Int) + 1) = (i : Int) + 1 := w76 (by omega)
    have hlt : (i : Int) ≤ c + 1 := by omega
    have hsl := stand_length p l 0
    have h26 := r61 (tl (stand p 0 l)) (stand p 0 l) (isList_tl _) (by omega) b (by omega) (by omega) (stand p 0 l).length 0 .nil [] (by omega) isList_nil (by simp; omega)
    simp only [List.length_nil, if_true, List.nil_append, List.drop_zero] at h26
    have hgn := grps_len b (stand p 0 l) []
    have hgs : ∀ g ∈ grps b (stand p 0 l) [], g.length ≤ 1000 := fun g hg => by have := grps_lens b _ _ g hg; omega
    have hp2 : 2 ^ (stand p 0 l).length ≤ 2 ^ 8 := Nat.pow_le_pow_right (by decide) (by omega)
    have hinner := l34_i a b c hgd l hl p i (stand p 0 l) (grps b (stand p 0 l) []) hgs (by omega) (grps b (stand p 0 l) []).length 0 out (by omega) (by omega)
    have hs : voysS a b c l p i (d + 1) = cans a b c l p i (grps b (stand p 0 l) []) ++ voysS a b c l p (i + 1) d := by simp [voysS, List.range'_succ]
    have hcl : (cans a b c l p i (grps b (stand p 0 l) [])).length ≤ (grps b (stand p 0 l) []).length := by
      simp only [cans, List.length_map]; exact List.length_filter_le _ _
    have ih := l34_o a b c hgd l hl p hp (.froz 1 (til (stand p 0 l))) (.inr rfl) d (i + 1) (out ++ cans a b c l p i (grps b (stand p 0 l) [])) (by omega) (by rw [List.length_append]; omega) (fun e => by cases e)
    rw [hs, ← List.append_assoc]
    have hne : grps b (stand p 0 l) [] ≠ [] := by
      cases hst : stand p 0 l with
      | nil => exact absurd hst hp
      | cons x r => simp [grps, show (0 : Int) < b by omega]
    simp only [List.drop_zero] at hinner
    generalize grps b (stand p 0 l) [] = gl at *
    generalize stand p 0 l = here at *
    rcases h26 with ⟨_, h26⟩ | h26
    · exact absurd h26 hne
    · generalize hZ : out ++ cans a b c l p i gl = Z at *
      generalize Z ++ voysS a b c l p (i + 1) d = Y at *
      simp at h26
      clear hZ
      rcases hhb with rfl | rfl <;> cases out <;> cases Z <;> simp [nvV, nvH, nvK] at hinner ih <;> simp [ir34_d1, nvV, nvH, nvK, hlt, hw0, hw, h26, hinner, ih]
def IsVs (r : Option (V × Heap)) (vs : List (Int × List Int)) : Prop := (r = some (.t .nil, []) ∧ vs = []) ∨ r = some (.ref 0 0 vs.length, [.pure 2 (tlv vs)])
theorem stand_ne (p : Int) : ∀ (l : List Int) (i : Nat), p ∈ l → stand p i l ≠ []
  | x :: l, i, h => by
    simp only [stand]
    split
    · simp
    · rename_i hx
      exact stand_ne p l (i + 1) ((List.mem_cons.1 h).resolve_left fun e => hx e.symm)
theorem r34 (a : Nat) (b c : Int) (hgd : good a b c = true) (l : List Int) (hl : l.length = 2 * a) (p : Int) (hp : p ∈ l) : IsVs (ownFR env 34 [.agg [ti a, ti b, ti c], .agg [tl l, ti p]]) (voysS a b c l p 0 (c + 2).toNat) := by
  rw [ownF_ir e34 _ rfl]
  have hgo := good_of hgd
  have h1 := l34_h a b c p l (by omega) l.length 0 [] (by omega) (by simp)
  have hne := stand_ne p l 0 hp
  have h2 := l34_o a b c hgd l hl p hne (.pure 1 (til (stand p 0 l))) (.inl rfl) (c + 2).toNat 0 [] (by omega) (by simp; omega) (fun _ => by omega)
  simp only [List.drop_zero, List.nil_append] at h1 h2
  generalize voysS a b c l p 0 (c + 2).toNat = Y at *
  generalize stand p 0 l = here at *
  cases here with
  | nil => exact absurd rfl hne
  | cons x here =>
    simp [nlV, nlH] at h1
    cases Y with
    | nil =>
      left
      simp [nvV, nvH] at h2
      simp [ir34, ir34_c, h1, h2]
    | cons y Y =>
      right
      simp [nvV, nvH] at h2
      simp [ir34, ir34_c, h1, h2]
end Go.Proofs.Ytdgfpjlmpnfcgaa.Ev

namespace Go.Proofs.Ytdgfpjlmpnfcgaa.Ev
open Go
set_option linter.unusedVariables false
set_option linter.unusedSimpArgs false
attribute [local simp] til_getE til_length til_get til_drop til_take til_snoc til_fold take_snoc til_replicate til_set
theorem pow_le (e n : Nat) (he : e ≤ 4) (hn : n ≤ 7) : e ^ n ≤ 16384 := Nat.le_trans (Nat.pow_le_pow_left he n) (Nat.le_trans (Nat.pow_le_pow_right (by decide) hn) (by decide))
end Go.Proofs.Ytdgfpjlmpnfcgaa.Ev

namespace Go.Proofs.Ytdgfpjlmpnfcgaa.Ev
open Go
set_option linter.unusedVariables false
set_option linter.unusedSimpArgs false
attribute [local simp] til_getE til_length til_get til_drop til_take til_snoc til_fold take_snoc til_replicate til_set
def voysAll (a : Nat) (b c : Int) (x : List Int × Int) : List (Int × List Int) := voysS a b c x.1 x.2 0 (c + 2).toNat
def okP (a : Nat) (c : Int) (x : List Int × Int) : Prop := x.1.length = 2 * a ∧ x.2 ∈ x.1 ∧ ∀ y ∈ x.1, 0 ≤ y ∧ y ≤ c + 1

theorem code_range (e : Nat) (he : e ≤ 4) : ∀ (xs : List Int) (p : Nat) (m : Nat), (∀ y ∈ xs, 0 ≤ y ∧ y < e) → p < e ^ m → m + xs.length ≤ 7 → ∃ q : Nat, codeW e p xs = q ∧ q < e ^ (m + xs.length)
  | [], p, m, _, hp, _ => ⟨p, rfl, hp⟩
  | x :: xs, p, m, hy, hp, hm => by
    simp only [List.length_cons] at hm ⊢
    obtain ⟨y, rfl⟩ : ∃ y : Nat, x = y := ⟨x.toNat, by have := hy x (List.mem_cons_self ..); omega⟩
    have hye : y < e := by have := hy (y : Int) (List.mem_cons_self ..); omega
    have h1 : p * e + y < e ^ (m + 1) := by
      rw [Nat.pow_succ]
      have : (p + 1) * e ≤ e ^ m * e := Nat.mul_le_mul_right e hp
      rw [Nat.add_mul] at this
      omega
    have hb := pow_le e (m + 1) he (by omega)
    have hpe : p * e ≤ 16384 := by omega
    have hw : IntKind.i64.wrap (IntKind.i64.wrap ((p : Int) * e) + y) = ((p * e + y : Nat) : Int) := by
      have e2001 : (p : Int) * (e : Int) = ((p * e : Nat) : Int) := by simp
      rw [e2001, w76 (n := ((p * e : Nat) : Int)) (by omega), w76 (n := ((p * e : Nat) : Int) + y) (by omega)]; omega
    obtain ⟨q, h2, h3⟩ := code_range e he xs (p * e + y) (m + 1) (fun z hz => hy z (List.mem_cons_of_mem _ hz)) h1 (by omega)
    refine ⟨q, ?_, by rw [show m + (xs.length + 1) = m + 1 + xs.length by omega]; exact h3⟩
    rw [codeW_cons, hw]; exact h2
theorem setAll_mem (t : Int) : ∀ (g l : List Int) (y : Int), y ∈ setAll t g l → y = t ∨ y ∈ l
  | [], l, y, h => .inr h
  | k :: g, l, y, h => by
    rcases setAll_mem t g _ y h with h | h
    · exact .inl h
    · rcases List.mem_or_eq_of_mem_set h with h | h
      · exact .inr h
      · exact .inl h
theorem setAll_has (t : Int) : ∀ (g l : List Int), (t ∈ l ∨ (∃ k ∈ g, 0 ≤ k ∧ k < l.length)) → t ∈ setAll t g l
  | [], l, h => by
    rcases h with h | ⟨k, hk, _⟩
    · exact h
    · cases hk
  | k :: g, l, h => by
    refine setAll_has t g _ ?_
    rcases h with h | ⟨j, hj, h0, h1⟩
    · left
      rcases Nat.lt_or_ge k.toNat l.length with hk | hk
      · exact List.mem_iff_getElem.2 ⟨k.toNat, by simpa using hk, by simp⟩
      · rw [List.set_eq_of_length_le hk]; exact h
    · rcases List.mem_cons.1 hj with rfl | hj
      · left; exact List.mem_iff_getElem.2 ⟨j.toNat, by simp; omega, by simp⟩
      · right; exact ⟨j, hj, h0, by simpa using h1⟩
theorem voys_ok {a : Nat} {b c : Int} (hgd : good a b c = true) {x : List Int × Int} (h : okP a c x) : ∀ v ∈ voysAll a b c x, v.2.length ≤ 1000 ∧ (∀ y ∈ v.2, 0 ≤ y ∧ y < x.1.length) ∧ okP a c (setAll v.1 v.2 x.1, v.1) := by
  intro v hv
  have hgo := good_of hgd
  obtain ⟨h1, h2, h3⟩ := h
  simp only [voysAll, voysS, List.mem_flatMap, cans, List.mem_map, List.mem_filter] at hv
  obtain ⟨t, _, g, ⟨hg1, hg2⟩, rfl⟩ := hv
  have hlen := grps_lens b _ _ g hg1
  simp only [canB, Bool.and_eq_true] at hg2
  obtain ⟨⟨⟨⟨⟨⟨c2001, c2002⟩, c1003⟩, c1008⟩, c1009⟩, c1010⟩, c41⟩ := hg2
  have hin := risesB_in c1008
  rw [inB_iff] at c2001 c1003
  refine ⟨by show g.length ≤ 1000; omega, fun y hy => by have := hin y hy; omega, by show (setAll _ _ _).length = _; rw [setAll_length]; exact h1, ?_, fun y hy => ?_⟩
  · refine setAll_has _ _ _ (.inr ?_)
    cases g with
    | nil => simp at c1003
    | cons k g => exact ⟨k, List.mem_cons_self .., by have := hin k (List.mem_cons_self ..); omega, by have := hin k (List.mem_cons_self ..); omega⟩
  · rcases setAll_mem _ _ _ y hy with h | h
    · subst h; omega
    · exact h3 y h
end Go.Proofs.Ytdgfpjlmpnfcgaa.Ev

namespace Go.Proofs.Ytdgfpjlmpnfcgaa.Ev
open Go
set_option linter.unusedVariables false
set_option linter.unusedSimpArgs false
attribute [local simp] til_getE til_length til_get til_drop til_take til_snoc til_fold take_snoc til_replicate til_set
theorem voysAll_len {a : Nat} {b c : Int} (hgd : good a b c = true) {x : List Int × Int} (hx : okP a c x) : (voysAll a b c x).length ≤ 2 ^ 10 := by
  have hgo := good_of hgd
  have hsl := stand_length x.2 x.1 0
  have hgn := grps_len b (stand x.2 0 x.1) []
  have hp2 : 2 ^ (stand x.2 0 x.1).length ≤ 2 ^ 6 := Nat.pow_le_pow_right (by decide) (by have := hx.1; omega)
  have : ∀ d i, (voysS a b c x.1 x.2 i d).length ≤ d * 2 ^ 6 := by
    intro d
    induction d with
    | zero => intro i; simp [voysS]
    | succ d ih =>
      intro i
      have h1 : voysS a b c x.1 x.2 i (d + 1) = cans a b c x.1 x.2 i (grps b (stand x.2 0 x.1) []) ++ voysS a b c x.1 x.2 (i + 1) d := by simp [voysS, List.range'_succ]
      have h2 : (cans a b c x.1 x.2 i (grps b (stand x.2 0 x.1) [])).length ≤ (grps b (stand x.2 0 x.1) []).length := by
        simp only [cans, List.length_map]; exact List.length_filter_le _ _
      have h3 := ih (i + 1)
      rw [h1, List.length_append]; omega
  have h := this (c + 2).toNat 0
  unfold voysAll
  omega

end Go.Proofs.Ytdgfpjlmpnfcgaa.Ev

namespace Go.Proofs.Ytdgfpjlmpnfcgaa.Ev
open Go
set_option linter.unusedVariables false
set_option linter.unusedSimpArgs false
attribute [local simp] til_getE til_length til_get til_drop til_take til_snoc til_fold take_snoc til_replicate til_set
end Go.Proofs.Ytdgfpjlmpnfcgaa.Ev

namespace Go.Proofs.Ytdgfpjlmpnfcgaa.Ev
open Go
set_option linter.unusedVariables false
set_option linter.unusedSimpArgs false
attribute [local simp] til_getE til_length til_get til_drop til_take til_snoc til_fold take_snoc til_set
theorem wu64 {n : Int} (h : 0 ≤ n ∧ n ≤ 18446744073709551615) : IntKind.u64.wrap n = n := IntWalk.u64_in n h
theorem and32 (y : Nat) (h : y < 2 ^ 32) : andI .u64 (y : Int) 4294967295 = y := by
  unfold andI
  have h1 : (BitVec.ofInt IntKind.u64.bits (y : Int) &&& BitVec.ofInt IntKind.u64.bits 4294967295).toNat = y := by
    show (BitVec.ofInt 64 (y : Int) &&& BitVec.ofInt 64 ((4294967295 : Nat) : Int)).toNat = y
    rw [BitVec.toNat_and, BitVec.toNat_ofInt, BitVec.toNat_ofInt]
    have e2001 : ((y : Int) % ((2 ^ 64 : Nat) : Int)).toNat = y := by omega
    have e2002 : (((4294967295 : Nat) : Int) % ((2 ^ 64 : Nat) : Int)).toNat = 2 ^ 32 - 1 := by decide
    rw [e2001, e2002, Nat.and_two_pow_sub_one_eq_mod, Nat.mod_eq_of_lt h]
  rw [h1]
  exact wu64 (by omega)
theorem shr32 (y : Nat) (h : y < 2 ^ 32) : shrI .u64 (y : Int) 32 = 0 := by
  unfold shrI
  show (y : Int).fdiv (2 ^ (min 32 64)) = 0
  rw [Int.fdiv_eq_ediv_of_nonneg _ (by decide)]
  show (y : Int) / 4294967296 = 0
  omega
theorem r88 (y : Nat) (h : y < 2 ^ 31) : ownR env 88 [.int .u64 1, .int .u64 y] = some (.tup [.t (.int .u64 0), .t (.int .u64 y)], []) := by
  rw [own_ir e88 _ rfl]
  have a1 := and32 y (by omega)
  have a2 := and32 1 (by omega)
  have a3 := shr32 y (by omega)
  have a4 := shr32 1 (by omega)
  have a5 := and32 0 (by omega)
  have a6 := shr32 0 (by omega)
  simp at a2 a4 a5 a6
  have w1001 : IntKind.u64.wrap (y : Int) = y := wu64 (by omega)
  have w1000 : IntKind.u64.wrap 0 = 0 := wu64 (by omega)
  simp [ir88, ir88_c, a1, a2, a3, a4, a5, a6, w1001, w1000]
theorem r86 (y : Nat) (h : y < 2 ^ 31) : ownR env 86 [.int .u64 1, .int .u64 y] = some (.tup [.t (.int .u64 0), .t (.int .u64 y)], []) := by
  rw [own_ir e86 _ rfl]
  simp [ir86, ir86_c, r88 y h]
theorem l76 (v : Int) (n : Nat) (hn : n ≤ 2 ^ 20) : ∀ (d c : Nat), n - c ≤ d → 0 < c → c ≤ n →
    loopF env true [7, 8] ir76_b0 ([(7, .ref 0 0 n), (8, .t (ti c))], [.pure 1 (til (List.replicate c v ++ List.replicate (n - c) 0))]) =
      some (.exit 0, [(7, .ref 0 0 n), (8, .t (ti n)), (34, .t (ti n)), (35, .ref 0 0 n), (36, .t (ti n)), (37, .t (tb false))], [.pure 1 (til (List.replicate n v))])
  | d, c, hd, hc, hcn => by
    rw [x76_0]
    by_cases hlt : c < n
    · obtain ⟨d, rfl⟩ : ∃ e, d = e + 1 := ⟨d - 1, by omega⟩
      have ih := l76 v n hn d (min (2 * c) n) (by omega) (by omega) (by omega)
      have hw : IntKind.i64.wrap ((c : Int) + ((min c (n - c) : Nat) : Int)) = ((min (2 * c) n : Nat) : Int) := by rw [w76 (by omega)]; omega
      have ht : (List.replicate c v ++ List.replicate (n - c) 0).take c = List.replicate c v := by
        rw [List.take_append_of_le_length (by simp)]; simp
      generalize hM : min (2 * c) n = M at *
      have e2001 : c + min (n - c) c = M := by omega
      have hd2 : (List.replicate c v ++ List.replicate (n - c) 0).drop M = List.replicate (n - M) 0 := by
        rw [List.drop_append, List.drop_of_length_le (by simp; omega)]
        simp
        omega
      simp [ir76_d0, hlt, show c ≤ n by omega, ht, hw, e2001, hd2, ih]
    · have : c = n := by omega
      subst this
      simp [ir76_d0]
theorem r76 (v : Int) (n : Nat) (hn0 : 0 < n) (hn : n ≤ 2 ^ 20) : ownR env 76 [tl [v], ti n] = some (.ref 0 0 n, [.pure 1 (til (List.replicate n v))]) := by
  rw [own_ir e76 _ rfl]
  have h46 := r86 n (by omega)
  have w1001 : IntKind.u64.wrap (n : Int) = n := wu64 (by omega)
  have w1002 : IntKind.u64.wrap 1 = 1 := wu64 (by omega)
  have w1003 : IntKind.i64.wrap (n : Int) = n := w76 (by omega)
  have hl := l76 v n hn (n - 1) 1 (by omega) (by omega) (by omega)
  rw [show List.replicate 1 v = [v] from rfl] at hl
  simp only [Int.natCast_one] at hl
  have htk : List.take n [v] = [v] := List.take_of_length_le (by simp; omega)
  have htl : (til (List.replicate n 0)).tail = til (List.replicate (n - 1) 0) := by simp [til]
  simp only [List.singleton_append] at hl
  simp [ir76, ir76_c, htl, show min 1 n = 1 by omega, show min n 1 = 1 by omega, htk, h46, w1001, w1002, w1003, show ¬ ((n : Int) < 0) by omega, show ¬ (9223372036854775807 < (n : Int)) by omega, show (n : Int) ≤ 68719476736 by omega, hl, til_flat, til_replicate]
end Go.Proofs.Ytdgfpjlmpnfcgaa.Ev

namespace Go.Proofs.Ytdgfpjlmpnfcgaa.Ev
open Go
set_option linter.unusedVariables false
set_option linter.unusedSimpArgs false
attribute [local simp] til_getE til_length til_get til_drop til_take til_snoc til_fold take_snoc til_set
end Go.Proofs.Ytdgfpjlmpnfcgaa.Ev

namespace Go.Proofs.Ytdgfpjlmpnfcgaa.Ev
open Go
set_option linter.unusedVariables false
set_option linter.unusedSimpArgs false
attribute [local simp] til_getE til_length til_get til_drop til_take til_snoc til_fold take_snoc til_set
end Go.Proofs.Ytdgfpjlmpnfcgaa.Ev

namespace Go.Proofs.Ytdgfpjlmpnfcgaa.Ev
open Go
set_option linter.unusedVariables false
set_option linter.unusedSimpArgs false
attribute [local simp] til_getE til_length til_get til_drop til_take til_snoc til_fold take_snoc til_set
structure CbIn (H : Heap) (iw is it io k : Nat) (a b c : Int) (l : List Int) (p t : Int) (vs : List (Int × List Int)) : Prop where
  w : H[iw]? = some (.box 3 [.t (ti a), .t (ti b), .t (ti c)])
  s : H[is]? = some (.box 2 [.t (tl l), .t (ti p)])
  t : H[it]? = some (.box 1 [.t (ti t)])
  o : H[io]? = some (.box 1 [.ref k 0 vs.length])
  v : H[k]? = some (.pure 2 (tlv vs))

theorem get_app2 {α : Type} {H X : List α} {i : Nat} {b : α} (h : H[i]? = some b) : (H ++ X)[i]? = some b := by
  rw [List.getElem?_append_left (List.getElem?_eq_some_iff.1 h).1]; exact h
theorem d59 (H : Heap) (iw is it io k : Nat) (a b c : Int) (hc : 0 ≤ c ∧ c ≤ 2) (l : List Int) (hl : l.length ≤ 100) (p t : Int) (vs : List (Int × List Int)) (hvs : vs.length ≤ 2 ^ 30) (h : CbIn H iw is it io k a b c l p t vs) (g : List Int) (hg : g.length ≤ 100) (hk : ∀ x ∈ g, 0 ≤ x ∧ x < l.length) :
    ∃ v H' k', den env 59 [.t (tl g), .ptr iw 0 0, .ptr is 0 0, .ptr it 0 0, .ptr io 0 0] H = some (v, H') ∧ H.length ≤ H'.length ∧ (k' = k ∨ H.length ≤ k') ∧ CbIn H' iw is it io k' a b c l p t (if calmI g g && calmP c (setAll t g l) then vs ++ [(t, g)] else vs) ∧ ∀ id, id < H.length → id ≠ io → id ≠ k → H'[id]? = H[id]? := by
  rw [den_ir e59 _ _ rfl (.inl rfl)]
  have h34 := r60 g (by omega)
  cases h1 : calmI g g with
  | false =>
    refine ⟨.tup [], H, k, ?_, Nat.le_refl _, .inl rfl, h, fun _ _ _ _ => rfl⟩
    simp [ir59, ir59_c, h34, h1]
  | true =>
    have h22 := r43 l g p t (by omega) (by omega) hk
    have hsl := setAll_length t g l
    have h35 := r35 a b c hc t (setAll t g l) (by rw [setAll_length]; omega)
    have htk : (setAll t g l).take l.length = setAll t g l := List.take_of_length_le (by omega)
    have ho : ∀ X, (H ++ X)[io]? = some (.box 1 [.ref k 0 vs.length]) := fun X => get_app2 h.o
    have ht : ∀ X, (H ++ X)[it]? = some (.box 1 [.t (ti t)]) := fun X => get_app2 h.t
    have hv : ∀ X, (H ++ X)[k]? = some (.pure 2 (tlv vs)) := fun X => get_app2 h.v
    generalize setAll t g l = L at *
    cases h2 : calmP c L with
    | false =>
      refine ⟨.tup [], H ++ [.pure 1 (til L)], k, ?_, by simp, .inl rfl, ⟨get_app2 h.w, get_app2 h.s, get_app2 h.t, get_app2 h.o, get_app2 h.v⟩, fun id hid _ _ => get_app hid⟩
      simp [ir59, ir59_c, h34, h1, h.w, h.s, h.t, h22, h35, htk, h2]
    | true =>
      have hne : k ≠ io := fun e => by have := h.o; rw [← e, h.v] at this; cases this
      have hkl := (List.getElem?_eq_some_iff.1 h.v).1
      have hiol := (List.getElem?_eq_some_iff.1 h.o).1
      have hio : ∀ X Y, ((H ++ X).set k .dead ++ Y)[io]? = some (.box 1 [.ref k 0 vs.length]) := fun X Y => get_app2 (by rw [List.getElem?_set_ne hne]; exact ho X)
      refine ⟨.tup [], ((H ++ [Blk.pure 1 (til L), Blk.pure 2 [.agg [.int .i64 t, .lst 1 (til g)]]]).set k Blk.dead ++ [Blk.pure 2 (tlv (vs ++ [(t, g)]))]).set io (.box 1 [.ref (H.length + 2) 0 (vs.length + 1)]), H.length + 2, ?_, by simp; omega, .inr (by omega), ?_, fun id hid h1 h2 => ?_⟩
      · simp [ir59, ir59_c, h34, h1, h.w, h.s, h.t, h22, h35, htk, h2, ho, ht, hv, tlv_length, tlv_take, show vs.length + 1 ≤ 68719476736 by omega, hio, tlv_snoc]
      · have keep : ∀ {id : Nat} {x : Blk}, H[id]? = some x → id ≠ io → id ≠ k → (((H ++ [Blk.pure 1 (til L), Blk.pure 2 [.agg [.int .i64 t, .lst 1 (til g)]]]).set k Blk.dead ++ [Blk.pure 2 (tlv (vs ++ [(t, g)]))]).set io (.box 1 [.ref (H.length + 2) 0 (vs.length + 1)]))[id]? = some x := fun {id x} hx n1 n2 => by
          rw [List.getElem?_set_ne (Ne.symm n1)]
          exact get_app2 (by rw [List.getElem?_set_ne (Ne.symm n2)]; exact get_app2 hx)
        simp only [h1, Bool.and_self, if_true]
        have hw1 : iw ≠ io := fun e => by have := h.o; rw [← e, h.w] at this; cases this
        have hw2 : iw ≠ k := fun e => by have := h.v; rw [← e, h.w] at this; cases this
        have hs1 : is ≠ io := fun e => by have := h.o; rw [← e, h.s] at this; cases this
        have hs2 : is ≠ k := fun e => by have := h.v; rw [← e, h.s] at this; cases this
        have ht1 : it ≠ io := fun e => by have := h.o; rw [← e, h.t] at this; cases this
        have ht2 : it ≠ k := fun e => by have := h.v; rw [← e, h.t] at this; cases this
        refine ⟨keep h.w hw1 hw2, keep h.s hs1 hs2, keep h.t ht1 ht2, ?_, ?_⟩
        · rw [List.getElem?_set_self (by simp; omega)]; simp
        · rw [List.getElem?_set_ne (by omega), List.getElem?_append_right (by simp)]
          simp
      · rw [List.getElem?_set_ne (Ne.symm h1), List.getElem?_append_left (by simp; omega), List.getElem?_set_ne (Ne.symm h2), get_app hid]
end Go.Proofs.Ytdgfpjlmpnfcgaa.Ev

namespace Go.Proofs.Ytdgfpjlmpnfcgaa.Ev
open Go
set_option linter.unusedVariables false
set_option linter.unusedSimpArgs false
attribute [local simp] til_getE til_length til_get til_drop til_take til_snoc til_fold take_snoc til_set
def raP (v : V) (p : List V × List (Nat × Blk)) : Option (List V × List (Nat × Blk)) := some (v :: p.1, p.2)
@[simp] theorem raP_eq (v : V) (vs : List V) (l : List (Nat × Blk)) : raP v (vs, l) = some (v :: vs, l) := rfl
def raQ (H : Heap) (vs : List V) (q : T × List (Nat × Blk)) : Option (List V × List (Nat × Blk)) := andO (callM.rdArgs H vs) (fun p => some (.t q.1 :: p.1, q.2 ++ p.2))
@[simp] theorem raQ_eq (H : Heap) (vs : List V) (t : T) (l : List (Nat × Blk)) : raQ H vs (t, l) = andO (callM.rdArgs H vs) (fun p => some (.t t :: p.1, l ++ p.2)) := rfl
@[simp] theorem ra_nil (H : Heap) : callM.rdArgs H [] = some ([], []) := rfl
@[simp] theorem ra_ptr (H : Heap) (i j c : Nat) (vs : List V) : callM.rdArgs H (.ptr i j c :: vs) = andO (callM.rdArgs H vs) (raP (.ptr i j c)) := by
  simp only [callM.rdArgs]; cases callM.rdArgs H vs <;> rfl
@[simp] theorem ra_map (H : Heap) (i : Nat) (vs : List V) : callM.rdArgs H (.map i :: vs) = andO (callM.rdArgs H vs) (raP (.map i)) := by
  simp only [callM.rdArgs]; cases callM.rdArgs H vs <;> rfl
@[simp] theorem ra_clo (H : Heap) (f : FuncId) (a b : List V) (vs : List V) : callM.rdArgs H (.clo f a b :: vs) = andO (callM.rdArgs H vs) (raP (.clo f a b)) := by
  simp only [callM.rdArgs]; cases callM.rdArgs H vs <;> rfl
@[simp] theorem ra_t (H : Heap) (x : T) (vs : List V) : callM.rdArgs H (.t x :: vs) = andO (callM.rdArgs H vs) (raP (.t x)) := by
  simp only [callM.rdArgs, depth_eq, r_t6]; cases callM.rdArgs H vs <;> rfl
@[simp] theorem ra_ref (H : Heap) (i o n : Nat) (vs : List V) : callM.rdArgs H (.ref i o n :: vs) = andO (rd H 6 (.ref i o n)) (raQ H vs) := by
  simp only [callM.rdArgs, depth_eq]
  cases rd H 6 (.ref i o n) with
  | none => rfl
  | some p => simp only [andO_some, raQ]; cases callM.rdArgs H vs <;> rfl
@[simp] theorem ra_agg (H : Heap) (x : List V) (vs : List V) : callM.rdArgs H (.agg x :: vs) = andO (rd H 6 (.agg x)) (raQ H vs) := by
  simp only [callM.rdArgs, depth_eq]
  cases rd H 6 (.agg x) with
  | none => rfl
  | some p => simp only [andO_some, raQ]; cases callM.rdArgs H vs <;> rfl
@[simp] theorem refC2_some (g : List V → Heap → Option (V × Heap)) (H : Heap) (as : List V) (l : List (Nat × Blk)) : refC2 g H (some (as, l)) = g as (frz H l) := rfl
structure Steps (f : FuncId) (ps : List V) (Inv : List (List Int) → (Nat → Prop) → Heap → Prop) (ok : List Int → Prop) (M : Nat) : Prop where
  call : ∀ (i o n : Nat) (H : Heap), evCall env (den env) f (.ref i o n :: ps) H = refC2 (den env f) H (andO (rd H 6 (.ref i o n)) (raQ H ps))
  ra : ∀ H, callM.rdArgs H ps = some (ps, [])
  step : ∀ gs W H g, gs.length < M → ok g → Inv gs W H → ∃ v H' W', den env f (.t (tl g) :: ps) H = some (v, H') ∧ H.length ≤ H'.length ∧ Inv (gs ++ [g]) W' H' ∧ (∀ id, W' id → W id ∨ H.length ≤ id) ∧ (∀ id, id < H.length → ¬ W id → H'[id]? = H[id]?)
  stable : ∀ gs W H H', Inv gs W H → H.length ≤ H'.length → (∀ id, W id → H'[id]? = H[id]?) → Inv gs W H'
  small : ∀ gs W H, Inv gs W H → ∀ id, W id → id < H.length

theorem cloneB (B : T) (l : List Int) (hB : B = .nil ∧ l = [] ∨ B = tl l) (h : l.length ≤ 68719476736) : primR (cloneP 1) [B] = some (.ref 0 0 l.length, [.pure 1 (til l)]) := by
  rcases hB with ⟨rfl, rfl⟩ | rfl
  · simp [primR_E, primE, cloneP, til]
  · exact clone_til l h
theorem lenB (H : Heap) (B : T) (l : List Int) (hB : B = .nil ∧ l = [] ∨ B = tl l) : evLen H 1 (.t B) = some (l.length : Int) := by
  rcases hB with ⟨rfl, rfl⟩ | rfl <;> simp
end Go.Proofs.Ytdgfpjlmpnfcgaa.Ev

namespace Go.Proofs.Ytdgfpjlmpnfcgaa.Ev
open Go
set_option linter.unusedVariables false
set_option linter.unusedSimpArgs false
attribute [local simp] til_getE til_length til_get til_drop til_take til_snoc til_fold take_snoc til_set
structure Ext (W W' : Nat → Prop) (H H' : Heap) : Prop where
  len : H.length ≤ H'.length
  own : ∀ id, W' id → W id ∨ H.length ≤ id
  keep : ∀ id, id < H.length → ¬ W id → H'[id]? = H[id]?
theorem Ext.trans {W W' W'' : Nat → Prop} {H H' H'' : Heap} (h : Ext W W' H H') (h' : Ext W' W'' H' H'') : Ext W W'' H H'' := by
  refine ⟨Nat.le_trans h.len h'.len, fun id hid => ?_, fun id hid hn => ?_⟩
  · rcases h'.own id hid with h1 | h1
    · exact h.own id h1
    · exact .inr (Nat.le_trans h.len h1)
  · rw [h'.keep id (Nat.lt_of_lt_of_le hid h.len) (fun hw => by
      rcases h.own id hw with h1 | h1
      · exact hn h1
      · omega)]
    exact h.keep id hid hn
theorem Ext.app {W : Nat → Prop} {H : Heap} (X : Heap) : Ext W W H (H ++ X) := ⟨by simp, fun id h => .inl h, fun id hid _ => get_app hid⟩
theorem Ext.get {W W' : Nat → Prop} {H H' : Heap} (h : Ext W W' H H') {id : Nat} {b : Blk} (hb : H[id]? = some b) (hn : ¬ W id) : H'[id]? = some b := by
  rw [h.keep id (List.getElem?_eq_some_iff.1 hb).1 hn]; exact hb
theorem Ext.not {W W' : Nat → Prop} {H H' : Heap} (h : Ext W W' H H') {id : Nat} (hid : id < H.length) (hn : ¬ W id) : ¬ W' id := fun hw => by
  rcases h.own id hw with h1 | h1
  · exact hn h1
  · omega
@[simp] theorem set_app0 {α : Type} (H : List α) (a b : α) (X : List α) : (H ++ a :: X).set H.length b = H ++ b :: X := by simp
@[simp] theorem set_app1 {α : Type} (H : List α) (a a1 b : α) (X : List α) : (H ++ a :: a1 :: X).set (H.length + 1) b = H ++ a :: b :: X := by simp
@[simp] theorem set_app2 {α : Type} (H : List α) (a a1 a2 b : α) (X : List α) : (H ++ a :: a1 :: a2 :: X).set (H.length + 2) b = H ++ a :: a1 :: b :: X := by simp
def Ends (r : Option Out) (e : Ex) (H : Heap) : Prop := ∃ fr, r = some (e, fr, H)
@[simp] theorem ends_some (e e' : Ex) (fr : Fr) (H H' : Heap) : Ends (some (e, fr, H)) e' H' ↔ e = e' ∧ H = H' := by
  constructor
  · rintro ⟨_, h⟩; cases h; exact ⟨rfl, rfl⟩
  · rintro ⟨rfl, rfl⟩; exact ⟨_, rfl⟩
structure GB (H : Heap) (ip im ie io : Nat) (people : List Int) (most : Int) (f : FuncId) (ps : List V) : Prop where
  p : H[ip]? = some (.box 1 [.t (tl people)])
  m : H[im]? = some (.box 1 [.t (ti most)])
  e : H[ie]? = some (.box 1 [.clo f [] ps])
  o : H[io]? = some (.box 1 [.clo 81 [] [.ptr ip 0 0, .ptr im 0 0, .ptr ie 0 0, .ptr io 0 0]])
theorem GB.ext {H H' : Heap} {ip im ie io : Nat} {people : List Int} {most : Int} {f : FuncId} {ps : List V} (h : GB H ip im ie io people most f ps) {W W' : Nat → Prop} (he : Ext W W' H H') (h1 : ¬ W ip) (h2 : ¬ W im) (h3 : ¬ W ie) (h4 : ¬ W io) : GB H' ip im ie io people most f ps :=
  ⟨he.get h.p h1, he.get h.m h2, he.get h.e h3, he.get h.o h4⟩

section
variable {f : FuncId} {ps : List V} {Inv : List (List Int) → (Nat → Prop) → Heap → Prop} {ok : List Int → Prop} {M : Nat} (hs : Steps f ps Inv ok M) (ip im ie io : Nat) (people : List Int) (most : Int)
def Stp (r : Option (V × Heap)) (gs new : List (List Int)) (W : Nat → Prop) (H : Heap) : Prop := ∃ v H' W', r = some (v, H') ∧ Inv (gs ++ new) W' H' ∧ Ext W W' H H'
include hs in
theorem l81 (hpl : people.length ≤ 20) (hm : most ≤ 100) (l : List Int) (B : T) (hB : B = .nil ∧ l = [] ∨ B = tl l) (hl : (l.length : Int) ≤ 1000) (i0 : Nat)
    (hok : ∀ g ∈ grps most (people.drop i0) l, ok g)
    (ih : (l.length : Int) < most → ∀ (j : Nat), i0 ≤ j → (hj : j < people.length) → (∀ g ∈ grps most (people.drop (j + 1)) (l ++ [people[j]]), ok g) → ∀ gs W H, gs.length + (grps most (people.drop (j + 1)) (l ++ [people[j]])).length ≤ M → GB H ip im ie io people most f ps → ¬ W ip → ¬ W im → ¬ W ie → ¬ W io → Inv gs W H →
      Stp (Inv := Inv) (den env 81 [.t (ti ((j : Int) + 1)), .t (tl (l ++ [people[j]])), .ptr ip 0 0, .ptr im 0 0, .ptr ie 0 0, .ptr io 0 0] H) gs (grps most (people.drop (j + 1)) (l ++ [people[j]])) W H) :
    ∀ (d j : Nat) gs W H, j + d = people.length → i0 ≤ j → (∀ g ∈ grps most (people.drop j) l, ok g) → gs.length + (grps most (people.drop j) l).length ≤ M → GB H ip im ie io people most f ps → ¬ W ip → ¬ W im → ¬ W ie → ¬ W io → Inv gs W H →
    ∃ H' W', Ends (loopF env false [1, 2, 3, 4, 5, 8] ir81_b0 ([(1, .t B), (2, .ptr ip 0 0), (3, .ptr im 0 0), (4, .ptr ie 0 0), (5, .ptr io 0 0), (8, .t (ti j))], H)) (.exit 0) H' ∧ Inv (gs ++ grps most (people.drop j) l) W' H' ∧ Ext W W' H H'
  | 0, j, gs, W, H, hj, hi0, hok2, hM, hG, h1, h2, h3, h4, hI => by
    have : j = people.length := by omega
    subst this
    rw [x81_0]
    refine ⟨H, W, ?_, by simpa [grps] using hI, by simpa using Ext.app (W := W) (H := H) []⟩
    simp [ir81_d0, hG.p, hG.m]
  | d + 1, j, gs, W, H, hj, hi0, hok2, hM, hG, h1, h2, h3, h4, hI => by
    rw [x81_0]
    have hlt : j < people.length := by omega
    have hlen := fun H => lenB H B l hB
    by_cases hlm : (l.length : Int) < most
    · have hw : IntKind.i64.wrap ((j : Int) + 1) = (j : Int) + 1 := w76 (by omega)
      have hcl := cloneB B l hB (by omega)
      have hg : grps most (people.drop j) l = (l ++ [people[j]]) :: (grps most (people.drop (j + 1)) (l ++ [people[j]]) ++ grps most (people.drop (j + 1)) l) := by
        rw [List.drop_eq_getElem_cons hlt]; simp [grps, hlm]
      rw [hg] at hok2 hM ⊢
      simp only [List.length_cons, List.length_append] at hM
      have hsm := hs.small gs W H hI
      have hI1 : Inv gs W (H ++ [.dead, .pure 1 [.int .i64 people[j]], .froz 1 (til (l ++ [people[j]]))]) := hs.stable gs W H _ hI (by simp) (fun id hid => get_app (hsm id hid))
      obtain ⟨v, H2, W2, hc, hlen2, hI2, ho2, hk2⟩ := hs.step gs W _ _ (by omega) (hok2 _ (List.mem_cons_self ..)) hI1
      have hE1 : Ext W W H (H ++ [.dead, .pure 1 [.int .i64 people[j]], .froz 1 (til (l ++ [people[j]]))]) := Ext.app _
      have hE2 : Ext W W2 (H ++ [.dead, .pure 1 [.int .i64 people[j]], .froz 1 (til (l ++ [people[j]]))]) H2 := ⟨hlen2, ho2, hk2⟩
      have hE := hE1.trans hE2
      have hz : H2[H.length + 2]? = some (.froz 1 (til (l ++ [people[j]]))) := hE2.get (by simp) (fun hw => by have := hsm _ hw; omega)
      have hG2 := hG.ext hE h1 h2 h3 h4
      have hip := (List.getElem?_eq_some_iff.1 hG.p).1
      have him := (List.getElem?_eq_some_iff.1 hG.m).1
      have hie := (List.getElem?_eq_some_iff.1 hG.e).1
      have hio := (List.getElem?_eq_some_iff.1 hG.o).1
      obtain ⟨v3, H3, W3, hc3, hI3, hE3⟩ := ih hlm j hi0 hlt (fun g hg => hok2 g (List.mem_cons_of_mem _ (List.mem_append_left _ hg))) _ W2 H2 (by simp only [List.length_append, List.length_singleton]; omega) hG2 (hE.not hip h1) (hE.not him h2) (hE.not hie h3) (hE.not hio h4) hI2
      have hE4 := hE.trans hE3
      have hG3 := hG.ext hE4 h1 h2 h3 h4
      obtain ⟨H4, W4, ⟨fr', hc4⟩, hI4, hE5⟩ := l81 hpl hm l B hB hl i0 hok ih d (j + 1) _ W3 H3 (by omega) (by omega) (fun g hg => hok2 g (List.mem_cons_of_mem _ (List.mem_append_right _ hg))) (by simp only [List.length_append, List.length_singleton]; omega) hG3 (hE4.not hip h1) (hE4.not him h2) (hE4.not hie h3) (hE4.not hio h4) hI3
      refine ⟨H4, W4, ?_, by simpa using hI4, hE4.trans hE5⟩
      have gp := get_app2 (X := [.dead, .pure 1 [.int .i64 people[j]]]) hG.p
      have hpX : ∀ X, (H ++ X)[ip]? = some (.box 1 [.t (tl people)]) := fun X => get_app2 hG.p
      have heX : ∀ X, (H ++ X)[ie]? = some (.box 1 [.clo f [] ps]) := fun X => get_app2 hG.e
      simp at hc hc3 hc4 hz
      simp [ir81_d0, show l.length ≤ 68719476735 by omega, hG.p, hG.m, hlt, hlen, hlm, hcl, hpX, heX, hw, hs.call, hs.ra, hc, hz, hG2.o, hc3, hc4]
    · have hg : grps most (people.drop j) l = [] := grps_full _ _ _ hlm
      rw [hg]
      refine ⟨H, W, ?_, by simpa using hI, by simpa using Ext.app (W := W) (H := H) []⟩
      simp [ir81_d0, hG.p, hG.m, hlt, hlen, hlm]
include hs in
theorem d81 (hpl : people.length ≤ 20) (hm : most ≤ 100) : ∀ (d i : Nat) (l : List Int) (B : T), i + d = people.length → (B = .nil ∧ l = [] ∨ B = tl l) → (l.length : Int) ≤ 1000 - d → (∀ g ∈ grps most (people.drop i) l, ok g) → ∀ gs W H, gs.length + (grps most (people.drop i) l).length ≤ M → GB H ip im ie io people most f ps → ¬ W ip → ¬ W im → ¬ W ie → ¬ W io → Inv gs W H →
    Stp (Inv := Inv) (den env 81 [.t (ti i), .t B, .ptr ip 0 0, .ptr im 0 0, .ptr ie 0 0, .ptr io 0 0] H) gs (grps most (people.drop i) l) W H := by
  intro d
  induction d using Nat.strongRecOn with
  | ind d ih =>
    intro i l B hi hB hl hok gs W H hM hG h1 h2 h3 h4 hI
    obtain ⟨H', W', ⟨fr, hr⟩, hI', hE⟩ := l81 hs ip im ie io people most hpl hm l B hB (by omega) i hok (fun hlm j hij hj hok' gs W H hM hG h1 h2 h3 h4 hI => by
      have := ih (people.length - (j + 1)) (by omega) (j + 1) (l ++ [people[j]]) (tl (l ++ [people[j]])) (by omega) (.inr rfl) (by rw [List.length_append, List.length_singleton]; omega) hok' gs W H hM hG h1 h2 h3 h4 hI
      rw [Int.natCast_add, Int.natCast_one] at this
      exact this) d i gs W H hi (Nat.le_refl _) hok hM hG h1 h2 h3 h4 hI
    refine ⟨.tup [], H', W', ?_, hI', hE⟩
    rw [den_ir e81 _ _ rfl (.inl rfl)]
    simp [ir81, ir81_c, hr]
theorem d58 {f : FuncId} {caps : List V} (people : List Int) (most : Int) (hs : Steps f caps Inv ok M) (hpl : people.length ≤ 20) (hm : most ≤ 100) (hok : ∀ g ∈ grps most people [], ok g) (gs : List (List Int)) (W : Nat → Prop) (H : Heap) (hM : gs.length + (grps most people []).length ≤ M) (hI : Inv gs W H) :
    Stp (Inv := Inv) (den env 58 [.t (tl people), .t (ti most), .clo f [] caps] H) gs (grps most people []) W H := by
  have hsm := hs.small gs W H hI
  have hn : ∀ k, ¬ W (H.length + k) := fun k hw => by have := hsm _ hw; omega
  have hI1 := hs.stable gs W H (H ++ [.box 1 [.t (tl people)], .box 1 [.t (ti most)], .box 1 [.clo f [] caps], .box 1 [.clo 81 [] [.ptr H.length 0 0, .ptr (H.length + 1) 0 0, .ptr (H.length + 2) 0 0, .ptr (H.length + 3) 0 0]]]) hI (by simp) (fun id hid => get_app (hsm id hid))
  obtain ⟨v, H', W', hr, hI', hE⟩ := d81 hs H.length (H.length + 1) (H.length + 2) (H.length + 3) people most hpl hm people.length 0 [] .nil (by omega) (.inl ⟨rfl, rfl⟩) (by simp; omega) hok gs W _ hM ⟨by simp, by simp, by simp, by simp⟩ (hn 0) (hn 1) (hn 2) (hn 3) hI1
  refine ⟨.tup [], H', W', ?_, hI', (Ext.app _).trans hE⟩
  rw [den_ir e58 _ _ rfl (.inl rfl)]
  simp at hr
  simp [ir58, ir58_c, hr]
end
end Go.Proofs.Ytdgfpjlmpnfcgaa.Ev

namespace Go.Proofs.Ytdgfpjlmpnfcgaa.Ev
open Go
set_option linter.unusedVariables false
set_option linter.unusedSimpArgs false
attribute [local simp] til_getE til_length til_get til_drop til_take til_snoc til_fold take_snoc til_set
def cansP (c : Int) (l : List Int) (t : Int) (gl : List (List Int)) : List (Int × List Int) := (gl.filter fun g => calmI g g && calmP c (setAll t g l)).map fun g => (t, g)
theorem cansP_len (c : Int) (l : List Int) (t : Int) (gl : List (List Int)) : (cansP c l t gl).length ≤ gl.length := by simp [cansP]; exact List.length_filter_le _ _
theorem cansP_snoc (c : Int) (l : List Int) (t : Int) (gl : List (List Int)) (g : List Int) (vs : List (Int × List Int)) : vs ++ cansP c l t (gl ++ [g]) = if calmI g g && calmP c (setAll t g l) then (vs ++ cansP c l t gl) ++ [(t, g)] else vs ++ cansP c l t gl := by
  unfold cansP
  rw [List.filter_append, List.map_append]
  split <;> simp_all
def InvV (iw is it io : Nat) (a b c : Int) (l : List Int) (p t : Int) (vs : List (Int × List Int)) (gs : List (List Int)) (W : Nat → Prop) (H : Heap) : Prop :=
  ∃ k, CbIn H iw is it io k a b c l p t (vs ++ cansP c l t gs) ∧ ∀ id, W id ↔ (id = iw ∨ id = is ∨ id = it ∨ id = io ∨ id = k)
theorem CbIn.lt {H : Heap} {iw is it io k : Nat} {a b c : Int} {l : List Int} {p t : Int} {vs : List (Int × List Int)} (h : CbIn H iw is it io k a b c l p t vs) : iw < H.length ∧ is < H.length ∧ it < H.length ∧ io < H.length ∧ k < H.length :=
  ⟨(List.getElem?_eq_some_iff.1 h.w).1, (List.getElem?_eq_some_iff.1 h.s).1, (List.getElem?_eq_some_iff.1 h.t).1, (List.getElem?_eq_some_iff.1 h.o).1, (List.getElem?_eq_some_iff.1 h.v).1⟩
theorem stepsV (iw is it io : Nat) (a b c : Int) (hc : 0 ≤ c ∧ c ≤ 2) (l : List Int) (hl : l.length ≤ 100) (p t : Int) (vs : List (Int × List Int)) (hvs : vs.length ≤ 2 ^ 25) :
    Steps 59 [.ptr iw 0 0, .ptr is 0 0, .ptr it 0 0, .ptr io 0 0] (InvV iw is it io a b c l p t vs) (fun g => g.length ≤ 100 ∧ ∀ x ∈ g, 0 ≤ x ∧ x < l.length) (2 ^ 20) := by
  refine ⟨fun i o n H => by simp, fun H => by simp, ?_, ?_, ?_⟩
  · rintro gs W H g hM ⟨hg, hk⟩ ⟨k, hI, hW⟩
    have := cansP_len c l t gs
    obtain ⟨v, H', k', h1, h2, h3, h4, h5⟩ := d59 H iw is it io k a b c hc l hl p t _ (by rw [List.length_append]; omega) hI g hg hk
    rw [← cansP_snoc] at h4
    refine ⟨v, H', fun id => (id = iw ∨ id = is ∨ id = it ∨ id = io ∨ id = k'), h1, h2, ⟨k', h4, fun id => Iff.rfl⟩, fun id hid => ?_, fun id hid hn => ?_⟩
    · rw [hW]
      rcases hid with h | h | h | h | h
      · simp [h]
      · simp [h]
      · simp [h]
      · simp [h]
      · rcases h3 with h3 | h3
        · left; simp [h, h3]
        · right; omega
    · rw [hW] at hn
      exact h5 id hid (fun e => hn (by simp [e])) (fun e => hn (by simp [e]))
  · rintro gs W H H' ⟨k, hI, hW⟩ hlen hk
    exact ⟨k, ⟨(hk _ ((hW _).2 (by simp))).trans hI.w, (hk _ ((hW _).2 (by simp))).trans hI.s, (hk _ ((hW _).2 (by simp))).trans hI.t, (hk _ ((hW _).2 (by simp))).trans hI.o, (hk _ ((hW _).2 (by simp))).trans hI.v⟩, hW⟩
  · rintro gs W H ⟨k, hI, hW⟩ id hid
    have := hI.lt
    rcases (hW id).1 hid with h | h | h | h | h <;> omega

def voysP (b c : Int) (l : List Int) (p : Int) (i d : Nat) : List (Int × List Int) := (List.range' i d).flatMap fun t : Nat => if (t : Int) = p then [] else cansP c l (t : Int) (grps b (stand p 0 l) [])
theorem stand_in (p : Int) : ∀ (xs : List Int) (i : Nat), ∀ x ∈ stand p i xs, (i : Int) ≤ x ∧ x < ((i + xs.length : Nat) : Int)
  | [], i, x, h => by simp [stand] at h
  | y :: ys, i, x, h => by
    simp only [stand] at h
    have ih := stand_in p ys (i + 1) x
    split at h
    · rcases List.mem_cons.1 h with rfl | h
      · simp; omega
      · have := ih h; simp at this ⊢; omega
    · have := ih h; simp at this ⊢; omega
theorem grps_sub (most : Int) : ∀ (rest l g : List Int), g ∈ grps most rest l → ∀ x ∈ g, x ∈ l ∨ x ∈ rest
  | [], _, g, h => by simp [grps] at h
  | y :: rest, l, g, h => by
    intro x hx
    simp only [grps] at h
    split at h
    · rcases List.mem_cons.1 h with rfl | h
      · rcases List.mem_append.1 hx with h | h
        · exact .inl h
        · right; simp at h; simp [h]
      · rcases List.mem_append.1 h with h | h
        · rcases grps_sub most rest _ g h x hx with h | h
          · rcases List.mem_append.1 h with h | h
            · exact .inl h
            · right; simp at h; simp [h]
          · right; exact List.mem_cons_of_mem _ h
        · rcases grps_sub most rest _ g h x hx with h | h
          · exact .inl h
          · right; exact List.mem_cons_of_mem _ h
    · cases h
theorem stand_len (p : Int) : ∀ (xs : List Int) (i : Nat), (stand p i xs).length ≤ xs.length
  | [], i => by simp [stand]
  | y :: ys, i => by
    simp only [stand]
    have := stand_len p ys (i + 1)
    split <;> simp <;> omega
theorem l32 (a b c : Int) (hb : b ≤ 3) (hc : 0 ≤ c ∧ c ≤ 2) (l : List Int) (hl : l.length ≤ 9) (p : Int) : ∀ (d i : Nat) (out : List (Int × List Int)) (B : Blk) (hB : B = .pure 1 (til (stand p 0 l)) ∨ B = .froz 1 (til (stand p 0 l))), ((i + d : Nat) : Int) = c + 2 → out.length + 1024 * d ≤ 2 ^ 20 →
    ∃ B', loopF env true [2, 3, 5, 6, 15, 16] ir32_b0 ([(2, .ptr 0 0 0), (3, .ptr 1 0 0), (5, .ptr 2 0 0), (6, .ref 3 0 (stand p 0 l).length), (15, .t (ti (c + 2))), (16, .t (ti i))], [.box 3 [.t (ti a), .t (ti b), .t (ti c)], .box 2 [.t (tl l), .t (ti p)], .box 1 [.ref 4 0 out.length], B, .pure 2 (tlv out)]) =
      some (.exit 0, [(2, .ptr 0 0 0), (3, .ptr 1 0 0), (5, .ptr 2 0 0), (6, .ref 3 0 (stand p 0 l).length), (15, .t (ti (c + 2))), (16, .t (ti (c + 2))), (17, .t (tb false))], [.box 3 [.t (ti a), .t (ti b), .t (ti c)], .box 2 [.t (tl l), .t (ti p)], .box 1 [.ref 4 0 (out ++ voysP b c l p i d).length], B', .pure 2 (tlv (out ++ voysP b c l p i d))])
  | 0, i, out, B, hB, hi, ho => by
    rw [x32_0]
    have hlt : (i : Int) = c + 2 := by omega
    refine ⟨B, ?_⟩
    simp [ir32_d0, voysP, hlt]
  | d + 1, i, out, B, hB, hi, ho => by
    rw [x32_0]
    have hlt : (i : Int) < c + 2 := by omega
    have hw : IntKind.i64.wrap ((i : Int) + 1) = (i : Int) + 1 := w76 (by omega)
    have hv : voysP b c l p i (d + 1) = (if (i : Int) = p then [] else cansP c l (i : Int) (grps b (stand p 0 l) [])) ++ voysP b c l p (i + 1) d := by
      simp [voysP, List.range'_succ]
    by_cases hp : (i : Int) = p
    · obtain ⟨B', ih⟩ := l32 a b c hb hc l hl p d (i + 1) out B hB (by omega) (by omega)
      refine ⟨B', ?_⟩
      rw [hv, if_pos hp, List.nil_append]
      generalize voysP b c l p (i + 1) d = V1 at *
      simp at ih
      subst hp
      rcases hB with rfl | rfl <;> simp [ir32_d0, hlt, hw, ih]
    · have hst := stand_len p l 0
      have hsl := stand_in p l 0
      have hgl := grps_len b (stand p 0 l) []
      have hp2 : 2 ^ (stand p 0 l).length ≤ 2 ^ 9 := Nat.pow_le_pow_right (by decide) (by omega)
      have hcl := cansP_len c l i (grps b (stand p 0 l) [])
      obtain ⟨v, H', W', hr, ⟨k, hI, hW⟩, hE⟩ := d58 (stand p 0 l) b (stepsV 0 1 5 2 a b c hc l (by omega) p i out (by omega)) (by omega) (by omega) (fun g hg => by
        have h1 := grps_lens b (stand p 0 l) [] g hg
        refine ⟨by omega, fun x hx => ?_⟩
        rcases grps_sub b (stand p 0 l) [] g hg x hx with h | h
        · cases h
        · have := hsl x h; simp at this; omega) [] (fun id => id = 0 ∨ id = 1 ∨ id = 5 ∨ id = 2 ∨ id = 4)
        [.box 3 [.t (ti a), .t (ti b), .t (ti c)], .box 2 [.t (tl l), .t (ti p)], .box 1 [.ref 4 0 out.length], .froz 1 (til (stand p 0 l)), .pure 2 (tlv out), .box 1 [.t (ti i)]] (by simp; omega) ⟨4, ⟨rfl, rfl, rfl, by simp [cansP], by simp [cansP]⟩, fun id => Iff.rfl⟩
      have h3 : H'[3]? = some (.froz 1 (til (stand p 0 l))) := by rw [hE.keep 3 (by simp) (by simp)]; rfl
      obtain ⟨B', ih⟩ := l32 a b c hb hc l hl p d (i + 1) (out ++ cansP c l i (grps b (stand p 0 l) [])) _ (.inr rfl) (by omega) (by rw [List.length_append]; omega)
      refine ⟨B', ?_⟩
      rw [hv, if_neg hp]
      rw [List.nil_append] at hI
      have hk0 : k ≠ 0 := fun e => by have := hI.w; rw [← e, hI.v] at this; cases this
      have hk1 : k ≠ 1 := fun e => by have := hI.s; rw [← e, hI.v] at this; cases this
      have hk2 : k ≠ 2 := fun e => by have := hI.o; rw [← e, hI.v] at this; cases this
      have hk3 : k ≠ 3 := fun e => by rw [← e, hI.v] at h3; cases h3
      have hIw := hI.w
      have hIs := hI.s
      have hIo := hI.o
      have hIv := hI.v
      rw [← List.append_assoc]
      generalize cansP c l i (grps b (stand p 0 l) []) = G1 at *
      generalize voysP b c l p (i + 1) d = V1 at *
      simp at ih hr hIo hIv
      rcases hB with rfl | rfl <;> simp [ir32_d0, hlt, hp, hw, hr, hIw, hIs, hIo, hIv, h3, hk0, hk1, hk2, hk3, hk0.symm, hk1.symm, hk2.symm, hk3.symm, ih]
theorem r32 (a b c : Int) (hb : b ≤ 3) (hc : 0 ≤ c ∧ c ≤ 2) (l : List Int) (hl : l.length ≤ 9) (p : Int) : ownFR env 32 [.agg [ti a, ti b, ti c], .agg [tl l, ti p]] = some (.ref 0 0 (voysP b c l p 0 (c + 2).toNat).length, [.pure 2 (tlv (voysP b c l p 0 (c + 2).toNat))]) := by
  rw [ownF_ir e32 _ rfl]
  have h58 := r57 l p p (by omega)
  have h49 := r51 a b c (by omega)
  have hw2 : IntKind.i64.wrap (c + 1 + 1) = c + 2 := by rw [w76 (by omega)]; omega
  obtain ⟨B', h⟩ := l32 a b c hb hc l hl p (c + 2).toNat 0 [] _ (.inl rfl) (by omega) (by simp; omega)
  generalize voysP b c l p 0 (c + 2).toNat = V1 at *
  simp [tlv] at h
  simp [ir32, ir32_c, h58, h49, hw2, h, tlv]
end Go.Proofs.Ytdgfpjlmpnfcgaa.Ev

namespace Go.Proofs.Ytdgfpjlmpnfcgaa.Ev
open Go
set_option linter.unusedVariables false
set_option linter.unusedSimpArgs false
attribute [local simp] til_getE til_length til_get til_drop til_take til_snoc til_fold take_snoc til_set
end Go.Proofs.Ytdgfpjlmpnfcgaa.Ev

namespace Go.Proofs.Ytdgfpjlmpnfcgaa.Ev
open Go
set_option linter.unusedVariables false
set_option linter.unusedSimpArgs false
attribute [local simp] til_getE til_length til_get til_drop til_take til_snoc til_fold take_snoc til_set
def tin (l : List Nat) : List T := l.map fun (n : Nat) => T.int .i64 (n : Int)
theorem tin_length (l : List Nat) : (tin l).length = l.length := by simp [tin]
theorem tin_getE (l : List Nat) (i : Nat) (h : i < (tin l).length) : (tin l)[i] = .int .i64 (l[i]'(by simpa [tin] using h) : Nat) := by simp [tin]
theorem tin_take (l : List Nat) (n : Nat) : (tin l).take n = tin (l.take n) := by simp [tin, List.map_take]
abbrev Ed := Nat × Nat × Int × List Int
def tleN (es : List Ed) : List T := es.map fun e => .agg [.int .i64 e.1, .int .i64 e.2.1, .int .i64 e.2.2.1, .lst 1 (til e.2.2.2)]
theorem tleN_length (es : List Ed) : (tleN es).length = es.length := by simp [tleN]
theorem tleN_getE (es : List Ed) (i : Nat) (h : i < (tleN es).length) : (tleN es)[i] = .agg [.int .i64 (es[i]'(by simpa [tleN] using h)).1, .int .i64 (es[i]'(by simpa [tleN] using h)).2.1, .int .i64 (es[i]'(by simpa [tleN] using h)).2.2.1, .lst 1 (til (es[i]'(by simpa [tleN] using h)).2.2.2)] := by simp [tleN]
variable {i2 i5 i6 : Nat} {many : Int} {clo : T} {dist : List Int} {ws : List (List Nat)} {Vs : List V} {H : Heap}
end Go.Proofs.Ytdgfpjlmpnfcgaa.Ev

namespace Go.Proofs.Ytdgfpjlmpnfcgaa.Ev
open Go
set_option linter.unusedVariables false
set_option linter.unusedSimpArgs false
attribute [local simp] til_getE til_length til_get til_drop til_take til_snoc til_fold take_snoc til_set
def elVB (sz off len : Nat) (b : Blk) : Option (List V) := match b with
  | .box s vs => if s = sz then some ((vs.drop (off * sz)).take (len * sz)) else none
  | _ => none
@[simp] theorem elVB_b (sz off len s : Nat) (vs : List V) : elVB sz off len (.box s vs) = if s = sz then some ((vs.drop (off * sz)).take (len * sz)) else none := rfl
@[simp] theorem elV_ref (H : Heap) (sz id off len : Nat) : elemsV H sz (.ref id off len) = andO H[id]? (elVB sz off len) := by
  simp only [elemsV]
  cases H[id]? with
  | none => rfl
  | some b => cases b <;> rfl
def appMB (H : Heap) (sz id len : Nat) (ys : List V) (b : Blk) : Option (V × Heap) := match b with
  | .box s vs => if s = sz ∧ len * sz = vs.length ∧ ys.length % sz = 0 ∧ vs.length + ys.length ≤ lim ∧ ys.all V.one ∧ 0 < ys.length then some (.ref H.length 0 (len + ys.length / sz), H.set id .dead ++ [.box sz (vs ++ ys)]) else none
  | _ => none
@[simp] theorem appMB_b (H : Heap) (sz id len : Nat) (ys : List V) (s : Nat) (vs : List V) : appMB H sz id len ys (.box s vs) = if s = sz ∧ len * sz = vs.length ∧ ys.length % sz = 0 ∧ vs.length + ys.length ≤ lim ∧ ys.all V.one ∧ 0 < ys.length then some (.ref H.length 0 (len + ys.length / sz), H.set id .dead ++ [.box sz (vs ++ ys)]) else none := rfl
def appMV (H : Heap) (sz : Nat) (x : V) (ys : List V) : Option (V × Heap) := match x with
  | .ref id 0 len => andO H[id]? (appMB H sz id len ys)
  | _ => none
@[simp] theorem appMV_r (H : Heap) (sz id len : Nat) (ys : List V) : appMV H sz (.ref id 0 len) ys = andO H[id]? (appMB H sz id len ys) := rfl
@[simp] theorem appM_eq (H : Heap) (sz : Nat) (x y : V) : evAppM H sz x y = andO (elemsV H sz y) (appMV H sz x) := by
  unfold evAppM
  cases elemsV H sz y with
  | none => rfl
  | some ys =>
    simp only [andO_some]
    cases x with
    | ref id off len =>
      cases off with
      | zero =>
        simp only [appMV]
        cases H[id]? with
        | none => rfl
        | some b => cases b <;> rfl
      | succ n => rfl
    | _ => rfl
@[simp] theorem o_appM {E : Env} {rec : Rec} {fr : Fr} {H : Heap} (sz : Nat) (x y : A) : evO E rec fr H (.app true sz x y) = evAppM H sz (x.ev fr) (y.ev fr) := rfl
def bslM (H : Heap) (sz n : Nat) (vs : List V) : Option (V × Heap) := some (.ref H.length 0 n, H ++ [.box sz vs])
@[simp] theorem bslM_eq (H : Heap) (sz n : Nat) (vs : List V) : bslM H sz n vs = some (.ref H.length 0 n, H ++ [.box sz vs]) := rfl
@[simp] theorem o_bslM {E : Env} {rec : Rec} {fr : Fr} {H : Heap} (sz n : Nat) (z : T) (ps : List (Nat × A)) : evO E rec fr H (.bsl true sz n z ps) = andO (fillV (List.replicate n (z.cells.map V.t)).flatten (ps.map fun p => (p.1 * sz, sz, p.2.ev fr))) (bslM H sz n) := by
  simp only [evO]; cases fillV (List.replicate n (z.cells.map V.t)).flatten (ps.map fun p => (p.1 * sz, sz, p.2.ev fr)) <;> rfl

variable {i2 i5 : Nat} {many : Int} {clo : T} {dist : List Int}
end Go.Proofs.Ytdgfpjlmpnfcgaa.Ev

namespace Go.Proofs.Ytdgfpjlmpnfcgaa.Ev
open Go
set_option linter.unusedVariables false
set_option linter.unusedSimpArgs false
attribute [local simp] til_getE til_length til_get til_drop til_take til_snoc til_fold take_snoc til_set tin_getE tin_length tin_take
variable {i2 i5 i6 : Nat} {many : Int} {clo : T} {dist : List Int} {ws : List (List Nat)} {Vs : List V} {H : Heap}
end Go.Proofs.Ytdgfpjlmpnfcgaa.Ev

namespace Go.Proofs.Ytdgfpjlmpnfcgaa.Ev
open Go
set_option linter.unusedVariables false
set_option linter.unusedSimpArgs false
attribute [local simp] til_getE til_length til_get til_drop til_take til_snoc til_fold take_snoc til_set tin_getE tin_length tin_take tleN_length tleN_getE
variable {i2 i5 : Nat} {many : Int} {clo : T} {dist : List Int}
end Go.Proofs.Ytdgfpjlmpnfcgaa.Ev

namespace Go.Proofs.Ytdgfpjlmpnfcgaa.Ev
open Go
set_option linter.unusedVariables false
set_option linter.unusedSimpArgs false
attribute [local simp] til_getE til_length til_get til_drop til_take til_snoc til_fold take_snoc til_set tin_getE tin_length tin_take tleN_length tleN_getE
structure OkG (N C D : Nat) (P : Nat → Prop) (out : Nat → List Ed) : Prop where
  lt : ∀ s, P s → s < N
  deg : ∀ s, P s → (out s).length ≤ D
  ed : ∀ s, P s → ∀ e ∈ out s, P e.1 ∧ 1 ≤ e.2.1 ∧ e.2.1 ≤ C
variable {i2 i5 i6 : Nat} {many : Int} {clo : T} {dist : List Int} {ws : List (List Nat)} {Vs : List V} {H : Heap}
end Go.Proofs.Ytdgfpjlmpnfcgaa.Ev

namespace Go.Proofs.Ytdgfpjlmpnfcgaa.Ev
open Go
set_option linter.unusedVariables false
set_option linter.unusedSimpArgs false
attribute [local simp] til_getE til_length til_get til_drop til_take til_snoc til_fold take_snoc til_set tin_getE tin_length tin_take tleN_length tleN_getE
variable {i2 i5 : Nat} {many : Int}
end Go.Proofs.Ytdgfpjlmpnfcgaa.Ev

namespace Go.Proofs.Ytdgfpjlmpnfcgaa.Ev
open Go
set_option linter.unusedVariables false
set_option linter.unusedSimpArgs false
attribute [local simp] til_getE til_length til_get til_drop til_take til_snoc til_fold take_snoc til_set tin_getE tin_length tin_take tleN_length tleN_getE
variable {i2 i5 : Nat} {many : Int}
end Go.Proofs.Ytdgfpjlmpnfcgaa.Ev

namespace Go.Proofs.Ytdgfpjlmpnfcgaa.Ev
open Go
set_option linter.unusedVariables false
set_option linter.unusedSimpArgs false
attribute [local simp] til_getE til_length til_get til_drop til_take til_snoc til_fold take_snoc til_set tin_getE tin_length tin_take tleN_length tleN_getE
end Go.Proofs.Ytdgfpjlmpnfcgaa.Ev

namespace Go.Proofs.Ytdgfpjlmpnfcgaa.Ev
open Go
set_option linter.unusedVariables false
set_option linter.unusedSimpArgs false
def Calm (a : Nat) (t : Nat → Prop) : Prop := ¬ ((∃ i, i < a ∧ t (2 * i + 1) ∧ ¬ t (2 * i)) ∧ ∃ j, j < a ∧ t (2 * j))
theorem Calm_congr {a : Nat} {t u : Nat → Prop} (h : ∀ j, j < 2 * a → (t j ↔ u j)) : Calm a t ↔ Calm a u := by
  unfold Calm
  constructor
  · rintro h1 ⟨⟨i, hi, h2, h3⟩, j, hj, h4⟩
    exact h1 ⟨⟨i, hi, (h _ (by omega)).2 h2, fun h5 => h3 ((h _ (by omega)).1 h5)⟩, j, hj, (h _ (by omega)).2 h4⟩
  · rintro h1 ⟨⟨i, hi, h2, h3⟩, j, hj, h4⟩
    exact h1 ⟨⟨i, hi, (h _ (by omega)).1 h2, fun h5 => h3 ((h _ (by omega)).2 h5)⟩, j, hj, (h _ (by omega)).1 h4⟩
theorem calmI_iff (a : Nat) (ha : a ≤ 1000000) (g : List Int) (hp : ∀ x ∈ g, 0 ≤ x ∧ x < 2 * (a : Int)) : calmI g g = true ↔ Calm a fun j => (j : Int) ∈ g := by
  unfold calmI Calm
  rw [List.all_eq_true]
  have e : ∀ x ∈ g, ((decide (x.tmod 2 = 0) || decide (IntKind.i64.wrap (x - 1) ∈ g) || !decide (∃ y ∈ g, y.tmod 2 = 0)) = true ↔ (x % 2 = 0 ∨ x - 1 ∈ g ∨ ¬ ∃ y ∈ g, y % 2 = 0)) := fun x hx => by
    have hx2 := hp x hx
    rw [w76 (n := x - 1) (by omega), Int.tmod_eq_emod_of_nonneg hx2.1]
    have : (∃ y ∈ g, y.tmod 2 = 0) ↔ (∃ y ∈ g, y % 2 = 0) := by
      constructor <;> rintro ⟨y, hy, h⟩ <;> refine ⟨y, hy, ?_⟩
      · rwa [Int.tmod_eq_emod_of_nonneg (hp y hy).1] at h
      · rwa [Int.tmod_eq_emod_of_nonneg (hp y hy).1]
    simp only [this, Bool.or_eq_true, decide_eq_true_eq, Bool.not_eq_true', decide_eq_false_iff_not]
    rw [or_assoc]
  constructor
  · rintro h ⟨⟨i, hi, h3, h4⟩, j, hj, h5⟩
    rcases (e _ h3).1 (h _ h3) with h | h | h
    · omega
    · exact h4 (show ((2 * i : Nat) : Int) ∈ g by rw [show ((2 * i : Nat) : Int) = ((2 * i + 1 : Nat) : Int) - 1 by omega]; exact h)
    · exact h ⟨_, h5, by omega⟩
  · intro h x hx
    rw [e x hx]
    by_cases h6 : x % 2 = 0
    · exact .inl h6
    · by_cases h7 : x - 1 ∈ g
      · exact .inr (.inl h7)
      · refine .inr (.inr ?_)
        rintro ⟨y, hy, h8⟩
        have hx2 := hp x hx
        have hy2 := hp y hy
        refine h ⟨⟨(x / 2).toNat, by omega, ?_, ?_⟩, (y / 2).toNat, by omega, ?_⟩
        · show ((2 * (x / 2).toNat + 1 : Nat) : Int) ∈ g
          rw [show ((2 * (x / 2).toNat + 1 : Nat) : Int) = x by omega]; exact hx
        · show ¬ ((2 * (x / 2).toNat : Nat) : Int) ∈ g
          rw [show ((2 * (x / 2).toNat : Nat) : Int) = x - 1 by omega]; exact h7
        · show ((2 * (y / 2).toNat : Nat) : Int) ∈ g
          rw [show ((2 * (y / 2).toNat : Nat) : Int) = y by omega]; exact hy
theorem cuB_iff (a N : Nat) : cuB a N = true ↔ Calm a fun j => N.testBit j = true := by
  have b4 : ∀ i, (N / 2 ^ (2 * i) % 4 = 2) ↔ (N.testBit (2 * i + 1) = true ∧ ¬ N.testBit (2 * i) = true) := fun i => by
    rw [Nat.testBit_eq_decide_div_mod_eq, Nat.testBit_eq_decide_div_mod_eq, Nat.pow_succ, ← Nat.div_div_eq_div_mul]
    generalize N / 2 ^ (2 * i) = q
    simp only [decide_eq_true_eq]
    omega
  have b2 : ∀ i, (N / 2 ^ (2 * i) % 2 = 1) ↔ N.testBit (2 * i) = true := fun i => by
    rw [Nat.testBit_eq_decide_div_mod_eq, decide_eq_true_eq]
  have hX : (List.range' 0 a).any (fun i => decide (N / 2 ^ (2 * i) % 4 = 2)) = true ↔ ∃ i, i < a ∧ N.testBit (2 * i + 1) = true ∧ ¬ N.testBit (2 * i) = true := by
    rw [List.any_eq_true]
    constructor
    · rintro ⟨i, hi, h⟩
      rw [List.mem_range'_1] at hi
      exact ⟨i, by omega, (b4 i).1 (by simpa using h)⟩
    · rintro ⟨i, hi, h⟩
      exact ⟨i, by rw [List.mem_range'_1]; omega, by simpa using (b4 i).2 h⟩
  have hY : (List.range' 0 a).any (fun j => decide (N / 2 ^ (2 * j) % 2 = 1)) = true ↔ ∃ j, j < a ∧ N.testBit (2 * j) = true := by
    rw [List.any_eq_true]
    constructor
    · rintro ⟨i, hi, h⟩
      rw [List.mem_range'_1] at hi
      exact ⟨i, by omega, (b2 i).1 (by simpa using h)⟩
    · rintro ⟨i, hi, h⟩
      exact ⟨i, by rw [List.mem_range'_1]; omega, by simpa using (b2 i).2 h⟩
  unfold cuB Calm
  rw [← hX, ← hY, ← Bool.and_eq_true, Bool.not_eq_true', Bool.not_eq_true]
theorem bitsI_test (j : Nat) : ∀ (g : List Int) (N : Nat), (bitsI g N).testBit j = true ↔ N.testBit j = true ∨ ∃ k ∈ g, k.toNat = j
  | [], N => by simp [bitsI]
  | k :: g, N => by
    rw [bitsI, bitsI_test j g]
    rw [Nat.testBit_or, Nat.testBit_two_pow, Bool.or_eq_true, decide_eq_true_eq, or_assoc]
    simp only [List.mem_cons, exists_eq_or_imp]
theorem bitsAt_test (p : Int) (j : Nat) : ∀ (xs : List Int) (i N : Nat), (bitsAt p i xs N).testBit j = true ↔ N.testBit j = true ∨ ∃ m, xs[m]? = some p ∧ i + m = j
  | [], i, N => by simp [bitsAt]
  | x :: xs, i, N => by
    rw [bitsAt]
    have key : (∃ m, (x :: xs)[m]? = some p ∧ i + m = j) ↔ (x = p ∧ i = j) ∨ ∃ m, xs[m]? = some p ∧ i + 1 + m = j := by
      constructor
      · rintro ⟨m, h1, h2⟩
        rcases m with _ | m
        · left; simpa using ⟨by simpa using h1, h2⟩
        · right; exact ⟨m, by simpa using h1, by omega⟩
      · rintro (⟨h1, h2⟩ | ⟨m, h1, h2⟩)
        · exact ⟨0, by simpa using h1, h2⟩
        · exact ⟨m + 1, by simpa using h1, by omega⟩
    rw [key]
    split
    · rename_i h
      rw [bitsAt_test p j xs]
      rw [Nat.testBit_or, Nat.testBit_two_pow, Bool.or_eq_true, decide_eq_true_eq, or_assoc]
      simp only [h, true_and]
    · rename_i h
      rw [bitsAt_test p j xs]
      simp [h]
theorem stand_mem (p : Int) (y : Int) : ∀ (xs : List Int) (i : Nat), y ∈ stand p i xs ↔ ∃ m : Nat, xs[m]? = some p ∧ y = ((i + m : Nat) : Int)
  | [], i => by simp [stand]
  | x :: xs, i => by
    rw [stand]
    have key : (∃ m : Nat, (x :: xs)[m]? = some p ∧ y = ((i + m : Nat) : Int)) ↔ (x = p ∧ y = (i : Int)) ∨ ∃ m : Nat, xs[m]? = some p ∧ y = ((i + 1 + m : Nat) : Int) := by
      constructor
      · rintro ⟨m, h1, h2⟩
        rcases m with _ | m
        · left; exact ⟨by simpa using h1, by simpa using h2⟩
        · right; exact ⟨m, by simpa using h1, by rw [h2]; congr 1; omega⟩
      · rintro (⟨h1, h2⟩ | ⟨m, h1, h2⟩)
        · exact ⟨0, by simpa using h1, by simpa using h2⟩
        · exact ⟨m + 1, by simpa using h1, by rw [h2]; congr 1; omega⟩
    rw [key]
    split
    · rename_i h
      rw [List.mem_cons, stand_mem p y xs]; simp [h]
    · rename_i h
      rw [stand_mem p y xs]; simp [h]
theorem calm_eq (a : Nat) (ha : a ≤ 1000) (c : Int) (L : List Int) (hL : L.length = 2 * a) : calmP c L = calmS a c L := by
  unfold calmP calmS
  congr 1
  funext i
  rw [Bool.eq_iff_iff, calmI_iff a (by omega) _ (fun x hx => by have := stand_in i L 0 x hx; omega), cuB_iff]
  refine Calm_congr fun j hj => ?_
  rw [stand_mem, bitsAt_test]
  constructor
  · rintro ⟨m, h1, h2⟩; exact .inr ⟨m, h1, by omega⟩
  · rintro (h | ⟨m, h1, h2⟩)
    · simp at h
    · exact ⟨m, h1, by omega⟩
theorem group_calm (a : Nat) (ha : a ≤ 1000) (g : List Int) (hg : ∀ x ∈ g, 0 ≤ x ∧ x < 2 * (a : Int)) : calmI g g = cuB a (bitsI g 0) := by
  rw [Bool.eq_iff_iff, calmI_iff a (by omega) g hg, cuB_iff]
  refine Calm_congr fun j hj => ?_
  rw [bitsI_test]
  constructor
  · intro h; exact .inr ⟨_, h, by simp⟩
  · rintro (h | ⟨k, h1, h2⟩)
    · simp at h
    · have := hg k h1
      rw [show (j : Int) = k by omega]; exact h1
end Go.Proofs.Ytdgfpjlmpnfcgaa.Ev

namespace Go.Proofs.Ytdgfpjlmpnfcgaa.Ev
open Go
set_option linter.unusedVariables false
set_option linter.unusedSimpArgs false

theorem grps_form (most : Int) : ∀ (rest l g : List Int), g ∈ grps most rest l → ∃ s, g = l ++ s ∧ s ≠ [] ∧ List.Sublist s rest
  | [], _, g, h => by simp [grps] at h
  | x :: rest, l, g, h => by
    simp only [grps] at h
    split at h
    · simp only [List.mem_cons, List.mem_append] at h
      rcases h with rfl | h | h
      · exact ⟨[x], rfl, by simp, List.cons_sublist_cons.2 (List.nil_sublist _)⟩
      · obtain ⟨s, h1, h2, h3⟩ := grps_form most rest (l ++ [x]) g h
        exact ⟨x :: s, by simpa using h1, by simp, List.cons_sublist_cons.2 h3⟩
      · obtain ⟨s, h1, h2, h3⟩ := grps_form most rest l g h
        exact ⟨s, h1, h2, h3.cons x⟩
    · cases h
theorem stand_pair (p : Int) : ∀ (xs : List Int) (i : Nat), (stand p i xs).Pairwise (· < ·)
  | [], i => by simp [stand]
  | x :: xs, i => by
    rw [stand]
    split
    · refine List.pairwise_cons.2 ⟨fun y hy => ?_, stand_pair p xs (i + 1)⟩
      have := stand_in p xs (i + 1) y hy
      omega
    · exact stand_pair p xs (i + 1)
theorem rises_of {a b : Int} {g : List Int} (h : g.Pairwise (· < ·)) (hb : ∀ x ∈ g, a ≤ x ∧ x ≤ b) : risesB a b g = true := by
  unfold risesB
  rw [Bool.and_eq_true, List.all_eq_true, List.all_eq_true]
  refine ⟨fun x hx => (inB_iff _ _ _).2 (hb x hx), fun j hj => ?_⟩
  rw [List.mem_range'_1] at hj
  rcases Nat.eq_zero_or_pos j with h0 | h0
  · simp [h0]
  · have h1 : j < g.length := by omega
    have h2 : j - 1 < g.length := by omega
    rw [List.pairwise_iff_getElem] at h
    have := h (j - 1) j h2 h1 (by omega)
    simp [h1, h2, this]
theorem can_eq (a : Nat) (b c : Int) (hgd : good a b c = true) (l : List Int) (hl : l.length = 2 * a) (p t : Int) (ht : 0 ≤ t ∧ t ≤ c + 1) (htp : t ≠ p) (g : List Int) (hg : g ∈ grps b (stand p 0 l) []) : canB a b c l p t g = (calmI g g && calmP c (setAll t g l)) := by
  have hgo := good_of hgd
  obtain ⟨s, h1, h2, h3⟩ := grps_form b _ _ _ hg
  rw [List.nil_append] at h1
  subst h1
  have hgl := grps_lens b _ _ _ hg
  have hgi : ∀ x ∈ g, 0 ≤ x ∧ x < l.length := fun x hx => by
    have := stand_in p l 0 x (h3.subset hx); simp at this; omega
  have hg0 : 0 < g.length := List.length_pos_iff.2 h2
  have e1001 : inB t 0 (c + 1) = true := (inB_iff _ _ _).2 ht
  have e1002 : inB g.length 1 b = true := (inB_iff _ _ _).2 ⟨by omega, hgl⟩
  have e1003 : risesB 0 (l.length - 1) g = true := rises_of ((stand_pair p l 0).sublist h3) (fun x hx => by have := hgi x hx; omega)
  have e1004 : atB l p g = true := by
    unfold atB
    rw [List.all_eq_true]
    intro k hk
    obtain ⟨m, h4, h5⟩ := (stand_mem p k l 0).1 (h3.subset hk)
    rw [h5, show ((0 + m : Nat) : Int).toNat = m by omega, h4]
    simp
  unfold canB
  rw [e1001, e1002, e1003, e1004, group_calm a (by omega) g (fun x hx => by have := hgi x hx; omega), calm_eq a (by omega) c _ (by rw [setAll_length]; exact hl)]
  simp [htp]
theorem flatMap_eq {α β : Type} {f g : α → List β} : ∀ (l : List α), (∀ x ∈ l, f x = g x) → l.flatMap f = l.flatMap g
  | [], _ => rfl
  | x :: l, h => by rw [List.flatMap_cons, List.flatMap_cons, h x (List.mem_cons_self ..), flatMap_eq l (fun y hy => h y (List.mem_cons_of_mem _ hy))]
theorem voys_eq (a : Nat) (b c : Int) (hgd : good a b c = true) (x : List Int × Int) (hx : okP a c x) : voysP b c x.1 x.2 0 (c + 2).toNat = voysAll a b c x := by
  have hgo := good_of hgd
  unfold voysP voysAll voysS
  refine flatMap_eq _ fun t ht => ?_
  rw [List.mem_range'_1] at ht
  unfold cansP cans
  split
  · rename_i h
    rw [List.filter_eq_nil_iff.2 (fun g hg => by simp [canB, h]), List.map_nil]
  · rename_i h
    rw [List.filter_congr (fun g hg => (can_eq a b c hgd x.1 hx.1 x.2 t (by omega) h g hg).symm)]
end Go.Proofs.Ytdgfpjlmpnfcgaa.Ev

namespace Go.Proofs.Ytdgfpjlmpnfcgaa.Ev
open Go
set_option linter.unusedVariables false
set_option linter.unusedSimpArgs false
section
variable {N C D : Nat} {P : Nat → Prop} {out : Nat → List Ed} (hG : OkG N C D P out) {starts : List Nat} (hs : ∀ x ∈ starts, P x)
end
end Go.Proofs.Ytdgfpjlmpnfcgaa.Ev

namespace Go.Proofs.Ytdgfpjlmpnfcgaa.Ev
open Go
set_option linter.unusedVariables false
set_option linter.unusedSimpArgs false

section
variable {X : Type}
variable [DecidableEq X]
end
end Go.Proofs.Ytdgfpjlmpnfcgaa.Ev

namespace Go.Proofs.Ytdgfpjlmpnfcgaa.Ev
open Go
set_option linter.unusedVariables false
set_option linter.unusedSimpArgs false
set_option linter.unusedSectionVars false

section
variable {X : Type} [DecidableEq X] (sc : X → List X) (cd : X → Nat) (ok : X → Prop) (N : Nat)
structure BfsOk : Prop where
  lt : ∀ x, ok x → cd x < N
  inj : ∀ x y, ok x → ok y → cd x = cd y → x = y
  suc : ∀ x, ok x → ∀ y ∈ sc x, ok y
  big : N ≤ 2 ^ 20
variable (s : X)
open Classical in
variable {sc cd ok N s}
end
end Go.Proofs.Ytdgfpjlmpnfcgaa.Ev

namespace Go.Proofs.Ytdgfpjlmpnfcgaa.Ev
open Go
set_option linter.unusedVariables false
set_option linter.unusedSimpArgs false
set_option linter.unusedSectionVars false

section
variable {X : Type} [DecidableEq X] (sc : X → List X) (cd : X → Nat) (ok : X → Prop) (N : Nat) (s : X)
variable {sc cd ok N s}
end
end Go.Proofs.Ytdgfpjlmpnfcgaa.Ev

namespace Go.Proofs.Ytdgfpjlmpnfcgaa.Ev
open Go
set_option linter.unusedVariables false
set_option linter.unusedSimpArgs false
set_option linter.unusedSectionVars false

theorem code_step (e : Nat) (he : e ≤ 4) (p x m : Nat) (hp : p < e ^ m) (hx : x < e) (hm : m ≤ 6) : p * e + x < e ^ (m + 1) ∧ IntKind.i64.wrap (IntKind.i64.wrap ((p : Int) * e) + (x : Int)) = ((p * e + x : Nat) : Int) := by
  have h1 : p * e + x < e ^ (m + 1) := by
    rw [Nat.pow_succ]
    have : (p + 1) * e ≤ e ^ m * e := Nat.mul_le_mul_right e hp
    rw [Nat.add_mul] at this
    omega
  have hb := pow_le e (m + 1) he (by omega)
  have hpe : p * e ≤ 16384 := by omega
  refine ⟨h1, ?_⟩
  have e1001 : (p : Int) * (e : Int) = ((p * e : Nat) : Int) := by simp
  rw [e1001, w76 (n := ((p * e : Nat) : Int)) (by omega), w76 (n := ((p * e : Nat) : Int) + x) (by omega)]; omega
theorem codeW_inj (e : Nat) (he : e ≤ 4) : ∀ (xs ys : List Int) (p q m : Nat), xs.length = ys.length → (∀ y ∈ xs, 0 ≤ y ∧ y < e) → (∀ y ∈ ys, 0 ≤ y ∧ y < e) → p < e ^ m → q < e ^ m → m + xs.length ≤ 7 → codeW e p xs = codeW e q ys → p = q ∧ xs = ys
  | [], [], p, q, m, _, _, _, _, _, _, h => ⟨Int.natCast_inj.1 (by simpa [codeW] using h), rfl⟩
  | x :: xs, y :: ys, p, q, m, hl, hx, hy, hp, hq, hm, h => by
    simp only [List.length_cons] at hl hm
    obtain ⟨x, rfl⟩ : ∃ z : Nat, x = z := ⟨x.toNat, by have := hx x (List.mem_cons_self ..); omega⟩
    obtain ⟨y, rfl⟩ : ∃ z : Nat, y = z := ⟨y.toNat, by have := hy y (List.mem_cons_self ..); omega⟩
    have hxe : x < e := by have := hx (x : Int) (List.mem_cons_self ..); omega
    have hye : y < e := by have := hy (y : Int) (List.mem_cons_self ..); omega
    obtain ⟨h1, h2⟩ := code_step e he p x m hp hxe (by omega)
    obtain ⟨h3, h4⟩ := code_step e he q y m hq hye (by omega)
    rw [codeW_cons, codeW_cons, h2, h4] at h
    obtain ⟨h5, h6⟩ := codeW_inj e he xs ys _ _ (m + 1) (by omega) (fun z hz => hx z (List.mem_cons_of_mem _ hz)) (fun z hz => hy z (List.mem_cons_of_mem _ hz)) h1 h3 (by omega) h
    have e1000 : 0 < e := by omega
    have h7 : p = q := by
      have g1 : (p * e + x) / e = p := by rw [Nat.mul_comm, Nat.mul_add_div e1000, Nat.div_eq_of_lt hxe]; omega
      have g2 : (q * e + y) / e = q := by rw [Nat.mul_comm, Nat.mul_add_div e1000, Nat.div_eq_of_lt hye]; omega
      rw [← g1, ← g2, h5]
    subst h7
    refine ⟨rfl, ?_⟩
    rw [show x = y by omega, h6]
  | [], _ :: _, _, _, _, hl, _, _, _, _, _, _ => by simp at hl
  | _ :: _, [], _, _, _, hl, _, _, _, _, _, _ => by simp at hl
def cdE (e : Nat) (x : List Int × Int) : Nat := (codeW e x.2 x.1).toNat
theorem okP_nat {a : Nat} {c : Int} (hc : 0 ≤ c ∧ c ≤ 2) {x : List Int × Int} (h : okP a c x) : ∃ p : Nat, x.2 = p ∧ (p : Int) ≤ c + 1 := by
  have := h.2.2 _ h.2.1
  exact ⟨x.2.toNat, by omega, by omega⟩
theorem cdE_eq {a : Nat} {c : Int} (ha : a ≤ 3) (hc : 0 ≤ c ∧ c ≤ 2) {x : List Int × Int} (h : okP a c x) (e : Nat) (he : e ≤ 4) (hce : c + 2 ≤ e) : codeW e x.2 x.1 = (cdE e x : Int) ∧ cdE e x < e ^ (2 * a + 1) := by
  obtain ⟨p, hp, hp2⟩ := okP_nat hc h
  obtain ⟨q, h4, h5⟩ := code_range e he x.1 p 1 (fun y hy => by have := h.2.2 y hy; omega) (by rw [Nat.pow_one]; omega) (by rw [h.1]; omega)
  rw [← hp] at h4
  unfold cdE
  rw [h4]
  exact ⟨by simp, by rw [h.1, Nat.add_comm] at h5; simpa using h5⟩
theorem cdE_inj {a : Nat} {c : Int} (ha : a ≤ 3) (hc : 0 ≤ c ∧ c ≤ 2) {x y : List Int × Int} (hx : okP a c x) (hy : okP a c y) (e : Nat) (he : e ≤ 4) (hce : c + 2 ≤ e) (h : cdE e x = cdE e y) : x = y := by
  obtain ⟨p, hp, hp2⟩ := okP_nat hc hx
  obtain ⟨q, hq, hq2⟩ := okP_nat hc hy
  have h1 := (cdE_eq ha hc hx e he hce).1
  have h2 := (cdE_eq ha hc hy e he hce).1
  rw [h, ← h2, hp, hq] at h1
  obtain ⟨h3, h4⟩ := codeW_inj e he x.1 y.1 p q 1 (by rw [hx.1, hy.1]) (fun z hz => by have := hx.2.2 z hz; omega) (fun z hz => by have := hy.2.2 z hz; omega) (by rw [Nat.pow_one]; omega) (by rw [Nat.pow_one]; omega) (by rw [hx.1]; omega) h1
  exact Prod.ext h4 (by rw [hp, hq, h3])
def succs (a : Nat) (b c : Int) (x : List Int × Int) : List (List Int × Int) := (voysAll a b c x).map fun v => (setAll v.1 v.2 x.1, v.1)
theorem bfsOk (a : Nat) (b c : Int) (hgd : good a b c = true) : BfsOk (succs a b c) (cdE (c + 2).toNat) (okP a c) ((c + 2).toNat ^ (2 * a + 1)) := by
  have hgo := good_of hgd
  refine ⟨fun x hx => (cdE_eq (by omega) (by omega) hx _ (by omega) (by omega)).2, fun x y hx hy h => cdE_inj (by omega) (by omega) hx hy _ (by omega) (by omega) h, fun x hx y hy => ?_, ?_⟩
  · obtain ⟨v, hv, rfl⟩ := List.mem_map.1 hy
    exact (voys_ok hgd hx v hv).2.2
  · have := pow_le (c + 2).toNat (2 * a + 1) (by omega) (by omega)
    omega
end Go.Proofs.Ytdgfpjlmpnfcgaa.Ev

namespace Go.Proofs.Ytdgfpjlmpnfcgaa.Ev
open Go
set_option linter.unusedVariables false
set_option linter.unusedSimpArgs false
set_option linter.unusedSectionVars false

end Go.Proofs.Ytdgfpjlmpnfcgaa.Ev

namespace Go.Proofs.Ytdgfpjlmpnfcgaa.Ev
open Go
set_option linter.unusedVariables false
set_option linter.unusedSimpArgs false
set_option linter.unusedSectionVars false

end Go.Proofs.Ytdgfpjlmpnfcgaa.Ev

namespace Go.Proofs.Ytdgfpjlmpnfcgaa.Ev
open Go
set_option linter.unusedVariables false
set_option linter.unusedSimpArgs false
end Go.Proofs.Ytdgfpjlmpnfcgaa.Ev

namespace Go.Proofs.Ytdgfpjlmpnfcgaa.Ev
open Go
set_option linter.unusedVariables false
set_option linter.unusedSimpArgs false
set_option linter.unusedSectionVars false

theorem sub_sorted : ∀ (L g : List Int), L.Pairwise (· < ·) → g.Pairwise (· < ·) → (∀ x ∈ g, x ∈ L) → List.Sublist g L
  | [], g, _, _, h => by
    cases g with
    | nil => exact List.nil_sublist _
    | cons x g => exact absurd (h x (List.mem_cons_self ..)) (by simp)
  | y :: L, g, hL, hg, h => by
    rw [List.pairwise_cons] at hL
    cases g with
    | nil => exact List.nil_sublist _
    | cons x g =>
      rw [List.pairwise_cons] at hg
      by_cases hxy : x = y
      · subst hxy
        refine List.cons_sublist_cons.2 (sub_sorted L g hL.2 hg.2 fun z hz => ?_)
        rcases List.mem_cons.1 (h z (List.mem_cons_of_mem _ hz)) with h1 | h1
        · have := hg.1 z hz; omega
        · exact h1
      · have hx : x ∈ L := by
          rcases List.mem_cons.1 (h x (List.mem_cons_self ..)) with h1 | h1
          · exact absurd h1 hxy
          · exact h1
        refine (sub_sorted L (x :: g) hL.2 (List.pairwise_cons.2 hg) fun z hz => ?_).cons y
        rcases List.mem_cons.1 hz with h1 | h1
        · rw [h1]; exact hx
        · rcases List.mem_cons.1 (h z hz) with h2 | h2
          · have h3 := hg.1 z h1
            have h4 := hL.1 x hx
            omega
          · exact h2
theorem grps_all (most : Int) : ∀ (rest l s : List Int), List.Sublist s rest → s ≠ [] → (l.length : Int) + s.length ≤ most → l ++ s ∈ grps most rest l
  | [], l, s, h, hne, _ => absurd (List.sublist_nil.1 h) hne
  | x :: rest, l, s, h, hne, hm => by
    have hs0 : 0 < s.length := List.length_pos_iff.2 hne
    rw [grps, if_pos (by omega)]
    cases h with
    | cons _ h => exact List.mem_cons_of_mem _ (List.mem_append_right _ (grps_all most rest l s h hne hm))
    | @cons_cons s' _ _ h =>
      by_cases hs' : s' = []
      · subst hs'; exact List.mem_cons_self ..
      · have := grps_all most rest (l ++ [x]) s' h hs' (by rw [List.length_append, List.length_singleton]; simp only [List.length_cons] at hm; omega)
        rw [List.append_assoc, List.singleton_append] at this
        exact List.mem_cons_of_mem _ (List.mem_append_left _ this)
theorem setAll_get (t : Int) : ∀ (g l : List Int) (m : Nat), m < l.length → (∀ k ∈ g, 0 ≤ k) → (setAll t g l)[m]? = if (m : Int) ∈ g then some t else l[m]?
  | [], l, m, _, _ => by simp [setAll]
  | k :: g, l, m, hm, hg => by
    rw [setAll, setAll_get t g _ m (by simpa using hm) (fun z hz => hg z (List.mem_cons_of_mem _ hz))]
    have hk := hg k (List.mem_cons_self ..)
    by_cases h1 : (m : Int) ∈ g
    · rw [if_pos h1, if_pos (List.mem_cons_of_mem _ h1)]
    · rw [if_neg h1]
      by_cases h2 : (m : Int) = k
      · rw [if_pos (by rw [h2]; exact List.mem_cons_self ..)]
        have : k.toNat = m := by omega
        rw [this, List.getElem?_set_self hm]
      · have : k.toNat ≠ m := by omega
        rw [if_neg (by simp [h1, h2]), List.getElem?_set_ne this]
theorem setAll_back (l : List Int) (p t : Int) (g : List Int) (hg : ∀ k ∈ g, 0 ≤ k ∧ k < l.length) (ha : atB l p g = true) : setAll p g (setAll t g l) = l := by
  refine List.ext_getElem? fun m => ?_
  rcases Nat.lt_or_ge m l.length with h | h
  · rw [setAll_get p g _ m (by rw [setAll_length]; exact h) (fun k hk => (hg k hk).1), setAll_get t g l m h (fun k hk => (hg k hk).1)]
    by_cases h1 : (m : Int) ∈ g
    · rw [if_pos h1]
      unfold atB at ha
      rw [List.all_eq_true] at ha
      have := ha _ h1
      simp only [Int.toNat_natCast, decide_eq_true_eq, List.getElem?_eq_getElem h, Option.getD_some] at this
      rw [List.getElem?_eq_getElem h, this]
    · rw [if_neg h1, if_neg h1]
  · rw [List.getElem?_eq_none h, List.getElem?_eq_none (by rw [setAll_length, setAll_length]; exact h)]
def okC (a : Nat) (c : Int) (x : List Int × Int) : Prop := okP a c x ∧ calmS a c x.1 = true
theorem rises_pair {a b : Int} {g : List Int} (h : risesB a b g = true) : g.Pairwise (· < ·) := by
  unfold risesB at h
  rw [Bool.and_eq_true, List.all_eq_true, List.all_eq_true] at h
  have h2 := h.2
  have key : ∀ (d i : Nat) (hi : i < g.length) (hj : i + d + 1 < g.length), g[i] < g[i + d + 1] := fun d => by
    induction d with
    | zero =>
      intro i hi hj
      have := h2 (i + 1) (by rw [List.mem_range'_1]; omega)
      simpa [hi, hj] using this
    | succ d ih =>
      intro i hi hj
      have h3 := ih i hi (by omega)
      have := h2 (i + (d + 1) + 1) (by rw [List.mem_range'_1]; omega)
      have h4 : g[i + d + 1]'(by omega) < g[i + (d + 1) + 1] := by
        have e : i + (d + 1) + 1 - 1 = i + d + 1 := by omega
        rw [e] at this
        have h5 : i + d + 1 < g.length := by omega
        simpa [h5, hj] using this
      omega
  rw [List.pairwise_iff_getElem]
  intro i j hi hj hij
  have := key (j - i - 1) i hi (by omega)
  have e : i + (j - i - 1) + 1 = j := by omega
  simpa [e] using this
theorem can_parts {a : Nat} {b c : Int} {l : List Int} {p t : Int} {g : List Int} (h : canB a b c l p t g = true) : (0 ≤ t ∧ t ≤ c + 1) ∧ t ≠ p ∧ (1 ≤ (g.length : Int) ∧ (g.length : Int) ≤ b) ∧ risesB 0 (l.length - 1) g = true ∧ atB l p g = true ∧ cuB a (bitsI g 0) = true ∧ calmS a c (setAll t g l) = true := by
  simp only [canB, Bool.and_eq_true, inB_iff, Bool.not_eq_true', decide_eq_false_iff_not] at h
  obtain ⟨⟨⟨⟨⟨⟨h1, h2⟩, h3⟩, h4⟩, h5⟩, h6⟩, h7⟩ := h
  exact ⟨h1, h2, h3, h4, h5, h6, h7⟩
theorem succs_iff (a : Nat) (b c : Int) (x y : List Int × Int) : y ∈ succs a b c x ↔ ∃ t g, y = (setAll t g x.1, t) ∧ canB a b c x.1 x.2 t g = true ∧ g ∈ grps b (stand x.2 0 x.1) [] ∧ ∃ n : Nat, t = n ∧ n < (c + 2).toNat := by
  unfold succs voysAll voysS cans
  simp only [List.mem_map, List.mem_flatMap, List.mem_filter, List.mem_range'_1]
  constructor
  · rintro ⟨v, ⟨n, hn, g, ⟨hg, hc⟩, rfl⟩, rfl⟩
    exact ⟨n, g, rfl, hc, hg, n, rfl, by omega⟩
  · rintro ⟨t, g, rfl, hc, hg, n, rfl, hn⟩
    exact ⟨(n, g), ⟨n, by omega, g, ⟨hg, hc⟩, rfl⟩, rfl⟩
theorem succs_ok {a : Nat} {b c : Int} (hgd : good a b c = true) {x y : List Int × Int} (hx : okP a c x) (hy : y ∈ succs a b c x) : okC a c y := by
  refine ⟨(bfsOk a b c hgd).suc x hx y hy, ?_⟩
  obtain ⟨t, g, rfl, hc, _⟩ := (succs_iff a b c x y).1 hy
  exact (can_parts hc).2.2.2.2.2.2
theorem succs_symm {a : Nat} {b c : Int} (hgd : good a b c = true) {x y : List Int × Int} (hx : okC a c x) (hy : y ∈ succs a b c x) : x ∈ succs a b c y := by
  have hgo := good_of hgd
  have hoy := succs_ok hgd hx.1 hy
  obtain ⟨t, g, rfl, hc, hg, n, rfl, hn⟩ := (succs_iff a b c x y).1 hy
  obtain ⟨h1, h2, h3, h4, h5, h6, h7⟩ := can_parts hc
  obtain ⟨p, hp, hp2⟩ := okP_nat (by omega) hx.1
  have hin := risesB_in h4
  have hgi : ∀ k ∈ g, 0 ≤ k ∧ k < x.1.length := fun k hk => by have := hin k hk; omega
  have hback := setAll_back x.1 x.2 n g hgi h5
  have hat : atB (setAll n g x.1) n g = true := by
    unfold atB
    rw [List.all_eq_true]
    intro k hk
    have hki := hgi k hk
    rw [setAll_get n g x.1 k.toNat (by omega) (fun k hk => (hgi k hk).1), if_pos (by rw [show ((k.toNat : Nat) : Int) = k by omega]; exact hk)]
    simp
  rw [succs_iff]
  refine ⟨x.2, g, by rw [hback], ?_, ?_, p, hp, by omega⟩
  · unfold canB
    rw [(inB_iff _ _ _).2 (by rw [hp]; omega : 0 ≤ x.2 ∧ x.2 ≤ c + 1), (inB_iff _ _ _).2 h3, setAll_length, h4, hat, h6, hback, hx.2]
    simp [Ne.symm h2]
  · have := grps_all b (stand (n : Int) 0 (setAll n g x.1)) [] g (sub_sorted _ _ (stand_pair _ _ _) (rises_pair h4) fun k hk => (stand_mem n k _ 0).2 ⟨k.toNat, ?_, by have := hgi k hk; omega⟩) (fun e => by rw [e] at h3; simp at h3) (by simp; omega)
    · simpa using this
    · have hki := hgi k hk
      rw [setAll_get n g x.1 k.toNat (by omega) (fun k hk => (hgi k hk).1), if_pos (by rw [show ((k.toNat : Nat) : Int) = k by omega]; exact hk)]
def allAt (a : Nat) (p : Nat) : List Int × Int := (List.replicate (2 * a) (p : Int), (p : Int))
theorem allAt_ok (a : Nat) (ha : 1 ≤ a) (c : Int) (p : Nat) (hp : (p : Int) ≤ c + 1) : okC a c (allAt a p) := by
  refine ⟨⟨by simp [allAt], ?_, fun y hy => ?_⟩, ?_⟩
  · simp [allAt]; omega
  · simp [allAt] at hy; omega
  · unfold calmS
    rw [List.all_eq_true]
    intro i _
    rw [cuB_iff]
    rintro ⟨⟨i', hi', h3, h4⟩, _⟩
    refine h4 ((bitsAt_test _ _ _ _ _).2 (.inr ?_))
    rcases (bitsAt_test _ _ _ _ _).1 h3 with h | ⟨m, h5, h6⟩
    · simp at h
    · refine ⟨2 * i', ?_, by omega⟩
      simp only [allAt] at h5 ⊢
      have := List.mem_of_getElem? h5
      rw [List.eq_of_mem_replicate this, List.getElem?_replicate, if_pos (by omega)]
end Go.Proofs.Ytdgfpjlmpnfcgaa.Ev

namespace Go.Proofs.Ytdgfpjlmpnfcgaa.Ev
open Go
set_option linter.unusedVariables false
set_option linter.unusedSimpArgs false
set_option linter.unusedSectionVars false
attribute [local simp] til_getE til_length til_get til_drop til_take til_snoc til_fold take_snoc til_set tin_getE tin_length tin_take tleN_length tleN_getE
theorem r49 (a b c p : Int) (ha : 1 ≤ a ∧ a ≤ 10) : ownR env 49 [.agg [ti a, ti b, ti c], ti p] = some (.agg [.ref 0 0 (2 * a).toNat, .t (ti p)], [.pure 1 (til (List.replicate (2 * a).toNat p))]) := by
  rw [own_ir e49 _ rfl]
  have h57 := r66 a b c (by omega)
  obtain ⟨k, rfl⟩ : ∃ k : Nat, a = k := ⟨a.toNat, by omega⟩
  have e : (2 * (k : Int)).toNat = 2 * k := by omega
  have h64 : ownR env 76 [.lst 1 [.int .i64 p], ti (2 * (k : Int))] = some (.ref 0 0 (2 * k), [.pure 1 (til (List.replicate (2 * k) p))]) := by
    have := r76 p (2 * k) (by omega) (by omega)
    rw [show ((2 * k : Nat) : Int) = 2 * (k : Int) by omega] at this
    exact this
  rw [e]
  simp [ir49, ir49_c, h57, h64, til_flat]
end Go.Proofs.Ytdgfpjlmpnfcgaa.Ev

namespace Go.Proofs.Ytdgfpjlmpnfcgaa.Ev
open Go
set_option linter.unusedVariables false
set_option linter.unusedSimpArgs false
set_option linter.unusedSectionVars false
attribute [local simp] til_getE til_length til_get til_drop til_take til_snoc til_fold take_snoc til_set
def idxB (pr : Int → Bool) : Nat → List Int → Int
  | _, [] => -1
  | i, y :: ys => if pr y then i else idxB pr (i + 1) ys
theorem idxB_nonneg (pr : Int → Bool) : ∀ (ys : List Int) (i : Nat), 0 ≤ idxB pr i ys ↔ ys.any pr = true
  | [], i => by simp [idxB]
  | y :: ys, i => by
    simp only [idxB]
    split
    · rename_i h; simp [h]
    · rename_i h; rw [idxB_nonneg pr ys (i + 1)]; simp [h]
theorem w85 (f : FuncId) (caps : List T) (pr : Int → Bool) (g : List Int) (hpr : ∀ x ∈ g, ∀ H, evCall env (den env) f (.t (.int .i64 x) :: caps.map .t) H = some (.t (tb (pr x)), H)) (hg : g.length ≤ 1000000) : ∀ (d i : Nat), i + d = g.length →
    endO [.tmp 4] (andN (outB 0 (loopF env true [0, 1, 7, 8] ir85_b0 ([(0, .t (tl g)), (1, .t (.clo f [] caps)), (7, .t (ti g.length)), (8, .t (ti i))], []))) (execD env (.seq (.reg false [] [⟨some 4, none, .mv (.k (ti (-1)))⟩]) .ret))) = some (.t (ti (idxB pr i (g.drop i))), [])
  | 0, i, hi => by
    rw [x85_0]
    have : i = g.length := by omega
    subst this
    simp [ir85_d0, idxB]
  | d + 1, i, hi => by
    rw [x85_0]
    have hlt : i < g.length := by omega
    have hw : IntKind.i64.wrap ((i : Int) + 1) = (i : Int) + 1 := w76 (by omega)
    have ih := w85 f caps pr g hpr hg d (i + 1) (by omega)
    have hp := hpr g[i] (List.getElem_mem hlt)
    have hs : idxB pr i (g.drop i) = if pr g[i] then (i : Int) else idxB pr (i + 1) (g.drop (i + 1)) := by rw [List.drop_eq_getElem_cons hlt, idxB]
    rw [hs]
    cases h : pr g[i] with
    | true =>
      rw [h] at hp
      simp [ir85_d0, hlt, hw, hp]
    | false =>
      rw [h] at hp
      simp at ih
      simp [ir85_d0, hlt, hw, hp, ih]
theorem r78g (f : FuncId) (caps : List T) (pr : Int → Bool) (g : List Int) (hpr : ∀ x ∈ g, ∀ H, evCall env (den env) f (.t (.int .i64 x) :: caps.map .t) H = some (.t (tb (pr x)), H)) (hg : g.length ≤ 1000000) : ownR env 85 [tl g, .clo f [] caps] = some (.t (ti (idxB pr 0 g)), []) := by
  rw [own_ir e85 _ rfl]
  have hl := w85 f caps pr g hpr hg g.length 0 (by omega)
  simp at hl
  simp [ir85, ir85_c, hl]
theorem r73g (f : FuncId) (caps : List T) (pr : Int → Bool) (g : List Int) (hpr : ∀ x ∈ g, ∀ H, evCall env (den env) f (.t (.int .i64 x) :: caps.map .t) H = some (.t (tb (pr x)), H)) (hg : g.length ≤ 1000000) : ownR env 70 [tl g, .clo f [] caps] = some (.t (tb (g.any pr)), []) := by
  rw [own_ir e70 _ rfl]
  have h : decide (0 ≤ idxB pr 0 g) = g.any pr := by rw [Bool.eq_iff_iff]; simp only [decide_eq_true_eq]; exact idxB_nonneg pr g 0
  simp [ir70, ir70_c, r78g f caps pr g hpr hg, h]
@[simp] theorem r83 (x a b : Int) : ownR env 83 [ti x, .ptr (ti a), .ptr (ti b)] = some (.t (tb (!inB x a b)), []) := by
  rw [own_ir e83 _ rfl]
  cases h : inB x a b <;> simp [ir83, ir83_c, h]
def LN (X : T) (l : List Int) : Prop := (X = .nil ∧ l = []) ∨ X = .lst 1 (til l)
theorem LN.len {X : T} {l : List Int} (h : LN X l) (H : Heap) : evLen H 1 (.t X) = some (l.length : Int) := by
  rcases h with ⟨rfl, rfl⟩ | rfl <;> simp
theorem LN.tl {X : T} {l : List Int} (h : LN X l) (hl : l ≠ []) : X = .lst 1 (til l) := by
  rcases h with ⟨_, rfl⟩ | h
  · exact absurd rfl hl
  · exact h
theorem LN.of (l : List Int) : LN (.lst 1 (til l)) l := .inr rfl
def areB (l : List Int) (a b lo hi : Int) : Bool := inB l.length lo hi && l.all fun x => inB x a b
theorem r65 (X : T) (l : List Int) (hX : LN X l) (a b lo hi : Int) (hlo : 1 ≤ lo) (hhi : hi ≤ 1000) : ownR env 65 [X, ti a, ti b, ti lo, ti hi] = some (.t (tb (areB l a b lo hi)), []) := by
  rw [own_ir e65 _ rfl]
  have hlen := hX.len
  unfold areB
  cases h : inB l.length lo hi with
  | false => simp [ir65, ir65_c, hlen, h]
  | true =>
    rw [inB_iff] at h
    have hne : l ≠ [] := fun e => by subst e; simp at h; omega
    have hXl := hX.tl hne
    subst hXl
    have h73 := r73g 83 [.ptr (ti a), .ptr (ti b)] (fun x => !inB x a b) l (fun x hx H => by simp) (by omega)
    have ha : (l.any fun x => !inB x a b) = !(l.all fun x => inB x a b) := by
      rw [List.all_eq_not_any_not]; simp
    rw [ha] at h73
    have h' : inB l.length lo hi = true := (inB_iff _ _ _).2 h
    cases hl : l.all fun x => inB x a b with
    | true => rw [hl] at h73; simp at h73; simp [ir65, ir65_c, h', h73]
    | false => rw [hl] at h73; simp at h73; simp [ir65, ir65_c, h', h73]
theorem w62 (l : List Int) (a b : Int) (hl : l.length ≤ 1000000) : ∀ (d i : Nat), i + d = l.length →
    endO [.tmp 6] (andN (outB 0 (loopF env true [1, 2, 9, 10, 11] ir62_b0 ([(1, .t (ti a)), (2, .t (ti b)), (9, .t (tl l)), (10, .t (ti l.length)), (11, .t (ti i))], []))) (execD env (.seq (.reg false [] [⟨some 6, none, .mv (.k (tb true))⟩]) .ret))) = some (.t (tb ((l.drop i).all fun x => inB x a b)), [])
  | 0, i, hi => by
    rw [x62_0]
    have : i = l.length := by omega
    subst this
    simp [ir62_d0]
  | d + 1, i, hi => by
    rw [x62_0]
    have hlt : i < l.length := by omega
    have hw : IntKind.i64.wrap ((i : Int) + 1) = (i : Int) + 1 := w76 (by omega)
    have ih := w62 l a b hl d (i + 1) (by omega)
    have hs : (l.drop i).all (fun x => inB x a b) = (inB l[i] a b && (l.drop (i + 1)).all fun x => inB x a b) := by rw [List.drop_eq_getElem_cons hlt]; rfl
    rw [hs]
    generalize (l.drop (i + 1)).all (fun x => inB x a b) = A at *
    simp at ih
    cases h1 : inB l[i] a b with
    | false => simp [ir62_d0, hlt, hw, h1]
    | true => simp [ir62_d0, hlt, hw, h1, ih]
theorem r62 (l : List Int) (a b : Int) (hl : l.length ≤ 1000000) : ownR env 62 [tl l, ti a, ti b] = some (.t (tb (l.all fun x => inB x a b)), []) := by
  rw [own_ir e62 _ rfl]
  have h := w62 l a b hl l.length 0 (by omega)
  simp at h
  simp [ir62, ir62_c, h]
theorem w63 (l : List Int) (y : Int) (hl : l.length ≤ 1000000) : ∀ (d i : Nat), i + d = l.length →
    endO [.tmp 4] (andN (outB 0 (loopF env true [1, 7, 8, 9] ir63_b0 ([(1, .t (ti y)), (7, .t (tl l)), (8, .t (ti l.length)), (9, .t (ti i))], []))) (execD env (.seq (.reg false [] [⟨some 4, none, .mv (.k (tb false))⟩]) .ret))) = some (.t (tb (decide (y ∈ l.drop i))), [])
  | 0, i, hi => by
    rw [x63_0]
    have : i = l.length := by omega
    subst this
    simp [ir63_d0]
  | d + 1, i, hi => by
    rw [x63_0]
    have hlt : i < l.length := by omega
    have hw : IntKind.i64.wrap ((i : Int) + 1) = (i : Int) + 1 := w76 (by omega)
    have ih := w63 l y hl d (i + 1) (by omega)
    have hs : decide (y ∈ l.drop i) = (decide (l[i] = y) || decide (y ∈ l.drop (i + 1))) := by
      have hm : y ∈ l.drop i ↔ l[i] = y ∨ y ∈ l.drop (i + 1) := by rw [List.drop_eq_getElem_cons hlt, List.mem_cons, eq_comm]
      rw [Bool.eq_iff_iff, Bool.or_eq_true, decide_eq_true_eq, decide_eq_true_eq, decide_eq_true_eq, hm]
    rw [hs]
    generalize decide (y ∈ l.drop (i + 1)) = A at *
    simp at ih
    by_cases h1 : l[i] = y
    · simp [ir63_d0, hlt, hw, h1]
    · simp [ir63_d0, hlt, hw, h1, ih]
theorem r63 (l : List Int) (y : Int) (hl : l.length ≤ 1000000) : ownR env 63 [tl l, ti y] = some (.t (tb (decide (y ∈ l))), []) := by
  rw [own_ir e63 _ rfl]
  have h := w63 l y hl l.length 0 (by omega)
  simp at h
  simp [ir63, ir63_c, h]
def riseB (g : List Int) : Bool := (List.range' 1 (g.length - 1)).all fun j => decide (g[j - 1]?.getD 0 < g[j]?.getD 0)
theorem w69 (g : List Int) (hg : g.length ≤ 1000000) : ∀ (d i : Nat), i + d = g.length → 1 ≤ i →
    endO [.tmp 2] (andN (outB 0 (loopF env true [0, 3] ir69_b0 ([(0, .t (tl g)), (3, .t (ti i))], []))) (execD env (.seq (.reg false [] [⟨some 2, none, .mv (.k (tb true))⟩]) .ret))) = some (.t (tb ((List.range' i d).all fun j => decide (g[j - 1]?.getD 0 < g[j]?.getD 0))), [])
  | 0, i, hi, h1 => by
    rw [x69_0]
    simp [ir69_d0, show ¬ (i < g.length) by omega]
  | d + 1, i, hi, h1 => by
    rw [x69_0]
    have hlt : i < g.length := by omega
    have hw : IntKind.i64.wrap ((i : Int) + 1) = (i : Int) + 1 := w76 (by omega)
    have hw2 : IntKind.i64.wrap ((i : Int) - 1) = (i : Int) - 1 := w76 (by omega)
    have ih := w69 g hg d (i + 1) (by omega) (by omega)
    have hr : List.range' i (d + 1) = i :: List.range' (i + 1) d := rfl
    rw [hr, List.all_cons]
    generalize ((List.range' (i + 1) d).all fun j => decide (g[j - 1]?.getD 0 < g[j]?.getD 0)) = R at *
    simp at ih
    have e2001 : ((i : Int) - 1).toNat = i - 1 := by omega
    have e2002 : i - 1 < g.length := by omega
    by_cases h2 : g[i] ≤ g[i - 1]
    · have h3 : ¬ (g[i - 1] < g[i]) := by omega
      simp [ir69_d0, hlt, hw, hw2, e2001, e2002, h2, h3, show (1 : Int) ≤ i by omega]
    · have h3 : g[i - 1] < g[i] := by omega
      simp [ir69_d0, hlt, hw, hw2, e2001, e2002, h2, h3, ih, show (1 : Int) ≤ i by omega]
theorem r69 (g : List Int) (hg : g.length ≤ 1000000) (h0 : g ≠ []) : ownR env 69 [tl g] = some (.t (tb (riseB g)), []) := by
  rw [own_ir e69 _ rfl]
  have hp : 0 < g.length := List.length_pos_iff.2 h0
  have h := w69 g hg (g.length - 1) 1 (by omega) (by omega)
  simp at h
  simp [ir69, ir69_c, h, riseB]
end Go.Proofs.Ytdgfpjlmpnfcgaa.Ev

namespace Go.Proofs.Ytdgfpjlmpnfcgaa.Ev
open Go
set_option linter.unusedVariables false
set_option linter.unusedSimpArgs false
set_option linter.unusedSectionVars false
attribute [local simp] til_getE til_length til_get til_drop til_take til_snoc til_fold take_snoc til_set
def plB (a b c : Int) (l : List Int) (p : Int) : Bool := good a b c && (decide ((l.length : Int) = 2 * a) && ((l.all fun x => inB x 0 (c + 1)) && decide (p ∈ l)))
theorem plB_ok {a : Nat} {b c : Int} {l : List Int} {p : Int} (h : plB a b c l p = true) : good a b c = true ∧ okP a c (l, p) := by
  simp only [plB, Bool.and_eq_true, decide_eq_true_eq, List.all_eq_true, inB_iff] at h
  obtain ⟨h1, h2, h3, h4⟩ := h
  exact ⟨h1, by show l.length = 2 * a; omega, h4, fun y hy => h3 y hy⟩
theorem ok_plB {a : Nat} {b c : Int} {l : List Int} {p : Int} (hg : good a b c = true) (h : okP a c (l, p)) : plB a b c l p = true := by
  simp only [plB, Bool.and_eq_true, decide_eq_true_eq, List.all_eq_true, inB_iff]
  have := h.1
  simp only at this
  exact ⟨hg, by omega, fun y hy => h.2.2 y hy, h.2.1⟩
theorem r39 (a b c : Int) (hgd : good a b c = true) (X : T) (l : List Int) (hX : LN X l) (p : Int) : ownR env 39 [.agg [ti a, ti b, ti c], .agg [X, ti p]] = some (.t (tb (plB a b c l p)), []) := by
  have hgo := good_of hgd
  have h49 := r51 a b c (by omega)
  have h57 := r66 a b c (by omega)
  have h243 := r65 X l hX 0 (c + 1) (2 * a) (2 * a) (by omega) (by omega)
  rw [own_ir e39 _ rfl]
  have hin : inB l.length (2 * a) (2 * a) = decide ((l.length : Int) = 2 * a) := by
    rw [Bool.eq_iff_iff, inB_iff, decide_eq_true_eq]; omega
  unfold areB at h243
  rw [hin] at h243
  unfold plB
  rw [hgd, Bool.true_and]
  by_cases hl : (l.length : Int) = 2 * a
  · have hne : l ≠ [] := fun e => by subst e; simp at hl; omega
    have hXl := hX.tl hne
    subst hXl
    have h72 := r67 l p (by omega)
    cases ha : l.all fun x => inB x 0 (c + 1) with
    | true => simp [hl, ha] at h243; simp [ir39, ir39_c, h49, h57, h243, h72, hl, ha]
    | false => simp [hl, ha] at h243; simp [ir39, ir39_c, h49, h57, h243, hl, ha]
  · simp [hl] at h243
    simp [ir39, ir39_c, h49, h57, h243, hl]
theorem r10 (a b c : Int) (X : T) (l : List Int) (hX : LN X l) (p : Int) : ownR env 10 [.agg [ti a, ti b, ti c], .agg [X, ti p]] = some (.t (tb (plB a b c l p)), []) := by
  rw [own_ir e10 _ rfl]
  cases hgd : good a b c with
  | true => simp [ir10, ir10_c, hgd, r39 a b c hgd X l hX p]
  | false => simp [ir10, ir10_c, hgd, plB]
theorem r36 (a b c : Int) (X : T) (l : List Int) (hX : LN X l) (p : Int) : ownR env 36 [.agg [ti a, ti b, ti c], .agg [X, ti p]] = some (.t (tb (plB a b c l p)), []) := by
  rw [own_ir e36 _ rfl]
  cases hgd : good a b c with
  | false => simp [ir36, ir36_c, hgd, plB]
  | true =>
    have hgo := good_of hgd
    have hlen := hX.len
    have hw1 : IntKind.i64.wrap (c + 1) = c + 1 := w76 (by omega)
    have hw2 : IntKind.i64.wrap (2 * a) = 2 * a := w76 (by omega)
    unfold plB
    rw [hgd, Bool.true_and]
    by_cases hl : (l.length : Int) = 2 * a
    · have hne : l ≠ [] := fun e => by subst e; simp at hl; omega
      have hXl := hX.tl hne
      subst hXl
      have h241 := r62 l 0 (c + 1) (by omega)
      have h242 := r63 l p (by omega)
      cases ha : l.all fun x => inB x 0 (c + 1) with
      | true => rw [ha] at h241; simp [ir36, ir36_c, hgd, hw1, hw2, hl, h241, h242, ha]
      | false => rw [ha] at h241; simp [ir36, ir36_c, hgd, hw1, hw2, hl, h241, ha]
    · simp [ir36, ir36_c, hgd, hw1, hw2, hlen, hl]
theorem r11 (a b c : Int) (X : T) (l : List Int) (hX : LN X l) (p : Int) : ownR env 11 [.agg [ti a, ti b, ti c], .agg [X, ti p]] = some (.t (tb (plB a b c l p)), []) := by
  rw [own_ir e11 _ rfl]
  simp [ir11, ir11_c, r36 a b c X l hX p]
@[simp] theorem r13 (a b c : Int) : ownR env 13 [.agg [ti a, ti b, ti c]] = some (.t (tb (good a b c)), []) := by
  rw [own_ir e13 _ rfl]
  simp [ir13, ir13_c]
def askB (a b c : Int) (l : List Int) (p : Int) : Bool := plB a b c l p && calmS a.toNat c l
theorem plB_list {a b c : Int} {X : T} {l : List Int} (hX : LN X l) {p : Int} (h : plB a b c l p = true) : X = .lst 1 (til l) ∧ good a b c = true ∧ (l.length : Int) = 2 * a := by
  simp only [plB, Bool.and_eq_true, decide_eq_true_eq] at h
  obtain ⟨h1, h2, h3, h4⟩ := h
  exact ⟨hX.tl (fun e => by subst e; cases h4), h1, h2⟩
theorem r31 (a b c : Int) (X : T) (l : List Int) (hX : LN X l) (p : Int) : ownR env 31 [.agg [ti a, ti b, ti c], .agg [X, ti p]] = some (.t (tb (askB a b c l p)), []) := by
  rw [own_ir e31 _ rfl]
  have h207 := r10 a b c X l hX p
  unfold askB
  cases h : plB a b c l p with
  | false => simp [ir31, ir31_c, h207, h]
  | true =>
    obtain ⟨rfl, hgd, hl⟩ := plB_list hX h
    have hgo := good_of hgd
    have h62 := r35 a b c (by omega) p l (by omega)
    rw [calm_eq a.toNat (by omega) c l (by omega)] at h62
    simp [ir31, ir31_c, h207, h, h62]
theorem r33 (a b c : Int) (X : T) (l : List Int) (hX : LN X l) (p : Int) : ownR env 33 [.agg [ti a, ti b, ti c], .agg [X, ti p]] = some (.t (tb (askB a b c l p)), []) := by
  rw [own_ir e33 _ rfl]
  have h229 := r36 a b c X l hX p
  unfold askB
  cases h : plB a b c l p with
  | false => simp [ir33, ir33_c, h229, h]
  | true =>
    obtain ⟨rfl, hgd, hl⟩ := plB_list hX h
    have hgo := good_of hgd
    obtain ⟨k, rfl⟩ : ∃ k : Nat, a = k := ⟨a.toNat, by omega⟩
    have h68 := r37 k (by omega) b c (by omega) p l (by omega)
    simp [ir33, ir33_c, h229, h, h68]
theorem r7 (a b c : Int) (X : T) (l : List Int) (hX : LN X l) (p : Int) : ownR env 7 [.agg [ti a, ti b, ti c], .agg [X, ti p]] = some (.tup [.t (tb (askB a b c l p)), .t (tb (plB a b c l p))], []) := by
  rw [own_ir e7 _ rfl]
  have h207 := r10 a b c X l hX p
  unfold askB
  cases h : plB a b c l p with
  | false => simp [ir7, ir7_c, h207, h]
  | true =>
    obtain ⟨rfl, hgd, hl⟩ := plB_list hX h
    have hgo := good_of hgd
    have h62 := r35 a b c (by omega) p l (by omega)
    rw [calm_eq a.toNat (by omega) c l (by omega)] at h62
    simp [ir7, ir7_c, h207, h, h62]
theorem r8 (a b c : Int) (X : T) (l : List Int) (hX : LN X l) (p : Int) : ownR env 8 [.agg [ti a, ti b, ti c], .agg [X, ti p]] = some (.tup [.t (tb (askB a b c l p)), .t (tb (plB a b c l p))], []) := by
  rw [own_ir e8 _ rfl]
  have h229 := r36 a b c X l hX p
  unfold askB
  cases h : plB a b c l p with
  | false => simp [ir8, ir8_c, h229, h]
  | true =>
    obtain ⟨rfl, hgd, hl⟩ := plB_list hX h
    have hgo := good_of hgd
    obtain ⟨k, rfl⟩ : ∃ k : Nat, a = k := ⟨a.toNat, by omega⟩
    have h68 := r37 k (by omega) b c (by omega) p l (by omega)
    simp [ir8, ir8_c, h229, h, h68]
end Go.Proofs.Ytdgfpjlmpnfcgaa.Ev

namespace Go.Proofs.Ytdgfpjlmpnfcgaa.Ev
open Go
set_option linter.unusedVariables false
set_option linter.unusedSimpArgs false
set_option linter.unusedSectionVars false
attribute [local simp] til_getE til_length til_get til_drop til_take til_snoc til_fold take_snoc til_set
theorem LN.ix {X : T} {l : List Int} (h : LN X l) (H : Heap) (i : Nat) (hi : i < l.length) : evIxa H 1 (.t X) (.t (.int .i64 i)) = some (.rptr (.int .i64 l[i]) 0) := by
  rcases h with ⟨rfl, rfl⟩ | rfl
  · simp at hi
  · simp [hi]
theorem w44 (X Y : T) (l m : List Int) (hX : LN X l) (hY : LN Y m) (hlm : l.length = m.length) (hl : l.length ≤ 2 ^ 40) : ∀ (d i : Nat), i + d = l.length →
    endO [.tmp 4] (andN (outB 0 (loopF env true [0, 1, 12, 13] ir44_b0 ([(0, .t X), (1, .t Y), (12, .t (ti l.length)), (13, .t (ti i))], []))) (execD env (.seq (.reg false [] [⟨some 4, none, .mv (.k (tb true))⟩]) .ret))) = some (.t (tb (decide (l.drop i = m.drop i))), [])
  | 0, i, hi => by
    rw [x44_0]
    have : i = l.length := by omega
    subst this
    have : m.drop l.length = [] := by rw [hlm]; simp
    simp [ir44_d0, this]
  | d + 1, i, hi => by
    rw [x44_0]
    have hlt : i < l.length := by omega
    have hltm : i < m.length := by omega
    have hw : IntKind.i64.wrap ((i : Int) + 1) = (i : Int) + 1 := w76 (by omega)
    have ih := w44 X Y l m hX hY hlm hl d (i + 1) (by omega)
    have hs : decide (l.drop i = m.drop i) = (decide (l[i] = m[i]) && decide (l.drop (i + 1) = m.drop (i + 1))) := by
      rw [List.drop_eq_getElem_cons hlt, List.drop_eq_getElem_cons hltm, Bool.eq_iff_iff, Bool.and_eq_true, decide_eq_true_eq, decide_eq_true_eq, decide_eq_true_eq, List.cons.injEq]
    rw [hs]
    have hxi := fun H => hX.ix H i hlt
    have hyi := fun H => hY.ix H i hltm
    generalize decide (l.drop (i + 1) = m.drop (i + 1)) = A at *
    simp at ih
    by_cases h : l[i] = m[i]
    · simp [ir44_d0, hlt, hw, hxi, hyi, h, ih]
    · simp [ir44_d0, hlt, hw, hxi, hyi, h]
theorem r44 (X Y : T) (l m : List Int) (hX : LN X l) (hY : LN Y m) (hl : l.length ≤ 2 ^ 40) : ownR env 44 [X, Y] = some (.t (tb (decide (l = m))), []) := by
  rw [own_ir e44 _ rfl]
  have h1 := hX.len
  have h2 := hY.len
  by_cases hlm : l.length = m.length
  · have h := w44 X Y l m hX hY hlm hl l.length 0 (by omega)
    simp at h
    simp [ir44, ir44_c, h1, h2, hlm] at h ⊢
    simp [h]
  · have hne : ¬ (l = m) := fun e => hlm (by rw [e])
    have hne2 : ¬ ((l.length : Int) = m.length) := by omega
    have hd : decide ((l.length : Int) = m.length) = false := decide_eq_false hne2
    simp [ir44, ir44_c, h1, h2, hne, hd]
theorem r15 (X Y : T) (l m : List Int) (hX : LN X l) (hY : LN Y m) (hl : l.length ≤ 2 ^ 40) (p q : Int) : ownR env 15 [.agg [X, ti p], .agg [Y, ti q]] = some (.t (tb (decide (p = q) && decide (l = m))), []) := by
  rw [own_ir e15 _ rfl]
  have h := r44 X Y l m hX hY hl
  by_cases hp : p = q
  · subst hp
    generalize decide (l = m) = A at *
    rcases hX with ⟨rfl, rfl⟩ | rfl <;> rcases hY with ⟨rfl, rfl⟩ | rfl <;> simp [ir15, ir15_c, h]
  · simp [ir15, ir15_c, hp]
theorem r38 (X Y : T) (l m : List Int) (hX : LN X l) (hY : LN Y m) (hl : l.length ≤ 2 ^ 40) (p q : Int) : ownR env 38 [.agg [ti p, X], .agg [ti q, Y]] = some (.t (tb (decide (p = q) && decide (l = m))), []) := by
  rw [own_ir e38 _ rfl]
  have h := r44 X Y l m hX hY hl
  by_cases hp : p = q
  · subst hp
    generalize decide (l = m) = A at *
    rcases hX with ⟨rfl, rfl⟩ | rfl <;> rcases hY with ⟨rfl, rfl⟩ | rfl <;> simp [ir38, ir38_c, h]
  · simp [ir38, ir38_c, hp]
def LV (X : T) (vs : List (Int × List Int)) : Prop := (X = .nil ∧ vs = []) ∨ X = .lst 2 (tlv vs)
theorem LV.len {X : T} {vs : List (Int × List Int)} (h : LV X vs) (H : Heap) : evLen H 1 (.t X) = some (vs.length : Int) := by
  rcases h with ⟨rfl, rfl⟩ | rfl <;> simp [tlv_length]
theorem LV.ix {X : T} {vs : List (Int × List Int)} (h : LV X vs) (H : Heap) (i : Nat) (hi : i < vs.length) : evIxa H 2 (.t X) (.t (.int .i64 i)) = some (.rptr (.agg [.int .i64 vs[i].1, .lst 1 (til vs[i].2)]) 0) := by
  rcases h with ⟨rfl, rfl⟩ | rfl
  · simp at hi
  · simp [hi, tlv_length, tlv_getE]
theorem w9 (X Y : T) (vs us : List (Int × List Int)) (hX : LV X vs) (hY : LV Y us) (hlm : vs.length = us.length) (hl : vs.length ≤ 2 ^ 40) (hg : ∀ v ∈ vs, v.2.length ≤ 2 ^ 40) : ∀ (d i : Nat), i + d = vs.length →
    endO [.tmp 4] (andN (outB 0 (loopF env true [0, 1, 12, 13] ir9_b0 ([(0, .t X), (1, .t Y), (12, .t (ti vs.length)), (13, .t (ti i))], []))) (execD env (.seq (.reg false [] [⟨some 4, none, .mv (.k (tb true))⟩]) .ret))) = some (.t (tb (decide (vs.drop i = us.drop i))), [])
  | 0, i, hi => by
    rw [x9_0]
    have : i = vs.length := by omega
    subst this
    have : us.drop vs.length = [] := by rw [hlm]; simp
    simp [ir9_d0, this]
  | d + 1, i, hi => by
    rw [x9_0]
    have hlt : i < vs.length := by omega
    have hltm : i < us.length := by omega
    have hw : IntKind.i64.wrap ((i : Int) + 1) = (i : Int) + 1 := w76 (by omega)
    have ih := w9 X Y vs us hX hY hlm hl hg d (i + 1) (by omega)
    have hs : decide (vs.drop i = us.drop i) = ((decide (vs[i].1 = us[i].1) && decide (vs[i].2 = us[i].2)) && decide (vs.drop (i + 1) = us.drop (i + 1))) := by
      rw [List.drop_eq_getElem_cons hlt, List.drop_eq_getElem_cons hltm, Bool.eq_iff_iff, Bool.and_eq_true, Bool.and_eq_true, decide_eq_true_eq, decide_eq_true_eq, decide_eq_true_eq, decide_eq_true_eq, List.cons.injEq, Prod.ext_iff]
    rw [hs]
    have hxi := fun H => hX.ix H i hlt
    have hyi := fun H => hY.ix H i hltm
    have h230 := r38 _ _ vs[i].2 us[i].2 (LN.of _) (LN.of _) (hg _ (List.getElem_mem hlt)) vs[i].1 us[i].1
    generalize decide (vs.drop (i + 1) = us.drop (i + 1)) = A at *
    generalize (decide (vs[i].1 = us[i].1) && decide (vs[i].2 = us[i].2)) = B at *
    simp at ih
    cases B with
    | true => simp [ir9_d0, hlt, hw, hxi, hyi, h230, ih]
    | false => simp [ir9_d0, hlt, hw, hxi, hyi, h230]
theorem r9 (X Y : T) (vs us : List (Int × List Int)) (hX : LV X vs) (hY : LV Y us) (hl : vs.length ≤ 2 ^ 40) (hg : ∀ v ∈ vs, v.2.length ≤ 2 ^ 40) : ownR env 9 [X, Y] = some (.t (tb (decide (vs = us))), []) := by
  rw [own_ir e9 _ rfl]
  have h1 := hX.len
  have h2 := hY.len
  by_cases hlm : vs.length = us.length
  · have h := w9 X Y vs us hX hY hlm hl hg vs.length 0 (by omega)
    simp at h
    simp [ir9, ir9_c, h1, h2, hlm] at h ⊢
    simp [h]
  · have hne : ¬ (vs = us) := fun e => hlm (by rw [e])
    have hne2 : ¬ ((vs.length : Int) = us.length) := by omega
    have hd : decide ((vs.length : Int) = us.length) = false := decide_eq_false hne2
    simp [ir9, ir9_c, h1, h2, hne, hd]
end Go.Proofs.Ytdgfpjlmpnfcgaa.Ev

namespace Go.Proofs.Ytdgfpjlmpnfcgaa.Ev
open Go
set_option linter.unusedVariables false
set_option linter.unusedSimpArgs false
set_option linter.unusedSectionVars false
attribute [local simp] til_getE til_length til_get til_drop til_take til_snoc til_fold take_snoc til_set
theorem r71 (l : List Int) (p : Int) (k : Int) (hk : 0 ≤ k ∧ k < l.length) : ownR env 71 [ti k, .ptr (.agg [tl l, ti p])] = some (.t (tb (!decide (l[k.toNat]?.getD 0 = p))), []) := by
  rw [own_ir e71 _ rfl]
  obtain ⟨n, rfl⟩ : ∃ n : Nat, k = n := ⟨k.toNat, by omega⟩
  have hn : n < l.length := by omega
  have h1 : l[n]?.getD 0 = l[n] := by simp [hn]
  simp only [Int.toNat_natCast, h1]
  by_cases h : l[n] = p <;> simp [ir71, ir71_c, hn, h]
theorem rises_eq (lo hi : Int) (g : List Int) : risesB lo hi g = (g.all (fun x => inB x lo hi) && riseB g) := by
  unfold risesB riseB
  congr 1
  rw [Bool.eq_iff_iff, List.all_eq_true, List.all_eq_true]
  constructor
  · intro h j hj
    rw [List.mem_range'_1] at hj
    have := h j (by rw [List.mem_range'_1]; omega)
    simp only [Bool.or_eq_true, decide_eq_true_eq] at this
    rcases this with h0 | h0
    · omega
    · simpa using h0
  · intro h j hj
    rw [List.mem_range'_1] at hj
    rcases Nat.eq_zero_or_pos j with h0 | h0
    · simp [h0]
    · have := h j (by rw [List.mem_range'_1]; omega)
      rw [this]; simp
theorem r42 (a : Nat) (b c : Int) (hgd : good a b c = true) (l : List Int) (hl : l.length = 2 * a) (p t : Int) (G : T) (g : List Int) (hG : LN G g) : ownR env 42 [.agg [ti a, ti b, ti c], .agg [tl l, ti p], .agg [ti t, G]] = some (.t (tb (canB a b c l p t g)), []) := by
  have hgo := good_of hgd
  have h49 := r51 a b c (by omega)
  have h57 := r66 a b c (by omega)
  have hw : IntKind.i64.wrap (2 * (a : Int) - 1) = 2 * (a : Int) - 1 := w76 (by omega)
  have h243 := r65 G g hG 0 (2 * (a : Int) - 1) 1 b (by omega) (by omega)
  have e1000 : ((l.length : Int) - 1) = 2 * (a : Int) - 1 := by omega
  have hc0 : canB a b c l p t g = (inB t 0 (c + 1) && (!decide (t = p) && (areB g 0 (2 * (a : Int) - 1) 1 b && (riseB g && (atB l p g && (cuB a (bitsI g 0) && calmS a c (setAll t g l))))))) := by
    unfold canB areB
    rw [rises_eq, e1000]
    simp only [Bool.and_assoc]
  rw [hc0, own_ir e42 _ rfl]
  cases h1 : inB t 0 (c + 1) with
  | false => simp [ir42, ir42_c, h49, h1]
  | true =>
    by_cases h2 : t = p
    · subst h2
      simp [ir42, ir42_c, h49, h1]
    · cases h3 : areB g 0 (2 * (a : Int) - 1) 1 b with
      | false => rw [h3] at h243; rcases hG with ⟨rfl, rfl⟩ | rfl <;> simp [ir42, ir42_c, h49, h1, h2, h57, hw, h243]
      | true =>
        rw [h3] at h243
        unfold areB at h3
        rw [Bool.and_eq_true, inB_iff, List.all_eq_true] at h3
        have hne : g ≠ [] := fun e => by subst e; simp at h3
        have hGl := hG.tl hne
        subst hGl
        have hin : ∀ k ∈ g, 0 ≤ k ∧ k < l.length := fun k hk => by
          have := (inB_iff _ _ _).1 (h3.2 k hk); omega
        have h244 := r69 g (by omega) hne
        cases h4 : riseB g with
        | false => rw [h4] at h244; simp [ir42, ir42_c, h49, h1, h2, h57, hw, h243, h244]
        | true =>
          rw [h4] at h244
          have h73 := r73g 71 [.ptr (.agg [tl l, ti p])] (fun k => !decide (l[k.toNat]?.getD 0 = p)) g (fun x hx H => by simp [r71 l p x (hin x hx)]) (by omega)
          have hat : (g.any fun k => !decide (l[k.toNat]?.getD 0 = p)) = !(atB l p g) := by
            unfold atB
            rw [List.all_eq_not_any_not]; simp
          rw [hat] at h73
          have h61 := r60 g (by omega)
          rw [group_calm a (by omega) g (fun x hx => by have := hin x hx; omega)] at h61
          have h44 := r43 l g p t (by omega) (by omega) hin
          have hsl := setAll_length t g l
          have h62 := r35 a b c (by omega) t (setAll t g l) (by omega)
          rw [calm_eq a (by omega) c _ (by omega)] at h62
          have htk : (setAll t g l).take l.length = setAll t g l := List.take_of_length_le (by omega)
          generalize setAll t g l = L at *
          cases h5 : atB l p g with
          | false => rw [h5] at h73; simp at h73; simp [ir42, ir42_c, h49, h1, h2, h57, hw, h243, h244, h73]
          | true =>
            rw [h5] at h73
            simp at h73
            cases h6 : cuB a (bitsI g 0) with
            | false => rw [h6] at h61; simp [ir42, ir42_c, h49, h1, h2, h57, hw, h243, h244, h73, h61]
            | true => rw [h6] at h61; simp [ir42, ir42_c, h49, h1, h2, h57, hw, h243, h244, h73, h61, h44, htk, h62]
end Go.Proofs.Ytdgfpjlmpnfcgaa.Ev

namespace Go.Proofs.Ytdgfpjlmpnfcgaa.Ev
open Go
set_option linter.unusedVariables false
set_option linter.unusedSimpArgs false
set_option linter.unusedSectionVars false
attribute [local simp] til_getE til_length til_get til_drop til_take til_snoc til_fold take_snoc til_set
theorem r45n (a : Nat) (b c : Int) (hgd : good a b c = true) (l : List Int) (hl : l.length = 2 * a) (p t : Int) (G : T) (g : List Int) (hG : LN G g) : ownR env 45 [.agg [ti a, ti b, ti c], .agg [tl l, ti p], .agg [ti t, G]] = some (.t (tb (canB a b c l p t g)), []) := by
  have hgo := good_of hgd
  cases hn : inB g.length 1 b with
  | true =>
    have hn' := (inB_iff _ _ _).1 hn
    have hne : g ≠ [] := fun e => by subst e; simp at hn'
    have := hG.tl hne
    subst this
    exact r45 a b c hgd l hl p t g (by omega)
  | false =>
    have hf : canB a b c l p t g = false := by unfold canB; rw [hn]; simp
    have hw1 : IntKind.i64.wrap (c + 1) = c + 1 := w76 (by omega)
    have hlen := hG.len
    rw [hf, own_ir e45 _ rfl]
    cases h1 : inB t 0 (c + 1) with
    | false => simp [ir45, ir45_c, hw1, h1]
    | true =>
      by_cases h2 : t = p
      · subst h2; simp [ir45, ir45_c, hw1, h1]
      · simp [ir45, ir45_c, hw1, h1, h2, hlen, hn]
def sailR (ok : Bool) (n : Nat) (L : List Int) (t : Int) : Option (V × Heap) := if ok then some (.tup [.agg [.ref 0 0 n, .t (ti t)], .t (tb true)], [.pure 1 (til L)]) else some (.tup [.agg [.t .nil, .t (ti 0)], .t (tb false)], [])
theorem can_in {a : Nat} {b c : Int} {l : List Int} {p t : Int} {g : List Int} (hb : b ≤ 3) (h : canB a b c l p t g = true) : g ≠ [] ∧ g.length ≤ 3 ∧ ∀ k ∈ g, 0 ≤ k ∧ k < l.length := by
  simp only [canB, Bool.and_eq_true, inB_iff] at h
  obtain ⟨⟨⟨⟨⟨⟨h1, h2⟩, h3⟩, h4⟩, h5⟩, h6⟩, h7⟩ := h
  have hin := risesB_in h4
  exact ⟨fun e => by subst e; simp at h3, by omega, fun k hk => by have := hin k hk; omega⟩
theorem r14 (a b c : Int) (X : T) (l : List Int) (hX : LN X l) (p t : Int) (G : T) (g : List Int) (hG : LN G g) : ownR env 14 [.agg [ti a, ti b, ti c], .agg [X, ti p], .agg [ti t, G]] = sailR (askB a b c l p && canB a.toNat b c l p t g) l.length (setAll t g l) t := by
  rw [own_ir e14 _ rfl]
  have h227 := r31 a b c X l hX p
  cases ha : askB a b c l p with
  | false => rw [ha] at h227; simp [ir14, ir14_c, h227, sailR]
  | true =>
    rw [ha] at h227
    have hpl : plB a b c l p = true := by unfold askB at ha; rw [Bool.and_eq_true] at ha; exact ha.1
    obtain ⟨rfl, hgd, hl⟩ := plB_list hX hpl
    have hgo := good_of hgd
    obtain ⟨k, rfl⟩ : ∃ k : Nat, a = k := ⟨a.toNat, by omega⟩
    have h232 := r42 k b c hgd l (by omega) p t G g hG
    rw [Int.toNat_natCast, Bool.true_and]
    cases hc : canB k b c l p t g with
    | false => rw [hc] at h232; rcases hG with ⟨rfl, rfl⟩ | rfl <;> simp [ir14, ir14_c, h227, h232, sailR]
    | true =>
      rw [hc] at h232
      obtain ⟨hne, hg3, hin⟩ := can_in (by omega) hc
      have := hG.tl hne
      subst this
      have h44 := r43 l g p t (by omega) (by omega) hin
      simp [ir14, ir14_c, h227, h232, h44, sailR, til_flat]
theorem r17 (a b c : Int) (X : T) (l : List Int) (hX : LN X l) (p t : Int) (G : T) (g : List Int) (hG : LN G g) : ownR env 17 [.agg [ti a, ti b, ti c], .agg [X, ti p], .agg [ti t, G]] = sailR (askB a b c l p && canB a.toNat b c l p t g) l.length (setAll t g l) t := by
  rw [own_ir e17 _ rfl]
  have h228 := r33 a b c X l hX p
  cases ha : askB a b c l p with
  | false => rw [ha] at h228; simp [ir17, ir17_c, h228, sailR]
  | true =>
    rw [ha] at h228
    have hpl : plB a b c l p = true := by unfold askB at ha; rw [Bool.and_eq_true] at ha; exact ha.1
    obtain ⟨rfl, hgd, hl⟩ := plB_list hX hpl
    have hgo := good_of hgd
    obtain ⟨k, rfl⟩ : ∃ k : Nat, a = k := ⟨a.toNat, by omega⟩
    have h53 := r45n k b c hgd l (by omega) p t G g hG
    rw [Int.toNat_natCast, Bool.true_and]
    cases hc : canB k b c l p t g with
    | false => rw [hc] at h53; rcases hG with ⟨rfl, rfl⟩ | rfl <;> simp [ir17, ir17_c, h228, h53, sailR]
    | true =>
      rw [hc] at h53
      obtain ⟨hne, hg3, hin⟩ := can_in (by omega) hc
      have := hG.tl hne
      subst this
      have h33 := r46 l g p t (by omega) (by omega) hin
      simp [ir17, ir17_c, h228, h53, h33, sailR, til_flat]
theorem r5 (a b c : Int) (X : T) (l : List Int) (hX : LN X l) (p : Int) : ownFR env 5 [.agg [ti a, ti b, ti c], .agg [X, ti p]] = if askB a b c l p then some (.tup [.ref 0 0 (voysAll a.toNat b c (l, p)).length, .t (tb true)], [.pure 2 (tlv (voysAll a.toNat b c (l, p)))]) else some (.tup [.t .nil, .t (tb false)], []) := by
  rw [ownF_ir e5 _ rfl]
  have h227 := r31 a b c X l hX p
  cases ha : askB a b c l p with
  | false => rw [ha] at h227; simp [ir5, ir5_c, h227]
  | true =>
    rw [ha] at h227
    have hpl : plB a b c l p = true := by unfold askB at ha; rw [Bool.and_eq_true] at ha; exact ha.1
    obtain ⟨rfl, hgd, hl⟩ := plB_list hX hpl
    have hgo := good_of hgd
    obtain ⟨k, rfl⟩ : ∃ k : Nat, a = k := ⟨a.toNat, by omega⟩
    have h43 := r32 k b c (by omega) (by omega) l (by omega) p
    rw [show voysP b c l p 0 (c + 2).toNat = voysAll k b c (l, p) from voys_eq k b c hgd (l, p) (plB_ok hpl).2] at h43
    rw [Int.toNat_natCast]
    simp [ir5, ir5_c, h227, h43]
theorem r6 (a b c : Int) (X : T) (l : List Int) (hX : LN X l) (p : Int) : ∃ Y, LV Y (if askB a b c l p then voysAll a.toNat b c (l, p) else []) ∧ (ownFR env 6 [.agg [ti a, ti b, ti c], .agg [X, ti p]] = some (.tup [.t .nil, .t (tb (askB a b c l p))], []) ∧ Y = .nil ∨
    ownFR env 6 [.agg [ti a, ti b, ti c], .agg [X, ti p]] = some (.tup [.ref 0 0 (voysAll a.toNat b c (l, p)).length, .t (tb (askB a b c l p))], [.pure 2 (tlv (voysAll a.toNat b c (l, p)))]) ∧ Y = .lst 2 (tlv (voysAll a.toNat b c (l, p)))) := by
  rw [ownF_ir e6 _ rfl]
  have h228 := r33 a b c X l hX p
  cases ha : askB a b c l p with
  | false =>
    rw [ha] at h228
    refine ⟨.nil, .inl ⟨rfl, by simp⟩, .inl ⟨?_, rfl⟩⟩
    simp [ir6, ir6_c, h228]
  | true =>
    rw [ha] at h228
    have hpl : plB a b c l p = true := by unfold askB at ha; rw [Bool.and_eq_true] at ha; exact ha.1
    obtain ⟨rfl, hgd, hl⟩ := plB_list hX hpl
    have hgo := good_of hgd
    obtain ⟨k, rfl⟩ : ∃ k : Nat, a = k := ⟨a.toNat, by omega⟩
    have hp := (plB_ok hpl).2.2.1
    have h32 := r34 k b c hgd l (by omega) p hp
    rw [Int.toNat_natCast]
    rcases h32 with ⟨h1, h2⟩ | h1
    · refine ⟨.nil, .inl ⟨rfl, ?_⟩, .inl ⟨?_, rfl⟩⟩
      · simp only [if_true]; exact h2
      · simp [ir6, ir6_c, h228, h1]
    · refine ⟨.lst 2 (tlv (voysAll k b c (l, p))), .inr rfl, .inr ⟨?_, rfl⟩⟩
      have h1' : ownFR env 34 [.agg [ti k, ti b, ti c], .agg [tl l, ti p]] = some (.ref 0 0 (voysAll k b c (l, p)).length, [.pure 2 (tlv (voysAll k b c (l, p)))]) := h1
      simp [ir6, ir6_c, h228, h1']
end Go.Proofs.Ytdgfpjlmpnfcgaa.Ev

namespace Go.Proofs.Ytdgfpjlmpnfcgaa.Ev
open Go
set_option linter.unusedVariables false
set_option linter.unusedSimpArgs false
set_option linter.unusedSectionVars false
attribute [local simp] til_getE til_length til_get til_drop til_take til_snoc til_fold take_snoc til_set
def LW (X : T) (vs : List (Int × List Int)) : Prop := (X = .nil ∧ vs = []) ∨ ∃ ts : List T, X = .lst 2 ts ∧ ts.length = vs.length ∧ ∀ (i : Nat) (h : i < vs.length), ∃ G, ts[i]? = some (.agg [.int .i64 vs[i].1, G]) ∧ LN G vs[i].2
theorem LW.len {X : T} {vs : List (Int × List Int)} (h : LW X vs) (H : Heap) : evLen H 1 (.t X) = some (vs.length : Int) := by
  rcases h with ⟨rfl, rfl⟩ | ⟨ts, rfl, hl, _⟩ <;> simp [*]
theorem LW.ix {X : T} {vs : List (Int × List Int)} (h : LW X vs) (i : Nat) (hi : i < vs.length) : ∃ G, LN G vs[i].2 ∧ ∀ H, evIxa H 2 (.t X) (.t (.int .i64 i)) = some (.rptr (.agg [.int .i64 vs[i].1, G]) 0) := by
  rcases h with ⟨rfl, rfl⟩ | ⟨ts, rfl, hl, hg⟩
  · simp at hi
  · obtain ⟨G, h1, h2⟩ := hg i hi
    have hlt : i < ts.length := by omega
    have h3 : ts[i] = .agg [.int .i64 vs[i].1, G] := by rw [List.getElem?_eq_getElem hlt] at h1; exact Option.some.inj h1
    exact ⟨G, h2, fun H => by simp [hlt, h3]⟩
def play (a : Nat) (b c : Int) : List (Int × List Int) → List Int × Int → Nat → (List Int × Int) × Option Nat
  | [], x, _ => (x, none)
  | v :: vs, x, i => if canB a b c x.1 x.2 v.1 v.2 then play a b c vs (setAll v.1 v.2 x.1, v.1) (i + 1) else (x, some i)
theorem play_len (a : Nat) (b c : Int) : ∀ (vs : List (Int × List Int)) (x : List Int × Int) (i : Nat), (play a b c vs x i).1.1.length = x.1.length
  | [], x, i => rfl
  | v :: vs, x, i => by
    rw [play]
    split
    · rw [play_len a b c vs]; simp [setAll_length]
    · rfl
def RetS (r : Option Out) (Q : Fr → Heap → Prop) : Prop := ∃ fr H, r = some (.ret, fr, H) ∧ Q fr H
@[simp] theorem retS_some (fr : Fr) (H : Heap) (Q : Fr → Heap → Prop) : RetS (some (.ret, fr, H)) Q ↔ Q fr H := by
  constructor
  · rintro ⟨_, _, h, hq⟩; cases h; exact hq
  · exact fun h => ⟨_, _, rfl, h⟩
def Shp (bv : V) (ext : Heap) (l : List Int) : Prop := (bv = .t (.lst 1 (til l)) ∧ ext = []) ∨ (bv = .ref 3 0 l.length ∧ ext = [.pure 1 (til l)])
theorem w47 (a : Nat) (b c : Int) (hgd : good a b c = true) (X : T) (vs : List (Int × List Int)) (hX : LW X vs) (hn : vs.length ≤ 2 ^ 40) : ∀ (d i : Nat) (x : List Int × Int) (bv : V) (ext : Heap), i + d = vs.length → x.1.length = 2 * a → Shp bv ext x.1 →
    match (play a b c (vs.drop i) x i).2 with
    | none => ∃ bv' ext', Shp bv' ext' (play a b c (vs.drop i) x i).1.1 ∧ loopF env true [3, 4, 6, 10, 11, 12] ir47_b0 ([(3, .ptr 0 0 0), (4, .ptr 1 0 0), (6, .ptr 2 0 0), (10, .t X), (11, .t (ti vs.length)), (12, .t (ti i))], [.box 3 [.t (ti a), .t (ti b), .t (ti c)], .box 2 [bv, .t (ti x.2)], .box 2 [.t .nil, .t (ti 0)]] ++ ext) =
        some (.exit 0, [(3, .ptr 0 0 0), (4, .ptr 1 0 0), (6, .ptr 2 0 0), (10, .t X), (11, .t (ti vs.length)), (12, .t (ti vs.length)), (13, .t (tb false))], [.box 3 [.t (ti a), .t (ti b), .t (ti c)], .box 2 [bv', .t (ti (play a b c (vs.drop i) x i).1.2)], .box 2 [.t .nil, .t (ti 0)]] ++ ext')
    | some k => ∃ bv' ext', Shp bv' ext' (play a b c (vs.drop i) x i).1.1 ∧ RetS (loopF env true [3, 4, 6, 10, 11, 12] ir47_b0 ([(3, .ptr 0 0 0), (4, .ptr 1 0 0), (6, .ptr 2 0 0), (10, .t X), (11, .t (ti vs.length)), (12, .t (ti i))], [.box 3 [.t (ti a), .t (ti b), .t (ti c)], .box 2 [bv, .t (ti x.2)], .box 2 [.t .nil, .t (ti 0)]] ++ ext))
        (fun fr H => fr.get 6 = .ptr 2 0 0 ∧ fr.get 7 = .t (ti k) ∧ ∃ B, H = [.box 3 [.t (ti a), .t (ti b), .t (ti c)], .box 2 [bv', .t (ti (play a b c (vs.drop i) x i).1.2)], .box 2 [bv', .t (ti (play a b c (vs.drop i) x i).1.2)]] ++ ext' ++ [B])
  | 0, i, x, bv, ext, hi, hx, hs => by
    have : i = vs.length := by omega
    subst this
    rw [x47_0]
    simp only [List.drop_length, play]
    refine ⟨bv, ext, hs, ?_⟩
    rcases hs with ⟨rfl, rfl⟩ | ⟨rfl, rfl⟩ <;> simp [ir47_d0]
  | d + 1, i, x, bv, ext, hi, hx, hs => by
    rw [x47_0]
    have hgo := good_of hgd
    have hlt : i < vs.length := by omega
    have hw : IntKind.i64.wrap ((i : Int) + 1) = (i : Int) + 1 := w76 (by omega)
    obtain ⟨G, hG, hix⟩ := hX.ix i hlt
    have h232 := r42 a b c hgd x.1 hx x.2 vs[i].1 G vs[i].2 hG
    have hp : play a b c (vs.drop i) x i = if canB a b c x.1 x.2 vs[i].1 vs[i].2 then play a b c (vs.drop (i + 1)) (setAll vs[i].1 vs[i].2 x.1, vs[i].1) (i + 1) else (x, some i) := by
      rw [List.drop_eq_getElem_cons hlt, play]
    have htk : x.1.take x.1.length = x.1 := List.take_length
    rw [hp]
    cases hc : canB a b c x.1 x.2 vs[i].1 vs[i].2 with
    | false =>
      rw [hc] at h232
      simp only [Bool.false_eq_true, if_false]
      refine ⟨bv, ext, hs, ?_⟩
      rcases hs with ⟨rfl, rfl⟩ | ⟨rfl, rfl⟩ <;> rcases hG with ⟨rfl, hg0⟩ | rfl <;> simp [ir47_d0, hlt, hix, h232, hw]
    | true =>
      rw [hc] at h232
      obtain ⟨hne, hg3, hin⟩ := can_in (by omega) hc
      have hGl := hG.tl hne
      subst hGl
      have h44 := r43 x.1 vs[i].2 x.2 vs[i].1 (by omega) (by omega) hin
      have hsl := setAll_length vs[i].1 vs[i].2 x.1
      have ih := w47 a b c hgd X vs hX hn d (i + 1) (setAll vs[i].1 vs[i].2 x.1, vs[i].1) (.ref 3 0 (setAll vs[i].1 vs[i].2 x.1).length) [.pure 1 (til (setAll vs[i].1 vs[i].2 x.1))] (by omega) (by rw [hsl]; exact hx) (.inr ⟨rfl, rfl⟩)
      simp only [if_true] at ih ⊢
      generalize play a b c (vs.drop (i + 1)) (setAll vs[i].1 vs[i].2 x.1, vs[i].1) (i + 1) = R at *
      cases hR : R.2 with
      | none =>
        rw [hR] at ih
        obtain ⟨bv', ext', g1, g2⟩ := ih
        refine ⟨bv', ext', g1, ?_⟩
        simp [hsl] at g2
        rcases hs with ⟨rfl, rfl⟩ | ⟨rfl, rfl⟩ <;> simp [ir47_d0, hlt, hix, h232, hw, h44, g2]
      | some k =>
        rw [hR] at ih
        obtain ⟨bv', ext', g1, fr, H, g2, g3⟩ := ih
        refine ⟨bv', ext', g1, fr, H, ?_, g3⟩
        simp [hsl] at g2
        rcases hs with ⟨rfl, rfl⟩ | ⟨rfl, rfl⟩ <;> simp [ir47_d0, hlt, hix, h232, hw, h44, g2]
end Go.Proofs.Ytdgfpjlmpnfcgaa.Ev

namespace Go.Proofs.Ytdgfpjlmpnfcgaa.Ev
open Go
set_option linter.unusedVariables false
set_option linter.unusedSimpArgs false
set_option linter.unusedSectionVars false
attribute [local simp] til_getE til_length til_get til_drop til_take til_snoc til_fold take_snoc til_set
theorem w48 (a : Nat) (b c : Int) (hgd : good a b c = true) (X : T) (vs : List (Int × List Int)) (hX : LW X vs) (hn : vs.length ≤ 2 ^ 40) : ∀ (d i : Nat) (x : List Int × Int), i + d = vs.length → x.1.length = 2 * a →
    match (play a b c (vs.drop i) x i).2 with
    | none => loopF env true [2, 3, 4, 6, 16, 17, 18] ir48_b0 ([(2, .t X), (3, .ptr 0 0 0), (4, .ptr 1 0 0), (6, .ptr 2 0 0), (16, .t X), (17, .t (ti vs.length)), (18, .t (ti i))], [.box 3 [.t (ti a), .t (ti b), .t (ti c)], .box 2 [.ref 3 0 x.1.length, .t (ti x.2)], .box 2 [.t .nil, .t (ti 0)], .pure 1 (til x.1)]) =
        some (.exit 0, [(2, .t X), (3, .ptr 0 0 0), (4, .ptr 1 0 0), (6, .ptr 2 0 0), (16, .t X), (17, .t (ti vs.length)), (18, .t (ti vs.length)), (19, .t (tb false))], [.box 3 [.t (ti a), .t (ti b), .t (ti c)], .box 2 [.ref 3 0 x.1.length, .t (ti (play a b c (vs.drop i) x i).1.2)], .box 2 [.t .nil, .t (ti 0)], .pure 1 (til (play a b c (vs.drop i) x i).1.1)])
    | some k => RetS (loopF env true [2, 3, 4, 6, 16, 17, 18] ir48_b0 ([(2, .t X), (3, .ptr 0 0 0), (4, .ptr 1 0 0), (6, .ptr 2 0 0), (16, .t X), (17, .t (ti vs.length)), (18, .t (ti i))], [.box 3 [.t (ti a), .t (ti b), .t (ti c)], .box 2 [.ref 3 0 x.1.length, .t (ti x.2)], .box 2 [.t .nil, .t (ti 0)], .pure 1 (til x.1)]))
        (fun fr H => fr.get 6 = .ptr 2 0 0 ∧ fr.get 7 = .t (ti k) ∧ ∃ B, H = [.box 3 [.t (ti a), .t (ti b), .t (ti c)], .box 2 [.ref 3 0 x.1.length, .t (ti (play a b c (vs.drop i) x i).1.2)], .box 2 [.ref 3 0 x.1.length, .t (ti (play a b c (vs.drop i) x i).1.2)], .pure 1 (til (play a b c (vs.drop i) x i).1.1), B])
  | 0, i, x, hi, hx => by
    have : i = vs.length := by omega
    subst this
    rw [x48_0]
    simp only [List.drop_length, play]
    simp [ir48_d0]
  | d + 1, i, x, hi, hx => by
    rw [x48_0]
    have hgo := good_of hgd
    have hlt : i < vs.length := by omega
    have hw : IntKind.i64.wrap ((i : Int) + 1) = (i : Int) + 1 := w76 (by omega)
    obtain ⟨G, hG, hix⟩ := hX.ix i hlt
    have h53 := r45n a b c hgd x.1 hx x.2 vs[i].1 G vs[i].2 hG
    have hp : play a b c (vs.drop i) x i = if canB a b c x.1 x.2 vs[i].1 vs[i].2 then play a b c (vs.drop (i + 1)) (setAll vs[i].1 vs[i].2 x.1, vs[i].1) (i + 1) else (x, some i) := by
      rw [List.drop_eq_getElem_cons hlt, play]
    have htk : x.1.take x.1.length = x.1 := List.take_length
    rw [hp]
    cases hc : canB a b c x.1 x.2 vs[i].1 vs[i].2 with
    | false =>
      rw [hc] at h53
      simp only [Bool.false_eq_true, if_false]
      rcases hG with ⟨rfl, hg0⟩ | rfl <;> simp [ir48_d0, hlt, hix, h53, hw]
    | true =>
      rw [hc] at h53
      obtain ⟨hne, hg3, hin⟩ := can_in (by omega) hc
      have hGl := hG.tl hne
      subst hGl
      have h33 := r46 x.1 vs[i].2 x.2 vs[i].1 (by omega) (by omega) hin
      have hsl := setAll_length vs[i].1 vs[i].2 x.1
      have ih := w48 a b c hgd X vs hX hn d (i + 1) (setAll vs[i].1 vs[i].2 x.1, vs[i].1) (by omega) (by rw [hsl]; exact hx)
      simp only [if_true] at ih ⊢
      generalize play a b c (vs.drop (i + 1)) (setAll vs[i].1 vs[i].2 x.1, vs[i].1) (i + 1) = R at *
      cases hR : R.2 with
      | none =>
        rw [hR] at ih
        simp [hsl] at ih
        simp [ir48_d0, hlt, hix, h53, hw, h33, ih]
      | some k =>
        rw [hR] at ih
        obtain ⟨fr, H, g2, g3⟩ := ih
        refine ⟨fr, H, ?_, by rw [hsl] at g3; exact g3⟩
        simp [hsl] at g2
        simp [ir48_d0, hlt, hix, h53, hw, h33, g2]
def playK (r : (List Int × Int) × Option Nat) : Int := match r.2 with | none => -1 | some k => k
theorem r43n (xs : List Int) (p t : Int) (h : xs.length ≤ 1000) : ownR env 43 [.agg [tl xs, ti p], ti t, .nil] = some (.agg [.ref 0 0 xs.length, .t (ti t)], [.pure 1 (til xs)]) := by
  rw [own_ir e43 _ rfl]
  simp [ir43, ir43_c, clone_til, show xs.length ≤ 68719476736 by omega]
  rw [x43_0]
  simp [ir43_d0, til_flat]
theorem r47 (a : Nat) (b c : Int) (hgd : good a b c = true) (l : List Int) (hl : l.length = 2 * a) (p : Int) (X : T) (vs : List (Int × List Int)) (hX : LW X vs) (hn : vs.length ≤ 2 ^ 40) :
    ∃ v H, ownFR env 47 [.agg [ti a, ti b, ti c], .agg [tl l, ti p], X] = some (.tup [.agg [v, .t (ti (play a b c vs (l, p) 0).1.2)], .t (ti (playK (play a b c vs (l, p) 0)))], H) ∧
      ((play a b c vs (l, p) 0).2 = none → v = .ref 0 0 (2 * a) ∧ H = [.pure 1 (til (play a b c vs (l, p) 0).1.1)]) ∧ (v = .t (.lst 1 (til (play a b c vs (l, p) 0).1.1)) ∧ H = [] ∨ v = .ref 0 0 (2 * a) ∧ H = [.pure 1 (til (play a b c vs (l, p) 0).1.1)]) := by
  have hgo := good_of hgd
  rw [ownF_ir e47 _ rfl]
  have hlen := hX.len
  have h := w47 a b c hgd X vs hX hn vs.length 0 (l, p) (.t (.lst 1 (til l))) [] (by omega) hl (.inl ⟨rfl, rfl⟩)
  rw [List.drop_zero] at h
  have hpl := play_len a b c vs (l, p) 0
  simp only at hpl
  generalize play a b c vs (l, p) 0 = R at *
  unfold playK
  cases hR : R.2 with
  | none =>
    rw [hR] at h
    obtain ⟨bv, ext, h1, h2⟩ := h
    have h44n := r43n R.1.1 R.1.2 R.1.2 (by omega)
    refine ⟨.ref 0 0 (2 * a), [.pure 1 (til R.1.1)], ?_, fun _ => ⟨rfl, rfl⟩, .inr ⟨rfl, rfl⟩⟩
    have htk : R.1.1.take (2 * a) = R.1.1 := List.take_of_length_le (by omega)
    rcases h1 with ⟨rfl, rfl⟩ | ⟨rfl, rfl⟩ <;> simp at h2 <;> simp [ir47, ir47_c, hlen, h2, h44n, htk, hpl, hl]
  | some k =>
    rw [hR] at h
    obtain ⟨bv, ext, h1, fr, H, h2, h3, h4, B, rfl⟩ := h
    rcases h1 with ⟨rfl, rfl⟩ | ⟨rfl, rfl⟩
    · refine ⟨.t (.lst 1 (til R.1.1)), [], ?_, fun h => (by cases h), .inl ⟨rfl, rfl⟩⟩
      simp at h2
      simp [ir47, ir47_c, hlen, h2, h3, h4]
    · refine ⟨.ref 0 0 (2 * a), [.pure 1 (til R.1.1)], ?_, fun h => (by cases h), .inr ⟨rfl, rfl⟩⟩
      simp at h2
      simp [ir47, ir47_c, hlen, h2, h3, h4, hpl, hl]
end Go.Proofs.Ytdgfpjlmpnfcgaa.Ev

