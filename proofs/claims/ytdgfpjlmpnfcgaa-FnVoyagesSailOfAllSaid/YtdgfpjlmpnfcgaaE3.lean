/- The evaluator and what it gives of the functions, part 3. No conditions of ours: a law's row is in YtdgfpjlmpnfcgaaLFnVoyagesSailOfAll. -/
import Derived.Test.YtdgfpjlmpnfcgaaE2
namespace Go.Proofs.Ytdgfpjlmpnfcgaa.Ev
open Go
set_option linter.unusedVariables false
set_option linter.unusedSimpArgs false
set_option linter.unusedSectionVars false
attribute [local simp] til_getE til_length til_get til_drop til_take til_snoc til_fold take_snoc til_set
def idxB (pr : Int → Bool) : Nat → List Int → Int
  | _, [] => -1
  | i, y :: ys => if pr y then i else idxB pr (i + 1) ys
theorem idxB_nonneg (pr : Int → Bool) : ∀ (ys : List Int) (i : Nat), 0 ≤ idxB pr i ys ↔ ys.any pr = true
  | [], i => by simp [idxB]
  | y :: ys, i => by
    simp only [idxB]
    split
    · rename_i h; simp [h]
    · rename_i h; rw [idxB_nonneg pr ys (i + 1)]; simp [h]
theorem w85 (f : FuncId) (caps : List T) (pr : Int → Bool) (g : List Int) (hpr : ∀ x ∈ g, ∀ H, evCall env (den env) f (.t (.int .i64 x) :: caps.map .t) H = some (.t (tb (pr x)), H)) (hg : g.length ≤ 1000000) : ∀ (d i : Nat), i + d = g.length →
    endO [.tmp 4] (andN (outB 0 (loopF env true [0, 1, 7, 8] ir85_b0 ([(0, .t (tl g)), (1, .t (.clo f [] caps)), (7, .t (ti g.length)), (8, .t (ti i))], []))) (execD env (.seq (.reg false [] [⟨some 4, none, .mv (.k (ti (-1)))⟩]) .ret))) = some (.t (ti (idxB pr i (g.drop i))), [])
  | 0, i, hi => by
    rw [x85_0]
    have : i = g.length := by omega
    subst this
    simp [ir85_d0, idxB]
  | d + 1, i, hi => by
    rw [x85_0]
    have hlt : i < g.length := by omega
    have hw : IntKind.i64.wrap ((i : Int) + 1) = (i : Int) + 1 := w76 (by omega)
    have ih := w85 f caps pr g hpr hg d (i + 1) (by omega)
    have hp := hpr g[i] (List.getElem_mem hlt)
    have hs : idxB pr i (g.drop i) = if pr g[i] then (i : Int) else idxB pr (i + 1) (g.drop (i + 1)) := by rw [List.drop_eq_getElem_cons hlt, idxB]
    rw [hs]
    cases h : pr g[i] with
    | true =>
      rw [h] at hp
      simp [ir85_d0, hlt, hw, hp]
    | false =>
      rw [h] at hp
      simp at ih
      simp [ir85_d0, hlt, hw, hp, ih]
theorem r78g (f : FuncId) (caps : List T) (pr : Int → Bool) (g : List Int) (hpr : ∀ x ∈ g, ∀ H, evCall env (den env) f (.t (.int .i64 x) :: caps.map .t) H = some (.t (tb (pr x)), H)) (hg : g.length ≤ 1000000) : ownR env 85 [tl g, .clo f [] caps] = some (.t (ti (idxB pr 0 g)), []) := by
  rw [own_ir e85 _ rfl]
  have hl := w85 f caps pr g hpr hg g.length 0 (by omega)
  simp at hl
  simp [ir85, ir85_c, hl]
theorem r73g (f : FuncId) (caps : List T) (pr : Int → Bool) (g : List Int) (hpr : ∀ x ∈ g, ∀ H, evCall env (den env) f (.t (.int .i64 x) :: caps.map .t) H = some (.t (tb (pr x)), H)) (hg : g.length ≤ 1000000) : ownR env 70 [tl g, .clo f [] caps] = some (.t (tb (g.any pr)), []) := by
  rw [own_ir e70 _ rfl]
  have h : decide (0 ≤ idxB pr 0 g) = g.any pr := by rw [Bool.eq_iff_iff]; simp only [decide_eq_true_eq]; exact idxB_nonneg pr g 0
  simp [ir70, ir70_c, r78g f caps pr g hpr hg, h]
@[simp] theorem r83 (x a b : Int) : ownR env 83 [ti x, .ptr (ti a), .ptr (ti b)] = some (.t (tb (!inB x a b)), []) := by
  rw [own_ir e83 _ rfl]
  cases h : inB x a b <;> simp [ir83, ir83_c, h]
def LN (X : T) (l : List Int) : Prop := (X = .nil ∧ l = []) ∨ X = .lst 1 (til l)
theorem LN.len {X : T} {l : List Int} (h : LN X l) (H : Heap) : evLen H 1 (.t X) = some (l.length : Int) := by
  rcases h with ⟨rfl, rfl⟩ | rfl <;> simp
theorem LN.tl {X : T} {l : List Int} (h : LN X l) (hl : l ≠ []) : X = .lst 1 (til l) := by
  rcases h with ⟨_, rfl⟩ | h
  · exact absurd rfl hl
  · exact h
theorem LN.of (l : List Int) : LN (.lst 1 (til l)) l := .inr rfl
def areB (l : List Int) (a b lo hi : Int) : Bool := inB l.length lo hi && l.all fun x => inB x a b
theorem r65 (X : T) (l : List Int) (hX : LN X l) (a b lo hi : Int) (hlo : 1 ≤ lo) (hhi : hi ≤ 1000) : ownR env 65 [X, ti a, ti b, ti lo, ti hi] = some (.t (tb (areB l a b lo hi)), []) := by
  rw [own_ir e65 _ rfl]
  have hlen := hX.len
  unfold areB
  cases h : inB l.length lo hi with
  | false => simp [ir65, ir65_c, hlen, h]
  | true =>
    rw [inB_iff] at h
    have hne : l ≠ [] := fun e => by subst e; simp at h; omega
    have hXl := hX.tl hne
    subst hXl
    have h73 := r73g 83 [.ptr (ti a), .ptr (ti b)] (fun x => !inB x a b) l (fun x hx H => by simp) (by omega)
    have ha : (l.any fun x => !inB x a b) = !(l.all fun x => inB x a b) := by
      rw [List.all_eq_not_any_not]; simp
    rw [ha] at h73
    have h' : inB l.length lo hi = true := (inB_iff _ _ _).2 h
    cases hl : l.all fun x => inB x a b with
    | true => rw [hl] at h73; simp at h73; simp [ir65, ir65_c, h', h73]
    | false => rw [hl] at h73; simp at h73; simp [ir65, ir65_c, h', h73]
theorem w62 (l : List Int) (a b : Int) (hl : l.length ≤ 1000000) : ∀ (d i : Nat), i + d = l.length →
    endO [.tmp 6] (andN (outB 0 (loopF env true [1, 2, 9, 10, 11] ir62_b0 ([(1, .t (ti a)), (2, .t (ti b)), (9, .t (tl l)), (10, .t (ti l.length)), (11, .t (ti i))], []))) (execD env (.seq (.reg false [] [⟨some 6, none, .mv (.k (tb true))⟩]) .ret))) = some (.t (tb ((l.drop i).all fun x => inB x a b)), [])
  | 0, i, hi => by
    rw [x62_0]
    have : i = l.length := by omega
    subst this
    simp [ir62_d0]
  | d + 1, i, hi => by
    rw [x62_0]
    have hlt : i < l.length := by omega
    have hw : IntKind.i64.wrap ((i : Int) + 1) = (i : Int) + 1 := w76 (by omega)
    have ih := w62 l a b hl d (i + 1) (by omega)
    have hs : (l.drop i).all (fun x => inB x a b) = (inB l[i] a b && (l.drop (i + 1)).all fun x => inB x a b) := by rw [List.drop_eq_getElem_cons hlt]; rfl
    rw [hs]
    generalize (l.drop (i + 1)).all (fun x => inB x a b) = A at *
    simp at ih
    cases h1 : inB l[i] a b with
    | false => simp [ir62_d0, hlt, hw, h1]
    | true => simp [ir62_d0, hlt, hw, h1, ih]
theorem r62 (l : List Int) (a b : Int) (hl : l.length ≤ 1000000) : ownR env 62 [tl l, ti a, ti b] = some (.t (tb (l.all fun x => inB x a b)), []) := by
  rw [own_ir e62 _ rfl]
  have h := w62 l a b hl l.length 0 (by omega)
  simp at h
  simp [ir62, ir62_c, h]
theorem w63 (l : List Int) (y : Int) (hl : l.length ≤ 1000000) : ∀ (d i : Nat), i + d = l.length →
    endO [.tmp 4] (andN (outB 0 (loopF env true [1, 7, 8, 9] ir63_b0 ([(1, .t (ti y)), (7, .t (tl l)), (8, .t (ti l.length)), (9, .t (ti i))], []))) (execD env (.seq (.reg false [] [⟨some 4, none, .mv (.k (tb false))⟩]) .ret))) = some (.t (tb (decide (y ∈ l.drop i))), [])
  | 0, i, hi => by
    rw [x63_0]
    have : i = l.length := by omega
    subst this
    simp [ir63_d0]
  | d + 1, i, hi => by
    rw [x63_0]
    have hlt : i < l.length := by omega
    have hw : IntKind.i64.wrap ((i : Int) + 1) = (i : Int) + 1 := w76 (by omega)
    have ih := w63 l y hl d (i + 1) (by omega)
    have hs : decide (y ∈ l.drop i) = (decide (l[i] = y) || decide (y ∈ l.drop (i + 1))) := by
      have hm : y ∈ l.drop i ↔ l[i] = y ∨ y ∈ l.drop (i + 1) := by rw [List.drop_eq_getElem_cons hlt, List.mem_cons, eq_comm]
      rw [Bool.eq_iff_iff, Bool.or_eq_true, decide_eq_true_eq, decide_eq_true_eq, decide_eq_true_eq, hm]
    rw [hs]
    generalize decide (y ∈ l.drop (i + 1)) = A at *
    simp at ih
    by_cases h1 : l[i] = y
    · simp [ir63_d0, hlt, hw, h1]
    · simp [ir63_d0, hlt, hw, h1, ih]
theorem r63 (l : List Int) (y : Int) (hl : l.length ≤ 1000000) : ownR env 63 [tl l, ti y] = some (.t (tb (decide (y ∈ l))), []) := by
  rw [own_ir e63 _ rfl]
  have h := w63 l y hl l.length 0 (by omega)
  simp at h
  simp [ir63, ir63_c, h]
def riseB (g : List Int) : Bool := (List.range' 1 (g.length - 1)).all fun j => decide (g[j - 1]?.getD 0 < g[j]?.getD 0)
theorem w69 (g : List Int) (hg : g.length ≤ 1000000) : ∀ (d i : Nat), i + d = g.length → 1 ≤ i →
    endO [.tmp 2] (andN (outB 0 (loopF env true [0, 3] ir69_b0 ([(0, .t (tl g)), (3, .t (ti i))], []))) (execD env (.seq (.reg false [] [⟨some 2, none, .mv (.k (tb true))⟩]) .ret))) = some (.t (tb ((List.range' i d).all fun j => decide (g[j - 1]?.getD 0 < g[j]?.getD 0))), [])
  | 0, i, hi, h1 => by
    rw [x69_0]
    simp [ir69_d0, show ¬ (i < g.length) by omega]
  | d + 1, i, hi, h1 => by
    rw [x69_0]
    have hlt : i < g.length := by omega
    have hw : IntKind.i64.wrap ((i : Int) + 1) = (i : Int) + 1 := w76 (by omega)
    have hw2 : IntKind.i64.wrap ((i : Int) - 1) = (i : Int) - 1 := w76 (by omega)
    have ih := w69 g hg d (i + 1) (by omega) (by omega)
    have hr : List.range' i (d + 1) = i :: List.range' (i + 1) d := rfl
    rw [hr, List.all_cons]
    generalize ((List.range' (i + 1) d).all fun j => decide (g[j - 1]?.getD 0 < g[j]?.getD 0)) = R at *
    simp at ih
    have e2001 : ((i : Int) - 1).toNat = i - 1 := by omega
    have e2002 : i - 1 < g.length := by omega
    by_cases h2 : g[i] ≤ g[i - 1]
    · have h3 : ¬ (g[i - 1] < g[i]) := by omega
      simp [ir69_d0, hlt, hw, hw2, e2001, e2002, h2, h3, show (1 : Int) ≤ i by omega]
    · have h3 : g[i - 1] < g[i] := by omega
      simp [ir69_d0, hlt, hw, hw2, e2001, e2002, h2, h3, ih, show (1 : Int) ≤ i by omega]
theorem r69 (g : List Int) (hg : g.length ≤ 1000000) (h0 : g ≠ []) : ownR env 69 [tl g] = some (.t (tb (riseB g)), []) := by
  rw [own_ir e69 _ rfl]
  have hp : 0 < g.length := List.length_pos_iff.2 h0
  have h := w69 g hg (g.length - 1) 1 (by omega) (by omega)
  simp at h
  simp [ir69, ir69_c, h, riseB]
end Go.Proofs.Ytdgfpjlmpnfcgaa.Ev

namespace Go.Proofs.Ytdgfpjlmpnfcgaa.Ev
open Go
set_option linter.unusedVariables false
set_option linter.unusedSimpArgs false
set_option linter.unusedSectionVars false
attribute [local simp] til_getE til_length til_get til_drop til_take til_snoc til_fold take_snoc til_set
def plB (a b c : Int) (l : List Int) (p : Int) : Bool := good a b c && (decide ((l.length : Int) = 2 * a) && ((l.all fun x => inB x 0 (c + 1)) && decide (p ∈ l)))
theorem plB_ok {a : Nat} {b c : Int} {l : List Int} {p : Int} (h : plB a b c l p = true) : good a b c = true ∧ okP a c (l, p) := by
  simp only [plB, Bool.and_eq_true, decide_eq_true_eq, List.all_eq_true, inB_iff] at h
  obtain ⟨h1, h2, h3, h4⟩ := h
  exact ⟨h1, by show l.length = 2 * a; omega, h4, fun y hy => h3 y hy⟩
theorem ok_plB {a : Nat} {b c : Int} {l : List Int} {p : Int} (hg : good a b c = true) (h : okP a c (l, p)) : plB a b c l p = true := by
  simp only [plB, Bool.and_eq_true, decide_eq_true_eq, List.all_eq_true, inB_iff]
  have := h.1
  simp only at this
  exact ⟨hg, by omega, fun y hy => h.2.2 y hy, h.2.1⟩
theorem r39 (a b c : Int) (hgd : good a b c = true) (X : T) (l : List Int) (hX : LN X l) (p : Int) : ownR env 39 [.agg [ti a, ti b, ti c], .agg [X, ti p]] = some (.t (tb (plB a b c l p)), []) := by
  have hgo := good_of hgd
  have h49 := r51 a b c (by omega)
  have h57 := r66 a b c (by omega)
  have h243 := r65 X l hX 0 (c + 1) (2 * a) (2 * a) (by omega) (by omega)
  rw [own_ir e39 _ rfl]
  have hin : inB l.length (2 * a) (2 * a) = decide ((l.length : Int) = 2 * a) := by
    rw [Bool.eq_iff_iff, inB_iff, decide_eq_true_eq]; omega
  unfold areB at h243
  rw [hin] at h243
  unfold plB
  rw [hgd, Bool.true_and]
  by_cases hl : (l.length : Int) = 2 * a
  · have hne : l ≠ [] := fun e => by subst e; simp at hl; omega
    have hXl := hX.tl hne
    subst hXl
    have h72 := r67 l p (by omega)
    cases ha : l.all fun x => inB x 0 (c + 1) with
    | true => simp [hl, ha] at h243; simp [ir39, ir39_c, h49, h57, h243, h72, hl, ha]
    | false => simp [hl, ha] at h243; simp [ir39, ir39_c, h49, h57, h243, hl, ha]
  · simp [hl] at h243
    simp [ir39, ir39_c, h49, h57, h243, hl]
theorem r10 (a b c : Int) (X : T) (l : List Int) (hX : LN X l) (p : Int) : ownR env 10 [.agg [ti a, ti b, ti c], .agg [X, ti p]] = some (.t (tb (plB a b c l p)), []) := by
  rw [own_ir e10 _ rfl]
  cases hgd : good a b c with
  | true => simp [ir10, ir10_c, hgd, r39 a b c hgd X l hX p]
  | false => simp [ir10, ir10_c, hgd, plB]
theorem r36 (a b c : Int) (X : T) (l : List Int) (hX : LN X l) (p : Int) : ownR env 36 [.agg [ti a, ti b, ti c], .agg [X, ti p]] = some (.t (tb (plB a b c l p)), []) := by
  rw [own_ir e36 _ rfl]
  cases hgd : good a b c with
  | false => simp [ir36, ir36_c, hgd, plB]
  | true =>
    have hgo := good_of hgd
    have hlen := hX.len
    have hw1 : IntKind.i64.wrap (c + 1) = c + 1 := w76 (by omega)
    have hw2 : IntKind.i64.wrap (2 * a) = 2 * a := w76 (by omega)
    unfold plB
    rw [hgd, Bool.true_and]
    by_cases hl : (l.length : Int) = 2 * a
    · have hne : l ≠ [] := fun e => by subst e; simp at hl; omega
      have hXl := hX.tl hne
      subst hXl
      have h241 := r62 l 0 (c + 1) (by omega)
      have h242 := r63 l p (by omega)
      cases ha : l.all fun x => inB x 0 (c + 1) with
      | true => rw [ha] at h241; simp [ir36, ir36_c, hgd, hw1, hw2, hl, h241, h242, ha]
      | false => rw [ha] at h241; simp [ir36, ir36_c, hgd, hw1, hw2, hl, h241, ha]
    · simp [ir36, ir36_c, hgd, hw1, hw2, hlen, hl]
theorem r11 (a b c : Int) (X : T) (l : List Int) (hX : LN X l) (p : Int) : ownR env 11 [.agg [ti a, ti b, ti c], .agg [X, ti p]] = some (.t (tb (plB a b c l p)), []) := by
  rw [own_ir e11 _ rfl]
  simp [ir11, ir11_c, r36 a b c X l hX p]
@[simp] theorem r13 (a b c : Int) : ownR env 13 [.agg [ti a, ti b, ti c]] = some (.t (tb (good a b c)), []) := by
  rw [own_ir e13 _ rfl]
  simp [ir13, ir13_c]
def askB (a b c : Int) (l : List Int) (p : Int) : Bool := plB a b c l p && calmS a.toNat c l
theorem plB_list {a b c : Int} {X : T} {l : List Int} (hX : LN X l) {p : Int} (h : plB a b c l p = true) : X = .lst 1 (til l) ∧ good a b c = true ∧ (l.length : Int) = 2 * a := by
  simp only [plB, Bool.and_eq_true, decide_eq_true_eq] at h
  obtain ⟨h1, h2, h3, h4⟩ := h
  exact ⟨hX.tl (fun e => by subst e; cases h4), h1, h2⟩
theorem r31 (a b c : Int) (X : T) (l : List Int) (hX : LN X l) (p : Int) : ownR env 31 [.agg [ti a, ti b, ti c], .agg [X, ti p]] = some (.t (tb (askB a b c l p)), []) := by
  rw [own_ir e31 _ rfl]
  have h207 := r10 a b c X l hX p
  unfold askB
  cases h : plB a b c l p with
  | false => simp [ir31, ir31_c, h207, h]
  | true =>
    obtain ⟨rfl, hgd, hl⟩ := plB_list hX h
    have hgo := good_of hgd
    have h62 := r35 a b c (by omega) p l (by omega)
    rw [calm_eq a.toNat (by omega) c l (by omega)] at h62
    simp [ir31, ir31_c, h207, h, h62]
theorem r33 (a b c : Int) (X : T) (l : List Int) (hX : LN X l) (p : Int) : ownR env 33 [.agg [ti a, ti b, ti c], .agg [X, ti p]] = some (.t (tb (askB a b c l p)), []) := by
  rw [own_ir e33 _ rfl]
  have h229 := r36 a b c X l hX p
  unfold askB
  cases h : plB a b c l p with
  | false => simp [ir33, ir33_c, h229, h]
  | true =>
    obtain ⟨rfl, hgd, hl⟩ := plB_list hX h
    have hgo := good_of hgd
    obtain ⟨k, rfl⟩ : ∃ k : Nat, a = k := ⟨a.toNat, by omega⟩
    have h68 := r37 k (by omega) b c (by omega) p l (by omega)
    simp [ir33, ir33_c, h229, h, h68]
theorem r7 (a b c : Int) (X : T) (l : List Int) (hX : LN X l) (p : Int) : ownR env 7 [.agg [ti a, ti b, ti c], .agg [X, ti p]] = some (.tup [.t (tb (askB a b c l p)), .t (tb (plB a b c l p))], []) := by
  rw [own_ir e7 _ rfl]
  have h207 := r10 a b c X l hX p
  unfold askB
  cases h : plB a b c l p with
  | false => simp [ir7, ir7_c, h207, h]
  | true =>
    obtain ⟨rfl, hgd, hl⟩ := plB_list hX h
    have hgo := good_of hgd
    have h62 := r35 a b c (by omega) p l (by omega)
    rw [calm_eq a.toNat (by omega) c l (by omega)] at h62
    simp [ir7, ir7_c, h207, h, h62]
theorem r8 (a b c : Int) (X : T) (l : List Int) (hX : LN X l) (p : Int) : ownR env 8 [.agg [ti a, ti b, ti c], .agg [X, ti p]] = some (.tup [.t (tb (askB a b c l p)), .t (tb (plB a b c l p))], []) := by
  rw [own_ir e8 _ rfl]
  have h229 := r36 a b c X l hX p
  unfold askB
  cases h : plB a b c l p with
  | false => simp [ir8, ir8_c, h229, h]
  | true =>
    obtain ⟨rfl, hgd, hl⟩ := plB_list hX h
    have hgo := good_of hgd
    obtain ⟨k, rfl⟩ : ∃ k : Nat, a = k := ⟨a.toNat, by omega⟩
    have h68 := r37 k (by omega) b c (by omega) p l (by omega)
    simp [ir8, ir8_c, h229, h, h68]
end Go.Proofs.Ytdgfpjlmpnfcgaa.Ev

namespace Go.Proofs.Ytdgfpjlmpnfcgaa.Ev
open Go
set_option linter.unusedVariables false
set_option linter.unusedSimpArgs false
set_option linter.unusedSectionVars false
attribute [local simp] til_getE til_length til_get til_drop til_take til_snoc til_fold take_snoc til_set
theorem LN.ix {X : T} {l : List Int} (h : LN X l) (H : Heap) (i : Nat) (hi : i < l.length) : evIxa H 1 (.t X) (.t (.int .i64 i)) = some (.rptr (.int .i64 l[i]) 0) := by
  rcases h with ⟨rfl, rfl⟩ | rfl
  · simp at hi
  · simp [hi]
theorem w44 (X Y : T) (l m : List Int) (hX : LN X l) (hY : LN Y m) (hlm : l.length = m.length) (hl : l.length ≤ 2 ^ 40) : ∀ (d i : Nat), i + d = l.length →
    endO [.tmp 4] (andN (outB 0 (loopF env true [0, 1, 12, 13] ir44_b0 ([(0, .t X), (1, .t Y), (12, .t (ti l.length)), (13, .t (ti i))], []))) (execD env (.seq (.reg false [] [⟨some 4, none, .mv (.k (tb true))⟩]) .ret))) = some (.t (tb (decide (l.drop i = m.drop i))), [])
  | 0, i, hi => by
    rw [x44_0]
    have : i = l.length := by omega
    subst this
    have : m.drop l.length = [] := by rw [hlm]; simp
    simp [ir44_d0, this]
  | d + 1, i, hi => by
    rw [x44_0]
    have hlt : i < l.length := by omega
    have hltm : i < m.length := by omega
    have hw : IntKind.i64.wrap ((i : Int) + 1) = (i : Int) + 1 := w76 (by omega)
    have ih := w44 X Y l m hX hY hlm hl d (i + 1) (by omega)
    have hs : decide (l.drop i = m.drop i) = (decide (l[i] = m[i]) && decide (l.drop (i + 1) = m.drop (i + 1))) := by
      rw [List.drop_eq_getElem_cons hlt, List.drop_eq_getElem_cons hltm, Bool.eq_iff_iff, Bool.and_eq_true, decide_eq_true_eq, decide_eq_true_eq, decide_eq_true_eq, List.cons.injEq]
    rw [hs]
    have hxi := fun H => hX.ix H i hlt
    have hyi := fun H => hY.ix H i hltm
    generalize decide (l.drop (i + 1) = m.drop (i + 1)) = A at *
    simp at ih
    by_cases h : l[i] = m[i]
    · simp [ir44_d0, hlt, hw, hxi, hyi, h, ih]
    · simp [ir44_d0, hlt, hw, hxi, hyi, h]
theorem r44 (X Y : T) (l m : List Int) (hX : LN X l) (hY : LN Y m) (hl : l.length ≤ 2 ^ 40) : ownR env 44 [X, Y] = some (.t (tb (decide (l = m))), []) := by
  rw [own_ir e44 _ rfl]
  have h1 := hX.len
  have h2 := hY.len
  by_cases hlm : l.length = m.length
  · have h := w44 X Y l m hX hY hlm hl l.length 0 (by omega)
    simp at h
    simp [ir44, ir44_c, h1, h2, hlm] at h ⊢
    simp [h]
  · have hne : ¬ (l = m) := fun e => hlm (by rw [e])
    have hne2 : ¬ ((l.length : Int) = m.length) := by omega
    have hd : decide ((l.length : Int) = m.length) = false := decide_eq_false hne2
    simp [ir44, ir44_c, h1, h2, hne, hd]
theorem r15 (X Y : T) (l m : List Int) (hX : LN X l) (hY : LN Y m) (hl : l.length ≤ 2 ^ 40) (p q : Int) : ownR env 15 [.agg [X, ti p], .agg [Y, ti q]] = some (.t (tb (decide (p = q) && decide (l = m))), []) := by
  rw [own_ir e15 _ rfl]
  have h := r44 X Y l m hX hY hl
  by_cases hp : p = q
  · subst hp
    generalize decide (l = m) = A at *
    rcases hX with ⟨rfl, rfl⟩ | rfl <;> rcases hY with ⟨rfl, rfl⟩ | rfl <;> simp [ir15, ir15_c, h]
  · simp [ir15, ir15_c, hp]
theorem r38 (X Y : T) (l m : List Int) (hX : LN X l) (hY : LN Y m) (hl : l.length ≤ 2 ^ 40) (p q : Int) : ownR env 38 [.agg [ti p, X], .agg [ti q, Y]] = some (.t (tb (decide (p = q) && decide (l = m))), []) := by
  rw [own_ir e38 _ rfl]
  have h := r44 X Y l m hX hY hl
  by_cases hp : p = q
  · subst hp
    generalize decide (l = m) = A at *
    rcases hX with ⟨rfl, rfl⟩ | rfl <;> rcases hY with ⟨rfl, rfl⟩ | rfl <;> simp [ir38, ir38_c, h]
  · simp [ir38, ir38_c, hp]
def LV (X : T) (vs : List (Int × List Int)) : Prop := (X = .nil ∧ vs = []) ∨ X = .lst 2 (tlv vs)
theorem LV.len {X : T} {vs : List (Int × List Int)} (h : LV X vs) (H : Heap) : evLen H 1 (.t X) = some (vs.length : Int) := by
  rcases h with ⟨rfl, rfl⟩ | rfl <;> simp [tlv_length]
theorem LV.ix {X : T} {vs : List (Int × List Int)} (h : LV X vs) (H : Heap) (i : Nat) (hi : i < vs.length) : evIxa H 2 (.t X) (.t (.int .i64 i)) = some (.rptr (.agg [.int .i64 vs[i].1, .lst 1 (til vs[i].2)]) 0) := by
  rcases h with ⟨rfl, rfl⟩ | rfl
  · simp at hi
  · simp [hi, tlv_length, tlv_getE]
theorem w9 (X Y : T) (vs us : List (Int × List Int)) (hX : LV X vs) (hY : LV Y us) (hlm : vs.length = us.length) (hl : vs.length ≤ 2 ^ 40) (hg : ∀ v ∈ vs, v.2.length ≤ 2 ^ 40) : ∀ (d i : Nat), i + d = vs.length →
    endO [.tmp 4] (andN (outB 0 (loopF env true [0, 1, 12, 13] ir9_b0 ([(0, .t X), (1, .t Y), (12, .t (ti vs.length)), (13, .t (ti i))], []))) (execD env (.seq (.reg false [] [⟨some 4, none, .mv (.k (tb true))⟩]) .ret))) = some (.t (tb (decide (vs.drop i = us.drop i))), [])
  | 0, i, hi => by
    rw [x9_0]
    have : i = vs.length := by omega
    subst this
    have : us.drop vs.length = [] := by rw [hlm]; simp
    simp [ir9_d0, this]
  | d + 1, i, hi => by
    rw [x9_0]
    have hlt : i < vs.length := by omega
    have hltm : i < us.length := by omega
    have hw : IntKind.i64.wrap ((i : Int) + 1) = (i : Int) + 1 := w76 (by omega)
    have ih := w9 X Y vs us hX hY hlm hl hg d (i + 1) (by omega)
    have hs : decide (vs.drop i = us.drop i) = ((decide (vs[i].1 = us[i].1) && decide (vs[i].2 = us[i].2)) && decide (vs.drop (i + 1) = us.drop (i + 1))) := by
      rw [List.drop_eq_getElem_cons hlt, List.drop_eq_getElem_cons hltm, Bool.eq_iff_iff, Bool.and_eq_true, Bool.and_eq_true, decide_eq_true_eq, decide_eq_true_eq, decide_eq_true_eq, decide_eq_true_eq, List.cons.injEq, Prod.ext_iff]
    rw [hs]
    have hxi := fun H => hX.ix H i hlt
    have hyi := fun H => hY.ix H i hltm
    have h230 := r38 _ _ vs[i].2 us[i].2 (LN.of _) (LN.of _) (hg _ (List.getElem_mem hlt)) vs[i].1 us[i].1
    generalize decide (vs.drop (i + 1) = us.drop (i + 1)) = A at *
    generalize (decide (vs[i].1 = us[i].1) && decide (vs[i].2 = us[i].2)) = B at *
    simp at ih
    cases B with
    | true => simp [ir9_d0, hlt, hw, hxi, hyi, h230, ih]
    | false => simp [ir9_d0, hlt, hw, hxi, hyi, h230]
theorem r9 (X Y : T) (vs us : List (Int × List Int)) (hX : LV X vs) (hY : LV Y us) (hl : vs.length ≤ 2 ^ 40) (hg : ∀ v ∈ vs, v.2.length ≤ 2 ^ 40) : ownR env 9 [X, Y] = some (.t (tb (decide (vs = us))), []) := by
  rw [own_ir e9 _ rfl]
  have h1 := hX.len
  have h2 := hY.len
  by_cases hlm : vs.length = us.length
  · have h := w9 X Y vs us hX hY hlm hl hg vs.length 0 (by omega)
    simp at h
    simp [ir9, ir9_c, h1, h2, hlm] at h ⊢
    simp [h]
  · have hne : ¬ (vs = us) := fun e => hlm (by rw [e])
    have hne2 : ¬ ((vs.length : Int) = us.length) := by omega
    have hd : decide ((vs.length : Int) = us.length) = false := decide_eq_false hne2
    simp [ir9, ir9_c, h1, h2, hne, hd]
end Go.Proofs.Ytdgfpjlmpnfcgaa.Ev

namespace Go.Proofs.Ytdgfpjlmpnfcgaa.Ev
open Go
set_option linter.unusedVariables false
set_option linter.unusedSimpArgs false
set_option linter.unusedSectionVars false
attribute [local simp] til_getE til_length til_get til_drop til_take til_snoc til_fold take_snoc til_set
theorem r71 (l : List Int) (p : Int) (k : Int) (hk : 0 ≤ k ∧ k < l.length) : ownR env 71 [ti k, .ptr (.agg [tl l, ti p])] = some (.t (tb (!decide (l[k.toNat]?.getD 0 = p))), []) := by
  rw [own_ir e71 _ rfl]
  obtain ⟨n, rfl⟩ : ∃ n : Nat, k = n := ⟨k.toNat, by omega⟩
  have hn : n < l.length := by omega
  have h1 : l[n]?.getD 0 = l[n] := by simp [hn]
  simp only [Int.toNat_natCast, h1]
  by_cases h : l[n] = p <;> simp [ir71, ir71_c, hn, h]
theorem rises_eq (lo hi : Int) (g : List Int) : risesB lo hi g = (g.all (fun x => inB x lo hi) && riseB g) := by
  unfold risesB riseB
  congr 1
  rw [Bool.eq_iff_iff, List.all_eq_true, List.all_eq_true]
  constructor
  · intro h j hj
    rw [List.mem_range'_1] at hj
    have := h j (by rw [List.mem_range'_1]; omega)
    simp only [Bool.or_eq_true, decide_eq_true_eq] at this
    rcases this with h0 | h0
    · omega
    · simpa using h0
  · intro h j hj
    rw [List.mem_range'_1] at hj
    rcases Nat.eq_zero_or_pos j with h0 | h0
    · simp [h0]
    · have := h j (by rw [List.mem_range'_1]; omega)
      rw [this]; simp
theorem r42 (a : Nat) (b c : Int) (hgd : good a b c = true) (l : List Int) (hl : l.length = 2 * a) (p t : Int) (G : T) (g : List Int) (hG : LN G g) : ownR env 42 [.agg [ti a, ti b, ti c], .agg [tl l, ti p], .agg [ti t, G]] = some (.t (tb (canB a b c l p t g)), []) := by
  have hgo := good_of hgd
  have h49 := r51 a b c (by omega)
  have h57 := r66 a b c (by omega)
  have hw : IntKind.i64.wrap (2 * (a : Int) - 1) = 2 * (a : Int) - 1 := w76 (by omega)
  have h243 := r65 G g hG 0 (2 * (a : Int) - 1) 1 b (by omega) (by omega)
  have e1000 : ((l.length : Int) - 1) = 2 * (a : Int) - 1 := by omega
  have hc0 : canB a b c l p t g = (inB t 0 (c + 1) && (!decide (t = p) && (areB g 0 (2 * (a : Int) - 1) 1 b && (riseB g && (atB l p g && (cuB a (bitsI g 0) && calmS a c (setAll t g l))))))) := by
    unfold canB areB
    rw [rises_eq, e1000]
    simp only [Bool.and_assoc]
  rw [hc0, own_ir e42 _ rfl]
  cases h1 : inB t 0 (c + 1) with
  | false => simp [ir42, ir42_c, h49, h1]
  | true =>
    by_cases h2 : t = p
    · subst h2
      simp [ir42, ir42_c, h49, h1]
    · cases h3 : areB g 0 (2 * (a : Int) - 1) 1 b with
      | false => rw [h3] at h243; rcases hG with ⟨rfl, rfl⟩ | rfl <;> simp [ir42, ir42_c, h49, h1, h2, h57, hw, h243]
      | true =>
        rw [h3] at h243
        unfold areB at h3
        rw [Bool.and_eq_true, inB_iff, List.all_eq_true] at h3
        have hne : g ≠ [] := fun e => by subst e; simp at h3
        have hGl := hG.tl hne
        subst hGl
        have hin : ∀ k ∈ g, 0 ≤ k ∧ k < l.length := fun k hk => by
          have := (inB_iff _ _ _).1 (h3.2 k hk); omega
        have h244 := r69 g (by omega) hne
        cases h4 : riseB g with
        | false => rw [h4] at h244; simp [ir42, ir42_c, h49, h1, h2, h57, hw, h243, h244]
        | true =>
          rw [h4] at h244
          have h73 := r73g 71 [.ptr (.agg [tl l, ti p])] (fun k => !decide (l[k.toNat]?.getD 0 = p)) g (fun x hx H => by simp [r71 l p x (hin x hx)]) (by omega)
          have hat : (g.any fun k => !decide (l[k.toNat]?.getD 0 = p)) = !(atB l p g) := by
            unfold atB
            rw [List.all_eq_not_any_not]; simp
          rw [hat] at h73
          have h61 := r60 g (by omega)
          rw [group_calm a (by omega) g (fun x hx => by have := hin x hx; omega)] at h61
          have h44 := r43 l g p t (by omega) (by omega) hin
          have hsl := setAll_length t g l
          have h62 := r35 a b c (by omega) t (setAll t g l) (by omega)
          rw [calm_eq a (by omega) c _ (by omega)] at h62
          have htk : (setAll t g l).take l.length = setAll t g l := List.take_of_length_le (by omega)
          generalize setAll t g l = L at *
          cases h5 : atB l p g with
          | false => rw [h5] at h73; simp at h73; simp [ir42, ir42_c, h49, h1, h2, h57, hw, h243, h244, h73]
          | true =>
            rw [h5] at h73
            simp at h73
            cases h6 : cuB a (bitsI g 0) with
            | false => rw [h6] at h61; simp [ir42, ir42_c, h49, h1, h2, h57, hw, h243, h244, h73, h61]
            | true => rw [h6] at h61; simp [ir42, ir42_c, h49, h1, h2, h57, hw, h243, h244, h73, h61, h44, htk, h62]
end Go.Proofs.Ytdgfpjlmpnfcgaa.Ev

namespace Go.Proofs.Ytdgfpjlmpnfcgaa.Ev
open Go
set_option linter.unusedVariables false
set_option linter.unusedSimpArgs false
set_option linter.unusedSectionVars false
attribute [local simp] til_getE til_length til_get til_drop til_take til_snoc til_fold take_snoc til_set
theorem r45n (a : Nat) (b c : Int) (hgd : good a b c = true) (l : List Int) (hl : l.length = 2 * a) (p t : Int) (G : T) (g : List Int) (hG : LN G g) : ownR env 45 [.agg [ti a, ti b, ti c], .agg [tl l, ti p], .agg [ti t, G]] = some (.t (tb (canB a b c l p t g)), []) := by
  have hgo := good_of hgd
  cases hn : inB g.length 1 b with
  | true =>
    have hn' := (inB_iff _ _ _).1 hn
    have hne : g ≠ [] := fun e => by subst e; simp at hn'
    have := hG.tl hne
    subst this
    exact r45 a b c hgd l hl p t g (by omega)
  | false =>
    have hf : canB a b c l p t g = false := by unfold canB; rw [hn]; simp
    have hw1 : IntKind.i64.wrap (c + 1) = c + 1 := w76 (by omega)
    have hlen := hG.len
    rw [hf, own_ir e45 _ rfl]
    cases h1 : inB t 0 (c + 1) with
    | false => simp [ir45, ir45_c, hw1, h1]
    | true =>
      by_cases h2 : t = p
      · subst h2; simp [ir45, ir45_c, hw1, h1]
      · simp [ir45, ir45_c, hw1, h1, h2, hlen, hn]
def sailR (ok : Bool) (n : Nat) (L : List Int) (t : Int) : Option (V × Heap) := if ok then some (.tup [.agg [.ref 0 0 n, .t (ti t)], .t (tb true)], [.pure 1 (til L)]) else some (.tup [.agg [.t .nil, .t (ti 0)], .t (tb false)], [])
theorem can_in {a : Nat} {b c : Int} {l : List Int} {p t : Int} {g : List Int} (hb : b ≤ 3) (h : canB a b c l p t g = true) : g ≠ [] ∧ g.length ≤ 3 ∧ ∀ k ∈ g, 0 ≤ k ∧ k < l.length := by
  simp only [canB, Bool.and_eq_true, inB_iff] at h
  obtain ⟨⟨⟨⟨⟨⟨h1, h2⟩, h3⟩, h4⟩, h5⟩, h6⟩, h7⟩ := h
  have hin := risesB_in h4
  exact ⟨fun e => by subst e; simp at h3, by omega, fun k hk => by have := hin k hk; omega⟩
theorem r14 (a b c : Int) (X : T) (l : List Int) (hX : LN X l) (p t : Int) (G : T) (g : List Int) (hG : LN G g) : ownR env 14 [.agg [ti a, ti b, ti c], .agg [X, ti p], .agg [ti t, G]] = sailR (askB a b c l p && canB a.toNat b c l p t g) l.length (setAll t g l) t := by
  rw [own_ir e14 _ rfl]
  have h227 := r31 a b c X l hX p
  cases ha : askB a b c l p with
  | false => rw [ha] at h227; simp [ir14, ir14_c, h227, sailR]
  | true =>
    rw [ha] at h227
    have hpl : plB a b c l p = true := by unfold askB at ha; rw [Bool.and_eq_true] at ha; exact ha.1
    obtain ⟨rfl, hgd, hl⟩ := plB_list hX hpl
    have hgo := good_of hgd
    obtain ⟨k, rfl⟩ : ∃ k : Nat, a = k := ⟨a.toNat, by omega⟩
    have h232 := r42 k b c hgd l (by omega) p t G g hG
    rw [Int.toNat_natCast, Bool.true_and]
    cases hc : canB k b c l p t g with
    | false => rw [hc] at h232; rcases hG with ⟨rfl, rfl⟩ | rfl <;> simp [ir14, ir14_c, h227, h232, sailR]
    | true =>
      rw [hc] at h232
      obtain ⟨hne, hg3, hin⟩ := can_in (by omega) hc
      have := hG.tl hne
      subst this
      have h44 := r43 l g p t (by omega) (by omega) hin
      simp [ir14, ir14_c, h227, h232, h44, sailR, til_flat]
theorem r17 (a b c : Int) (X : T) (l : List Int) (hX : LN X l) (p t : Int) (G : T) (g : List Int) (hG : LN G g) : ownR env 17 [.agg [ti a, ti b, ti c], .agg [X, ti p], .agg [ti t, G]] = sailR (askB a b c l p && canB a.toNat b c l p t g) l.length (setAll t g l) t := by
  rw [own_ir e17 _ rfl]
  have h228 := r33 a b c X l hX p
  cases ha : askB a b c l p with
  | false => rw [ha] at h228; simp [ir17, ir17_c, h228, sailR]
  | true =>
    rw [ha] at h228
    have hpl : plB a b c l p = true := by unfold askB at ha; rw [Bool.and_eq_true] at ha; exact ha.1
    obtain ⟨rfl, hgd, hl⟩ := plB_list hX hpl
    have hgo := good_of hgd
    obtain ⟨k, rfl⟩ : ∃ k : Nat, a = k := ⟨a.toNat, by omega⟩
    have h53 := r45n k b c hgd l (by omega) p t G g hG
    rw [Int.toNat_natCast, Bool.true_and]
    cases hc : canB k b c l p t g with
    | false => rw [hc] at h53; rcases hG with ⟨rfl, rfl⟩ | rfl <;> simp [ir17, ir17_c, h228, h53, sailR]
    | true =>
      rw [hc] at h53
      obtain ⟨hne, hg3, hin⟩ := can_in (by omega) hc
      have := hG.tl hne
      subst this
      have h33 := r46 l g p t (by omega) (by omega) hin
      simp [ir17, ir17_c, h228, h53, h33, sailR, til_flat]
theorem r5 (a b c : Int) (X : T) (l : List Int) (hX : LN X l) (p : Int) : ownFR env 5 [.agg [ti a, ti b, ti c], .agg [X, ti p]] = if askB a b c l p then some (.tup [.ref 0 0 (voysAll a.toNat b c (l, p)).length, .t (tb true)], [.pure 2 (tlv (voysAll a.toNat b c (l, p)))]) else some (.tup [.t .nil, .t (tb false)], []) := by
  rw [ownF_ir e5 _ rfl]
  have h227 := r31 a b c X l hX p
  cases ha : askB a b c l p with
  | false => rw [ha] at h227; simp [ir5, ir5_c, h227]
  | true =>
    rw [ha] at h227
    have hpl : plB a b c l p = true := by unfold askB at ha; rw [Bool.and_eq_true] at ha; exact ha.1
    obtain ⟨rfl, hgd, hl⟩ := plB_list hX hpl
    have hgo := good_of hgd
    obtain ⟨k, rfl⟩ : ∃ k : Nat, a = k := ⟨a.toNat, by omega⟩
    have h43 := r32 k b c (by omega) (by omega) l (by omega) p
    rw [show voysP b c l p 0 (c + 2).toNat = voysAll k b c (l, p) from voys_eq k b c hgd (l, p) (plB_ok hpl).2] at h43
    rw [Int.toNat_natCast]
    simp [ir5, ir5_c, h227, h43]
theorem r6 (a b c : Int) (X : T) (l : List Int) (hX : LN X l) (p : Int) : ∃ Y, LV Y (if askB a b c l p then voysAll a.toNat b c (l, p) else []) ∧ (ownFR env 6 [.agg [ti a, ti b, ti c], .agg [X, ti p]] = some (.tup [.t .nil, .t (tb (askB a b c l p))], []) ∧ Y = .nil ∨
    ownFR env 6 [.agg [ti a, ti b, ti c], .agg [X, ti p]] = some (.tup [.ref 0 0 (voysAll a.toNat b c (l, p)).length, .t (tb (askB a b c l p))], [.pure 2 (tlv (voysAll a.toNat b c (l, p)))]) ∧ Y = .lst 2 (tlv (voysAll a.toNat b c (l, p)))) := by
  rw [ownF_ir e6 _ rfl]
  have h228 := r33 a b c X l hX p
  cases ha : askB a b c l p with
  | false =>
    rw [ha] at h228
    refine ⟨.nil, .inl ⟨rfl, by simp⟩, .inl ⟨?_, rfl⟩⟩
    simp [ir6, ir6_c, h228]
  | true =>
    rw [ha] at h228
    have hpl : plB a b c l p = true := by unfold askB at ha; rw [Bool.and_eq_true] at ha; exact ha.1
    obtain ⟨rfl, hgd, hl⟩ := plB_list hX hpl
    have hgo := good_of hgd
    obtain ⟨k, rfl⟩ : ∃ k : Nat, a = k := ⟨a.toNat, by omega⟩
    have hp := (plB_ok hpl).2.2.1
    have h32 := r34 k b c hgd l (by omega) p hp
    rw [Int.toNat_natCast]
    rcases h32 with ⟨h1, h2⟩ | h1
    · refine ⟨.nil, .inl ⟨rfl, ?_⟩, .inl ⟨?_, rfl⟩⟩
      · simp only [if_true]; exact h2
      · simp [ir6, ir6_c, h228, h1]
    · refine ⟨.lst 2 (tlv (voysAll k b c (l, p))), .inr rfl, .inr ⟨?_, rfl⟩⟩
      have h1' : ownFR env 34 [.agg [ti k, ti b, ti c], .agg [tl l, ti p]] = some (.ref 0 0 (voysAll k b c (l, p)).length, [.pure 2 (tlv (voysAll k b c (l, p)))]) := h1
      simp [ir6, ir6_c, h228, h1']
end Go.Proofs.Ytdgfpjlmpnfcgaa.Ev

namespace Go.Proofs.Ytdgfpjlmpnfcgaa.Ev
open Go
set_option linter.unusedVariables false
set_option linter.unusedSimpArgs false
set_option linter.unusedSectionVars false
attribute [local simp] til_getE til_length til_get til_drop til_take til_snoc til_fold take_snoc til_set
def LW (X : T) (vs : List (Int × List Int)) : Prop := (X = .nil ∧ vs = []) ∨ ∃ ts : List T, X = .lst 2 ts ∧ ts.length = vs.length ∧ ∀ (i : Nat) (h : i < vs.length), ∃ G, ts[i]? = some (.agg [.int .i64 vs[i].1, G]) ∧ LN G vs[i].2
theorem LW.len {X : T} {vs : List (Int × List Int)} (h : LW X vs) (H : Heap) : evLen H 1 (.t X) = some (vs.length : Int) := by
  rcases h with ⟨rfl, rfl⟩ | ⟨ts, rfl, hl, _⟩ <;> simp [*]
theorem LW.ix {X : T} {vs : List (Int × List Int)} (h : LW X vs) (i : Nat) (hi : i < vs.length) : ∃ G, LN G vs[i].2 ∧ ∀ H, evIxa H 2 (.t X) (.t (.int .i64 i)) = some (.rptr (.agg [.int .i64 vs[i].1, G]) 0) := by
  rcases h with ⟨rfl, rfl⟩ | ⟨ts, rfl, hl, hg⟩
  · simp at hi
  · obtain ⟨G, h1, h2⟩ := hg i hi
    have hlt : i < ts.length := by omega
    have h3 : ts[i] = .agg [.int .i64 vs[i].1, G] := by rw [List.getElem?_eq_getElem hlt] at h1; exact Option.some.inj h1
    exact ⟨G, h2, fun H => by simp [hlt, h3]⟩
def play (a : Nat) (b c : Int) : List (Int × List Int) → List Int × Int → Nat → (List Int × Int) × Option Nat
  | [], x, _ => (x, none)
  | v :: vs, x, i => if canB a b c x.1 x.2 v.1 v.2 then play a b c vs (setAll v.1 v.2 x.1, v.1) (i + 1) else (x, some i)
theorem play_len (a : Nat) (b c : Int) : ∀ (vs : List (Int × List Int)) (x : List Int × Int) (i : Nat), (play a b c vs x i).1.1.length = x.1.length
  | [], x, i => rfl
  | v :: vs, x, i => by
    rw [play]
    split
    · rw [play_len a b c vs]; simp [setAll_length]
    · rfl
def RetS (r : Option Out) (Q : Fr → Heap → Prop) : Prop := ∃ fr H, r = some (.ret, fr, H) ∧ Q fr H
@[simp] theorem retS_some (fr : Fr) (H : Heap) (Q : Fr → Heap → Prop) : RetS (some (.ret, fr, H)) Q ↔ Q fr H := by
  constructor
  · rintro ⟨_, _, h, hq⟩; cases h; exact hq
  · exact fun h => ⟨_, _, rfl, h⟩
def Shp (bv : V) (ext : Heap) (l : List Int) : Prop := (bv = .t (.lst 1 (til l)) ∧ ext = []) ∨ (bv = .ref 3 0 l.length ∧ ext = [.pure 1 (til l)])
theorem w47 (a : Nat) (b c : Int) (hgd : good a b c = true) (X : T) (vs : List (Int × List Int)) (hX : LW X vs) (hn : vs.length ≤ 2 ^ 40) : ∀ (d i : Nat) (x : List Int × Int) (bv : V) (ext : Heap), i + d = vs.length → x.1.length = 2 * a → Shp bv ext x.1 →
    match (play a b c (vs.drop i) x i).2 with
    | none => ∃ bv' ext', Shp bv' ext' (play a b c (vs.drop i) x i).1.1 ∧ loopF env true [3, 4, 6, 10, 11, 12] ir47_b0 ([(3, .ptr 0 0 0), (4, .ptr 1 0 0), (6, .ptr 2 0 0), (10, .t X), (11, .t (ti vs.length)), (12, .t (ti i))], [.box 3 [.t (ti a), .t (ti b), .t (ti c)], .box 2 [bv, .t (ti x.2)], .box 2 [.t .nil, .t (ti 0)]] ++ ext) =
        some (.exit 0, [(3, .ptr 0 0 0), (4, .ptr 1 0 0), (6, .ptr 2 0 0), (10, .t X), (11, .t (ti vs.length)), (12, .t (ti vs.length)), (13, .t (tb false))], [.box 3 [.t (ti a), .t (ti b), .t (ti c)], .box 2 [bv', .t (ti (play a b c (vs.drop i) x i).1.2)], .box 2 [.t .nil, .t (ti 0)]] ++ ext')
    | some k => ∃ bv' ext', Shp bv' ext' (play a b c (vs.drop i) x i).1.1 ∧ RetS (loopF env true [3, 4, 6, 10, 11, 12] ir47_b0 ([(3, .ptr 0 0 0), (4, .ptr 1 0 0), (6, .ptr 2 0 0), (10, .t X), (11, .t (ti vs.length)), (12, .t (ti i))], [.box 3 [.t (ti a), .t (ti b), .t (ti c)], .box 2 [bv, .t (ti x.2)], .box 2 [.t .nil, .t (ti 0)]] ++ ext))
        (fun fr H => fr.get 6 = .ptr 2 0 0 ∧ fr.get 7 = .t (ti k) ∧ ∃ B, H = [.box 3 [.t (ti a), .t (ti b), .t (ti c)], .box 2 [bv', .t (ti (play a b c (vs.drop i) x i).1.2)], .box 2 [bv', .t (ti (play a b c (vs.drop i) x i).1.2)]] ++ ext' ++ [B])
  | 0, i, x, bv, ext, hi, hx, hs => by
    have : i = vs.length := by omega
    subst this
    rw [x47_0]
    simp only [List.drop_length, play]
    refine ⟨bv, ext, hs, ?_⟩
    rcases hs with ⟨rfl, rfl⟩ | ⟨rfl, rfl⟩ <;> simp [ir47_d0]
  | d + 1, i, x, bv, ext, hi, hx, hs => by
    rw [x47_0]
    have hgo := good_of hgd
    have hlt : i < vs.length := by omega
    have hw : IntKind.i64.wrap ((i : Int) + 1) = (i : Int) + 1 := w76 (by omega)
    obtain ⟨G, hG, hix⟩ := hX.ix i hlt
    have h232 := r42 a b c hgd x.1 hx x.2 vs[i].1 G vs[i].2 hG
    have hp : play a b c (vs.drop i) x i = if canB a b c x.1 x.2 vs[i].1 vs[i].2 then play a b c (vs.drop (i + 1)) (setAll vs[i].1 vs[i].2 x.1, vs[i].1) (i + 1) else (x, some i) := by
      rw [List.drop_eq_getElem_cons hlt, play]
    have htk : x.1.take x.1.length = x.1 := List.take_length
    rw [hp]
    cases hc : canB a b c x.1 x.2 vs[i].1 vs[i].2 with
    | false =>
      rw [hc] at h232
      simp only [Bool.false_eq_true, if_false]
      refine ⟨bv, ext, hs, ?_⟩
      rcases hs with ⟨rfl, rfl⟩ | ⟨rfl, rfl⟩ <;> rcases hG with ⟨rfl, hg0⟩ | rfl <;> simp [ir47_d0, hlt, hix, h232, hw]
    | true =>
      rw [hc] at h232
      obtain ⟨hne, hg3, hin⟩ := can_in (by omega) hc
      have hGl := hG.tl hne
      subst hGl
      have h44 := r43 x.1 vs[i].2 x.2 vs[i].1 (by omega) (by omega) hin
      have hsl := setAll_length vs[i].1 vs[i].2 x.1
      have ih := w47 a b c hgd X vs hX hn d (i + 1) (setAll vs[i].1 vs[i].2 x.1, vs[i].1) (.ref 3 0 (setAll vs[i].1 vs[i].2 x.1).length) [.pure 1 (til (setAll vs[i].1 vs[i].2 x.1))] (by omega) (by rw [hsl]; exact hx) (.inr ⟨rfl, rfl⟩)
      simp only [if_true] at ih ⊢
      generalize play a b c (vs.drop (i + 1)) (setAll vs[i].1 vs[i].2 x.1, vs[i].1) (i + 1) = R at *
      cases hR : R.2 with
      | none =>
        rw [hR] at ih
        obtain ⟨bv', ext', g1, g2⟩ := ih
        refine ⟨bv', ext', g1, ?_⟩
        simp [hsl] at g2
        rcases hs with ⟨rfl, rfl⟩ | ⟨rfl, rfl⟩ <;> simp [ir47_d0, hlt, hix, h232, hw, h44, g2]
      | some k =>
        rw [hR] at ih
        obtain ⟨bv', ext', g1, fr, H, g2, g3⟩ := ih
        refine ⟨bv', ext', g1, fr, H, ?_, g3⟩
        simp [hsl] at g2
        rcases hs with ⟨rfl, rfl⟩ | ⟨rfl, rfl⟩ <;> simp [ir47_d0, hlt, hix, h232, hw, h44, g2]
end Go.Proofs.Ytdgfpjlmpnfcgaa.Ev

namespace Go.Proofs.Ytdgfpjlmpnfcgaa.Ev
open Go
set_option linter.unusedVariables false
set_option linter.unusedSimpArgs false
set_option linter.unusedSectionVars false
attribute [local simp] til_getE til_length til_get til_drop til_take til_snoc til_fold take_snoc til_set
theorem w48 (a : Nat) (b c : Int) (hgd : good a b c = true) (X : T) (vs : List (Int × List Int)) (hX : LW X vs) (hn : vs.length ≤ 2 ^ 40) : ∀ (d i : Nat) (x : List Int × Int), i + d = vs.length → x.1.length = 2 * a →
    match (play a b c (vs.drop i) x i).2 with
    | none => loopF env true [2, 3, 4, 6, 16, 17, 18] ir48_b0 ([(2, .t X), (3, .ptr 0 0 0), (4, .ptr 1 0 0), (6, .ptr 2 0 0), (16, .t X), (17, .t (ti vs.length)), (18, .t (ti i))], [.box 3 [.t (ti a), .t (ti b), .t (ti c)], .box 2 [.ref 3 0 x.1.length, .t (ti x.2)], .box 2 [.t .nil, .t (ti 0)], .pure 1 (til x.1)]) =
        some (.exit 0, [(2, .t X), (3, .ptr 0 0 0), (4, .ptr 1 0 0), (6, .ptr 2 0 0), (16, .t X), (17, .t (ti vs.length)), (18, .t (ti vs.length)), (19, .t (tb false))], [.box 3 [.t (ti a), .t (ti b), .t (ti c)], .box 2 [.ref 3 0 x.1.length, .t (ti (play a b c (vs.drop i) x i).1.2)], .box 2 [.t .nil, .t (ti 0)], .pure 1 (til (play a b c (vs.drop i) x i).1.1)])
    | some k => RetS (loopF env true [2, 3, 4, 6, 16, 17, 18] ir48_b0 ([(2, .t X), (3, .ptr 0 0 0), (4, .ptr 1 0 0), (6, .ptr 2 0 0), (16, .t X), (17, .t (ti vs.length)), (18, .t (ti i))], [.box 3 [.t (ti a), .t (ti b), .t (ti c)], .box 2 [.ref 3 0 x.1.length, .t (ti x.2)], .box 2 [.t .nil, .t (ti 0)], .pure 1 (til x.1)]))
        (fun fr H => fr.get 6 = .ptr 2 0 0 ∧ fr.get 7 = .t (ti k) ∧ ∃ B, H = [.box 3 [.t (ti a), .t (ti b), .t (ti c)], .box 2 [.ref 3 0 x.1.length, .t (ti (play a b c (vs.drop i) x i).1.2)], .box 2 [.ref 3 0 x.1.length, .t (ti (play a b c (vs.drop i) x i).1.2)], .pure 1 (til (play a b c (vs.drop i) x i).1.1), B])
  | 0, i, x, hi, hx => by
    have : i = vs.length := by omega
    subst this
    rw [x48_0]
    simp only [List.drop_length, play]
    simp [ir48_d0]
  | d + 1, i, x, hi, hx => by
    rw [x48_0]
    have hgo := good_of hgd
    have hlt : i < vs.length := by omega
    have hw : IntKind.i64.wrap ((i : Int) + 1) = (i : Int) + 1 := w76 (by omega)
    obtain ⟨G, hG, hix⟩ := hX.ix i hlt
    have h53 := r45n a b c hgd x.1 hx x.2 vs[i].1 G vs[i].2 hG
    have hp : play a b c (vs.drop i) x i = if canB a b c x.1 x.2 vs[i].1 vs[i].2 then play a b c (vs.drop (i + 1)) (setAll vs[i].1 vs[i].2 x.1, vs[i].1) (i + 1) else (x, some i) := by
      rw [List.drop_eq_getElem_cons hlt, play]
    have htk : x.1.take x.1.length = x.1 := List.take_length
    rw [hp]
    cases hc : canB a b c x.1 x.2 vs[i].1 vs[i].2 with
    | false =>
      rw [hc] at h53
      simp only [Bool.false_eq_true, if_false]
      rcases hG with ⟨rfl, hg0⟩ | rfl <;> simp [ir48_d0, hlt, hix, h53, hw]
    | true =>
      rw [hc] at h53
      obtain ⟨hne, hg3, hin⟩ := can_in (by omega) hc
      have hGl := hG.tl hne
      subst hGl
      have h33 := r46 x.1 vs[i].2 x.2 vs[i].1 (by omega) (by omega) hin
      have hsl := setAll_length vs[i].1 vs[i].2 x.1
      have ih := w48 a b c hgd X vs hX hn d (i + 1) (setAll vs[i].1 vs[i].2 x.1, vs[i].1) (by omega) (by rw [hsl]; exact hx)
      simp only [if_true] at ih ⊢
      generalize play a b c (vs.drop (i + 1)) (setAll vs[i].1 vs[i].2 x.1, vs[i].1) (i + 1) = R at *
      cases hR : R.2 with
      | none =>
        rw [hR] at ih
        simp [hsl] at ih
        simp [ir48_d0, hlt, hix, h53, hw, h33, ih]
      | some k =>
        rw [hR] at ih
        obtain ⟨fr, H, g2, g3⟩ := ih
        refine ⟨fr, H, ?_, by rw [hsl] at g3; exact g3⟩
        simp [hsl] at g2
        simp [ir48_d0, hlt, hix, h53, hw, h33, g2]
def playK (r : (List Int × Int) × Option Nat) : Int := match r.2 with | none => -1 | some k => k
theorem r43n (xs : List Int) (p t : Int) (h : xs.length ≤ 1000) : ownR env 43 [.agg [tl xs, ti p], ti t, .nil] = some (.agg [.ref 0 0 xs.length, .t (ti t)], [.pure 1 (til xs)]) := by
  rw [own_ir e43 _ rfl]
  simp [ir43, ir43_c, clone_til, show xs.length ≤ 68719476736 by omega]
  rw [x43_0]
  simp [ir43_d0, til_flat]
theorem r47 (a : Nat) (b c : Int) (hgd : good a b c = true) (l : List Int) (hl : l.length = 2 * a) (p : Int) (X : T) (vs : List (Int × List Int)) (hX : LW X vs) (hn : vs.length ≤ 2 ^ 40) :
    ∃ v H, ownFR env 47 [.agg [ti a, ti b, ti c], .agg [tl l, ti p], X] = some (.tup [.agg [v, .t (ti (play a b c vs (l, p) 0).1.2)], .t (ti (playK (play a b c vs (l, p) 0)))], H) ∧
      ((play a b c vs (l, p) 0).2 = none → v = .ref 0 0 (2 * a) ∧ H = [.pure 1 (til (play a b c vs (l, p) 0).1.1)]) ∧ (v = .t (.lst 1 (til (play a b c vs (l, p) 0).1.1)) ∧ H = [] ∨ v = .ref 0 0 (2 * a) ∧ H = [.pure 1 (til (play a b c vs (l, p) 0).1.1)]) := by
  have hgo := good_of hgd
  rw [ownF_ir e47 _ rfl]
  have hlen := hX.len
  have h := w47 a b c hgd X vs hX hn vs.length 0 (l, p) (.t (.lst 1 (til l))) [] (by omega) hl (.inl ⟨rfl, rfl⟩)
  rw [List.drop_zero] at h
  have hpl := play_len a b c vs (l, p) 0
  simp only at hpl
  generalize play a b c vs (l, p) 0 = R at *
  unfold playK
  cases hR : R.2 with
  | none =>
    rw [hR] at h
    obtain ⟨bv, ext, h1, h2⟩ := h
    have h44n := r43n R.1.1 R.1.2 R.1.2 (by omega)
    refine ⟨.ref 0 0 (2 * a), [.pure 1 (til R.1.1)], ?_, fun _ => ⟨rfl, rfl⟩, .inr ⟨rfl, rfl⟩⟩
    have htk : R.1.1.take (2 * a) = R.1.1 := List.take_of_length_le (by omega)
    rcases h1 with ⟨rfl, rfl⟩ | ⟨rfl, rfl⟩ <;> simp at h2 <;> simp [ir47, ir47_c, hlen, h2, h44n, htk, hpl, hl]
  | some k =>
    rw [hR] at h
    obtain ⟨bv, ext, h1, fr, H, h2, h3, h4, B, rfl⟩ := h
    rcases h1 with ⟨rfl, rfl⟩ | ⟨rfl, rfl⟩
    · refine ⟨.t (.lst 1 (til R.1.1)), [], ?_, fun h => (by cases h), .inl ⟨rfl, rfl⟩⟩
      simp at h2
      simp [ir47, ir47_c, hlen, h2, h3, h4]
    · refine ⟨.ref 0 0 (2 * a), [.pure 1 (til R.1.1)], ?_, fun h => (by cases h), .inr ⟨rfl, rfl⟩⟩
      simp at h2
      simp [ir47, ir47_c, hlen, h2, h3, h4, hpl, hl]
end Go.Proofs.Ytdgfpjlmpnfcgaa.Ev

namespace Go.Proofs.Ytdgfpjlmpnfcgaa.Ev
open Go
set_option linter.unusedVariables false
set_option linter.unusedSimpArgs false
set_option linter.unusedSectionVars false
attribute [local simp] til_getE til_length til_get til_drop til_take til_snoc til_fold take_snoc til_set
def playM (n : Nat) (r : (List Int × Int) × Option Nat) : Int := match r.2 with | none => (n : Int) | some k => k
theorem r48 (a : Nat) (b c : Int) (hgd : good a b c = true) (l : List Int) (hl : l.length = 2 * a) (p : Int) (X : T) (vs : List (Int × List Int)) (hX : LW X vs) (hn : vs.length ≤ 2 ^ 40) :
    ownR env 48 [.agg [ti a, ti b, ti c], .agg [tl l, ti p], X] = some (.tup [.agg [.ref 0 0 (2 * a), .t (ti (play a b c vs (l, p) 0).1.2)], .t (ti (playM vs.length (play a b c vs (l, p) 0)))], [.pure 1 (til (play a b c vs (l, p) 0).1.1)]) := by
  have hgo := good_of hgd
  rw [own_ir e48 _ rfl]
  have hlen := hX.len
  have h54 := r75 l (by omega)
  have h := w48 a b c hgd X vs hX hn vs.length 0 (l, p) (by omega) hl
  rw [List.drop_zero] at h
  have hpl := play_len a b c vs (l, p) 0
  simp only at hpl h
  generalize play a b c vs (l, p) 0 = R at *
  unfold playM
  cases hR : R.2 with
  | none =>
    rw [hR] at h
    simp [hl] at h
    simp [ir48, ir48_c, hlen, h54, h, hpl, hl, til_flat]
  | some k =>
    rw [hR] at h
    obtain ⟨fr, H, h2, h3, h4, B, rfl⟩ := h
    simp [hl] at h2
    simp [ir48, ir48_c, hlen, h54, h2, h3, h4, hpl, hl, til_flat]
def allB (a b c : Int) (l : List Int) (p : Int) (vs : List (Int × List Int)) : Bool := askB a b c l p && (decide (vs.length ≤ 40) && (play a.toNat b c vs (l, p) 0).2.isNone)
theorem r18 (a b c : Int) (Y : T) (l : List Int) (hY : LN Y l) (p : Int) (X : T) (vs : List (Int × List Int)) (hX : LW X vs) (hn : vs.length ≤ 2 ^ 40) :
    ownR env 18 [.agg [ti a, ti b, ti c], .agg [Y, ti p], X] = sailR (allB a b c l p vs) l.length (play a.toNat b c vs (l, p) 0).1.1 (play a.toNat b c vs (l, p) 0).1.2 := by
  rw [own_ir e18 _ rfl]
  have h227 := r31 a b c Y l hY p
  have hlen := hX.len
  unfold allB
  cases ha : askB a b c l p with
  | false => rw [ha] at h227; simp [ir18, ir18_c, h227, sailR]
  | true =>
    rw [ha] at h227
    have hpl : plB a b c l p = true := by unfold askB at ha; rw [Bool.and_eq_true] at ha; exact ha.1
    obtain ⟨rfl, hgd, hl⟩ := plB_list hY hpl
    have hgo := good_of hgd
    obtain ⟨k, rfl⟩ : ∃ k : Nat, a = k := ⟨a.toNat, by omega⟩
    have hl2 : l.length = 2 * k := by omega
    rw [Int.toNat_natCast, Bool.true_and]
    by_cases h40 : vs.length ≤ 40
    · have h40' : ¬ ((40 : Int) < vs.length) := by omega
      obtain ⟨v, H, h1, h2, h3⟩ := r47 k b c hgd l hl2 p X vs hX hn
      have hpl2 := play_len k b c vs (l, p) 0
      simp only at hpl2
      generalize play k b c vs (l, p) 0 = R at *
      have htk : R.1.1.take (2 * k) = R.1.1 := List.take_of_length_le (by omega)
      cases hR : R.2 with
      | none =>
        obtain ⟨rfl, rfl⟩ := h2 hR
        have hk : playK R = -1 := by unfold playK; rw [hR]
        rw [hk] at h1
        simp [ir18, ir18_c, h227, hlen, h40, h40', h1, sailR, til_flat, hl2]
      | some j =>
        have hk : playK R = (j : Int) := by unfold playK; rw [hR]
        rw [hk] at h1
        rcases h3 with ⟨rfl, rfl⟩ | ⟨rfl, rfl⟩ <;> simp [ir18, ir18_c, h227, hlen, h40, h40', h1, sailR]
    · have h40' : (40 : Int) < vs.length := by omega
      simp [ir18, ir18_c, h227, hlen, h40, h40', sailR]
theorem r19 (a b c : Int) (Y : T) (l : List Int) (hY : LN Y l) (p : Int) (X : T) (vs : List (Int × List Int)) (hX : LW X vs) (hn : vs.length ≤ 2 ^ 40) :
    ownR env 19 [.agg [ti a, ti b, ti c], .agg [Y, ti p], X] = sailR (allB a b c l p vs) l.length (play a.toNat b c vs (l, p) 0).1.1 (play a.toNat b c vs (l, p) 0).1.2 := by
  rw [own_ir e19 _ rfl]
  have h228 := r33 a b c Y l hY p
  have hlen := hX.len
  unfold allB
  cases ha : askB a b c l p with
  | false => rw [ha] at h228; simp [ir19, ir19_c, h228, sailR]
  | true =>
    rw [ha] at h228
    have hpl : plB a b c l p = true := by unfold askB at ha; rw [Bool.and_eq_true] at ha; exact ha.1
    obtain ⟨rfl, hgd, hl⟩ := plB_list hY hpl
    have hgo := good_of hgd
    obtain ⟨k, rfl⟩ : ∃ k : Nat, a = k := ⟨a.toNat, by omega⟩
    have hl2 : l.length = 2 * k := by omega
    rw [Int.toNat_natCast, Bool.true_and]
    by_cases h40 : vs.length ≤ 40
    · have h40' : ¬ ((40 : Int) < vs.length) := by omega
      have h1 := r48 k b c hgd l hl2 p X vs hX hn
      have hk : (playM vs.length (play k b c vs (l, p) 0) < vs.length) ↔ (play k b c vs (l, p) 0).2.isNone = false := by
        unfold playM
        cases hR : (play k b c vs (l, p) 0).2 with
        | none => simp
        | some j =>
          have : j < vs.length := by
            have key : ∀ (vs : List (Int × List Int)) (x : List Int × Int) (i : Nat), (play k b c vs x i).2 = some j → j < i + vs.length := by
              intro vs
              induction vs with
              | nil => intro x i h; cases h
              | cons v vs ih =>
                intro x i h
                rw [play] at h
                split at h
                · have := ih _ _ h; simp; omega
                · cases h; simp
            have := key vs (l, p) 0 hR
            omega
          simp; omega
      generalize play k b c vs (l, p) 0 = R at *
      cases hR : R.2.isNone with
      | true =>
        have hk' : ¬ (playM vs.length R < vs.length) := fun h => by rw [hk.1 h] at hR; cases hR
        simp [ir19, ir19_c, h228, hlen, h40, h40', h1, hk', sailR, til_flat, hl2, hR]
      | false =>
        have hk' := hk.2 hR
        simp [ir19, ir19_c, h228, hlen, h40, h40', h1, hk', sailR, hR]
    · have h40' : (40 : Int) < vs.length := by omega
      simp [ir19, ir19_c, h228, hlen, h40, h40', sailR]
end Go.Proofs.Ytdgfpjlmpnfcgaa.Ev

namespace Go.Proofs.Ytdgfpjlmpnfcgaa.Ev
open Go
set_option linter.unusedVariables false
set_option linter.unusedSimpArgs false
set_option linter.unusedSectionVars false
attribute [local simp] til_getE til_length til_get til_drop til_take til_snoc til_fold take_snoc til_set
theorem play_lt (a : Nat) (b c : Int) : ∀ (vs : List (Int × List Int)) (x : List Int × Int) (i j : Nat), (play a b c vs x i).2 = some j → i ≤ j ∧ j < i + vs.length
  | [], x, i, j, h => by cases h
  | v :: vs, x, i, j, h => by
    rw [play] at h
    split at h
    · have := play_lt a b c vs _ _ _ h; simp; omega
    · cases h; simp
def failR (a b c : Int) (l : List Int) (p : Int) (vs : List (Int × List Int)) : Int × Bool :=
  if askB a b c l p && (decide (vs.length ≤ 40)) then (match (play a.toNat b c vs (l, p) 0).2 with | none => (0, false) | some k => ((k : Int), true)) else (0, false)
theorem r20 (a b c : Int) (Y : T) (l : List Int) (hY : LN Y l) (p : Int) (X : T) (vs : List (Int × List Int)) (hX : LW X vs) (hn : vs.length ≤ 2 ^ 40) :
    ownR env 20 [.agg [ti a, ti b, ti c], .agg [Y, ti p], X] = some (.tup [.t (ti (failR a b c l p vs).1), .t (tb (failR a b c l p vs).2)], []) := by
  rw [own_ir e20 _ rfl]
  have h227 := r31 a b c Y l hY p
  have hlen := hX.len
  unfold failR
  cases ha : askB a b c l p with
  | false => rw [ha] at h227; simp [ir20, ir20_c, h227]
  | true =>
    rw [ha] at h227
    have hpl : plB a b c l p = true := by unfold askB at ha; rw [Bool.and_eq_true] at ha; exact ha.1
    obtain ⟨rfl, hgd, hl⟩ := plB_list hY hpl
    have hgo := good_of hgd
    obtain ⟨k, rfl⟩ : ∃ k : Nat, a = k := ⟨a.toNat, by omega⟩
    have hl2 : l.length = 2 * k := by omega
    rw [Int.toNat_natCast, Bool.true_and]
    by_cases h40 : vs.length ≤ 40
    · have h40' : ¬ ((40 : Int) < vs.length) := by omega
      obtain ⟨v, H, h1, h2, h3⟩ := r47 k b c hgd l hl2 p X vs hX hn
      generalize play k b c vs (l, p) 0 = R at *
      cases hR : R.2 with
      | none =>
        obtain ⟨rfl, rfl⟩ := h2 hR
        have hk : playK R = -1 := by unfold playK; rw [hR]
        rw [hk] at h1
        simp [ir20, ir20_c, h227, hlen, h40, h40', h1]
      | some j =>
        have hk : playK R = (j : Int) := by unfold playK; rw [hR]
        rw [hk] at h1
        have hj0 : ¬ ((j : Int) < 0) := by omega
        rcases h3 with ⟨rfl, rfl⟩ | ⟨rfl, rfl⟩ <;> simp [ir20, ir20_c, h227, hlen, h40, h40', h1, hj0]
    · have h40' : (40 : Int) < vs.length := by omega
      simp [ir20, ir20_c, h227, hlen, h40, h40']
theorem r21 (a b c : Int) (Y : T) (l : List Int) (hY : LN Y l) (p : Int) (X : T) (vs : List (Int × List Int)) (hX : LW X vs) (hn : vs.length ≤ 2 ^ 40) :
    ownR env 21 [.agg [ti a, ti b, ti c], .agg [Y, ti p], X] = some (.tup [.t (ti (failR a b c l p vs).1), .t (tb (failR a b c l p vs).2)], []) := by
  rw [own_ir e21 _ rfl]
  have h228 := r33 a b c Y l hY p
  have hlen := hX.len
  unfold failR
  cases ha : askB a b c l p with
  | false => rw [ha] at h228; simp [ir21, ir21_c, h228]
  | true =>
    rw [ha] at h228
    have hpl : plB a b c l p = true := by unfold askB at ha; rw [Bool.and_eq_true] at ha; exact ha.1
    obtain ⟨rfl, hgd, hl⟩ := plB_list hY hpl
    have hgo := good_of hgd
    obtain ⟨k, rfl⟩ : ∃ k : Nat, a = k := ⟨a.toNat, by omega⟩
    have hl2 : l.length = 2 * k := by omega
    rw [Int.toNat_natCast, Bool.true_and]
    by_cases h40 : vs.length ≤ 40
    · have h40' : ¬ ((40 : Int) < vs.length) := by omega
      have h1 := r48 k b c hgd l hl2 p X vs hX hn
      have hlt := play_lt k b c vs (l, p) 0
      generalize play k b c vs (l, p) 0 = R at *
      cases hR : R.2 with
      | none =>
        have hk : playM vs.length R = vs.length := by unfold playM; rw [hR]
        rw [hk] at h1
        simp [ir21, ir21_c, h228, hlen, h40, h40', h1]
      | some j =>
        have hk : playM vs.length R = (j : Int) := by unfold playM; rw [hR]
        rw [hk] at h1
        have := hlt j hR
        have hne : ¬ ((j : Int) = vs.length) := by omega
        have hne2 : ¬ (j = vs.length) := by omega
        simp [ir21, ir21_c, h228, hlen, h40, h40', h1, hne, hne2]
    · have h40' : (40 : Int) < vs.length := by omega
      simp [ir21, ir21_c, h228, hlen, h40, h40']
end Go.Proofs.Ytdgfpjlmpnfcgaa.Ev

namespace Go.Proofs.Ytdgfpjlmpnfcgaa.Ev
open Go
set_option linter.unusedVariables false
set_option linter.unusedSimpArgs false
set_option linter.unusedSectionVars false
attribute [local simp] til_getE til_length til_get til_drop til_take til_snoc til_fold take_snoc til_set
def allR (g : Bool) (a : Nat) (n : Int) : Option (V × Heap) := if g then some (.tup [.agg [.ref 0 0 (2 * a), .t (ti n)], .t (tb true)], [.pure 1 (til (List.replicate (2 * a) n))]) else some (.tup [.agg [.t .nil, .t (ti 0)], .t (tb false)], [])
theorem r22 (a b c : Int) : ownR env 22 [.agg [ti a, ti b, ti c]] = allR (good a b c) a.toNat 0 := by
  rw [own_ir e22 _ rfl]
  unfold allR
  cases hg : good a b c with
  | false => simp [ir22, ir22_c, hg]
  | true =>
    have hgo := good_of hg
    obtain ⟨k, rfl⟩ : ∃ k : Nat, a = k := ⟨a.toNat, by omega⟩
    have h48 := r49 k b c 0 (by omega)
    rw [show (2 * (k : Int)).toNat = 2 * k by omega] at h48
    simp [ir22, ir22_c, hg, h48, til_flat]
theorem r23 (a b c : Int) : ownR env 23 [.agg [ti a, ti b, ti c]] = allR (good a b c) a.toNat 0 := by
  rw [own_ir e23 _ rfl]
  unfold allR
  cases hg : good a b c with
  | false => simp [ir23, ir23_c, hg]
  | true =>
    have hgo := good_of hg
    obtain ⟨k, rfl⟩ : ∃ k : Nat, a = k := ⟨a.toNat, by omega⟩
    have h24 := r50 k b c 0 (by omega)
    rw [show (2 * (k : Int)).toNat = 2 * k by omega] at h24
    simp [ir23, ir23_c, hg, h24, til_flat]
theorem r24 (a b c : Int) : ownR env 24 [.agg [ti a, ti b, ti c]] = allR (good a b c) a.toNat (c + 1) := by
  rw [own_ir e24 _ rfl]
  unfold allR
  cases hg : good a b c with
  | false => simp [ir24, ir24_c, hg]
  | true =>
    have hgo := good_of hg
    obtain ⟨k, rfl⟩ : ∃ k : Nat, a = k := ⟨a.toNat, by omega⟩
    have h48 := r49 k b c (c + 1) (by omega)
    have h49 := r51 k b c (by omega)
    rw [show (2 * (k : Int)).toNat = 2 * k by omega] at h48
    simp [ir24, ir24_c, hg, h48, h49, til_flat]
theorem r25 (a b c : Int) : ownR env 25 [.agg [ti a, ti b, ti c]] = allR (good a b c) a.toNat (c + 1) := by
  rw [own_ir e25 _ rfl]
  unfold allR
  cases hg : good a b c with
  | false => simp [ir25, ir25_c, hg]
  | true =>
    have hgo := good_of hg
    obtain ⟨k, rfl⟩ : ∃ k : Nat, a = k := ⟨a.toNat, by omega⟩
    have h24 := r50 k b c (c + 1) (by omega)
    have hw : IntKind.i64.wrap (c + 1) = c + 1 := w76 (by omega)
    rw [show (2 * (k : Int)).toNat = 2 * k by omega] at h24
    simp [ir25, ir25_c, hg, h24, hw, til_flat]
def befB : List Int → List Int → Bool
  | x :: xs, y :: ys => if x = y then befB xs ys else decide (x < y)
  | [], _ :: _ => true
  | _, [] => false
theorem w16 (l m : List Int) (hl : l.length ≤ 1000000) : ∀ (d i : Nat), i + d = min l.length m.length →
    (∃ fr, loopF env true [0, 1, 5] ir16_b0 ([(0, .t (tl l)), (1, .t (tl m)), (5, .t (ti i))], []) = some (.exit 0, fr, []) ∧ fr.get 0 = .t (tl l) ∧ fr.get 1 = .t (tl m) ∧ befB (l.drop i) (m.drop i) = decide (l.length < m.length)) ∨
    (∃ fr, loopF env true [0, 1, 5] ir16_b0 ([(0, .t (tl l)), (1, .t (tl m)), (5, .t (ti i))], []) = some (.ret, fr, []) ∧ fr.get 4 = .t (tb (befB (l.drop i) (m.drop i))))
  | 0, i, hi => by
    left
    rw [x16_0]
    have h1 : ¬ (i < l.length ∧ i < m.length) := by omega
    by_cases hl1 : i < l.length
    · have hm1 : ¬ i < m.length := by omega
      refine ⟨_, by simp [ir16_d0, hl1, hm1]; rfl, rfl, rfl, ?_⟩
      rw [List.drop_eq_nil_of_le (show m.length ≤ i by omega), List.drop_eq_getElem_cons hl1]
      have : ¬ l.length < m.length := by omega
      simp [befB, this]
    · refine ⟨_, by simp [ir16_d0, hl1]; rfl, rfl, rfl, ?_⟩
      rw [List.drop_eq_nil_of_le (show l.length ≤ i by omega)]
      by_cases hm1 : i < m.length
      · rw [List.drop_eq_getElem_cons hm1]
        have : l.length < m.length := by omega
        simp [befB, this]
      · rw [List.drop_eq_nil_of_le (show m.length ≤ i by omega)]
        have : ¬ l.length < m.length := by omega
        simp [befB, this]
  | d + 1, i, hi => by
    have hl1 : i < l.length := by omega
    have hm1 : i < m.length := by omega
    have hw : IntKind.i64.wrap ((i : Int) + 1) = (i : Int) + 1 := w76 (by omega)
    have ih := w16 l m hl d (i + 1) (by omega)
    rw [List.drop_eq_getElem_cons hl1, List.drop_eq_getElem_cons hm1, befB]
    rw [x16_0]
    by_cases he : l[i] = m[i]
    · rw [if_pos he]
      rcases ih with ⟨fr, h1, h2⟩ | ⟨fr, h1, h2⟩
      · left
        refine ⟨fr, ?_, h2⟩
        simp at h1
        simp [ir16_d0, hl1, hm1, he, hw, h1]
      · right
        refine ⟨fr, ?_, h2⟩
        simp at h1
        simp [ir16_d0, hl1, hm1, he, hw, h1]
    · right
      rw [if_neg he]
      refine ⟨_, by simp [ir16_d0, hl1, hm1, he, hw]; rfl, ?_⟩
      simp
theorem r16 (l m : List Int) (hl : l.length ≤ 1000000) : ownR env 16 [tl l, tl m] = some (.t (tb (befB l m)), []) := by
  rw [own_ir e16 _ rfl]
  rcases w16 l m hl (min l.length m.length) 0 (by omega) with ⟨fr, h1, h2, h3, h4⟩ | ⟨fr, h1, h2⟩
  · simp at h1 h4
    simp [ir16, ir16_c, h1, h2, h3, h4, Fr.get_put]
  · simp at h1 h2
    simp [ir16, ir16_c, h1, h2, Fr.get_put]
end Go.Proofs.Ytdgfpjlmpnfcgaa.Ev

namespace Go.Proofs.Ytdgfpjlmpnfcgaa.Ev
open Go
set_option linter.unusedVariables false
set_option linter.unusedSimpArgs false
set_option linter.unusedSectionVars false

theorem befB_app (l s s' : List Int) : befB (l ++ s) (l ++ s') = befB s s' := by
  induction l with
  | nil => rfl
  | cons x l ih => rw [List.cons_append, List.cons_append, befB, if_pos rfl, ih]
theorem grps_mem2 (most : Int) : ∀ (rest l g : List Int), g ∈ grps most rest l → ∃ s, g = l ++ s ∧ s ≠ [] ∧ s.Sublist rest
  | [], l, g, h => by simp [grps] at h
  | x :: rest, l, g, h => by
    rw [grps] at h
    split at h
    · rcases List.mem_cons.1 h with h | h
      · exact ⟨[x], h, by simp, List.cons_sublist_cons.2 (List.nil_sublist _)⟩
      · rcases List.mem_append.1 h with h | h
        · obtain ⟨s, h1, h2, h3⟩ := grps_mem2 most rest _ g h
          exact ⟨x :: s, by rw [h1]; simp, by simp, List.cons_sublist_cons.2 h3⟩
        · obtain ⟨s, h1, h2, h3⟩ := grps_mem2 most rest _ g h
          exact ⟨s, h1, h2, h3.cons _⟩
    · simp at h
theorem grps_pair (most : Int) : ∀ (rest l : List Int), rest.Pairwise (· < ·) → (grps most rest l).Pairwise (fun g h => befB g h = true)
  | [], l, _ => by simp [grps]
  | x :: rest, l, hp => by
    rw [List.pairwise_cons] at hp
    rw [grps]
    split
    · have key : ∀ h ∈ grps most rest l, ∀ s : List Int, befB (l ++ x :: s) h = true := fun h hh s => by
        obtain ⟨s', h1, h2, h3⟩ := grps_mem2 most rest l h hh
        rw [h1, befB_app]
        cases s' with
        | nil => exact absurd rfl h2
        | cons y s' =>
          have := hp.1 y (h3.subset (List.mem_cons_self ..))
          rw [befB, if_neg (by omega)]
          simpa using this
      rw [List.pairwise_cons, List.pairwise_append]
      refine ⟨fun h hh => ?_, grps_pair most rest _ hp.2, grps_pair most rest _ hp.2, fun g hg h hh => ?_⟩
      · rcases List.mem_append.1 hh with hh | hh
        · obtain ⟨s', h1, h2, h3⟩ := grps_mem2 most rest _ h hh
          rw [h1]
          have := befB_app (l ++ [x]) [] s'
          rw [List.append_nil] at this
          rw [this]
          cases s' with
          | nil => exact absurd rfl h2
          | cons y s' => rfl
        · exact key h hh []
      · obtain ⟨s', h1, h2, h3⟩ := grps_mem2 most rest _ g hg
        rw [h1, List.append_assoc]
        exact key h hh s'
    · exact List.Pairwise.nil
def befV (v u : Int × List Int) : Prop := v.1 < u.1 ∨ v.1 = u.1 ∧ befB v.2 u.2 = true
theorem voys_pair (a : Nat) (b c : Int) (x : List Int × Int) : (voysAll a b c x).Pairwise befV := by
  unfold voysAll voysS
  rw [List.pairwise_flatMap]
  refine ⟨fun t _ => ?_, ?_⟩
  · unfold cans
    rw [List.pairwise_map]
    refine List.Pairwise.imp (fun {g h} hgh => ?_) ((grps_pair b _ [] (stand_pair _ _ _)).filter _)
    exact .inr ⟨rfl, hgh⟩
  · refine List.Pairwise.imp (fun {t t'} htt => ?_) (List.pairwise_lt_range' (s := 0) (n := (c + 2).toNat) (step := 1))
    intro v hv u hu
    unfold cans at hv hu
    obtain ⟨g, _, rfl⟩ := List.mem_map.1 hv
    obtain ⟨g', _, rfl⟩ := List.mem_map.1 hu
    left
    show (t : Int) < t'
    omega
theorem voys_can {a : Nat} {b c : Int} {x : List Int × Int} {v : Int × List Int} (h : v ∈ voysAll a b c x) : canB a b c x.1 x.2 v.1 v.2 = true := by
  unfold voysAll voysS cans at h
  simp only [List.mem_map, List.mem_flatMap, List.mem_filter] at h
  obtain ⟨n, _, g, ⟨_, hc⟩, rfl⟩ := h
  exact hc
theorem can_back {a : Nat} {b c : Int} (hgd : good a b c = true) {l : List Int} {p t : Int} {g : List Int} (hx : okP a c (l, p)) (hcm : calmS a c l = true) (hc : canB a b c l p t g = true) :
    askB a b c (setAll t g l) t = true ∧ plB a b c (setAll t g l) t = true ∧ canB a b c (setAll t g l) t p g = true ∧ setAll p g (setAll t g l) = l := by
  have hgo := good_of hgd
  obtain ⟨h1, h2, h3, h4, h5, h6, h7⟩ := can_parts hc
  have hin := risesB_in h4
  have hgi : ∀ k ∈ g, 0 ≤ k ∧ k < l.length := fun k hk => by have := hin k hk; omega
  have hback := setAll_back l p t g hgi h5
  have hat : atB (setAll t g l) t g = true := by
    unfold atB
    rw [List.all_eq_true]
    intro k hk
    have hki := hgi k hk
    rw [setAll_get t g l k.toNat (by omega) (fun k hk => (hgi k hk).1), if_pos (by rw [show ((k.toNat : Nat) : Int) = k by omega]; exact hk)]
    simp
  have hok : okP a c (setAll t g l, t) := by
    have hsl : (setAll t g l).length = l.length := setAll_length t g l
    refine ⟨by show (setAll t g l).length = 2 * a; rw [hsl]; exact hx.1, ?_, ?_⟩
    · obtain ⟨k, g', rfl⟩ : ∃ k g', g = k :: g' := by cases g with
        | nil => simp at h3
        | cons k g' => exact ⟨k, g', rfl⟩
      have hk := hgi k (List.mem_cons_self ..)
      have := setAll_get t (k :: g') l k.toNat (by omega) (fun k hk => (hgi k hk).1)
      rw [if_pos (by rw [show ((k.toNat : Nat) : Int) = k by omega]; exact List.mem_cons_self ..)] at this
      exact List.mem_of_getElem? this
    · intro y hy
      obtain ⟨m, hm, rfl⟩ := List.getElem_of_mem hy
      have hm' : m < l.length := by rw [← hsl]; exact hm
      have := setAll_get t g l m hm' (fun k hk => (hgi k hk).1)
      rw [List.getElem?_eq_getElem hm] at this
      split at this
      · rw [Option.some.inj this]; exact h1
      · rw [List.getElem?_eq_getElem hm'] at this
        rw [Option.some.inj this]
        exact hx.2.2 _ (List.getElem_mem hm')
  have hpl := ok_plB hgd hok
  have hp : 0 ≤ p ∧ p ≤ c + 1 := hx.2.2 p hx.2.1
  refine ⟨?_, hpl, ?_, hback⟩
  · unfold askB
    rw [hpl, Int.toNat_natCast, h7]; rfl
  · unfold canB
    rw [(inB_iff _ _ _).2 hp, (inB_iff _ _ _).2 h3, setAll_length, h4, hat, h6, hback, hcm]
    simp [Ne.symm h2]
end Go.Proofs.Ytdgfpjlmpnfcgaa.Ev

namespace Go.Proofs.Ytdgfpjlmpnfcgaa.Ev
open Go
set_option linter.unusedVariables false
set_option linter.unusedSimpArgs false
set_option linter.unusedSectionVars false
attribute [local simp] til_getE til_length til_get til_drop til_take til_snoc til_fold take_snoc til_set tlv_getE tlv_length tlv_take
set_option maxHeartbeats 4000000 in
set_option maxRecDepth 20000 in
theorem w3 (a : Nat) (b c : Int) (hgd : good a b c = true) (l : List Int) (hl : l.length = 2 * a) (p : Int) (hok : okP a c (l, p)) (hcm : calmS a c l = true) (hask : askB a b c l p = true) (L : List (Int × List Int)) (hLn : L.length ≤ 2 ^ 30) (hL : L = voysAll a b c (l, p)) (Z : T) (x1000 x1001 x1002 X1 P1 t1001 G1 y0 y1 y2 X2 P2 z0 z1 z2 : T) :
    ∀ (d i : Nat), i + d = L.length →
    loopF env true [7, 9, 10, 11, 12, 13, 14, 15, 17, 19, 153, 154, 155] ir3_b0 ([(7, .t Z), (9, .ptr 0 0 0), (10, .ptr 1 0 0), (11, .ptr 2 0 0), (12, .ptr 3 0 0), (13, .ptr 4 0 0), (14, .ptr 5 0 0), (15, .ptr 6 0 0), (17, .ptr 7 0 0), (19, .ref 8 0 L.length), (153, .ref 8 0 L.length), (154, .t (ti L.length)), (155, .t (ti i))], [.box 3 [.t (ti a), .t (ti b), .t (ti c)], .box 2 [.t (tl l), .t (ti p)], .box 3 [.t x1000, .t x1001, .t x1002], .box 2 [.t X1, .t P1], .box 2 [.t t1001, .t G1], .box 3 [.t y0, .t y1, .t y2], .box 2 [.t X2, .t P2], .box 3 [.t z0, .t z1, .t z2], .pure 2 (tlv L)]) =
      some (.exit 0, [(7, .t Z), (9, .ptr 0 0 0), (10, .ptr 1 0 0), (11, .ptr 2 0 0), (12, .ptr 3 0 0), (13, .ptr 4 0 0), (14, .ptr 5 0 0), (15, .ptr 6 0 0), (17, .ptr 7 0 0), (19, .ref 8 0 L.length), (153, .ref 8 0 L.length), (154, .t (ti L.length)), (155, .t (ti L.length)), (156, .t (tb false))], [.box 3 [.t (ti a), .t (ti b), .t (ti c)], .box 2 [.t (tl l), .t (ti p)], .box 3 [.t x1000, .t x1001, .t x1002], .box 2 [.t X1, .t P1], .box 2 [.t t1001, .t G1], .box 3 [.t y0, .t y1, .t y2], .box 2 [.t X2, .t P2], .box 3 [.t z0, .t z1, .t z2], .pure 2 (tlv L)])
  | 0, i, hi => by
    have : i = L.length := by omega
    subst this
    rw [x3_0]
    simp [ir3_d0]
  | d + 1, i, hi => by
    rw [x3_0]
    have hgo := good_of hgd
    have hlt : i < L.length := by omega
    have hw : IntKind.i64.wrap ((i : Int) + 1) = (i : Int) + 1 := w76 (by omega)
    have hw2 : IntKind.i64.wrap ((i : Int) - 1) = (i : Int) - 1 := w76 (by omega)
    have hmem : L[i] ∈ voysAll a b c (l, p) := hL ▸ List.getElem_mem hlt
    have hcan := voys_can hmem
    simp only at hcan
    have hpr : ∀ (h0 : 0 < i), befV (L[i - 1]'(by omega)) L[i] := fun h0 => by
      have := voys_pair a b c (l, p)
      rw [← hL, List.pairwise_iff_getElem] at this
      exact this (i - 1) i (by omega) hlt (by omega)
    obtain ⟨b1, b2, b3, b4⟩ := can_back hgd hok hcm hcan
    have hsl := setAll_length L[i].1 L[i].2 l
    have htk : (setAll L[i].1 L[i].2 l).take l.length = setAll L[i].1 L[i].2 l := List.take_of_length_le (by omega)
    have hA := r14 a b c _ l (LN.of l) p L[i].1 _ L[i].2 (LN.of L[i].2)
    have hB := r7 a b c _ _ (LN.of (setAll L[i].1 L[i].2 l)) L[i].1
    have hC := r14 a b c _ _ (LN.of (setAll L[i].1 L[i].2 l)) L[i].1 p _ L[i].2 (LN.of L[i].2)
    have hD := r15 _ _ l l (LN.of l) (LN.of l) (by omega) p p
    have hib : L[i].2.length ≤ 1000000 := by have := (can_in (by omega) hcan).2.1; omega
    have ih := w3 a b c hgd l hl p hok hcm hask L hLn hL Z x1000 x1001 x1002 X1 P1 t1001 G1 y0 y1 y2 X2 P2 z0 z1 z2 d (i + 1) (by omega)
    rw [b4, hsl, b1, Int.toNat_natCast, b3] at hC
    rw [hask, Int.toNat_natCast, hcan] at hA
    rw [b1, b2] at hB
    simp [sailR] at hA hB hC hD
    by_cases hi0 : 0 < i
    · have hprv := hpr hi0
      have hmem2 : L[i - 1]'(by omega) ∈ voysAll a b c (l, p) := hL ▸ List.getElem_mem (by omega)
      have hcan2 := voys_can hmem2
      have hib2 : (L[i - 1]'(by omega)).2.length ≤ 1000000 := by have := (can_in (by omega) hcan2).2.1; omega
      have hE := r16 (L[i - 1]'(by omega)).2 L[i].2 hib2
      have hi1 : i - 1 < L.length := by omega
      have hci : (i : Int) - 1 = ((i - 1 : Nat) : Int) := by omega
      rw [hci] at hw2
      simp at ih
      rcases hprv with hp1 | ⟨hp1, hp2⟩
      · have hn1 : ¬ (L[i].1 < L[i - 1].1) := by omega
        have hn2 : ¬ (L[i - 1].1 = L[i].1) := by omega
        simp [ir3_d0, hlt, hA, hB, hC, hD, til_flat, hsl, htk, hlt, hw, hi0, hci, hw2, hi1, hn1, hn2, ih]
      · have hn1 : ¬ (L[i].1 < L[i - 1].1) := by omega
        rw [hp2] at hE
        simp [ir3_d0, hlt, hA, hB, hC, hD, til_flat, hsl, htk, hlt, hw, hi0, hci, hw2, hi1, hn1, hp1, hE, ih]
    · have hi0' : i = 0 := by omega
      subst hi0'
      rw [show ((0 : Nat) : Int) + 1 = 1 from rfl] at hw
      simp at ih
      simp [ir3_d0, hlt, hA, hB, hC, hD, til_flat, hsl, htk, hlt, hw, ih]
end Go.Proofs.Ytdgfpjlmpnfcgaa.Ev

namespace Go.Proofs.Ytdgfpjlmpnfcgaa.Ev
open Go
set_option linter.unusedVariables false
set_option linter.unusedSimpArgs false
set_option linter.unusedSectionVars false
attribute [local simp] til_getE til_length til_get til_drop til_take til_snoc til_fold take_snoc til_set
def rst : Nat → C → C
  | 0, c => c
  | k + 1, .seq _ b => rst k b
  | _ + 1, c => c
def nth (k : Nat) (c : C) : C := match rst k c with | .seq a _ => a | c => c
structure Mo (ds : List Nat) (fr : Fr) (H : Heap) (fr' : Fr) (H' : Heap) : Prop where
  f : ∀ t, t < 67 → t ∉ ds → fr'.get t = fr.get t
  h : ∃ E, H' = H ++ E
def PBx (H : Heap) (v : V) (X : T) (q : Int) : Prop := ∃ j bv lf, v = .ptr j 0 0 ∧ (∀ E, (H ++ E)[j]? = some (.box 2 [bv, .t (ti q)])) ∧ ∀ E, rd (H ++ E) 5 bv = some (X, lf)
theorem PBx.mono {H : Heap} {v : V} {X : T} {q : Int} (h : PBx H v X q) (E : Heap) : PBx (H ++ E) v X q := by
  obtain ⟨j, bv, lf, h1, h2, h3⟩ := h
  exact ⟨j, bv, lf, h1, fun E' => by rw [List.append_assoc]; exact h2 _, fun E' => by rw [List.append_assoc]; exact h3 _⟩
theorem PBx.mo {ds : List Nat} {fr fr' : Fr} {H H' : Heap} (m : Mo ds fr H fr' H') {t : Nat} {X : T} {q : Int} (h : PBx H (fr.get t) X q) (ht : t < 67) (hn : t ∉ ds) : PBx H' (fr'.get t) X q := by
  obtain ⟨E, rfl⟩ := m.h
  rw [m.f t ht hn]
  exact h.mono E
def sX (ok : Bool) (L : List Int) : T := if ok then .lst 1 (til L) else .nil
def sq (ok : Bool) (t : Int) : Int := if ok then t else 0
theorem sX_LN (ok : Bool) (L : List Int) : LN (sX ok L) (if ok then L else []) := by
  cases ok
  · exact .inl ⟨rfl, rfl⟩
  · exact .inr rfl
structure S0 (a1 b1 c1001 a2 b2 c1002 a3 b3 c1003 : Int) (X1 G1 X2 Z : T) (p1001 t1001 p1002 : Int) (fr : Fr) (H : Heap) : Prop where
  f7 : fr.get 7 = .t Z
  f11 : fr.get 11 = .ptr 2 0 0
  f12 : fr.get 12 = .ptr 3 0 0
  f13 : fr.get 13 = .ptr 4 0 0
  f14 : fr.get 14 = .ptr 5 0 0
  f15 : fr.get 15 = .ptr 6 0 0
  f17 : fr.get 17 = .ptr 7 0 0
  u2 : ∀ E, (H ++ E)[2]? = some (.box 3 [.t (ti a1), .t (ti b1), .t (ti c1001)])
  u3 : ∀ E, (H ++ E)[3]? = some (.box 2 [.t X1, .t (ti p1001)])
  u4 : ∀ E, (H ++ E)[4]? = some (.box 2 [.t (ti t1001), .t G1])
  u5 : ∀ E, (H ++ E)[5]? = some (.box 3 [.t (ti a2), .t (ti b2), .t (ti c1002)])
  u6 : ∀ E, (H ++ E)[6]? = some (.box 2 [.t X2, .t (ti p1002)])
  u7 : ∀ E, (H ++ E)[7]? = some (.box 3 [.t (ti a3), .t (ti b3), .t (ti c1003)])
variable {a1 b1 c1001 a2 b2 c1002 a3 b3 c1003 : Int} {X1 G1 X2 Z : T} {p1001 t1001 p1002 : Int} {fr : Fr} {H : Heap}
theorem S0.mo {ds : List Nat} {fr' : Fr} {H' : Heap} (h : S0 a1 b1 c1001 a2 b2 c1002 a3 b3 c1003 X1 G1 X2 Z p1001 t1001 p1002 fr H) (m : Mo ds fr H fr' H') (hd : ∀ t ∈ [7, 11, 12, 13, 14, 15, 17], t ∉ ds) : S0 a1 b1 c1001 a2 b2 c1002 a3 b3 c1003 X1 G1 X2 Z p1001 t1001 p1002 fr' H' := by
  obtain ⟨E, rfl⟩ := m.h
  have e : ∀ t ∈ [7, 11, 12, 13, 14, 15, 17], fr'.get t = fr.get t := fun t ht => m.f t (by simp at ht; omega) (hd t ht)
  exact ⟨(e 7 (by simp)).trans h.f7, (e 11 (by simp)).trans h.f11, (e 12 (by simp)).trans h.f12, (e 13 (by simp)).trans h.f13, (e 14 (by simp)).trans h.f14, (e 15 (by simp)).trans h.f15, (e 17 (by simp)).trans h.f17,
    fun E' => by rw [List.append_assoc]; exact h.u2 _, fun E' => by rw [List.append_assoc]; exact h.u3 _, fun E' => by rw [List.append_assoc]; exact h.u4 _, fun E' => by rw [List.append_assoc]; exact h.u5 _, fun E' => by rw [List.append_assoc]; exact h.u6 _, fun E' => by rw [List.append_assoc]; exact h.u7 _⟩
theorem s200_8 (hS : S0 a1 b1 c1001 a2 b2 c1002 a3 b3 c1003 X1 G1 X2 Z p1001 t1001 p1002 fr H) {ok : Bool} {n : Nat} {L : List Int} {q : Int} (hn : L.length = n) (hr : ownR env 14 [.agg [ti a1, ti b1, ti c1001], .agg [X1, ti p1001], .agg [ti t1001, G1]] = sailR ok n L q) :
    ∃ fr' H', execD env (nth 8 ir3_c) (fr, H) = some (.norm, fr', H') ∧ Mo [35, 36] fr H fr' H' ∧ PBx H' (fr'.get 35) (sX ok L) (sq ok q) ∧ fr'.get 36 = .t (tb ok) := by
  have htk : L.take n = L := List.take_of_length_le (by omega)
  obtain ⟨f7, f11, f12, f13, f14, f15, f17, m1002, m1003, m1004, m1005, m1006, m1007⟩ := hS
  have n2 := m1002 []; have n3 := m1003 []; have n4 := m1004 []; have n5 := m1005 []; have n6 := m1006 []; have n7 := m1007 []
  simp only [List.append_nil] at n2 n3 n4 n5 n6 n7
  cases ok with
  | false =>
    simp only [sailR, Bool.false_eq_true, if_false] at hr
    refine ⟨_, _, (by simp [nth, rst, ir3_c, Fr.get_put, f7, f11, f12, f13, f14, f15, f17, n2, n3, n4, n5, n6, n7, hr]; exact ⟨rfl, rfl⟩), ⟨fun t ht hn => ?_, ⟨_, rfl⟩⟩, ?_, ?_⟩
    · simp only [Fr.get_put]
      simp only [List.mem_cons, not_or, List.not_mem_nil, not_false_eq_true, and_true] at hn
      repeat rw [if_neg (by omega)]
    · exact ⟨H.length, .t .nil, [], by simp [Fr.get_put], fun E => by simp [sq], fun E => by simp [sX]⟩
    · simp [Fr.get_put]
  | true =>
    simp only [sailR, if_true] at hr
    refine ⟨_, _, (by simp [nth, rst, ir3_c, Fr.get_put, f7, f11, f12, f13, f14, f15, f17, n2, n3, n4, n5, n6, n7, hr]; exact ⟨rfl, rfl⟩), ⟨fun t ht hn => ?_, ⟨_, rfl⟩⟩, ?_, ?_⟩
    · simp only [Fr.get_put]
      simp only [List.mem_cons, not_or, List.not_mem_nil, not_false_eq_true, and_true] at hn
      repeat rw [if_neg (by omega)]
    · exact ⟨H.length + 1, .ref H.length 0 n, [(H.length, .froz 1 (til L))], by simp [Fr.get_put], fun E => by simp [sq], fun E => by simp [sX, htk]⟩
    · simp [Fr.get_put]
theorem s200_9 (hS : S0 a1 b1 c1001 a2 b2 c1002 a3 b3 c1003 X1 G1 X2 Z p1001 t1001 p1002 fr H) {ok : Bool} {n : Nat} {L : List Int} {q : Int} (hn : L.length = n) (hr : ownR env 17 [.agg [ti a1, ti b1, ti c1001], .agg [X1, ti p1001], .agg [ti t1001, G1]] = sailR ok n L q) :
    ∃ fr' H', execD env (nth 9 ir3_c) (fr, H) = some (.norm, fr', H') ∧ Mo [37, 38] fr H fr' H' ∧ PBx H' (fr'.get 37) (sX ok L) (sq ok q) ∧ fr'.get 38 = .t (tb ok) := by
  have htk : L.take n = L := List.take_of_length_le (by omega)
  obtain ⟨f7, f11, f12, f13, f14, f15, f17, m1002, m1003, m1004, m1005, m1006, m1007⟩ := hS
  have n2 := m1002 []; have n3 := m1003 []; have n4 := m1004 []; have n5 := m1005 []; have n6 := m1006 []; have n7 := m1007 []
  simp only [List.append_nil] at n2 n3 n4 n5 n6 n7
  cases ok with
  | false =>
    simp only [sailR, Bool.false_eq_true, if_false] at hr
    refine ⟨_, _, (by simp [nth, rst, ir3_c, Fr.get_put, f7, f11, f12, f13, f14, f15, f17, n2, n3, n4, n5, n6, n7, hr]; exact ⟨rfl, rfl⟩), ⟨fun t ht hn => ?_, ⟨_, rfl⟩⟩, ?_, ?_⟩
    · simp only [Fr.get_put]
      simp only [List.mem_cons, not_or, List.not_mem_nil, not_false_eq_true, and_true] at hn
      repeat rw [if_neg (by omega)]
    · exact ⟨H.length, .t .nil, [], by simp [Fr.get_put], fun E => by simp [sq], fun E => by simp [sX]⟩
    · simp [Fr.get_put]
  | true =>
    simp only [sailR, if_true] at hr
    refine ⟨_, _, (by simp [nth, rst, ir3_c, Fr.get_put, f7, f11, f12, f13, f14, f15, f17, n2, n3, n4, n5, n6, n7, hr]; exact ⟨rfl, rfl⟩), ⟨fun t ht hn => ?_, ⟨_, rfl⟩⟩, ?_, ?_⟩
    · simp only [Fr.get_put]
      simp only [List.mem_cons, not_or, List.not_mem_nil, not_false_eq_true, and_true] at hn
      repeat rw [if_neg (by omega)]
    · exact ⟨H.length + 1, .ref H.length 0 n, [(H.length, .froz 1 (til L))], by simp [Fr.get_put], fun E => by simp [sq], fun E => by simp [sX, htk]⟩
    · simp [Fr.get_put]
theorem s200_10 (hS : S0 a1 b1 c1001 a2 b2 c1002 a3 b3 c1003 X1 G1 X2 Z p1001 t1001 p1002 fr H) {ok : Bool} {n : Nat} {L : List Int} {q : Int} (hn : L.length = n) (hr : ownR env 18 [.agg [ti a2, ti b2, ti c1002], .agg [X2, ti p1002], Z] = sailR ok n L q) :
    ∃ fr' H', execD env (nth 10 ir3_c) (fr, H) = some (.norm, fr', H') ∧ Mo [39, 40] fr H fr' H' ∧ PBx H' (fr'.get 39) (sX ok L) (sq ok q) ∧ fr'.get 40 = .t (tb ok) := by
  have htk : L.take n = L := List.take_of_length_le (by omega)
  obtain ⟨f7, f11, f12, f13, f14, f15, f17, m1002, m1003, m1004, m1005, m1006, m1007⟩ := hS
  have n2 := m1002 []; have n3 := m1003 []; have n4 := m1004 []; have n5 := m1005 []; have n6 := m1006 []; have n7 := m1007 []
  simp only [List.append_nil] at n2 n3 n4 n5 n6 n7
  cases ok with
  | false =>
    simp only [sailR, Bool.false_eq_true, if_false] at hr
    refine ⟨_, _, (by simp [nth, rst, ir3_c, Fr.get_put, f7, f11, f12, f13, f14, f15, f17, n2, n3, n4, n5, n6, n7, hr]; exact ⟨rfl, rfl⟩), ⟨fun t ht hn => ?_, ⟨_, rfl⟩⟩, ?_, ?_⟩
    · simp only [Fr.get_put]
      simp only [List.mem_cons, not_or, List.not_mem_nil, not_false_eq_true, and_true] at hn
      repeat rw [if_neg (by omega)]
    · exact ⟨H.length, .t .nil, [], by simp [Fr.get_put], fun E => by simp [sq], fun E => by simp [sX]⟩
    · simp [Fr.get_put]
  | true =>
    simp only [sailR, if_true] at hr
    refine ⟨_, _, (by simp [nth, rst, ir3_c, Fr.get_put, f7, f11, f12, f13, f14, f15, f17, n2, n3, n4, n5, n6, n7, hr]; exact ⟨rfl, rfl⟩), ⟨fun t ht hn => ?_, ⟨_, rfl⟩⟩, ?_, ?_⟩
    · simp only [Fr.get_put]
      simp only [List.mem_cons, not_or, List.not_mem_nil, not_false_eq_true, and_true] at hn
      repeat rw [if_neg (by omega)]
    · exact ⟨H.length + 1, .ref H.length 0 n, [(H.length, .froz 1 (til L))], by simp [Fr.get_put], fun E => by simp [sq], fun E => by simp [sX, htk]⟩
    · simp [Fr.get_put]
theorem s200_11 (hS : S0 a1 b1 c1001 a2 b2 c1002 a3 b3 c1003 X1 G1 X2 Z p1001 t1001 p1002 fr H) {ok : Bool} {n : Nat} {L : List Int} {q : Int} (hn : L.length = n) (hr : ownR env 19 [.agg [ti a2, ti b2, ti c1002], .agg [X2, ti p1002], Z] = sailR ok n L q) :
    ∃ fr' H', execD env (nth 11 ir3_c) (fr, H) = some (.norm, fr', H') ∧ Mo [41, 42] fr H fr' H' ∧ PBx H' (fr'.get 41) (sX ok L) (sq ok q) ∧ fr'.get 42 = .t (tb ok) := by
  have htk : L.take n = L := List.take_of_length_le (by omega)
  obtain ⟨f7, f11, f12, f13, f14, f15, f17, m1002, m1003, m1004, m1005, m1006, m1007⟩ := hS
  have n2 := m1002 []; have n3 := m1003 []; have n4 := m1004 []; have n5 := m1005 []; have n6 := m1006 []; have n7 := m1007 []
  simp only [List.append_nil] at n2 n3 n4 n5 n6 n7
  cases ok with
  | false =>
    simp only [sailR, Bool.false_eq_true, if_false] at hr
    refine ⟨_, _, (by simp [nth, rst, ir3_c, Fr.get_put, f7, f11, f12, f13, f14, f15, f17, n2, n3, n4, n5, n6, n7, hr]; exact ⟨rfl, rfl⟩), ⟨fun t ht hn => ?_, ⟨_, rfl⟩⟩, ?_, ?_⟩
    · simp only [Fr.get_put]
      simp only [List.mem_cons, not_or, List.not_mem_nil, not_false_eq_true, and_true] at hn
      repeat rw [if_neg (by omega)]
    · exact ⟨H.length, .t .nil, [], by simp [Fr.get_put], fun E => by simp [sq], fun E => by simp [sX]⟩
    · simp [Fr.get_put]
  | true =>
    simp only [sailR, if_true] at hr
    refine ⟨_, _, (by simp [nth, rst, ir3_c, Fr.get_put, f7, f11, f12, f13, f14, f15, f17, n2, n3, n4, n5, n6, n7, hr]; exact ⟨rfl, rfl⟩), ⟨fun t ht hn => ?_, ⟨_, rfl⟩⟩, ?_, ?_⟩
    · simp only [Fr.get_put]
      simp only [List.mem_cons, not_or, List.not_mem_nil, not_false_eq_true, and_true] at hn
      repeat rw [if_neg (by omega)]
    · exact ⟨H.length + 1, .ref H.length 0 n, [(H.length, .froz 1 (til L))], by simp [Fr.get_put], fun E => by simp [sq], fun E => by simp [sX, htk]⟩
    · simp [Fr.get_put]
theorem s200_12 (hS : S0 a1 b1 c1001 a2 b2 c1002 a3 b3 c1003 X1 G1 X2 Z p1001 t1001 p1002 fr H) {r : Int × Bool} (hr : ownR env 20 [.agg [ti a2, ti b2, ti c1002], .agg [X2, ti p1002], Z] = some (.tup [.t (ti r.1), .t (tb r.2)], [])) :
    ∃ fr' H', execD env (nth 12 ir3_c) (fr, H) = some (.norm, fr', H') ∧ Mo [43, 44] fr H fr' H' ∧ fr'.get 43 = .t (ti r.1) ∧ fr'.get 44 = .t (tb r.2) := by
  obtain ⟨f7, f11, f12, f13, f14, f15, f17, m1002, m1003, m1004, m1005, m1006, m1007⟩ := hS
  have n2 := m1002 []; have n3 := m1003 []; have n4 := m1004 []; have n5 := m1005 []; have n6 := m1006 []; have n7 := m1007 []
  simp only [List.append_nil] at n2 n3 n4 n5 n6 n7
  refine ⟨_, H, (by simp [nth, rst, ir3_c, Fr.get_put, f7, f11, f12, f13, f14, f15, f17, n2, n3, n4, n5, n6, n7, hr]; rfl), ⟨fun t ht hn => ?_, ⟨[], (List.append_nil _).symm⟩⟩, ?_, ?_⟩
  · simp only [Fr.get_put]
    simp only [List.mem_cons, not_or, List.not_mem_nil, not_false_eq_true, and_true] at hn
    repeat rw [if_neg (by omega)]
  · simp [Fr.get_put]
  · simp [Fr.get_put]
theorem s200_13 (hS : S0 a1 b1 c1001 a2 b2 c1002 a3 b3 c1003 X1 G1 X2 Z p1001 t1001 p1002 fr H) {r : Int × Bool} (hr : ownR env 21 [.agg [ti a2, ti b2, ti c1002], .agg [X2, ti p1002], Z] = some (.tup [.t (ti r.1), .t (tb r.2)], [])) :
    ∃ fr' H', execD env (nth 13 ir3_c) (fr, H) = some (.norm, fr', H') ∧ Mo [45, 46] fr H fr' H' ∧ fr'.get 45 = .t (ti r.1) ∧ fr'.get 46 = .t (tb r.2) := by
  obtain ⟨f7, f11, f12, f13, f14, f15, f17, m1002, m1003, m1004, m1005, m1006, m1007⟩ := hS
  have n2 := m1002 []; have n3 := m1003 []; have n4 := m1004 []; have n5 := m1005 []; have n6 := m1006 []; have n7 := m1007 []
  simp only [List.append_nil] at n2 n3 n4 n5 n6 n7
  refine ⟨_, H, (by simp [nth, rst, ir3_c, Fr.get_put, f7, f11, f12, f13, f14, f15, f17, n2, n3, n4, n5, n6, n7, hr]; rfl), ⟨fun t ht hn => ?_, ⟨[], (List.append_nil _).symm⟩⟩, ?_, ?_⟩
  · simp only [Fr.get_put]
    simp only [List.mem_cons, not_or, List.not_mem_nil, not_false_eq_true, and_true] at hn
    repeat rw [if_neg (by omega)]
  · simp [Fr.get_put]
  · simp [Fr.get_put]
theorem s200_14 (hS : S0 a1 b1 c1001 a2 b2 c1002 a3 b3 c1003 X1 G1 X2 Z p1001 t1001 p1002 fr H) {ok : Bool} {n : Nat} {L : List Int} {q : Int} (hn : L.length = n) (hr : ownR env 22 [.agg [ti a3, ti b3, ti c1003]] = sailR ok n L q) :
    ∃ fr' H', execD env (nth 14 ir3_c) (fr, H) = some (.norm, fr', H') ∧ Mo [47, 48] fr H fr' H' ∧ PBx H' (fr'.get 47) (sX ok L) (sq ok q) ∧ fr'.get 48 = .t (tb ok) := by
  have htk : L.take n = L := List.take_of_length_le (by omega)
  obtain ⟨f7, f11, f12, f13, f14, f15, f17, m1002, m1003, m1004, m1005, m1006, m1007⟩ := hS
  have n2 := m1002 []; have n3 := m1003 []; have n4 := m1004 []; have n5 := m1005 []; have n6 := m1006 []; have n7 := m1007 []
  simp only [List.append_nil] at n2 n3 n4 n5 n6 n7
  cases ok with
  | false =>
    simp only [sailR, Bool.false_eq_true, if_false] at hr
    refine ⟨_, _, (by simp [nth, rst, ir3_c, Fr.get_put, f7, f11, f12, f13, f14, f15, f17, n2, n3, n4, n5, n6, n7, hr]; exact ⟨rfl, rfl⟩), ⟨fun t ht hn => ?_, ⟨_, rfl⟩⟩, ?_, ?_⟩
    · simp only [Fr.get_put]
      simp only [List.mem_cons, not_or, List.not_mem_nil, not_false_eq_true, and_true] at hn
      repeat rw [if_neg (by omega)]
    · exact ⟨H.length, .t .nil, [], by simp [Fr.get_put], fun E => by simp [sq], fun E => by simp [sX]⟩
    · simp [Fr.get_put]
  | true =>
    simp only [sailR, if_true] at hr
    refine ⟨_, _, (by simp [nth, rst, ir3_c, Fr.get_put, f7, f11, f12, f13, f14, f15, f17, n2, n3, n4, n5, n6, n7, hr]; exact ⟨rfl, rfl⟩), ⟨fun t ht hn => ?_, ⟨_, rfl⟩⟩, ?_, ?_⟩
    · simp only [Fr.get_put]
      simp only [List.mem_cons, not_or, List.not_mem_nil, not_false_eq_true, and_true] at hn
      repeat rw [if_neg (by omega)]
    · exact ⟨H.length + 1, .ref H.length 0 n, [(H.length, .froz 1 (til L))], by simp [Fr.get_put], fun E => by simp [sq], fun E => by simp [sX, htk]⟩
    · simp [Fr.get_put]
theorem s200_15 (hS : S0 a1 b1 c1001 a2 b2 c1002 a3 b3 c1003 X1 G1 X2 Z p1001 t1001 p1002 fr H) {ok : Bool} {n : Nat} {L : List Int} {q : Int} (hn : L.length = n) (hr : ownR env 23 [.agg [ti a3, ti b3, ti c1003]] = sailR ok n L q) :
    ∃ fr' H', execD env (nth 15 ir3_c) (fr, H) = some (.norm, fr', H') ∧ Mo [49, 50] fr H fr' H' ∧ PBx H' (fr'.get 49) (sX ok L) (sq ok q) ∧ fr'.get 50 = .t (tb ok) := by
  have htk : L.take n = L := List.take_of_length_le (by omega)
  obtain ⟨f7, f11, f12, f13, f14, f15, f17, m1002, m1003, m1004, m1005, m1006, m1007⟩ := hS
  have n2 := m1002 []; have n3 := m1003 []; have n4 := m1004 []; have n5 := m1005 []; have n6 := m1006 []; have n7 := m1007 []
  simp only [List.append_nil] at n2 n3 n4 n5 n6 n7
  cases ok with
  | false =>
    simp only [sailR, Bool.false_eq_true, if_false] at hr
    refine ⟨_, _, (by simp [nth, rst, ir3_c, Fr.get_put, f7, f11, f12, f13, f14, f15, f17, n2, n3, n4, n5, n6, n7, hr]; exact ⟨rfl, rfl⟩), ⟨fun t ht hn => ?_, ⟨_, rfl⟩⟩, ?_, ?_⟩
    · simp only [Fr.get_put]
      simp only [List.mem_cons, not_or, List.not_mem_nil, not_false_eq_true, and_true] at hn
      repeat rw [if_neg (by omega)]
    · exact ⟨H.length, .t .nil, [], by simp [Fr.get_put], fun E => by simp [sq], fun E => by simp [sX]⟩
    · simp [Fr.get_put]
  | true =>
    simp only [sailR, if_true] at hr
    refine ⟨_, _, (by simp [nth, rst, ir3_c, Fr.get_put, f7, f11, f12, f13, f14, f15, f17, n2, n3, n4, n5, n6, n7, hr]; exact ⟨rfl, rfl⟩), ⟨fun t ht hn => ?_, ⟨_, rfl⟩⟩, ?_, ?_⟩
    · simp only [Fr.get_put]
      simp only [List.mem_cons, not_or, List.not_mem_nil, not_false_eq_true, and_true] at hn
      repeat rw [if_neg (by omega)]
    · exact ⟨H.length + 1, .ref H.length 0 n, [(H.length, .froz 1 (til L))], by simp [Fr.get_put], fun E => by simp [sq], fun E => by simp [sX, htk]⟩
    · simp [Fr.get_put]
theorem s200_16 (hS : S0 a1 b1 c1001 a2 b2 c1002 a3 b3 c1003 X1 G1 X2 Z p1001 t1001 p1002 fr H) {ok : Bool} {n : Nat} {L : List Int} {q : Int} (hn : L.length = n) (hr : ownR env 24 [.agg [ti a3, ti b3, ti c1003]] = sailR ok n L q) :
    ∃ fr' H', execD env (nth 16 ir3_c) (fr, H) = some (.norm, fr', H') ∧ Mo [51, 52] fr H fr' H' ∧ PBx H' (fr'.get 51) (sX ok L) (sq ok q) ∧ fr'.get 52 = .t (tb ok) := by
  have htk : L.take n = L := List.take_of_length_le (by omega)
  obtain ⟨f7, f11, f12, f13, f14, f15, f17, m1002, m1003, m1004, m1005, m1006, m1007⟩ := hS
  have n2 := m1002 []; have n3 := m1003 []; have n4 := m1004 []; have n5 := m1005 []; have n6 := m1006 []; have n7 := m1007 []
  simp only [List.append_nil] at n2 n3 n4 n5 n6 n7
  cases ok with
  | false =>
    simp only [sailR, Bool.false_eq_true, if_false] at hr
    refine ⟨_, _, (by simp [nth, rst, ir3_c, Fr.get_put, f7, f11, f12, f13, f14, f15, f17, n2, n3, n4, n5, n6, n7, hr]; exact ⟨rfl, rfl⟩), ⟨fun t ht hn => ?_, ⟨_, rfl⟩⟩, ?_, ?_⟩
    · simp only [Fr.get_put]
      simp only [List.mem_cons, not_or, List.not_mem_nil, not_false_eq_true, and_true] at hn
      repeat rw [if_neg (by omega)]
    · exact ⟨H.length, .t .nil, [], by simp [Fr.get_put], fun E => by simp [sq], fun E => by simp [sX]⟩
    · simp [Fr.get_put]
  | true =>
    simp only [sailR, if_true] at hr
    refine ⟨_, _, (by simp [nth, rst, ir3_c, Fr.get_put, f7, f11, f12, f13, f14, f15, f17, n2, n3, n4, n5, n6, n7, hr]; exact ⟨rfl, rfl⟩), ⟨fun t ht hn => ?_, ⟨_, rfl⟩⟩, ?_, ?_⟩
    · simp only [Fr.get_put]
      simp only [List.mem_cons, not_or, List.not_mem_nil, not_false_eq_true, and_true] at hn
      repeat rw [if_neg (by omega)]
    · exact ⟨H.length + 1, .ref H.length 0 n, [(H.length, .froz 1 (til L))], by simp [Fr.get_put], fun E => by simp [sq], fun E => by simp [sX, htk]⟩
    · simp [Fr.get_put]
theorem s200_17 (hS : S0 a1 b1 c1001 a2 b2 c1002 a3 b3 c1003 X1 G1 X2 Z p1001 t1001 p1002 fr H) {ok : Bool} {n : Nat} {L : List Int} {q : Int} (hn : L.length = n) (hr : ownR env 25 [.agg [ti a3, ti b3, ti c1003]] = sailR ok n L q) :
    ∃ fr' H', execD env (nth 17 ir3_c) (fr, H) = some (.norm, fr', H') ∧ Mo [53, 54] fr H fr' H' ∧ PBx H' (fr'.get 53) (sX ok L) (sq ok q) ∧ fr'.get 54 = .t (tb ok) := by
  have htk : L.take n = L := List.take_of_length_le (by omega)
  obtain ⟨f7, f11, f12, f13, f14, f15, f17, m1002, m1003, m1004, m1005, m1006, m1007⟩ := hS
  have n2 := m1002 []; have n3 := m1003 []; have n4 := m1004 []; have n5 := m1005 []; have n6 := m1006 []; have n7 := m1007 []
  simp only [List.append_nil] at n2 n3 n4 n5 n6 n7
  cases ok with
  | false =>
    simp only [sailR, Bool.false_eq_true, if_false] at hr
    refine ⟨_, _, (by simp [nth, rst, ir3_c, Fr.get_put, f7, f11, f12, f13, f14, f15, f17, n2, n3, n4, n5, n6, n7, hr]; exact ⟨rfl, rfl⟩), ⟨fun t ht hn => ?_, ⟨_, rfl⟩⟩, ?_, ?_⟩
    · simp only [Fr.get_put]
      simp only [List.mem_cons, not_or, List.not_mem_nil, not_false_eq_true, and_true] at hn
      repeat rw [if_neg (by omega)]
    · exact ⟨H.length, .t .nil, [], by simp [Fr.get_put], fun E => by simp [sq], fun E => by simp [sX]⟩
    · simp [Fr.get_put]
  | true =>
    simp only [sailR, if_true] at hr
    refine ⟨_, _, (by simp [nth, rst, ir3_c, Fr.get_put, f7, f11, f12, f13, f14, f15, f17, n2, n3, n4, n5, n6, n7, hr]; exact ⟨rfl, rfl⟩), ⟨fun t ht hn => ?_, ⟨_, rfl⟩⟩, ?_, ?_⟩
    · simp only [Fr.get_put]
      simp only [List.mem_cons, not_or, List.not_mem_nil, not_false_eq_true, and_true] at hn
      repeat rw [if_neg (by omega)]
    · exact ⟨H.length + 1, .ref H.length 0 n, [(H.length, .froz 1 (til L))], by simp [Fr.get_put], fun E => by simp [sq], fun E => by simp [sX, htk]⟩
    · simp [Fr.get_put]
end Go.Proofs.Ytdgfpjlmpnfcgaa.Ev

namespace Go.Proofs.Ytdgfpjlmpnfcgaa.Ev
open Go
set_option linter.unusedVariables false
set_option linter.unusedSimpArgs false
set_option linter.unusedSectionVars false
attribute [local simp] til_getE til_length til_get til_drop til_take til_snoc til_fold take_snoc til_set
theorem PBx.all {H : Heap} {v : V} {X : T} {q : Int} (h : PBx H v X q) : ∃ j bv lf, v = .ptr j 0 0 ∧ H[j]? = some (.box 2 [bv, .t (ti q)]) ∧ rd H 5 bv = some (X, lf) ∧ (∀ E, (H ++ E)[j]? = some (.box 2 [bv, .t (ti q)])) ∧ ∀ E, rd (H ++ E) 5 bv = some (X, lf) := by
  obtain ⟨j, bv, lf, h1, h2, h3⟩ := h
  have h2' := h2 []
  have h3' := h3 []
  rw [List.append_nil] at h2' h3'
  exact ⟨j, bv, lf, h1, h2', h3', h2, h3⟩
theorem same211 (ok : Bool) (L : List Int) (q : Int) (h : L.length ≤ 2 ^ 40) : ownR env 15 [.agg [sX ok L, ti q], .agg [sX ok L, ti q]] = some (.t (tb true), []) := by
  have h1 := r15 _ _ _ _ (sX_LN ok L) (sX_LN ok L) (by split; exact h; simp) q q
  simpa using h1
variable {a1 b1 c1001 a2 b2 c1002 a3 b3 c1003 : Int} {X1 G1 X2 Z : T} {p1001 t1001 p1002 : Int} {fr : Fr} {H : Heap}
set_option maxHeartbeats 4000000 in
set_option maxRecDepth 20000 in
theorem s200_18 (hS : S0 a1 b1 c1001 a2 b2 c1002 a3 b3 c1003 X1 G1 X2 Z p1001 t1001 p1002 fr H) {s1 b5 b7 : Bool} {L1 L5 L9 LA : List Int} {q1001 q1005 q1009 qA k : Int}
    (hl1 : L1.length ≤ 2 ^ 40) (hl5 : L5.length ≤ 2 ^ 40) (hl9 : L9.length ≤ 2 ^ 40) (hlA : LA.length ≤ 2 ^ 40)
    (B35 : PBx H (fr.get 35) (sX s1 L1) (sq s1 q1001)) (f36 : fr.get 36 = .t (tb s1)) (B37 : PBx H (fr.get 37) (sX s1 L1) (sq s1 q1001)) (f38 : fr.get 38 = .t (tb s1))
    (B39 : PBx H (fr.get 39) (sX b5 L5) (sq b5 q1005)) (f40 : fr.get 40 = .t (tb b5)) (B41 : PBx H (fr.get 41) (sX b5 L5) (sq b5 q1005)) (f42 : fr.get 42 = .t (tb b5))
    (f43 : fr.get 43 = .t (ti k)) (f44 : fr.get 44 = .t (tb b7)) (f45 : fr.get 45 = .t (ti k)) (f46 : fr.get 46 = .t (tb b7)) (h57 : (b5 && b7) = false)
    (B47 : PBx H (fr.get 47) (sX (good a3 b3 c1003) L9) (sq (good a3 b3 c1003) q1009)) (f48 : fr.get 48 = .t (tb (good a3 b3 c1003))) (B49 : PBx H (fr.get 49) (sX (good a3 b3 c1003) L9) (sq (good a3 b3 c1003) q1009)) (f50 : fr.get 50 = .t (tb (good a3 b3 c1003)))
    (B51 : PBx H (fr.get 51) (sX (good a3 b3 c1003) LA) (sq (good a3 b3 c1003) qA)) (f52 : fr.get 52 = .t (tb (good a3 b3 c1003))) (B53 : PBx H (fr.get 53) (sX (good a3 b3 c1003) LA) (sq (good a3 b3 c1003) qA)) (f54 : fr.get 54 = .t (tb (good a3 b3 c1003))) :
    ∃ fr' H', execD env (nth 18 ir3_c) (fr, H) = some (.norm, fr', H') ∧ Mo [] fr H fr' H' := by
  obtain ⟨f7, f11, f12, f13, f14, f15, f17, m1002, m1003, m1004, m1005, m1006, m1007⟩ := hS
  have n7 := m1007 []
  rw [List.append_nil] at n7
  have g1 := same211 s1 L1 (sq s1 q1001) hl1
  have g5 := same211 b5 L5 (sq b5 q1005) hl5
  have g9 := same211 (good a3 b3 c1003) L9 (sq (good a3 b3 c1003) q1009) hl9
  have gA := same211 (good a3 b3 c1003) LA (sq (good a3 b3 c1003) qA) hlA
  obtain ⟨j35, v35, l1035, e1035, h35, d1035, -, -⟩ := B35.all
  obtain ⟨j37, v37, l1037, e1037, h37, d1037, -, -⟩ := B37.all
  obtain ⟨j39, v39, l40, e40, h39, d40, -, -⟩ := B39.all
  obtain ⟨j41, v41, l1041, e1041, h41, d1041, -, -⟩ := B41.all
  obtain ⟨j47, v47, l1047, e1047, h47, d1047, -, -⟩ := B47.all
  obtain ⟨j49, v49, l51, e51, h49, d51, -, -⟩ := B49.all
  obtain ⟨j51, v51, l1051, e1051, h51, d1051, -, -⟩ := B51.all
  obtain ⟨j53, v53, l45, e45, h53, d45, -, -⟩ := B53.all
  cases b5 <;> cases b7 <;> simp at h57
  all_goals
   refine ⟨_, H, (by simp [nth, rst, ir3_c, Fr.get_put, f17, n7, e1035, h35, d1035, e1037, h37, d1037, e40, h39, d40, e1041, h41, d1041, e1047, h47, d1047, e51, h49, d51, e1051, h51, d1051, e45, h53, d45, f36, f38, f40, f42, f43, f44, f45, f46, f48, f50, f52, f54, g1, g5, g9, gA]; rfl), ⟨fun t ht hn => ?_, ⟨[], (List.append_nil _).symm⟩⟩⟩
   simp only [Fr.get_put]
   repeat rw [if_neg (by omega)]
end Go.Proofs.Ytdgfpjlmpnfcgaa.Ev

namespace Go.Proofs.Ytdgfpjlmpnfcgaa.Ev
open Go
set_option linter.unusedVariables false
set_option linter.unusedSimpArgs false
set_option linter.unusedSectionVars false
attribute [local simp] til_getE til_length til_get til_drop til_take til_snoc til_fold take_snoc til_set
variable {a1 b1 c1001 a2 b2 c1002 a3 b3 c1003 : Int} {X1 G1 X2 Z : T} {p1001 t1001 p1002 : Int} {fr : Fr} {H : Heap}
set_option maxHeartbeats 4000000 in
set_option maxRecDepth 20000 in
theorem s200_19 (hS : S0 a1 b1 c1001 a2 b2 c1002 a3 b3 c1003 X1 G1 X2 Z p1001 t1001 p1002 fr H) {g3 : Bool} {L9 LA : List Int} {q1009 qA : Int}
    (B47 : PBx H (fr.get 47) (sX g3 L9) (sq g3 q1009)) (f48 : fr.get 48 = .t (tb g3)) (B51 : PBx H (fr.get 51) (sX g3 LA) (sq g3 qA))
    (h1 : g3 = true → ownR env 7 [.agg [ti a3, ti b3, ti c1003], .agg [.lst 1 (til L9), ti q1009]] = some (.tup [.t (tb true), .t (tb true)], []))
    (h2 : g3 = true → ownR env 7 [.agg [ti a3, ti b3, ti c1003], .agg [.lst 1 (til LA), ti qA]] = some (.tup [.t (tb true), .t (tb true)], [])) :
    ∃ fr' H', execD env (nth 19 ir3_c) (fr, H) = some (.norm, fr', H') ∧ Mo [55, 56, 57, 58] fr H fr' H' := by
  obtain ⟨f7, f11, f12, f13, f14, f15, f17, m1002, m1003, m1004, m1005, m1006, m1007⟩ := hS
  have n7 := m1007 []
  rw [List.append_nil] at n7
  obtain ⟨j47, v47, l1047, e1047, h47, d1047, -, -⟩ := B47.all
  obtain ⟨j51, v51, l1051, e1051, h51, d1051, -, -⟩ := B51.all
  cases g3 with
  | false =>
    refine ⟨_, H, (by simp [nth, rst, ir3_c, Fr.get_put, f48]; rfl), ⟨fun t ht hn => ?_, ⟨[], (List.append_nil _).symm⟩⟩⟩
    simp only [Fr.get_put]
    repeat rw [if_neg (by omega)]
  | true =>
    have h1 := h1 rfl
    have h2 := h2 rfl
    simp only [sX, sq, if_true] at d1047 d1051 h47 h51
    refine ⟨_, H, (by simp [nth, rst, ir3_c, Fr.get_put, f48, f17, n7, e1047, h47, d1047, e1051, h51, d1051, h1, h2]; rfl), ⟨fun t ht hn => ?_, ⟨[], (List.append_nil _).symm⟩⟩⟩
    simp only [Fr.get_put]
    simp only [List.mem_cons, not_or, List.not_mem_nil, not_false_eq_true, and_true] at hn
    repeat rw [if_neg (by omega)]
set_option maxHeartbeats 4000000 in
set_option maxRecDepth 20000 in
theorem s200_20 (hS : S0 a1 b1 c1001 a2 b2 c1002 a3 b3 c1003 X1 G1 X2 Z p1001 t1001 p1002 fr H) {b5 : Bool} {L5 : List Int} {q1005 : Int} (hl5 : L5.length ≤ 2 ^ 40)
    (B39 : PBx H (fr.get 39) (sX b5 L5) (sq b5 q1005)) (f40 : fr.get 40 = .t (tb b5))
    (hZ : b5 = false ∨ Z = .nil ∨ Z = .lst 2 [] ∨ ∃ (v : Int) (G0 : T) (ts : List T) (L : List Int), Z = .lst 2 (.agg [ti v, G0] :: ts) ∧ L.length ≤ 1000 ∧ ts.length ≤ 2 ^ 30 ∧ ownR env 14 [.agg [ti a2, ti b2, ti c1002], .agg [X2, ti p1002], .agg [ti v, G0]] = sailR true L.length L v ∧
      ownR env 18 [.agg [ti a2, ti b2, ti c1002], .agg [.lst 1 (til L), ti v], .lst 2 ts] = sailR true L5.length L5 q1005) :
    ∃ fr' H', execD env (nth 20 ir3_c) (fr, H) = some (.norm, fr', H') ∧ Mo [59, 60, 61, 62] fr H fr' H' := by
  obtain ⟨f7, f11, f12, f13, f14, f15, f17, m1002, m1003, m1004, m1005, m1006, m1007⟩ := hS
  have n5 := m1005 []; have n6 := m1006 []
  simp only [List.append_nil] at n5 n6
  obtain ⟨j39, v39, l40, e40, h39, d40, k40, r40⟩ := B39.all
  have fin : ∀ (fr' : Fr) (E : Heap), execD env (nth 20 ir3_c) (fr, H) = some (.norm, fr', H ++ E) → (∀ t, t < 67 → t ∉ [59, 60, 61, 62] → fr'.get t = fr.get t) → ∃ fr' H', execD env (nth 20 ir3_c) (fr, H) = some (.norm, fr', H') ∧ Mo [59, 60, 61, 62] fr H fr' H' := fun fr' E h1 h2 => ⟨fr', H ++ E, h1, h2, E, rfl⟩
  cases b5 with
  | false =>
    refine fin _ [] (by simp [nth, rst, ir3_c, Fr.get_put, f40]; rfl) fun t ht hn => ?_
    simp only [Fr.get_put]
    repeat rw [if_neg (by omega)]
  | true =>
    rcases hZ with h | rfl | rfl | ⟨v, G0, ts, L, rfl, hL, hts, r1001, r1002⟩
    · cases h
    · refine fin _ [] (by simp [nth, rst, ir3_c, Fr.get_put, f40, f7]; rfl) fun t ht hn => ?_
      simp only [Fr.get_put]
      repeat rw [if_neg (by omega)]
    · refine fin _ [] (by simp [nth, rst, ir3_c, Fr.get_put, f40, f7]; rfl) fun t ht hn => ?_
      simp only [Fr.get_put]
      repeat rw [if_neg (by omega)]
    · have g5 := same211 true L5 q1005 hl5
      have htk : L.take L.length = L := List.take_length
      simp only [sailR, if_true] at r1001 r1002
      simp only [sX, sq, if_true] at d40 h39 k40 r40 g5
      refine fin _ _ (by simp [nth, rst, ir3_c, Fr.get_put, f40, f7, f14, f15, n5, n6, m1005, m1006, r1001, r1002, e40, h39, d40, k40, r40, g5, til_flat]; exact ⟨rfl, rfl⟩) fun t ht hn => ?_
      simp only [Fr.get_put]
      simp only [List.mem_cons, not_or, List.not_mem_nil, not_false_eq_true, and_true] at hn
      repeat rw [if_neg (by omega)]
set_option maxHeartbeats 4000000 in
set_option maxRecDepth 20000 in
theorem s200_21 (hS : S0 a1 b1 c1001 a2 b2 c1002 a3 b3 c1003 X1 G1 X2 Z p1001 t1001 p1002 fr H) {b7 : Bool} {k : Int} (f43 : fr.get 43 = .t (ti k)) (f44 : fr.get 44 = .t (tb b7))
    (hZ : b7 = false ∨ ∃ (v : Int) (G0 : T) (ts : List T) (L : List Int) (q : Int) (i : Nat), k = i ∧ Z = .lst 2 ts ∧ ts.length ≤ 2 ^ 30 ∧ ∃ hi : i < ts.length, ts[i] = .agg [ti v, G0] ∧ ownR env 18 [.agg [ti a2, ti b2, ti c1002], .agg [X2, ti p1002], .lst 2 (ts.take i)] = sailR true L.length L q ∧
      ownR env 14 [.agg [ti a2, ti b2, ti c1002], .agg [.lst 1 (til L), ti q], .agg [ti v, G0]] = some (.tup [.agg [.t .nil, .t (ti 0)], .t (tb false)], [])) :
    ∃ fr' H', execD env (nth 21 ir3_c) (fr, H) = some (.norm, fr', H') ∧ Mo [63, 64, 65, 66] fr H fr' H' := by
  obtain ⟨f7, f11, f12, f13, f14, f15, f17, m1002, m1003, m1004, m1005, m1006, m1007⟩ := hS
  have n5 := m1005 []; have n6 := m1006 []
  simp only [List.append_nil] at n5 n6
  have fin : ∀ (fr' : Fr) (E : Heap), execD env (nth 21 ir3_c) (fr, H) = some (.norm, fr', H ++ E) → (∀ t, t < 67 → t ∉ [63, 64, 65, 66] → fr'.get t = fr.get t) → ∃ fr' H', execD env (nth 21 ir3_c) (fr, H) = some (.norm, fr', H') ∧ Mo [63, 64, 65, 66] fr H fr' H' := fun fr' E h1 h2 => ⟨fr', H ++ E, h1, h2, E, rfl⟩
  cases b7 with
  | false =>
    refine fin _ [] (by simp [nth, rst, ir3_c, Fr.get_put, f44]; rfl) fun t ht hn => ?_
    simp only [Fr.get_put]
    repeat rw [if_neg (by omega)]
  | true =>
    rcases hZ with h | ⟨v, G0, ts, L, q, i, rfl, rfl, hts, hi, he, r1001, r1002⟩
    · cases h
    · have htk : L.take L.length = L := List.take_length
      have hi2 : i ≤ ts.length := by omega
      simp only [sailR, if_true] at r1001
      refine fin _ _ (by simp [nth, rst, ir3_c, Fr.get_put, f44, f43, f7, f14, f15, n5, n6, m1005, m1006, hi, hi2, he, r1001, r1002, til_flat]; exact ⟨rfl, rfl⟩) fun t ht hn => ?_
      simp only [Fr.get_put]
      simp only [List.mem_cons, not_or, List.not_mem_nil, not_false_eq_true, and_true] at hn
      repeat rw [if_neg (by omega)]
end Go.Proofs.Ytdgfpjlmpnfcgaa.Ev

namespace Go.Proofs.Ytdgfpjlmpnfcgaa.Ev
open Go
set_option linter.unusedVariables false
set_option linter.unusedSimpArgs false
set_option linter.unusedSectionVars false

theorem play_idx (a : Nat) (b c : Int) : ∀ (vs : List (Int × List Int)) (x : List Int × Int) (i j : Nat), (play a b c vs x i).1 = (play a b c vs x j).1 ∧ (play a b c vs x i).2.isNone = (play a b c vs x j).2.isNone
  | [], x, i, j => ⟨rfl, rfl⟩
  | v :: vs, x, i, j => by
    rw [play, play]
    split
    · exact play_idx a b c vs _ _ _
    · exact ⟨rfl, rfl⟩
theorem play_some (a : Nat) (b c : Int) : ∀ (vs : List (Int × List Int)) (x : List Int × Int) (i j : Nat), (play a b c vs x i).2 = some j → ∃ (m : Nat) (h : m < vs.length), j = i + m ∧ play a b c (vs.take m) x i = ((play a b c vs x i).1, none) ∧ canB a b c (play a b c vs x i).1.1 (play a b c vs x i).1.2 vs[m].1 vs[m].2 = false
  | [], x, i, j, h => by cases h
  | v :: vs, x, i, j, h => by
    by_cases hc : canB a b c x.1 x.2 v.1 v.2 = true
    · rw [play, if_pos hc] at h
      obtain ⟨m, h1, h2, h3, h4⟩ := play_some a b c vs _ _ _ h
      refine ⟨m + 1, by simpa using h1, by omega, ?_, ?_⟩
      · rw [List.take_succ_cons, play, if_pos hc, h3, play, if_pos hc]
      · rw [play, if_pos hc]; simpa using h4
    · rw [play, if_neg hc] at h
      cases h
      refine ⟨0, by simp, rfl, ?_, ?_⟩
      · rw [play, if_neg hc]; rfl
      · rw [play, if_neg hc]; simpa using hc
theorem askB_parts {a b c : Int} {l : List Int} {p : Int} (h : askB a b c l p = true) : ∃ k : Nat, a = k ∧ good k b c = true ∧ l.length = 2 * k ∧ okP k c (l, p) ∧ calmS k c l = true := by
  unfold askB at h
  rw [Bool.and_eq_true] at h
  have h1 := h.1
  have hg : good a b c = true := by unfold plB at h1; rw [Bool.and_eq_true] at h1; exact h1.1
  have hgo := good_of hg
  obtain ⟨k, rfl⟩ : ∃ k : Nat, a = k := ⟨a.toNat, by omega⟩
  have := plB_ok h1
  exact ⟨k, rfl, hg, this.2.1, this.2, by simpa using h.2⟩
theorem sail_eq (ok : Bool) (n : Nat) (L : List Int) (q : Int) (h : L.length = n) : sailR ok n L q = sailR ok (if ok then L else []).length (if ok then L else []) q := by
  cases ok
  · rfl
  · simp only [if_true, h]
theorem LW.cases {Z : T} {vs : List (Int × List Int)} (h : LW Z vs) : (vs = [] ∧ (Z = .nil ∨ Z = .lst 2 [])) ∨ ∃ v vs' G0 ts, vs = v :: vs' ∧ Z = .lst 2 (.agg [ti v.1, G0] :: ts) ∧ LN G0 v.2 ∧ LW (.lst 2 ts) vs' ∧ ts.length = vs'.length := by
  rcases h with ⟨rfl, rfl⟩ | ⟨ts, rfl, hl, hg⟩
  · exact .inl ⟨rfl, .inl rfl⟩
  · cases vs with
    | nil =>
      have e : ts = [] := List.length_eq_zero_iff.1 (by simpa using hl)
      exact .inl ⟨rfl, .inr (by rw [e])⟩
    | cons v vs =>
      cases ts with
      | nil => simp at hl
      | cons t ts =>
        right
        obtain ⟨G0, h1, h2⟩ := hg 0 (by simp)
        simp at h1 h2
        refine ⟨v, vs, G0, ts, rfl, by rw [h1], h2, .inr ⟨ts, rfl, by simpa using hl, fun i hi => ?_⟩, by simpa using hl⟩
        obtain ⟨G, h3, h4⟩ := hg (i + 1) (by simpa using hi)
        exact ⟨G, by simpa using h3, by simpa using h4⟩
theorem LW.take {Z : T} {vs : List (Int × List Int)} (h : LW Z vs) {i : Nat} (hi : i < vs.length) : ∃ ts G0, Z = .lst 2 ts ∧ ts.length = vs.length ∧ (∃ h : i < ts.length, ts[i] = .agg [ti vs[i].1, G0]) ∧ LN G0 vs[i].2 ∧ LW (.lst 2 (ts.take i)) (vs.take i) := by
  rcases h with ⟨rfl, rfl⟩ | ⟨ts, rfl, hl, hg⟩
  · simp at hi
  · obtain ⟨G0, h1, h2⟩ := hg i hi
    have hi' : i < ts.length := by omega
    rw [List.getElem?_eq_getElem hi'] at h1
    refine ⟨ts, G0, rfl, hl, ⟨hi', Option.some.inj h1⟩, h2, .inr ⟨_, rfl, by simp [hl], fun j hj => ?_⟩⟩
    have hj' : j < i ∧ j < vs.length := by simp at hj; omega
    obtain ⟨G, h3, h4⟩ := hg j hj'.2
    refine ⟨G, ?_, by simpa using h4⟩
    rw [List.getElem?_take_of_lt hj'.1, h3]
    simp
variable {a1 b1 c1001 a2 b2 c1002 a3 b3 c1003 : Int} {X1 G1 X2 Z : T} {p1001 t1001 p1002 : Int}
theorem law20 {l1002 : List Int} (hX2 : LN X2 l1002) {vs : List (Int × List Int)} (hZ : LW Z vs) (hn : vs.length ≤ 10000) :
    allB a2 b2 c1002 l1002 p1002 vs = false ∨ Z = .nil ∨ Z = .lst 2 [] ∨ ∃ (v : Int) (G0 : T) (ts : List T) (L : List Int), Z = .lst 2 (.agg [ti v, G0] :: ts) ∧ L.length ≤ 1000 ∧ ts.length ≤ 2 ^ 30 ∧ ownR env 14 [.agg [ti a2, ti b2, ti c1002], .agg [X2, ti p1002], .agg [ti v, G0]] = sailR true L.length L v ∧
      ownR env 18 [.agg [ti a2, ti b2, ti c1002], .agg [.lst 1 (til L), ti v], .lst 2 ts] = sailR true (play a2.toNat b2 c1002 vs (l1002, p1002) 0).1.1.length (play a2.toNat b2 c1002 vs (l1002, p1002) 0).1.1 (play a2.toNat b2 c1002 vs (l1002, p1002) 0).1.2 := by
  cases hall : allB a2 b2 c1002 l1002 p1002 vs with
  | false => exact .inl rfl
  | true =>
    right
    rcases hZ.cases with ⟨_, rfl | rfl⟩ | ⟨v, vs', G0, ts, rfl, rfl, hG0, hW, hts⟩
    · exact .inl rfl
    · exact .inr (.inl rfl)
    · right; right
      unfold allB at hall
      rw [Bool.and_eq_true, Bool.and_eq_true, decide_eq_true_eq] at hall
      obtain ⟨hask, h40, hno⟩ := hall
      obtain ⟨k, rfl, hgd, hl2, hok, hcm⟩ := askB_parts hask
      have hgo := good_of hgd
      rw [Int.toNat_natCast] at hno ⊢
      rw [play] at hno ⊢
      simp only [List.length_cons] at hn h40
      by_cases hc : canB k b2 c1002 l1002 p1002 v.1 v.2 = true
      · rw [if_pos hc] at hno ⊢
        obtain ⟨k1001, k1002, k1003, k1004⟩ := can_back hgd hok hcm hc
        have hsl := setAll_length v.1 v.2 l1002
        have hpi := play_idx k b2 c1002 vs' (setAll v.1 v.2 l1002, v.1) (0 + 1) 0
        refine ⟨v.1, G0, ts, setAll v.1 v.2 l1002, rfl, by omega, by omega, ?_, ?_⟩
        · have := r14 k b2 c1002 X2 l1002 hX2 p1002 v.1 G0 v.2 hG0
          rw [hask, Int.toNat_natCast, hc, ← hsl] at this
          exact this
        · have := r18 k b2 c1002 _ _ (LN.of (setAll v.1 v.2 l1002)) v.1 _ vs' hW (by omega)
          rw [this]
          have hal : allB k b2 c1002 (setAll v.1 v.2 l1002) v.1 vs' = true := by
            unfold allB
            rw [k1001, Int.toNat_natCast, ← hpi.2, hno]
            simp; omega
          rw [hal, Int.toNat_natCast, ← hpi.1, play_len]
      · rw [if_neg hc] at hno; cases hno
theorem law21 {l1002 : List Int} (hX2 : LN X2 l1002) {vs : List (Int × List Int)} (hZ : LW Z vs) (hn : vs.length ≤ 10000) :
    (failR a2 b2 c1002 l1002 p1002 vs).2 = false ∨ ∃ (v : Int) (G0 : T) (ts : List T) (L : List Int) (q : Int) (i : Nat), (failR a2 b2 c1002 l1002 p1002 vs).1 = i ∧ Z = .lst 2 ts ∧ ts.length ≤ 2 ^ 30 ∧ ∃ hi : i < ts.length, ts[i] = .agg [ti v, G0] ∧ ownR env 18 [.agg [ti a2, ti b2, ti c1002], .agg [X2, ti p1002], .lst 2 (ts.take i)] = sailR true L.length L q ∧
      ownR env 14 [.agg [ti a2, ti b2, ti c1002], .agg [.lst 1 (til L), ti q], .agg [ti v, G0]] = some (.tup [.agg [.t .nil, .t (ti 0)], .t (tb false)], []) := by
  cases hf : (failR a2 b2 c1002 l1002 p1002 vs).2 with
  | false => exact .inl rfl
  | true =>
    right
    unfold failR at hf ⊢
    cases hask : (askB a2 b2 c1002 l1002 p1002 && decide (vs.length ≤ 40)) with
    | false => rw [hask] at hf; simp at hf
    | true =>
      rw [hask] at hf
      rw [Bool.and_eq_true, decide_eq_true_eq] at hask
      obtain ⟨hask, h40⟩ := hask
      obtain ⟨k, rfl, hgd, hl2, hok, hcm⟩ := askB_parts hask
      have hgo := good_of hgd
      rw [Int.toNat_natCast] at hf ⊢
      cases hR : (play k b2 c1002 vs (l1002, p1002) 0).2 with
      | none => rw [hR] at hf; simp at hf
      | some j =>
        obtain ⟨m, hm, hj, hp, hcn⟩ := play_some k b2 c1002 vs (l1002, p1002) 0 j hR
        have hj' : j = m := by omega
        subst hj'
        obtain ⟨ts, G0, rfl, htl, ⟨hi, he⟩, hG0, hW⟩ := hZ.take hm
        have hpl := play_len k b2 c1002 vs (l1002, p1002) 0
        simp only at hpl
        refine ⟨vs[j].1, G0, ts, (play k b2 c1002 vs (l1002, p1002) 0).1.1, (play k b2 c1002 vs (l1002, p1002) 0).1.2, j, by simp, rfl, by omega, hi, he, ?_, ?_⟩
        · rw [r18 k b2 c1002 X2 l1002 hX2 p1002 _ (vs.take j) hW (by simp; omega)]
          have hal : allB k b2 c1002 l1002 p1002 (vs.take j) = true := by
            unfold allB
            rw [hask, Int.toNat_natCast, hp]
            simp; omega
          rw [hal, Int.toNat_natCast, hp, hpl]
        · rw [r14 k b2 c1002 _ _ (LN.of _) _ _ G0 vs[j].2 hG0, Int.toNat_natCast, hcn, Bool.and_false]
          rfl
theorem law57 {l1002 : List Int} {vs : List (Int × List Int)} : (allB a2 b2 c1002 l1002 p1002 vs && (failR a2 b2 c1002 l1002 p1002 vs).2) = false := by
  unfold allB failR
  cases askB a2 b2 c1002 l1002 p1002 <;> cases decide (vs.length ≤ 40) <;> simp
  cases (play a2.toNat b2 c1002 vs (l1002, p1002) 0).2 <;> simp
theorem law19 (n : Nat) (hn : (n : Int) ≤ c1003 + 1) (hg : good a3 b3 c1003 = true) : ownR env 7 [.agg [ti a3, ti b3, ti c1003], .agg [.lst 1 (til (List.replicate (2 * a3.toNat) (n : Int))), ti n]] = some (.tup [.t (tb true), .t (tb true)], []) := by
  have hgo := good_of hg
  obtain ⟨k, rfl⟩ : ∃ k : Nat, a3 = k := ⟨a3.toNat, by omega⟩
  rw [Int.toNat_natCast]
  obtain ⟨h1, h2⟩ := allAt_ok k (by omega) c1003 n hn
  have hpl := ok_plB hg h1
  unfold allAt at h2 
  simp only at h2
  rw [r7 k b3 c1003 _ _ (LN.of _) n]
  unfold askB
  rw [hpl, Int.toNat_natCast, h2]
  rfl
end Go.Proofs.Ytdgfpjlmpnfcgaa.Ev

namespace Go.Proofs.Ytdgfpjlmpnfcgaa.Ev
open Go
set_option linter.unusedVariables false
set_option linter.unusedSimpArgs false
set_option linter.unusedSectionVars false

theorem exec_rst (k : Nat) (s : Fr × Heap) (h : rst k ir3_c = .seq (nth k ir3_c) (rst (k + 1) ir3_c)) : execD env (rst k ir3_c) s = andN (execD env (nth k ir3_c) s) (execD env (rst (k + 1) ir3_c)) := by
  rw [h]; exact execD_seq _ _ _
theorem step_rst {k : Nat} {s s' : Fr × Heap} {r : Option Out} (h : rst k ir3_c = .seq (nth k ir3_c) (rst (k + 1) ir3_c)) (h1 : execD env (nth k ir3_c) s = some (.norm, s')) (h2 : execD env (rst (k + 1) ir3_c) s' = r) : execD env (rst k ir3_c) s = r := by
  rw [exec_rst k s h, h1]; exact h2
variable {a1 b1 c1001 a2 b2 c1002 a3 b3 c1003 : Int} {X1 G1 X2 Z : T} {p1001 t1001 p1002 : Int} {fr : Fr} {H : Heap}
theorem Mo.get {ds : List Nat} {fr fr' : Fr} {H H' : Heap} (m : Mo ds fr H fr' H') {t : Nat} {v : V} (h : fr.get t = v) (ht : t < 67) (hn : t ∉ ds) : fr'.get t = v := (m.f t ht hn).trans h
theorem tail200 (hS : S0 a1 b1 c1001 a2 b2 c1002 a3 b3 c1003 X1 G1 X2 Z p1001 t1001 p1002 fr H) {l1001 g1 l1002 : List Int} {vs : List (Int × List Int)} (hX1 : LN X1 l1001) (hG1 : LN G1 g1) (hX2 : LN X2 l1002) (hZ : LW Z vs) (hn : vs.length ≤ 10000) :
    ∃ fr' H', execD env (rst 8 ir3_c) (fr, H) = some (.ret, fr', H') ∧ fr'.get 18 = .t (tb true) := by
  have q1008 := r14 a1 b1 c1001 X1 l1001 hX1 p1001 t1001 G1 g1 hG1
  have q1009 := r17 a1 b1 c1001 X1 l1001 hX1 p1001 t1001 G1 g1 hG1
  have q1010 := r18 a2 b2 c1002 X2 l1002 hX2 p1002 Z vs hZ (by omega)
  have q1011 := r19 a2 b2 c1002 X2 l1002 hX2 p1002 Z vs hZ (by omega)
  have q1012 := r20 a2 b2 c1002 X2 l1002 hX2 p1002 Z vs hZ (by omega)
  have q1013 := r21 a2 b2 c1002 X2 l1002 hX2 p1002 Z vs hZ (by omega)
  have q1014 : ownR env 22 [.agg [ti a3, ti b3, ti c1003]] = sailR (good a3 b3 c1003) (2 * a3.toNat) (List.replicate (2 * a3.toNat) ((0 : Nat) : Int)) ((0 : Nat) : Int) := r22 a3 b3 c1003
  have q1015 : ownR env 23 [.agg [ti a3, ti b3, ti c1003]] = sailR (good a3 b3 c1003) (2 * a3.toNat) (List.replicate (2 * a3.toNat) ((0 : Nat) : Int)) ((0 : Nat) : Int) := r23 a3 b3 c1003
  have q1016 : ownR env 24 [.agg [ti a3, ti b3, ti c1003]] = sailR (good a3 b3 c1003) (2 * a3.toNat) (List.replicate (2 * a3.toNat) (c1003 + 1)) (c1003 + 1) := r24 a3 b3 c1003
  have q1017 : ownR env 25 [.agg [ti a3, ti b3, ti c1003]] = sailR (good a3 b3 c1003) (2 * a3.toNat) (List.replicate (2 * a3.toNat) (c1003 + 1)) (c1003 + 1) := r25 a3 b3 c1003
  have w1020 := law20 (a2 := a2) (b2 := b2) (c1002 := c1002) (p1002 := p1002) hX2 hZ hn
  have w1021 := law21 (a2 := a2) (b2 := b2) (c1002 := c1002) (p1002 := p1002) hX2 hZ hn
  have w66 := law57 (a2 := a2) (b2 := b2) (c1002 := c1002) (p1002 := p1002) (l1002 := l1002) (vs := vs)
  have w19a : good a3 b3 c1003 = true → _ := fun hg => law19 (a3 := a3) (b3 := b3) (c1003 := c1003) 0 (by have := good_of hg; omega) hg
  have w19b : good a3 b3 c1003 = true → ownR env 7 [.agg [ti a3, ti b3, ti c1003], .agg [.lst 1 (til (List.replicate (2 * a3.toNat) (c1003 + 1))), ti (c1003 + 1)]] = some (.tup [.t (tb true), .t (tb true)], []) := fun hg => by
    have hgo := good_of hg
    have := law19 (a3 := a3) (b3 := b3) (c1003 := c1003) (c1003 + 1).toNat (by omega) hg
    rw [show (((c1003 + 1).toNat : Nat) : Int) = c1003 + 1 by omega] at this
    exact this
  have hb5 : allB a2 b2 c1002 l1002 p1002 vs = true → l1002.length ≤ 1000 := fun h => by
    unfold allB at h
    rw [Bool.and_eq_true] at h
    obtain ⟨k, rfl, hgd, hl2, _⟩ := askB_parts h.1
    have := good_of hgd
    omega
  have hs1 : (askB a1 b1 c1001 l1001 p1001 && canB a1.toNat b1 c1001 l1001 p1001 t1001 g1) = true → l1001.length ≤ 1000 := fun h => by
    rw [Bool.and_eq_true] at h
    obtain ⟨k, rfl, hgd, hl2, _⟩ := askB_parts h.1
    have := good_of hgd
    omega
  have hl9 : good a3 b3 c1003 = true → 2 * a3.toNat ≤ 1000 := fun h => by have := good_of h; omega
  have hpl := play_len a2.toNat b2 c1002 vs (l1002, p1002) 0
  simp only at hpl
  rw [sail_eq _ _ _ _ (setAll_length _ _ _)] at q1008 q1009
  rw [sail_eq _ _ _ _ hpl] at q1010 q1011
  rw [sail_eq _ _ _ _ List.length_replicate] at q1014 q1015 q1016 q1017
  generalize hs : (askB a1 b1 c1001 l1001 p1001 && canB a1.toNat b1 c1001 l1001 p1001 t1001 g1) = s1 at *
  generalize hb : allB a2 b2 c1002 l1002 p1002 vs = b5 at *
  generalize play a2.toNat b2 c1002 vs (l1002, p1002) 0 = R at *
  have hL1 : (if s1 then setAll t1001 g1 l1001 else []).length ≤ 2 ^ 40 := by
    split
    · rename_i h; have := hs1 h; rw [setAll_length]; omega
    · simp
  have hL5 : (if b5 then R.1.1 else []).length ≤ 2 ^ 40 := by
    split
    · rename_i h; have := hb5 h; rw [hpl]; omega
    · simp
  have hL9 : (if good a3 b3 c1003 then List.replicate (2 * a3.toNat) ((0 : Nat) : Int) else []).length ≤ 2 ^ 40 := by
    split
    · rename_i h; have := hl9 h; rw [List.length_replicate]; omega
    · simp
  have hLA : (if good a3 b3 c1003 then List.replicate (2 * a3.toNat) (c1003 + 1) else []).length ≤ 2 ^ 40 := by
    split
    · rename_i h; have := hl9 h; rw [List.length_replicate]; omega
    · simp
  have e1005 : b5 = true → (if b5 then R.1.1 else []) = R.1.1 := fun h => by rw [h]; rfl
  have e1009 : good a3 b3 c1003 = true → (if good a3 b3 c1003 then List.replicate (2 * a3.toNat) ((0 : Nat) : Int) else []) = List.replicate (2 * a3.toNat) ((0 : Nat) : Int) := fun h => by rw [h]; rfl
  have eA : good a3 b3 c1003 = true → (if good a3 b3 c1003 then List.replicate (2 * a3.toNat) (c1003 + 1) else []) = List.replicate (2 * a3.toNat) (c1003 + 1) := fun h => by rw [h]; rfl
  generalize (if s1 then setAll t1001 g1 l1001 else []) = L1 at *
  generalize (if b5 then R.1.1 else []) = L5 at *
  generalize (if good a3 b3 c1003 then List.replicate (2 * a3.toNat) ((0 : Nat) : Int) else []) = L9 at *
  generalize (if good a3 b3 c1003 then List.replicate (2 * a3.toNat) (c1003 + 1) else []) = LA at *
  obtain ⟨fr8, H8, x1008, m1008, B35, f36⟩ := s200_8 hS rfl q1008
  have S8 := hS.mo m1008 (by simp)
  obtain ⟨fr9, H9, x1009, m1009, B37, f38⟩ := s200_9 S8 rfl q1009
  have S9 := S8.mo m1009 (by simp)
  replace B35 := B35.mo m1009 (by decide) (by simp)
  replace f36 := m1009.get f36 (by decide) (by simp)
  obtain ⟨fr10, H10, x1010, m1010, B39, f40⟩ := s200_10 S9 rfl q1010
  have S10 := S9.mo m1010 (by simp)
  replace B35 := B35.mo m1010 (by decide) (by simp)
  replace B37 := B37.mo m1010 (by decide) (by simp)
  replace f36 := m1010.get f36 (by decide) (by simp)
  replace f38 := m1010.get f38 (by decide) (by simp)
  obtain ⟨fr11, H11, x1011, m1011, B41, f42⟩ := s200_11 S10 rfl q1011
  have S11 := S10.mo m1011 (by simp)
  replace B35 := B35.mo m1011 (by decide) (by simp)
  replace B37 := B37.mo m1011 (by decide) (by simp)
  replace B39 := B39.mo m1011 (by decide) (by simp)
  replace f36 := m1011.get f36 (by decide) (by simp)
  replace f38 := m1011.get f38 (by decide) (by simp)
  replace f40 := m1011.get f40 (by decide) (by simp)
  obtain ⟨fr12, H12, x1012, m1012, f43, f44⟩ := s200_12 S11 q1012
  have S12 := S11.mo m1012 (by simp)
  replace B35 := B35.mo m1012 (by decide) (by simp)
  replace B37 := B37.mo m1012 (by decide) (by simp)
  replace B39 := B39.mo m1012 (by decide) (by simp)
  replace B41 := B41.mo m1012 (by decide) (by simp)
  replace f36 := m1012.get f36 (by decide) (by simp)
  replace f38 := m1012.get f38 (by decide) (by simp)
  replace f40 := m1012.get f40 (by decide) (by simp)
  replace f42 := m1012.get f42 (by decide) (by simp)
  obtain ⟨fr13, H13, x1013, m1013, f45, f46⟩ := s200_13 S12 q1013
  have S13 := S12.mo m1013 (by simp)
  replace B35 := B35.mo m1013 (by decide) (by simp)
  replace B37 := B37.mo m1013 (by decide) (by simp)
  replace B39 := B39.mo m1013 (by decide) (by simp)
  replace B41 := B41.mo m1013 (by decide) (by simp)
  replace f36 := m1013.get f36 (by decide) (by simp)
  replace f38 := m1013.get f38 (by decide) (by simp)
  replace f40 := m1013.get f40 (by decide) (by simp)
  replace f42 := m1013.get f42 (by decide) (by simp)
  replace f43 := m1013.get f43 (by decide) (by simp)
  replace f44 := m1013.get f44 (by decide) (by simp)
  obtain ⟨fr14, H14, x1014, m1014, B47, f48⟩ := s200_14 S13 rfl q1014
  have S14 := S13.mo m1014 (by simp)
  replace B35 := B35.mo m1014 (by decide) (by simp)
  replace B37 := B37.mo m1014 (by decide) (by simp)
  replace B39 := B39.mo m1014 (by decide) (by simp)
  replace B41 := B41.mo m1014 (by decide) (by simp)
  replace f36 := m1014.get f36 (by decide) (by simp)
  replace f38 := m1014.get f38 (by decide) (by simp)
  replace f40 := m1014.get f40 (by decide) (by simp)
  replace f42 := m1014.get f42 (by decide) (by simp)
  replace f43 := m1014.get f43 (by decide) (by simp)
  replace f44 := m1014.get f44 (by decide) (by simp)
  replace f45 := m1014.get f45 (by decide) (by simp)
  replace f46 := m1014.get f46 (by decide) (by simp)
  obtain ⟨fr15, H15, x1015, m1015, B49, f50⟩ := s200_15 S14 rfl q1015
  have S15 := S14.mo m1015 (by simp)
  replace B35 := B35.mo m1015 (by decide) (by simp)
  replace B37 := B37.mo m1015 (by decide) (by simp)
  replace B39 := B39.mo m1015 (by decide) (by simp)
  replace B41 := B41.mo m1015 (by decide) (by simp)
  replace B47 := B47.mo m1015 (by decide) (by simp)
  replace f36 := m1015.get f36 (by decide) (by simp)
  replace f38 := m1015.get f38 (by decide) (by simp)
  replace f40 := m1015.get f40 (by decide) (by simp)
  replace f42 := m1015.get f42 (by decide) (by simp)
  replace f43 := m1015.get f43 (by decide) (by simp)
  replace f44 := m1015.get f44 (by decide) (by simp)
  replace f45 := m1015.get f45 (by decide) (by simp)
  replace f46 := m1015.get f46 (by decide) (by simp)
  replace f48 := m1015.get f48 (by decide) (by simp)
  obtain ⟨fr16, H16, x1016, m1016, B51, f52⟩ := s200_16 S15 rfl q1016
  have S16 := S15.mo m1016 (by simp)
  replace B35 := B35.mo m1016 (by decide) (by simp)
  replace B37 := B37.mo m1016 (by decide) (by simp)
  replace B39 := B39.mo m1016 (by decide) (by simp)
  replace B41 := B41.mo m1016 (by decide) (by simp)
  replace B47 := B47.mo m1016 (by decide) (by simp)
  replace B49 := B49.mo m1016 (by decide) (by simp)
  replace f36 := m1016.get f36 (by decide) (by simp)
  replace f38 := m1016.get f38 (by decide) (by simp)
  replace f40 := m1016.get f40 (by decide) (by simp)
  replace f42 := m1016.get f42 (by decide) (by simp)
  replace f43 := m1016.get f43 (by decide) (by simp)
  replace f44 := m1016.get f44 (by decide) (by simp)
  replace f45 := m1016.get f45 (by decide) (by simp)
  replace f46 := m1016.get f46 (by decide) (by simp)
  replace f48 := m1016.get f48 (by decide) (by simp)
  replace f50 := m1016.get f50 (by decide) (by simp)
  obtain ⟨fr17, H17, x1017, m1017, B53, f54⟩ := s200_17 S16 rfl q1017
  have S17 := S16.mo m1017 (by simp)
  replace B35 := B35.mo m1017 (by decide) (by simp)
  replace B37 := B37.mo m1017 (by decide) (by simp)
  replace B39 := B39.mo m1017 (by decide) (by simp)
  replace B41 := B41.mo m1017 (by decide) (by simp)
  replace B47 := B47.mo m1017 (by decide) (by simp)
  replace B49 := B49.mo m1017 (by decide) (by simp)
  replace B51 := B51.mo m1017 (by decide) (by simp)
  replace f36 := m1017.get f36 (by decide) (by simp)
  replace f38 := m1017.get f38 (by decide) (by simp)
  replace f40 := m1017.get f40 (by decide) (by simp)
  replace f42 := m1017.get f42 (by decide) (by simp)
  replace f43 := m1017.get f43 (by decide) (by simp)
  replace f44 := m1017.get f44 (by decide) (by simp)
  replace f45 := m1017.get f45 (by decide) (by simp)
  replace f46 := m1017.get f46 (by decide) (by simp)
  replace f48 := m1017.get f48 (by decide) (by simp)
  replace f50 := m1017.get f50 (by decide) (by simp)
  replace f52 := m1017.get f52 (by decide) (by simp)
  obtain ⟨fr18, H18, x1018, m1018⟩ := s200_18 S17 hL1 hL5 hL9 hLA B35 f36 B37 f38 B39 f40 B41 f42 f43 f44 f45 f46 w66 B47 f48 B49 f50 B51 f52 B53 f54
  have S18 := S17.mo m1018 (by simp)
  replace B39 := B39.mo m1018 (by decide) (by simp)
  replace B47 := B47.mo m1018 (by decide) (by simp)
  replace B51 := B51.mo m1018 (by decide) (by simp)
  replace f40 := m1018.get f40 (by decide) (by simp)
  replace f43 := m1018.get f43 (by decide) (by simp)
  replace f44 := m1018.get f44 (by decide) (by simp)
  replace f48 := m1018.get f48 (by decide) (by simp)
  obtain ⟨fr19, H19, x1019, m1019⟩ := s200_19 S18 B47 f48 B51 (fun h => by rw [e1009 h]; exact w19a h) (fun h => by rw [eA h]; exact w19b h)
  have S19 := S18.mo m1019 (by simp)
  replace B39 := B39.mo m1019 (by decide) (by simp)
  replace f40 := m1019.get f40 (by decide) (by simp)
  replace f43 := m1019.get f43 (by decide) (by simp)
  replace f44 := m1019.get f44 (by decide) (by simp)
  obtain ⟨fr20, H20, x1020, m1020⟩ := s200_20 S19 hL5 B39 f40 (by
    cases b5 with
    | false => exact .inl rfl
    | true => rw [e1005 rfl]; exact w1020)
  have S20 := S19.mo m1020 (by simp)
  replace f43 := m1020.get f43 (by decide) (by simp)
  replace f44 := m1020.get f44 (by decide) (by simp)
  obtain ⟨fr21, H21, x1021, m1021⟩ := s200_21 S20 f43 f44 w1021
  refine ⟨fr21.put 18 (.t (tb true)), H21, ?_, by simp [Fr.get_put]⟩
  refine step_rst rfl x1008 ?_
  refine step_rst rfl x1009 ?_
  refine step_rst rfl x1010 ?_
  refine step_rst rfl x1011 ?_
  refine step_rst rfl x1012 ?_
  refine step_rst rfl x1013 ?_
  refine step_rst rfl x1014 ?_
  refine step_rst rfl x1015 ?_
  refine step_rst rfl x1016 ?_
  refine step_rst rfl x1017 ?_
  refine step_rst rfl x1018 ?_
  refine step_rst rfl x1019 ?_
  refine step_rst rfl x1020 ?_
  refine step_rst rfl x1021 ?_
  simp [rst, ir3_c]
end Go.Proofs.Ytdgfpjlmpnfcgaa.Ev

namespace Go.Proofs.Ytdgfpjlmpnfcgaa.Ev
open Go
set_option linter.unusedVariables false
set_option linter.unusedSimpArgs false
set_option linter.unusedSectionVars false
attribute [local simp] til_getE til_length til_get til_drop til_take til_snoc til_fold take_snoc til_set tlv_getE tlv_length tlv_take
variable {a1 b1 c1001 a2 b2 c1002 a3 b3 c1003 : Int} {X1 G1 X2 Z : T} {p1001 t1001 p1002 : Int} {fr : Fr} {H : Heap}
set_option maxHeartbeats 4000000 in
set_option maxRecDepth 20000 in
theorem r3 (a b c p : Int) {X : T} {l l1001 g1 l1002 : List Int} {vs : List (Int × List Int)} (hX : LN X l) (hX1 : LN X1 l1001) (hG1 : LN G1 g1) (hX2 : LN X2 l1002) (hZ : LW Z vs) :
    ownR env 3 [.agg [ti a, ti b, ti c], .agg [X, ti p], .agg [ti a1, ti b1, ti c1001], .agg [X1, ti p1001], .agg [ti t1001, G1], .agg [ti a2, ti b2, ti c1002], .agg [X2, ti p1002], Z, .agg [ti a3, ti b3, ti c1003]] = some (.t (tb true), []) := by
  have hT : ∀ (fr : Fr) (H : Heap), vs.length ≤ 10000 → S0 a1 b1 c1001 a2 b2 c1002 a3 b3 c1003 X1 G1 X2 Z p1001 t1001 p1002 fr H → ∃ fr' H', execD env (rst 8 ir3_c) (fr, H) = some (.ret, fr', H') ∧ fr'.get 18 = .t (tb true) := fun fr H hn hS => tail200 hS hX1 hG1 hX2 hZ hn
  rw [own_ir e3 _ rfl]
  have e : ir3.body = .seq (nth 0 ir3_c) (.seq (nth 1 ir3_c) (.seq (nth 2 ir3_c) (.seq (nth 3 ir3_c) (.seq (nth 4 ir3_c) (.seq (nth 5 ir3_c) (.seq (nth 6 ir3_c) (.seq (nth 7 ir3_c) (rst 8 ir3_c)))))))) := rfl
  rw [e]
  generalize rst 8 ir3_c = TL at *
  have hlen := hZ.len
  have q1004 := r7 a b c X l hX p
  have q1005 := r8 a b c X l hX p
  have q1007 := r10 a b c X l hX p
  have q1008 := r11 a b c X l hX p
  have q1002 := r5 a b c X l hX p
  obtain ⟨Y, hY, q1003⟩ := r6 a b c X l hX p
  by_cases hn : 10000 < vs.length
  · have hn' : (10000 : Int) < vs.length := by omega
    simp [nth, rst, ir3, ir3_c, hlen, hn']
  have hn' : ¬ (10000 : Int) < vs.length := by omega
  have hn2 : vs.length ≤ 10000 := by omega
  cases hask : askB a b c l p with
  | false =>
    rw [hask] at q1002 q1003 q1004 q1005 hY
    simp only [Bool.false_eq_true, if_false] at q1002 q1003 hY
    have q1006 := r9 .nil Y [] [] (.inl ⟨rfl, rfl⟩) hY (by simp) (by simp)
    simp at q1006
    have hfin : ∀ (fr : Fr) (H : Heap), S0 a1 b1 c1001 a2 b2 c1002 a3 b3 c1003 X1 G1 X2 Z p1001 t1001 p1002 fr H → andO (endO ir3.res (execD env TL (fr, H))) ownEnd = some (.t (tb true), []) := fun fr H hS => by
      obtain ⟨fr', H', h1, h2⟩ := hT fr H hn2 hS
      simp [ir3, h1, h2]
    cases hpl : plB a b c l p with
    | false =>
      rw [hpl] at q1004 q1005 q1007 q1008
      rcases q1003 with ⟨q1003, rfl⟩ | ⟨q1003, rfl⟩
      · simp [nth, rst, ir3, ir3_c, hlen, hn', q1002, q1003, q1004, q1005, q1006, q1007, q1008, hpl]
        refine hfin _ _ ?_
        constructor <;> simp
      · simp [nth, rst, ir3, ir3_c, hlen, hn', q1002, q1003, q1004, q1005, q1006, q1007, q1008, hpl]
        refine hfin _ _ ?_
        constructor <;> simp
    | true =>
      have hgd : good a b c = true := by unfold plB at hpl; rw [Bool.and_eq_true] at hpl; exact hpl.1
      rw [hpl] at q1004 q1005 q1007 q1008
      rcases q1003 with ⟨q1003, rfl⟩ | ⟨q1003, rfl⟩
      · simp [nth, rst, ir3, ir3_c, hlen, hn', q1002, q1003, q1004, q1005, q1006, q1007, q1008, hgd]
        refine hfin _ _ ?_
        constructor <;> simp
      · simp [nth, rst, ir3, ir3_c, hlen, hn', q1002, q1003, q1004, q1005, q1006, q1007, q1008, hgd]
        refine hfin _ _ ?_
        constructor <;> simp
  | true =>
    have hfin : ∀ (fr : Fr) (H : Heap), S0 a1 b1 c1001 a2 b2 c1002 a3 b3 c1003 X1 G1 X2 Z p1001 t1001 p1002 fr H → andO (endO ir3.res (execD env TL (fr, H))) ownEnd = some (.t (tb true), []) := fun fr H hS => by
      obtain ⟨fr', H', h1, h2⟩ := hT fr H hn2 hS
      simp [ir3, h1, h2]
    obtain ⟨k, rfl, hgd, hl2, hok, hcm⟩ := askB_parts hask
    have hgo := good_of hgd
    have hpl : plB k b c l p = true := by unfold askB at hask; rw [Bool.and_eq_true] at hask; exact hask.1
    obtain ⟨rfl, _, _⟩ := plB_list hX hpl
    have hvl := voysAll_len hgd hok
    have hvc : ∀ v ∈ voysAll k b c (l, p), v.2.length ≤ 2 ^ 40 := fun v hv => by have := (can_in (by omega) (voys_can hv)).2.1; omega
    have hw := w3 k b c hgd l hl2 p hok hcm hask (voysAll k b c (l, p)) (by omega) rfl Z (ti a1) (ti b1) (ti c1001) X1 (ti p1001) (ti t1001) G1 (ti a2) (ti b2) (ti c1002) X2 (ti p1002) (ti a3) (ti b3) (ti c1003) (voysAll k b c (l, p)).length 0 (by omega)
    rw [hask] at q1002 q1003 q1004 q1005 hY
    rw [hpl] at q1004 q1005 q1007 q1008
    simp only [if_true, Int.toNat_natCast] at q1002 q1003 hY
    have q1006 := r9 (.lst 2 (tlv (voysAll k b c (l, p)))) Y _ _ (.inr rfl) hY (by omega) hvc
    generalize voysAll k b c (l, p) = L at *
    simp at q1006 hw
    rcases q1003 with ⟨q1003, rfl⟩ | ⟨q1003, rfl⟩
    · simp [nth, rst, ir3, ir3_c, hlen, hn', q1002, q1003, q1004, q1005, q1006, q1007, q1008, hgd, hw]
      refine hfin _ _ ?_
      constructor <;> simp
    · simp [nth, rst, ir3, ir3_c, hlen, hn', q1002, q1003, q1004, q1005, q1006, q1007, q1008, hgd, hw]
      refine hfin _ _ ?_
      constructor <;> simp
end Go.Proofs.Ytdgfpjlmpnfcgaa.Ev

namespace Go.Proofs.Ytdgfpjlmpnfcgaa.Ev
open Go
set_option linter.unusedVariables false
set_option linter.unusedSimpArgs false
def wfI (ts : List T) : Prop := ∃ n, ts = [.int .i64 n] ∧ (Lit.int .i64 n).wf = true
def wfIs (ts : List T) : Prop := ts = [.nil] ∨ ∃ els : List (List T), ts = [.lst 1 (els.map fun x => x.headD .nil)] ∧ ∀ x ∈ els, wfI x
def wfG (ts : List T) : Prop := ∃ t1000 t1001, ts = t1000 ++ t1001 ∧ wfI t1000 ∧ wfIs t1001
def wfP (ts : List T) : Prop := ∃ t1000 t1001, ts = t1000 ++ t1001 ∧ wfIs t1000 ∧ wfI t1001
def wfW (ts : List T) : Prop := ∃ t1000 t1001 t1002, ts = t1000 ++ (t1001 ++ t1002) ∧ wfI t1000 ∧ wfI t1001 ∧ wfI t1002
def wfGs (ts : List T) : Prop := ts = [.nil] ∨ ∃ els : List (List T), ts = [.lst 2 (els.map .agg)] ∧ ∀ x ∈ els, wfG x
theorem til_of : ∀ (els : List (List T)), (∀ x ∈ els, wfI x) → ∃ l, (els.map fun x => x.headD .nil) = til l
  | [], _ => ⟨[], rfl⟩
  | x :: els, h => by
    obtain ⟨n, rfl, _⟩ := h x (List.mem_cons_self ..)
    obtain ⟨l, hl⟩ := til_of els fun x hx => h x (List.mem_cons_of_mem _ hx)
    exact ⟨n :: l, by rw [List.map_cons, hl]; rfl⟩
theorem ln_of {ts : List T} (h : wfIs ts) : ∃ X l, ts = [X] ∧ LN X l := by
  rcases h with rfl | ⟨els, rfl, h⟩
  · exact ⟨.nil, [], rfl, .inl ⟨rfl, rfl⟩⟩
  · obtain ⟨l, hl⟩ := til_of els h
    exact ⟨_, l, rfl, .inr (by rw [hl])⟩
theorem lw_aux : ∀ (els : List (List T)), (∀ x ∈ els, wfG x) → ∃ vs : List (Int × List Int), els.length = vs.length ∧ ∀ (i : Nat) (h : i < vs.length), ∃ G, (els.map T.agg)[i]? = some (.agg [.int .i64 vs[i].1, G]) ∧ LN G vs[i].2
  | [], _ => ⟨[], rfl, fun i h => by simp at h⟩
  | x :: els, h => by
    obtain ⟨_, _, rfl, ⟨n, rfl, _⟩, h2⟩ := h x (List.mem_cons_self ..)
    obtain ⟨X, l, rfl, hX⟩ := ln_of h2
    obtain ⟨vs, h3, h4⟩ := lw_aux els fun x hx => h x (List.mem_cons_of_mem _ hx)
    refine ⟨(n, l) :: vs, by simp [h3], fun i hi => ?_⟩
    cases i with
    | zero => exact ⟨X, by simp, by simpa using hX⟩
    | succ i =>
      obtain ⟨G, h5, h6⟩ := h4 i (by simpa using hi)
      exact ⟨G, by simpa using h5, by simpa using h6⟩
theorem lw_of {ts : List T} (h : wfGs ts) : ∃ Z vs, ts = [Z] ∧ LW Z vs := by
  rcases h with rfl | ⟨els, rfl, h⟩
  · exact ⟨.nil, [], rfl, .inl ⟨rfl, rfl⟩⟩
  · obtain ⟨vs, h1, h2⟩ := lw_aux els h
    exact ⟨_, vs, rfl, .inr ⟨_, rfl, by simpa using h1, h2⟩⟩
theorem r3_top {w s x p v y q ls z : List T} (hw : wfW w) (hs : wfP s) (hx : wfW x) (hp : wfP p) (hv : wfG v) (hy : wfW y) (hq : wfP q) (hls : wfGs ls) (hz : wfW z) :
    ∃ Z, ls = [Z] ∧ ownR env 3 [.agg w, .agg s, .agg x, .agg p, .agg v, .agg y, .agg q, Z, .agg z] = some (.t (tb true), []) := by
  obtain ⟨_, _, _, rfl, ⟨a, rfl, _⟩, ⟨b, rfl, _⟩, ⟨c, rfl, _⟩⟩ := hw
  obtain ⟨_, _, _, rfl, ⟨a1, rfl, _⟩, ⟨b1, rfl, _⟩, ⟨c1001, rfl, _⟩⟩ := hx
  obtain ⟨_, _, _, rfl, ⟨a2, rfl, _⟩, ⟨b2, rfl, _⟩, ⟨c1002, rfl, _⟩⟩ := hy
  obtain ⟨_, _, _, rfl, ⟨a3, rfl, _⟩, ⟨b3, rfl, _⟩, ⟨c1003, rfl, _⟩⟩ := hz
  obtain ⟨_, _, rfl, hs, ⟨n, rfl, _⟩⟩ := hs
  obtain ⟨X, l, rfl, hX⟩ := ln_of hs
  obtain ⟨_, _, rfl, hp, ⟨n1, rfl, _⟩⟩ := hp
  obtain ⟨X1, l1001, rfl, hX1⟩ := ln_of hp
  obtain ⟨_, _, rfl, hq, ⟨n2, rfl, _⟩⟩ := hq
  obtain ⟨X2, l1002, rfl, hX2⟩ := ln_of hq
  obtain ⟨_, _, rfl, ⟨t1001, rfl, _⟩, hv⟩ := hv
  obtain ⟨G1, g1, rfl, hG1⟩ := ln_of hv
  obtain ⟨Z, vs, rfl, hZ⟩ := lw_of hls
  exact ⟨Z, rfl, r3 a b c n hX hX1 hG1 hX2 hZ⟩
end Go.Proofs.Ytdgfpjlmpnfcgaa.Ev

