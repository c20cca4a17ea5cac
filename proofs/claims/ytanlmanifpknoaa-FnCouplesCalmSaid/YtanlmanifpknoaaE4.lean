/- The evaluator and what it gives of the functions, part 4. No conditions of ours: a law's row is in YtanlmanifpknoaaLFnCouplesCalm. -/
import Derived.Test.YtanlmanifpknoaaE3
namespace Go.Proofs.Ytanlmanifpknoaa.Ev
open Go
set_option linter.unusedVariables false
set_option linter.unusedSimpArgs false
attribute [local simp] til_getE til_length til_get til_drop til_take til_snoc til_fold take_snoc til_set
def elVB (sz off len : Nat) (b : Blk) : Option (List V) := match b with
  | .box s vs => if s = sz then some ((vs.drop (off * sz)).take (len * sz)) else none
  | _ => none
@[simp] theorem elVB_b (sz off len s : Nat) (vs : List V) : elVB sz off len (.box s vs) = if s = sz then some ((vs.drop (off * sz)).take (len * sz)) else none := rfl
@[simp] theorem elV_ref (H : Heap) (sz id off len : Nat) : elemsV H sz (.ref id off len) = andO H[id]? (elVB sz off len) := by
  simp only [elemsV]
  cases H[id]? with
  | none => rfl
  | some b => cases b <;> rfl
def appMB (H : Heap) (sz id len : Nat) (ys : List V) (b : Blk) : Option (V × Heap) := match b with
  | .box s vs => if s = sz ∧ len * sz = vs.length ∧ ys.length % sz = 0 ∧ vs.length + ys.length ≤ lim ∧ ys.all V.one ∧ 0 < ys.length then some (.ref H.length 0 (len + ys.length / sz), H.set id .dead ++ [.box sz (vs ++ ys)]) else none
  | _ => none
@[simp] theorem appMB_b (H : Heap) (sz id len : Nat) (ys : List V) (s : Nat) (vs : List V) : appMB H sz id len ys (.box s vs) = if s = sz ∧ len * sz = vs.length ∧ ys.length % sz = 0 ∧ vs.length + ys.length ≤ lim ∧ ys.all V.one ∧ 0 < ys.length then some (.ref H.length 0 (len + ys.length / sz), H.set id .dead ++ [.box sz (vs ++ ys)]) else none := rfl
def appMV (H : Heap) (sz : Nat) (x : V) (ys : List V) : Option (V × Heap) := match x with
  | .ref id 0 len => andO H[id]? (appMB H sz id len ys)
  | _ => none
@[simp] theorem appMV_r (H : Heap) (sz id len : Nat) (ys : List V) : appMV H sz (.ref id 0 len) ys = andO H[id]? (appMB H sz id len ys) := rfl
@[simp] theorem appM_eq (H : Heap) (sz : Nat) (x y : V) : evAppM H sz x y = andO (elemsV H sz y) (appMV H sz x) := by
  unfold evAppM
  cases elemsV H sz y with
  | none => rfl
  | some ys =>
    simp only [andO_some]
    cases x with
    | ref id off len =>
      cases off with
      | zero =>
        simp only [appMV]
        cases H[id]? with
        | none => rfl
        | some b => cases b <;> rfl
      | succ n => rfl
    | _ => rfl
@[simp] theorem o_appM {E : Env} {rec : Rec} {fr : Fr} {H : Heap} (sz : Nat) (x y : A) : evO E rec fr H (.app true sz x y) = evAppM H sz (x.ev fr) (y.ev fr) := rfl
def bslM (H : Heap) (sz n : Nat) (vs : List V) : Option (V × Heap) := some (.ref H.length 0 n, H ++ [.box sz vs])
@[simp] theorem bslM_eq (H : Heap) (sz n : Nat) (vs : List V) : bslM H sz n vs = some (.ref H.length 0 n, H ++ [.box sz vs]) := rfl
@[simp] theorem o_bslM {E : Env} {rec : Rec} {fr : Fr} {H : Heap} (sz n : Nat) (z : T) (ps : List (Nat × A)) : evO E rec fr H (.bsl true sz n z ps) = andO (fillV (List.replicate n (z.cells.map V.t)).flatten (ps.map fun p => (p.1 * sz, sz, p.2.ev fr))) (bslM H sz n) := by
  simp only [evO]; cases fillV (List.replicate n (z.cells.map V.t)).flatten (ps.map fun p => (p.1 * sz, sz, p.2.ev fr)) <;> rfl

variable {i2 i5 : Nat} {many : Int} {clo : T} {dist : List Int}
end Go.Proofs.Ytanlmanifpknoaa.Ev

namespace Go.Proofs.Ytanlmanifpknoaa.Ev
open Go
set_option linter.unusedVariables false
set_option linter.unusedSimpArgs false
attribute [local simp] til_getE til_length til_get til_drop til_take til_snoc til_fold take_snoc til_set tin_getE tin_length tin_take
variable {i2 i5 i6 : Nat} {many : Int} {clo : T} {dist : List Int} {ws : List (List Nat)} {Vs : List V} {H : Heap}
end Go.Proofs.Ytanlmanifpknoaa.Ev

namespace Go.Proofs.Ytanlmanifpknoaa.Ev
open Go
set_option linter.unusedVariables false
set_option linter.unusedSimpArgs false
attribute [local simp] til_getE til_length til_get til_drop til_take til_snoc til_fold take_snoc til_set tin_getE tin_length tin_take tleN_length tleN_getE
variable {i2 i5 : Nat} {many : Int} {clo : T} {dist : List Int}
end Go.Proofs.Ytanlmanifpknoaa.Ev

namespace Go.Proofs.Ytanlmanifpknoaa.Ev
open Go
set_option linter.unusedVariables false
set_option linter.unusedSimpArgs false
attribute [local simp] til_getE til_length til_get til_drop til_take til_snoc til_fold take_snoc til_set tin_getE tin_length tin_take tleN_length tleN_getE
structure OkG (N C D : Nat) (P : Nat → Prop) (out : Nat → List Ed) : Prop where
  lt : ∀ s, P s → s < N
  deg : ∀ s, P s → (out s).length ≤ D
  ed : ∀ s, P s → ∀ e ∈ out s, P e.1 ∧ 1 ≤ e.2.1 ∧ e.2.1 ≤ C
variable {i2 i5 i6 : Nat} {many : Int} {clo : T} {dist : List Int} {ws : List (List Nat)} {Vs : List V} {H : Heap}
end Go.Proofs.Ytanlmanifpknoaa.Ev

namespace Go.Proofs.Ytanlmanifpknoaa.Ev
open Go
set_option linter.unusedVariables false
set_option linter.unusedSimpArgs false
attribute [local simp] til_getE til_length til_get til_drop til_take til_snoc til_fold take_snoc til_set tin_getE tin_length tin_take tleN_length tleN_getE
variable {i2 i5 : Nat} {many : Int}
end Go.Proofs.Ytanlmanifpknoaa.Ev

namespace Go.Proofs.Ytanlmanifpknoaa.Ev
open Go
set_option linter.unusedVariables false
set_option linter.unusedSimpArgs false
attribute [local simp] til_getE til_length til_get til_drop til_take til_snoc til_fold take_snoc til_set tin_getE tin_length tin_take tleN_length tleN_getE
variable {i2 i5 : Nat} {many : Int}
end Go.Proofs.Ytanlmanifpknoaa.Ev

namespace Go.Proofs.Ytanlmanifpknoaa.Ev
open Go
set_option linter.unusedVariables false
set_option linter.unusedSimpArgs false
attribute [local simp] til_getE til_length til_get til_drop til_take til_snoc til_fold take_snoc til_set tin_getE tin_length tin_take tleN_length tleN_getE
end Go.Proofs.Ytanlmanifpknoaa.Ev

namespace Go.Proofs.Ytanlmanifpknoaa.Ev
open Go
set_option linter.unusedVariables false
set_option linter.unusedSimpArgs false
def Calm (a : Nat) (t : Nat → Prop) : Prop := ¬ ((∃ i, i < a ∧ t (2 * i + 1) ∧ ¬ t (2 * i)) ∧ ∃ j, j < a ∧ t (2 * j))
theorem Calm_congr {a : Nat} {t u : Nat → Prop} (h : ∀ j, j < 2 * a → (t j ↔ u j)) : Calm a t ↔ Calm a u := by
  unfold Calm
  constructor
  · rintro h1 ⟨⟨i, hi, h2, h3⟩, j, hj, h4⟩
    exact h1 ⟨⟨i, hi, (h _ (by omega)).2 h2, fun h5 => h3 ((h _ (by omega)).1 h5)⟩, j, hj, (h _ (by omega)).2 h4⟩
  · rintro h1 ⟨⟨i, hi, h2, h3⟩, j, hj, h4⟩
    exact h1 ⟨⟨i, hi, (h _ (by omega)).1 h2, fun h5 => h3 ((h _ (by omega)).2 h5)⟩, j, hj, (h _ (by omega)).1 h4⟩
theorem calmI_iff (a : Nat) (ha : a ≤ 1000000) (g : List Int) (hp : ∀ x ∈ g, 0 ≤ x ∧ x < 2 * (a : Int)) : calmI g g = true ↔ Calm a fun j => (j : Int) ∈ g := by
  unfold calmI Calm
  rw [List.all_eq_true]
  have e : ∀ x ∈ g, ((decide (x.tmod 2 = 0) || decide (IntKind.i64.wrap (x - 1) ∈ g) || !decide (∃ y ∈ g, y.tmod 2 = 0)) = true ↔ (x % 2 = 0 ∨ x - 1 ∈ g ∨ ¬ ∃ y ∈ g, y % 2 = 0)) := fun x hx => by
    have hx2 := hp x hx
    rw [w96 (n := x - 1) (by omega), Int.tmod_eq_emod_of_nonneg hx2.1]
    have : (∃ y ∈ g, y.tmod 2 = 0) ↔ (∃ y ∈ g, y % 2 = 0) := by
      constructor <;> rintro ⟨y, hy, h⟩ <;> refine ⟨y, hy, ?_⟩
      · rwa [Int.tmod_eq_emod_of_nonneg (hp y hy).1] at h
      · rwa [Int.tmod_eq_emod_of_nonneg (hp y hy).1]
    simp only [this, Bool.or_eq_true, decide_eq_true_eq, Bool.not_eq_true', decide_eq_false_iff_not]
    rw [or_assoc]
  constructor
  · rintro h ⟨⟨i, hi, h3, h4⟩, j, hj, h5⟩
    rcases (e _ h3).1 (h _ h3) with h | h | h
    · omega
    · exact h4 (show ((2 * i : Nat) : Int) ∈ g by rw [show ((2 * i : Nat) : Int) = ((2 * i + 1 : Nat) : Int) - 1 by omega]; exact h)
    · exact h ⟨_, h5, by omega⟩
  · intro h x hx
    rw [e x hx]
    by_cases h6 : x % 2 = 0
    · exact .inl h6
    · by_cases h7 : x - 1 ∈ g
      · exact .inr (.inl h7)
      · refine .inr (.inr ?_)
        rintro ⟨y, hy, h8⟩
        have hx2 := hp x hx
        have hy2 := hp y hy
        refine h ⟨⟨(x / 2).toNat, by omega, ?_, ?_⟩, (y / 2).toNat, by omega, ?_⟩
        · show ((2 * (x / 2).toNat + 1 : Nat) : Int) ∈ g
          rw [show ((2 * (x / 2).toNat + 1 : Nat) : Int) = x by omega]; exact hx
        · show ¬ ((2 * (x / 2).toNat : Nat) : Int) ∈ g
          rw [show ((2 * (x / 2).toNat : Nat) : Int) = x - 1 by omega]; exact h7
        · show ((2 * (y / 2).toNat : Nat) : Int) ∈ g
          rw [show ((2 * (y / 2).toNat : Nat) : Int) = y by omega]; exact hy
theorem cuB_iff (a N : Nat) : cuB a N = true ↔ Calm a fun j => N.testBit j = true := by
  have b4 : ∀ i, (N / 2 ^ (2 * i) % 4 = 2) ↔ (N.testBit (2 * i + 1) = true ∧ ¬ N.testBit (2 * i) = true) := fun i => by
    rw [Nat.testBit_eq_decide_div_mod_eq, Nat.testBit_eq_decide_div_mod_eq, Nat.pow_succ, ← Nat.div_div_eq_div_mul]
    generalize N / 2 ^ (2 * i) = q
    simp only [decide_eq_true_eq]
    omega
  have b2 : ∀ i, (N / 2 ^ (2 * i) % 2 = 1) ↔ N.testBit (2 * i) = true := fun i => by
    rw [Nat.testBit_eq_decide_div_mod_eq, decide_eq_true_eq]
  have hX : (List.range' 0 a).any (fun i => decide (N / 2 ^ (2 * i) % 4 = 2)) = true ↔ ∃ i, i < a ∧ N.testBit (2 * i + 1) = true ∧ ¬ N.testBit (2 * i) = true := by
    rw [List.any_eq_true]
    constructor
    · rintro ⟨i, hi, h⟩
      rw [List.mem_range'_1] at hi
      exact ⟨i, by omega, (b4 i).1 (by simpa using h)⟩
    · rintro ⟨i, hi, h⟩
      exact ⟨i, by rw [List.mem_range'_1]; omega, by simpa using (b4 i).2 h⟩
  have hY : (List.range' 0 a).any (fun j => decide (N / 2 ^ (2 * j) % 2 = 1)) = true ↔ ∃ j, j < a ∧ N.testBit (2 * j) = true := by
    rw [List.any_eq_true]
    constructor
    · rintro ⟨i, hi, h⟩
      rw [List.mem_range'_1] at hi
      exact ⟨i, by omega, (b2 i).1 (by simpa using h)⟩
    · rintro ⟨i, hi, h⟩
      exact ⟨i, by rw [List.mem_range'_1]; omega, by simpa using (b2 i).2 h⟩
  unfold cuB Calm
  rw [← hX, ← hY, ← Bool.and_eq_true, Bool.not_eq_true', Bool.not_eq_true]
theorem bitsI_test (j : Nat) : ∀ (g : List Int) (N : Nat), (bitsI g N).testBit j = true ↔ N.testBit j = true ∨ ∃ k ∈ g, k.toNat = j
  | [], N => by simp [bitsI]
  | k :: g, N => by
    rw [bitsI, bitsI_test j g]
    rw [Nat.testBit_or, Nat.testBit_two_pow, Bool.or_eq_true, decide_eq_true_eq, or_assoc]
    simp only [List.mem_cons, exists_eq_or_imp]
theorem group_calm (a : Nat) (ha : a ≤ 1000) (g : List Int) (hg : ∀ x ∈ g, 0 ≤ x ∧ x < 2 * (a : Int)) : calmI g g = cuB a (bitsI g 0) := by
  rw [Bool.eq_iff_iff, calmI_iff a (by omega) g hg, cuB_iff]
  refine Calm_congr fun j hj => ?_
  rw [bitsI_test]
  constructor
  · intro h; exact .inr ⟨_, h, by simp⟩
  · rintro (h | ⟨k, h1, h2⟩)
    · simp at h
    · have := hg k h1
      rw [show (j : Int) = k by omega]; exact h1
end Go.Proofs.Ytanlmanifpknoaa.Ev

namespace Go.Proofs.Ytanlmanifpknoaa.Ev
open Go
set_option linter.unusedVariables false
set_option linter.unusedSimpArgs false

theorem grps_form (most : Int) : ∀ (rest l g : List Int), g ∈ grps most rest l → ∃ s, g = l ++ s ∧ s ≠ [] ∧ List.Sublist s rest
  | [], _, g, h => by simp [grps] at h
  | x :: rest, l, g, h => by
    simp only [grps] at h
    split at h
    · simp only [List.mem_cons, List.mem_append] at h
      rcases h with rfl | h | h
      · exact ⟨[x], rfl, by simp, List.cons_sublist_cons.2 (List.nil_sublist _)⟩
      · obtain ⟨s, h1, h2, h3⟩ := grps_form most rest (l ++ [x]) g h
        exact ⟨x :: s, by simpa using h1, by simp, List.cons_sublist_cons.2 h3⟩
      · obtain ⟨s, h1, h2, h3⟩ := grps_form most rest l g h
        exact ⟨s, h1, h2, h3.cons x⟩
    · cases h
theorem rises_of {a b : Int} {g : List Int} (h : g.Pairwise (· < ·)) (hb : ∀ x ∈ g, a ≤ x ∧ x ≤ b) : risesB a b g = true := by
  unfold risesB
  rw [Bool.and_eq_true, List.all_eq_true, List.all_eq_true]
  refine ⟨fun x hx => (inB_iff _ _ _).2 (hb x hx), fun j hj => ?_⟩
  rw [List.mem_range'_1] at hj
  rcases Nat.eq_zero_or_pos j with h0 | h0
  · simp [h0]
  · have h1 : j < g.length := by omega
    have h2 : j - 1 < g.length := by omega
    rw [List.pairwise_iff_getElem] at h
    have := h (j - 1) j h2 h1 (by omega)
    simp [h1, h2, this]
end Go.Proofs.Ytanlmanifpknoaa.Ev

namespace Go.Proofs.Ytanlmanifpknoaa.Ev
open Go
set_option linter.unusedVariables false
set_option linter.unusedSimpArgs false
set_option linter.unusedSectionVars false
attribute [local simp] til_getE til_length til_get til_drop til_take til_snoc til_fold take_snoc til_set
def idxB (pr : Int → Bool) : Nat → List Int → Int
  | _, [] => -1
  | i, y :: ys => if pr y then i else idxB pr (i + 1) ys
theorem idxB_nonneg (pr : Int → Bool) : ∀ (ys : List Int) (i : Nat), 0 ≤ idxB pr i ys ↔ ys.any pr = true
  | [], i => by simp [idxB]
  | y :: ys, i => by
    simp only [idxB]
    split
    · rename_i h; simp [h]
    · rename_i h; rw [idxB_nonneg pr ys (i + 1)]; simp [h]
theorem w103 (f : FuncId) (caps : List T) (pr : Int → Bool) (g : List Int) (hpr : ∀ x ∈ g, ∀ H, evCall env (den env) f (.t (.int .i64 x) :: caps.map .t) H = some (.t (tb (pr x)), H)) (hg : g.length ≤ 1000000) : ∀ (d i : Nat), i + d = g.length →
    endO [.tmp 4] (andN (outB 0 (loopF env true [0, 1, 7, 8] ir103_b0 ([(0, .t (tl g)), (1, .t (.clo f [] caps)), (7, .t (ti g.length)), (8, .t (ti i))], []))) (execD env (.seq (.reg false [] [⟨some 4, none, .mv (.k (ti (-1)))⟩]) .ret))) = some (.t (ti (idxB pr i (g.drop i))), [])
  | 0, i, hi => by
    rw [x103_0]
    have : i = g.length := by omega
    subst this
    simp [ir103_d0, idxB]
  | d + 1, i, hi => by
    rw [x103_0]
    have hlt : i < g.length := by omega
    have hw : IntKind.i64.wrap ((i : Int) + 1) = (i : Int) + 1 := w96 (by omega)
    have ih := w103 f caps pr g hpr hg d (i + 1) (by omega)
    have hp := hpr g[i] (List.getElem_mem hlt)
    have hs : idxB pr i (g.drop i) = if pr g[i] then (i : Int) else idxB pr (i + 1) (g.drop (i + 1)) := by rw [List.drop_eq_getElem_cons hlt, idxB]
    rw [hs]
    cases h : pr g[i] with
    | true =>
      rw [h] at hp
      simp [ir103_d0, hlt, hw, hp]
    | false =>
      rw [h] at hp
      simp at ih
      simp [ir103_d0, hlt, hw, hp, ih]
theorem r78g (f : FuncId) (caps : List T) (pr : Int → Bool) (g : List Int) (hpr : ∀ x ∈ g, ∀ H, evCall env (den env) f (.t (.int .i64 x) :: caps.map .t) H = some (.t (tb (pr x)), H)) (hg : g.length ≤ 1000000) : ownR env 103 [tl g, .clo f [] caps] = some (.t (ti (idxB pr 0 g)), []) := by
  rw [own_ir e103 _ rfl]
  have hl := w103 f caps pr g hpr hg g.length 0 (by omega)
  simp at hl
  simp [ir103, ir103_c, hl]
theorem r73g (f : FuncId) (caps : List T) (pr : Int → Bool) (g : List Int) (hpr : ∀ x ∈ g, ∀ H, evCall env (den env) f (.t (.int .i64 x) :: caps.map .t) H = some (.t (tb (pr x)), H)) (hg : g.length ≤ 1000000) : ownR env 90 [tl g, .clo f [] caps] = some (.t (tb (g.any pr)), []) := by
  rw [own_ir e90 _ rfl]
  have h : decide (0 ≤ idxB pr 0 g) = g.any pr := by rw [Bool.eq_iff_iff]; simp only [decide_eq_true_eq]; exact idxB_nonneg pr g 0
  simp [ir90, ir90_c, r78g f caps pr g hpr hg, h]
@[simp] theorem r91 (x a b : Int) : ownR env 91 [ti x, .ptr (ti a), .ptr (ti b)] = some (.t (tb (!inB x a b)), []) := by
  rw [own_ir e91 _ rfl]
  cases h : inB x a b <;> simp [ir91, ir91_c, h]
def LN (X : T) (l : List Int) : Prop := (X = .nil ∧ l = []) ∨ X = .lst 1 (til l)
theorem LN.len {X : T} {l : List Int} (h : LN X l) (H : Heap) : evLen H 1 (.t X) = some (l.length : Int) := by
  rcases h with ⟨rfl, rfl⟩ | rfl <;> simp
theorem LN.tl {X : T} {l : List Int} (h : LN X l) (hl : l ≠ []) : X = .lst 1 (til l) := by
  rcases h with ⟨_, rfl⟩ | h
  · exact absurd rfl hl
  · exact h
theorem LN.of (l : List Int) : LN (.lst 1 (til l)) l := .inr rfl
def areB (l : List Int) (a b lo hi : Int) : Bool := inB l.length lo hi && l.all fun x => inB x a b
theorem r61 (X : T) (l : List Int) (hX : LN X l) (a b lo hi : Int) (hlo : 1 ≤ lo) (hhi : hi ≤ 1000) : ownR env 61 [X, ti a, ti b, ti lo, ti hi] = some (.t (tb (areB l a b lo hi)), []) := by
  rw [own_ir e61 _ rfl]
  have hlen := hX.len
  unfold areB
  cases h : inB l.length lo hi with
  | false => simp [ir61, ir61_c, hlen, h]
  | true =>
    rw [inB_iff] at h
    have hne : l ≠ [] := fun e => by subst e; simp at h; omega
    have hXl := hX.tl hne
    subst hXl
    have h73 := r73g 91 [.ptr (ti a), .ptr (ti b)] (fun x => !inB x a b) l (fun x hx H => by simp) (by omega)
    have ha : (l.any fun x => !inB x a b) = !(l.all fun x => inB x a b) := by
      rw [List.all_eq_not_any_not]; simp
    rw [ha] at h73
    have h' : inB l.length lo hi = true := (inB_iff _ _ _).2 h
    cases hl : l.all fun x => inB x a b with
    | true => rw [hl] at h73; simp at h73; simp [ir61, ir61_c, h', h73]
    | false => rw [hl] at h73; simp at h73; simp [ir61, ir61_c, h', h73]
def riseB (g : List Int) : Bool := (List.range' 1 (g.length - 1)).all fun j => decide (g[j - 1]?.getD 0 < g[j]?.getD 0)
theorem w62 (g : List Int) (hg : g.length ≤ 1000000) : ∀ (d i : Nat), i + d = g.length → 1 ≤ i →
    endO [.tmp 2] (andN (outB 0 (loopF env true [0, 3] ir62_b0 ([(0, .t (tl g)), (3, .t (ti i))], []))) (execD env (.seq (.reg false [] [⟨some 2, none, .mv (.k (tb true))⟩]) .ret))) = some (.t (tb ((List.range' i d).all fun j => decide (g[j - 1]?.getD 0 < g[j]?.getD 0))), [])
  | 0, i, hi, h1 => by
    rw [x62_0]
    simp [ir62_d0, show ¬ (i < g.length) by omega]
  | d + 1, i, hi, h1 => by
    rw [x62_0]
    have hlt : i < g.length := by omega
    have hw : IntKind.i64.wrap ((i : Int) + 1) = (i : Int) + 1 := w96 (by omega)
    have hw2 : IntKind.i64.wrap ((i : Int) - 1) = (i : Int) - 1 := w96 (by omega)
    have ih := w62 g hg d (i + 1) (by omega) (by omega)
    have hr : List.range' i (d + 1) = i :: List.range' (i + 1) d := rfl
    rw [hr, List.all_cons]
    generalize ((List.range' (i + 1) d).all fun j => decide (g[j - 1]?.getD 0 < g[j]?.getD 0)) = R at *
    simp at ih
    have e2001 : ((i : Int) - 1).toNat = i - 1 := by omega
    have e2002 : i - 1 < g.length := by omega
    by_cases h2 : g[i] ≤ g[i - 1]
    · have h3 : ¬ (g[i - 1] < g[i]) := by omega
      simp [ir62_d0, hlt, hw, hw2, e2001, e2002, h2, h3, show (1 : Int) ≤ i by omega]
    · have h3 : g[i - 1] < g[i] := by omega
      simp [ir62_d0, hlt, hw, hw2, e2001, e2002, h2, h3, ih, show (1 : Int) ≤ i by omega]
theorem r62 (g : List Int) (hg : g.length ≤ 1000000) (h0 : g ≠ []) : ownR env 62 [tl g] = some (.t (tb (riseB g)), []) := by
  rw [own_ir e62 _ rfl]
  have hp : 0 < g.length := List.length_pos_iff.2 h0
  have h := w62 g hg (g.length - 1) 1 (by omega) (by omega)
  simp at h
  simp [ir62, ir62_c, h, riseB]
end Go.Proofs.Ytanlmanifpknoaa.Ev

namespace Go.Proofs.Ytanlmanifpknoaa.Ev
open Go
set_option linter.unusedVariables false
set_option linter.unusedSimpArgs false
set_option linter.unusedSectionVars false
attribute [local simp] til_getE til_length til_get til_drop til_take til_snoc til_fold take_snoc til_set
end Go.Proofs.Ytanlmanifpknoaa.Ev

namespace Go.Proofs.Ytanlmanifpknoaa.Ev
open Go
set_option linter.unusedVariables false
set_option linter.unusedSimpArgs false
set_option linter.unusedSectionVars false
attribute [local simp] til_getE til_length til_get til_drop til_take til_snoc til_fold take_snoc til_set
theorem LN.ix {X : T} {l : List Int} (h : LN X l) (H : Heap) (i : Nat) (hi : i < l.length) : evIxa H 1 (.t X) (.t (.int .i64 i)) = some (.rptr (.int .i64 l[i]) 0) := by
  rcases h with ⟨rfl, rfl⟩ | rfl
  · simp at hi
  · simp [hi]
theorem w32 (X Y : T) (l m : List Int) (hX : LN X l) (hY : LN Y m) (hlm : l.length = m.length) (hl : l.length ≤ 2 ^ 40) : ∀ (d i : Nat), i + d = l.length →
    endO [.tmp 4] (andN (outB 0 (loopF env true [0, 1, 12, 13] ir32_b0 ([(0, .t X), (1, .t Y), (12, .t (ti l.length)), (13, .t (ti i))], []))) (execD env (.seq (.reg false [] [⟨some 4, none, .mv (.k (tb true))⟩]) .ret))) = some (.t (tb (decide (l.drop i = m.drop i))), [])
  | 0, i, hi => by
    rw [x32_0]
    have : i = l.length := by omega
    subst this
    have : m.drop l.length = [] := by rw [hlm]; simp
    simp [ir32_d0, this]
  | d + 1, i, hi => by
    rw [x32_0]
    have hlt : i < l.length := by omega
    have hltm : i < m.length := by omega
    have hw : IntKind.i64.wrap ((i : Int) + 1) = (i : Int) + 1 := w96 (by omega)
    have ih := w32 X Y l m hX hY hlm hl d (i + 1) (by omega)
    have hs : decide (l.drop i = m.drop i) = (decide (l[i] = m[i]) && decide (l.drop (i + 1) = m.drop (i + 1))) := by
      rw [List.drop_eq_getElem_cons hlt, List.drop_eq_getElem_cons hltm, Bool.eq_iff_iff, Bool.and_eq_true, decide_eq_true_eq, decide_eq_true_eq, decide_eq_true_eq, List.cons.injEq]
    rw [hs]
    have hxi := fun H => hX.ix H i hlt
    have hyi := fun H => hY.ix H i hltm
    generalize decide (l.drop (i + 1) = m.drop (i + 1)) = A at *
    simp at ih
    by_cases h : l[i] = m[i]
    · simp [ir32_d0, hlt, hw, hxi, hyi, h, ih]
    · simp [ir32_d0, hlt, hw, hxi, hyi, h]
theorem r32 (X Y : T) (l m : List Int) (hX : LN X l) (hY : LN Y m) (hl : l.length ≤ 2 ^ 40) : ownR env 32 [X, Y] = some (.t (tb (decide (l = m))), []) := by
  rw [own_ir e32 _ rfl]
  have h1 := hX.len
  have h2 := hY.len
  by_cases hlm : l.length = m.length
  · have h := w32 X Y l m hX hY hlm hl l.length 0 (by omega)
    simp at h
    simp [ir32, ir32_c, h1, h2, hlm] at h ⊢
    simp [h]
  · have hne : ¬ (l = m) := fun e => hlm (by rw [e])
    have hne2 : ¬ ((l.length : Int) = m.length) := by omega
    have hd : decide ((l.length : Int) = m.length) = false := decide_eq_false hne2
    simp [ir32, ir32_c, h1, h2, hne, hd]
end Go.Proofs.Ytanlmanifpknoaa.Ev

namespace Go.Proofs.Ytanlmanifpknoaa.Ev
open Go
set_option linter.unusedVariables false
set_option linter.unusedSimpArgs false
set_option linter.unusedSectionVars false
attribute [local simp] til_getE til_length til_get til_drop til_take til_snoc til_fold take_snoc til_set
theorem rises_eq (lo hi : Int) (g : List Int) : risesB lo hi g = (g.all (fun x => inB x lo hi) && riseB g) := by
  unfold risesB riseB
  congr 1
  rw [Bool.eq_iff_iff, List.all_eq_true, List.all_eq_true]
  constructor
  · intro h j hj
    rw [List.mem_range'_1] at hj
    have := h j (by rw [List.mem_range'_1]; omega)
    simp only [Bool.or_eq_true, decide_eq_true_eq] at this
    rcases this with h0 | h0
    · omega
    · simpa using h0
  · intro h j hj
    rw [List.mem_range'_1] at hj
    rcases Nat.eq_zero_or_pos j with h0 | h0
    · simp [h0]
    · have := h j (by rw [List.mem_range'_1]; omega)
      rw [this]; simp
end Go.Proofs.Ytanlmanifpknoaa.Ev

namespace Go.Proofs.Ytanlmanifpknoaa.Ev
open Go
set_option linter.unusedVariables false
set_option linter.unusedSimpArgs false
set_option linter.unusedSectionVars false
attribute [local simp] til_getE til_length til_get til_drop til_take til_snoc til_fold take_snoc til_set
end Go.Proofs.Ytanlmanifpknoaa.Ev

namespace Go.Proofs.Ytanlmanifpknoaa.Ev
open Go
set_option linter.unusedVariables false
set_option linter.unusedSimpArgs false
set_option linter.unusedSectionVars false
attribute [local simp] til_getE til_length til_get til_drop til_take til_snoc til_fold take_snoc til_set
def RetS (r : Option Out) (Q : Fr → Heap → Prop) : Prop := ∃ fr H, r = some (.ret, fr, H) ∧ Q fr H
@[simp] theorem retS_some (fr : Fr) (H : Heap) (Q : Fr → Heap → Prop) : RetS (some (.ret, fr, H)) Q ↔ Q fr H := by
  constructor
  · rintro ⟨_, _, h, hq⟩; cases h; exact hq
  · exact fun h => ⟨_, _, rfl, h⟩
end Go.Proofs.Ytanlmanifpknoaa.Ev

namespace Go.Proofs.Ytanlmanifpknoaa.Ev
open Go
set_option linter.unusedVariables false
set_option linter.unusedSimpArgs false
set_option linter.unusedSectionVars false
attribute [local simp] til_getE til_length til_get til_drop til_take til_snoc til_fold take_snoc til_set
end Go.Proofs.Ytanlmanifpknoaa.Ev

namespace Go.Proofs.Ytanlmanifpknoaa.Ev
open Go
set_option linter.unusedVariables false
set_option linter.unusedSimpArgs false
set_option linter.unusedSectionVars false
attribute [local simp] til_getE til_length til_get til_drop til_take til_snoc til_fold take_snoc til_set
end Go.Proofs.Ytanlmanifpknoaa.Ev

namespace Go.Proofs.Ytanlmanifpknoaa.Ev
open Go
set_option linter.unusedVariables false
set_option linter.unusedSimpArgs false
set_option linter.unusedSectionVars false
attribute [local simp] til_getE til_length til_get til_drop til_take til_snoc til_fold take_snoc til_set
end Go.Proofs.Ytanlmanifpknoaa.Ev

namespace Go.Proofs.Ytanlmanifpknoaa.Ev
open Go
set_option linter.unusedVariables false
set_option linter.unusedSimpArgs false
section
variable {N C D : Nat} {P : Nat → Prop} {out : Nat → List Ed} (hG : OkG N C D P out) {starts : List Nat} (hs : ∀ x ∈ starts, P x)
end
end Go.Proofs.Ytanlmanifpknoaa.Ev

namespace Go.Proofs.Ytanlmanifpknoaa.Ev
open Go
set_option linter.unusedVariables false
set_option linter.unusedSimpArgs false

section
variable {X : Type}
variable [DecidableEq X]
end
end Go.Proofs.Ytanlmanifpknoaa.Ev

namespace Go.Proofs.Ytanlmanifpknoaa.Ev
open Go
set_option linter.unusedVariables false
set_option linter.unusedSimpArgs false
set_option linter.unusedSectionVars false

section
variable {X : Type} [DecidableEq X] (sc : X → List X) (cd : X → Nat) (ok : X → Prop) (N : Nat)
variable (s : X)
open Classical in
variable {sc cd ok N s}
end
end Go.Proofs.Ytanlmanifpknoaa.Ev

namespace Go.Proofs.Ytanlmanifpknoaa.Ev
open Go
set_option linter.unusedVariables false
set_option linter.unusedSimpArgs false
set_option linter.unusedSectionVars false

section
variable {X : Type} [DecidableEq X] (sc : X → List X) (cd : X → Nat) (ok : X → Prop) (N : Nat) (s : X)
variable {sc cd ok N s}
end
end Go.Proofs.Ytanlmanifpknoaa.Ev

namespace Go.Proofs.Ytanlmanifpknoaa.Ev
open Go
set_option linter.unusedVariables false
set_option linter.unusedSimpArgs false
set_option linter.unusedSectionVars false

end Go.Proofs.Ytanlmanifpknoaa.Ev

namespace Go.Proofs.Ytanlmanifpknoaa.Ev
open Go
set_option linter.unusedVariables false
set_option linter.unusedSimpArgs false
set_option linter.unusedSectionVars false

end Go.Proofs.Ytanlmanifpknoaa.Ev

namespace Go.Proofs.Ytanlmanifpknoaa.Ev
open Go
set_option linter.unusedVariables false
set_option linter.unusedSimpArgs false
set_option linter.unusedSectionVars false

end Go.Proofs.Ytanlmanifpknoaa.Ev

namespace Go.Proofs.Ytanlmanifpknoaa.Ev
open Go
set_option linter.unusedVariables false
set_option linter.unusedSimpArgs false
end Go.Proofs.Ytanlmanifpknoaa.Ev

namespace Go.Proofs.Ytanlmanifpknoaa.Ev
open Go
set_option linter.unusedVariables false
set_option linter.unusedSimpArgs false
set_option linter.unusedSectionVars false

theorem sub_sorted : ∀ (L g : List Int), L.Pairwise (· < ·) → g.Pairwise (· < ·) → (∀ x ∈ g, x ∈ L) → List.Sublist g L
  | [], g, _, _, h => by
    cases g with
    | nil => exact List.nil_sublist _
    | cons x g => exact absurd (h x (List.mem_cons_self ..)) (by simp)
  | y :: L, g, hL, hg, h => by
    rw [List.pairwise_cons] at hL
    cases g with
    | nil => exact List.nil_sublist _
    | cons x g =>
      rw [List.pairwise_cons] at hg
      by_cases hxy : x = y
      · subst hxy
        refine List.cons_sublist_cons.2 (sub_sorted L g hL.2 hg.2 fun z hz => ?_)
        rcases List.mem_cons.1 (h z (List.mem_cons_of_mem _ hz)) with h1 | h1
        · have := hg.1 z hz; omega
        · exact h1
      · have hx : x ∈ L := by
          rcases List.mem_cons.1 (h x (List.mem_cons_self ..)) with h1 | h1
          · exact absurd h1 hxy
          · exact h1
        refine (sub_sorted L (x :: g) hL.2 (List.pairwise_cons.2 hg) fun z hz => ?_).cons y
        rcases List.mem_cons.1 hz with h1 | h1
        · rw [h1]; exact hx
        · rcases List.mem_cons.1 (h z hz) with h2 | h2
          · have h3 := hg.1 z h1
            have h4 := hL.1 x hx
            omega
          · exact h2
theorem grps_all (most : Int) : ∀ (rest l s : List Int), List.Sublist s rest → s ≠ [] → (l.length : Int) + s.length ≤ most → l ++ s ∈ grps most rest l
  | [], l, s, h, hne, _ => absurd (List.sublist_nil.1 h) hne
  | x :: rest, l, s, h, hne, hm => by
    have hs0 : 0 < s.length := List.length_pos_iff.2 hne
    rw [grps, if_pos (by omega)]
    cases h with
    | cons _ h => exact List.mem_cons_of_mem _ (List.mem_append_right _ (grps_all most rest l s h hne hm))
    | @cons_cons s' _ _ h =>
      by_cases hs' : s' = []
      · subst hs'; exact List.mem_cons_self ..
      · have := grps_all most rest (l ++ [x]) s' h hs' (by rw [List.length_append, List.length_singleton]; simp only [List.length_cons] at hm; omega)
        rw [List.append_assoc, List.singleton_append] at this
        exact List.mem_cons_of_mem _ (List.mem_append_left _ this)
theorem rises_pair {a b : Int} {g : List Int} (h : risesB a b g = true) : g.Pairwise (· < ·) := by
  unfold risesB at h
  rw [Bool.and_eq_true, List.all_eq_true, List.all_eq_true] at h
  have h2 := h.2
  have key : ∀ (d i : Nat) (hi : i < g.length) (hj : i + d + 1 < g.length), g[i] < g[i + d + 1] := fun d => by
    induction d with
    | zero =>
      intro i hi hj
      have := h2 (i + 1) (by rw [List.mem_range'_1]; omega)
      simpa [hi, hj] using this
    | succ d ih =>
      intro i hi hj
      have h3 := ih i hi (by omega)
      have := h2 (i + (d + 1) + 1) (by rw [List.mem_range'_1]; omega)
      have h4 : g[i + d + 1]'(by omega) < g[i + (d + 1) + 1] := by
        have e : i + (d + 1) + 1 - 1 = i + d + 1 := by omega
        rw [e] at this
        have h5 : i + d + 1 < g.length := by omega
        simpa [h5, hj] using this
      omega
  rw [List.pairwise_iff_getElem]
  intro i j hi hj hij
  have := key (j - i - 1) i hi (by omega)
  have e : i + (j - i - 1) + 1 = j := by omega
  simpa [e] using this
end Go.Proofs.Ytanlmanifpknoaa.Ev

namespace Go.Proofs.Ytanlmanifpknoaa.Ev
open Go
set_option linter.unusedVariables false
set_option linter.unusedSimpArgs false
set_option linter.unusedSectionVars false
attribute [local simp] til_getE til_length til_get til_drop til_take til_snoc til_fold take_snoc til_set tin_getE tin_length tin_take tleN_length tleN_getE
end Go.Proofs.Ytanlmanifpknoaa.Ev

namespace Go.Proofs.Ytanlmanifpknoaa.Ev
open Go
set_option linter.unusedVariables false
set_option linter.unusedSimpArgs false
set_option linter.unusedSectionVars false
attribute [local simp] til_getE til_length til_get til_drop til_take til_snoc til_fold take_snoc til_set
def befB : List Int → List Int → Bool
  | x :: xs, y :: ys => if x = y then befB xs ys else decide (x < y)
  | [], _ :: _ => true
  | _, [] => false
theorem w27 (l m : List Int) (hl : l.length ≤ 1000000) : ∀ (d i : Nat), i + d = min l.length m.length →
    (∃ fr, loopF env true [0, 1, 5] ir27_b0 ([(0, .t (tl l)), (1, .t (tl m)), (5, .t (ti i))], []) = some (.exit 0, fr, []) ∧ fr.get 0 = .t (tl l) ∧ fr.get 1 = .t (tl m) ∧ befB (l.drop i) (m.drop i) = decide (l.length < m.length)) ∨
    (∃ fr, loopF env true [0, 1, 5] ir27_b0 ([(0, .t (tl l)), (1, .t (tl m)), (5, .t (ti i))], []) = some (.ret, fr, []) ∧ fr.get 4 = .t (tb (befB (l.drop i) (m.drop i))))
  | 0, i, hi => by
    left
    rw [x27_0]
    have h1 : ¬ (i < l.length ∧ i < m.length) := by omega
    by_cases hl1 : i < l.length
    · have hm1 : ¬ i < m.length := by omega
      refine ⟨_, by simp [ir27_d0, hl1, hm1]; rfl, rfl, rfl, ?_⟩
      rw [List.drop_eq_nil_of_le (show m.length ≤ i by omega), List.drop_eq_getElem_cons hl1]
      have : ¬ l.length < m.length := by omega
      simp [befB, this]
    · refine ⟨_, by simp [ir27_d0, hl1]; rfl, rfl, rfl, ?_⟩
      rw [List.drop_eq_nil_of_le (show l.length ≤ i by omega)]
      by_cases hm1 : i < m.length
      · rw [List.drop_eq_getElem_cons hm1]
        have : l.length < m.length := by omega
        simp [befB, this]
      · rw [List.drop_eq_nil_of_le (show m.length ≤ i by omega)]
        have : ¬ l.length < m.length := by omega
        simp [befB, this]
  | d + 1, i, hi => by
    have hl1 : i < l.length := by omega
    have hm1 : i < m.length := by omega
    have hw : IntKind.i64.wrap ((i : Int) + 1) = (i : Int) + 1 := w96 (by omega)
    have ih := w27 l m hl d (i + 1) (by omega)
    rw [List.drop_eq_getElem_cons hl1, List.drop_eq_getElem_cons hm1, befB]
    rw [x27_0]
    by_cases he : l[i] = m[i]
    · rw [if_pos he]
      rcases ih with ⟨fr, h1, h2⟩ | ⟨fr, h1, h2⟩
      · left
        refine ⟨fr, ?_, h2⟩
        simp at h1
        simp [ir27_d0, hl1, hm1, he, hw, h1]
      · right
        refine ⟨fr, ?_, h2⟩
        simp at h1
        simp [ir27_d0, hl1, hm1, he, hw, h1]
    · right
      rw [if_neg he]
      refine ⟨_, by simp [ir27_d0, hl1, hm1, he, hw]; rfl, ?_⟩
      simp
theorem r27 (l m : List Int) (hl : l.length ≤ 1000000) : ownR env 27 [tl l, tl m] = some (.t (tb (befB l m)), []) := by
  rw [own_ir e27 _ rfl]
  rcases w27 l m hl (min l.length m.length) 0 (by omega) with ⟨fr, h1, h2, h3, h4⟩ | ⟨fr, h1, h2⟩
  · simp at h1 h4
    simp [ir27, ir27_c, h1, h2, h3, h4, Fr.get_put]
  · simp at h1 h2
    simp [ir27, ir27_c, h1, h2, Fr.get_put]
end Go.Proofs.Ytanlmanifpknoaa.Ev

namespace Go.Proofs.Ytanlmanifpknoaa.Ev
open Go
set_option linter.unusedVariables false
set_option linter.unusedSimpArgs false
set_option linter.unusedSectionVars false

theorem befB_app (l s s' : List Int) : befB (l ++ s) (l ++ s') = befB s s' := by
  induction l with
  | nil => rfl
  | cons x l ih => rw [List.cons_append, List.cons_append, befB, if_pos rfl, ih]
theorem grps_mem2 (most : Int) : ∀ (rest l g : List Int), g ∈ grps most rest l → ∃ s, g = l ++ s ∧ s ≠ [] ∧ s.Sublist rest
  | [], l, g, h => by simp [grps] at h
  | x :: rest, l, g, h => by
    rw [grps] at h
    split at h
    · rcases List.mem_cons.1 h with h | h
      · exact ⟨[x], h, by simp, List.cons_sublist_cons.2 (List.nil_sublist _)⟩
      · rcases List.mem_append.1 h with h | h
        · obtain ⟨s, h1, h2, h3⟩ := grps_mem2 most rest _ g h
          exact ⟨x :: s, by rw [h1]; simp, by simp, List.cons_sublist_cons.2 h3⟩
        · obtain ⟨s, h1, h2, h3⟩ := grps_mem2 most rest _ g h
          exact ⟨s, h1, h2, h3.cons _⟩
    · simp at h
theorem grps_pair (most : Int) : ∀ (rest l : List Int), rest.Pairwise (· < ·) → (grps most rest l).Pairwise (fun g h => befB g h = true)
  | [], l, _ => by simp [grps]
  | x :: rest, l, hp => by
    rw [List.pairwise_cons] at hp
    rw [grps]
    split
    · have key : ∀ h ∈ grps most rest l, ∀ s : List Int, befB (l ++ x :: s) h = true := fun h hh s => by
        obtain ⟨s', h1, h2, h3⟩ := grps_mem2 most rest l h hh
        rw [h1, befB_app]
        cases s' with
        | nil => exact absurd rfl h2
        | cons y s' =>
          have := hp.1 y (h3.subset (List.mem_cons_self ..))
          rw [befB, if_neg (by omega)]
          simpa using this
      rw [List.pairwise_cons, List.pairwise_append]
      refine ⟨fun h hh => ?_, grps_pair most rest _ hp.2, grps_pair most rest _ hp.2, fun g hg h hh => ?_⟩
      · rcases List.mem_append.1 hh with hh | hh
        · obtain ⟨s', h1, h2, h3⟩ := grps_mem2 most rest _ h hh
          rw [h1]
          have := befB_app (l ++ [x]) [] s'
          rw [List.append_nil] at this
          rw [this]
          cases s' with
          | nil => exact absurd rfl h2
          | cons y s' => rfl
        · exact key h hh []
      · obtain ⟨s', h1, h2, h3⟩ := grps_mem2 most rest _ g hg
        rw [h1, List.append_assoc]
        exact key h hh s'
    · exact List.Pairwise.nil
end Go.Proofs.Ytanlmanifpknoaa.Ev

namespace Go.Proofs.Ytanlmanifpknoaa.Ev
open Go
set_option linter.unusedVariables false
set_option linter.unusedSimpArgs false
set_option linter.unusedSectionVars false
def sd (b : Bool) : Nat → List Bool → List Int
  | _, [] => []
  | i, x :: xs => if x = b then (i : Int) :: sd b (i + 1) xs else sd b (i + 1) xs
theorem sd_mem (b : Bool) (y : Int) : ∀ (xs : List Bool) (i : Nat), y ∈ sd b i xs ↔ ∃ m : Nat, xs[m]? = some b ∧ y = ((i + m : Nat) : Int)
  | [], i => by simp [sd]
  | x :: xs, i => by
    have e : (∃ m : Nat, (x :: xs)[m]? = some b ∧ y = ((i + m : Nat) : Int)) ↔ (x = b ∧ y = (i : Int)) ∨ ∃ m : Nat, xs[m]? = some b ∧ y = ((i + 1 + m : Nat) : Int) := by
      constructor
      · rintro ⟨m, h1, h2⟩
        cases m with
        | zero => left; simp at h1; exact ⟨h1, by omega⟩
        | succ m => right; exact ⟨m, by simpa using h1, by omega⟩
      · rintro (⟨h1, h2⟩ | ⟨m, h1, h2⟩)
        · exact ⟨0, by simp [h1], by omega⟩
        · exact ⟨m + 1, by simpa using h1, by omega⟩
    rw [e, sd]
    split
    · rename_i h
      rw [List.mem_cons, sd_mem b y xs]; simp [h]
    · rename_i h
      rw [sd_mem b y xs]; simp [h]
theorem sd_in (b : Bool) (xs : List Bool) (i : Nat) : ∀ y ∈ sd b i xs, (i : Int) ≤ y ∧ y < ((i + xs.length : Nat) : Int) := fun y hy => by
  obtain ⟨m, h1, h2⟩ := (sd_mem b y xs i).1 hy
  have := (List.getElem?_eq_some_iff.1 h1).1
  omega
theorem sd_pair (b : Bool) : ∀ (xs : List Bool) (i : Nat), (sd b i xs).Pairwise (· < ·)
  | [], i => by simp [sd]
  | x :: xs, i => by
    rw [sd]
    split
    · refine List.pairwise_cons.2 ⟨fun y hy => ?_, sd_pair b xs (i + 1)⟩
      have := sd_in b xs (i + 1) y hy
      omega
    · exact sd_pair b xs (i + 1)
theorem sd_len (b : Bool) : ∀ (xs : List Bool) (i : Nat), (sd b i xs).length ≤ xs.length
  | [], i => by simp [sd]
  | x :: xs, i => by
    rw [sd]
    have := sd_len b xs (i + 1)
    split <;> simp only [List.length_cons] <;> omega
def mvB (t : Bool) : List Int → List Bool → List Bool
  | [], l => l
  | k :: g, l => mvB t g (l.set k.toNat t)
theorem mvB_length (t : Bool) : ∀ (g : List Int) (l : List Bool), (mvB t g l).length = l.length
  | [], l => rfl
  | k :: g, l => by rw [mvB, mvB_length t g, List.length_set]
theorem mvB_get (t : Bool) : ∀ (g : List Int) (l : List Bool) (m : Nat), m < l.length → (∀ k ∈ g, 0 ≤ k) → (mvB t g l)[m]? = if (m : Int) ∈ g then some t else l[m]?
  | [], l, m, hm, hg => by simp [mvB]
  | k :: g, l, m, hm, hg => by
    have hk := hg k (List.mem_cons_self ..)
    rw [mvB, mvB_get t g _ m (by rw [List.length_set]; exact hm) (fun k h => hg k (List.mem_cons_of_mem _ h))]
    by_cases h1 : (m : Int) ∈ g
    · simp [h1]
    · by_cases h2 : (m : Int) = k
      · rw [if_neg h1, if_pos (by simp [h2])]
        rw [show k.toNat = m by omega, List.getElem?_set_self hm]
      · rw [if_neg h1, if_neg (by simp [h1, h2]), List.getElem?_set_ne (by omega)]
def atS (xs : List Bool) (q : Bool) (g : List Int) : Bool := g.all fun k => decide (xs[k.toNat]? = some q)
theorem atS_iff {xs : List Bool} {q : Bool} {g : List Int} : atS xs q g = true ↔ ∀ k ∈ g, xs[k.toNat]? = some q := by
  unfold atS; rw [List.all_eq_true]; simp
theorem mvB_back (l : List Bool) (p t : Bool) (g : List Int) (hg : ∀ k ∈ g, 0 ≤ k ∧ k < l.length) (ha : atS l p g = true) : mvB p g (mvB t g l) = l := by
  refine List.ext_getElem? fun m => ?_
  by_cases hm : m < l.length
  · rw [mvB_get p g _ m (by rw [mvB_length]; exact hm) (fun k hk => (hg k hk).1), mvB_get t g l m hm (fun k hk => (hg k hk).1)]
    split
    · rename_i h
      have := (atS_iff.1 ha) _ h
      rw [show ((m : Int)).toNat = m by omega] at this
      rw [this]
    · rfl
  · rw [List.getElem?_eq_none (by rw [mvB_length, mvB_length]; omega), List.getElem?_eq_none (by omega)]
def goodC (a b : Int) : Bool := inB a 1 4 && inB b 1 4
theorem goodC_of {a b : Int} (h : goodC a b = true) : 1 ≤ a ∧ a ≤ 4 ∧ 1 ≤ b ∧ b ≤ 4 := by simp [goodC, inB] at h; omega
def stS (a b : Int) (xs : List Bool) (q : Bool) : Bool := goodC a b && (decide ((xs.length : Int) = 2 * a) && decide (q ∈ xs))
def clS (xs : List Bool) : Bool := calmI (sd true 0 xs) (sd true 0 xs) && calmI (sd false 0 xs) (sd false 0 xs)
def rowS (a b : Int) (xs : List Bool) (q : Bool) (g : List Int) : Bool := inB g.length 1 b && risesB 0 (2 * a - 1) g && atS xs q g && calmI g g && clS (mvB (!q) g xs)
def rowsP (b : Int) (xs : List Bool) (q : Bool) : List (List Int) := (grps b (sd q 0 xs) []).filter fun g => calmI g g && clS (mvB (!q) g xs)
theorem clS_iff (a : Nat) (ha : a ≤ 1000000) (xs : List Bool) (hx : xs.length = 2 * a) : clS xs = true ↔ (Calm a fun j => xs[j]? = some true) ∧ Calm a fun j => xs[j]? = some false := by
  have e : ∀ b, calmI (sd b 0 xs) (sd b 0 xs) = true ↔ Calm a fun j => xs[j]? = some b := fun b => by
    rw [calmI_iff a ha _ (fun x hx2 => by have := sd_in b xs 0 x hx2; omega)]
    refine Calm_congr fun j hj => ?_
    rw [sd_mem]
    constructor
    · rintro ⟨m, h1, h2⟩
      rw [show j = m by omega]; exact h1
    · intro h; exact ⟨j, h, by omega⟩
  unfold clS
  rw [Bool.and_eq_true, e, e]
theorem rowsP_mem (a : Nat) (b : Int) (xs : List Bool) (q : Bool) (hx : xs.length = 2 * a) (g : List Int) : g ∈ rowsP b xs q ↔ rowS a b xs q g = true := by
  unfold rowsP rowS
  rw [List.mem_filter]
  constructor
  · rintro ⟨h1, h2⟩
    obtain ⟨s, h3, h4, h5⟩ := grps_form b _ _ _ h1
    rw [List.nil_append] at h3
    subst h3
    have hgi : ∀ x ∈ g, ∃ m : Nat, xs[m]? = some q ∧ x = (m : Int) := fun x hx2 => by
      obtain ⟨m, h6, h7⟩ := (sd_mem q x xs 0).1 (h5.subset hx2)
      exact ⟨m, h6, by omega⟩
    have h6 : atS xs q g = true := atS_iff.2 fun k hk => by
      obtain ⟨m, h7, h8⟩ := hgi k hk
      rw [h8]; exact h7
    have h7 : risesB 0 (2 * (a : Int) - 1) g = true := rises_of ((sd_pair q xs 0).sublist h5) fun x hx2 => by
      obtain ⟨m, h7, h8⟩ := hgi x hx2
      have := (List.getElem?_eq_some_iff.1 h7).1
      omega
    have h8 : inB g.length 1 b = true := (inB_iff _ _ _).2 ⟨by have := List.length_pos_iff.2 h4; omega, grps_lens b _ _ _ h1⟩
    rw [h6, h7, h8]
    simpa using h2
  · intro h
    simp only [Bool.and_eq_true] at h
    obtain ⟨⟨⟨⟨h1, h2⟩, h3⟩, h4⟩, h5⟩ := h
    refine ⟨?_, by rw [h4, h5]; rfl⟩
    have h6 := (inB_iff _ _ _).1 h1
    have := grps_all b (sd q 0 xs) [] g (sub_sorted _ _ (sd_pair q xs 0) (rises_pair h2) fun x hx2 => ?_) (by intro h; subst h; simp at h6) (by simpa using h6.2)
    · simpa using this
    · have h7 := (atS_iff.1 h3) x hx2
      have h8 := risesB_in h2 x hx2
      exact (sd_mem q x xs 0).2 ⟨x.toNat, h7, by omega⟩
theorem rowsP_pair (b : Int) (xs : List Bool) (q : Bool) : (rowsP b xs q).Pairwise (fun g h => befB g h = true) :=
  (grps_pair b _ [] (sd_pair q xs 0)).filter _
theorem rowS_parts {a b : Int} {xs : List Bool} {q : Bool} {g : List Int} (h : rowS a b xs q g = true) : (1 ≤ (g.length : Int) ∧ (g.length : Int) ≤ b) ∧ risesB 0 (2 * a - 1) g = true ∧ atS xs q g = true ∧ calmI g g = true ∧ clS (mvB (!q) g xs) = true := by
  unfold rowS at h
  simp only [Bool.and_eq_true] at h
  obtain ⟨⟨⟨⟨h1, h2⟩, h3⟩, h4⟩, h5⟩ := h
  exact ⟨(inB_iff _ _ _).1 h1, h2, h3, h4, h5⟩
theorem row_back {a b : Int} {xs : List Bool} {q : Bool} {g : List Int} (hs : stS a b xs q = true) (hc : clS xs = true) (h : rowS a b xs q g = true) :
    stS a b (mvB (!q) g xs) (!q) = true ∧ rowS a b (mvB (!q) g xs) (!q) g = true ∧ mvB (!!q) g (mvB (!q) g xs) = xs := by
  obtain ⟨h1, h2, h3, h4, h5⟩ := rowS_parts h
  unfold stS at hs
  simp only [Bool.and_eq_true, decide_eq_true_eq] at hs
  obtain ⟨s1, s2, s3⟩ := hs
  have hin := risesB_in h2
  have hgi : ∀ k ∈ g, 0 ≤ k ∧ k < xs.length := fun k hk => by have := hin k hk; omega
  have hb : mvB (!!q) g (mvB (!q) g xs) = xs := by rw [Bool.not_not]; exact mvB_back xs q (!q) g hgi h3
  have hat : atS (mvB (!q) g xs) (!q) g = true := atS_iff.2 fun k hk => by
    have := hgi k hk
    rw [mvB_get _ g xs k.toNat (by omega) (fun k hk => (hgi k hk).1), if_pos (by rw [show ((k.toNat : Nat) : Int) = k by omega]; exact hk)]
  refine ⟨?_, ?_, hb⟩
  · unfold stS
    rw [s1, mvB_length, decide_eq_true s2]
    obtain ⟨k, g', rfl⟩ : ∃ k g', g = k :: g' := by cases g with
      | nil => simp at h1
      | cons k g' => exact ⟨k, g', rfl⟩
    have := (atS_iff.1 hat) k (List.mem_cons_self ..)
    simp [List.mem_of_getElem? this]
  · unfold rowS
    rw [(inB_iff _ _ _).2 h1, h2, hat, h4, hb, hc]; rfl

def cdB : List Bool → Nat → Nat → Nat
  | [], _, N => N
  | x :: xs, i, N => cdB xs (i + 1) (if x then N ||| 2 * 2 ^ i else N)
theorem cdB_test (j : Nat) : ∀ (xs : List Bool) (i N : Nat), (cdB xs i N).testBit j = true ↔ N.testBit j = true ∨ ∃ m, xs[m]? = some true ∧ i + m + 1 = j
  | [], i, N => by simp [cdB]
  | x :: xs, i, N => by
    have e : (∃ m, (x :: xs)[m]? = some true ∧ i + m + 1 = j) ↔ (x = true ∧ i + 1 = j) ∨ ∃ m, xs[m]? = some true ∧ i + 1 + m + 1 = j := by
      constructor
      · rintro ⟨m, h1, h2⟩
        cases m with
        | zero => left; simp at h1; exact ⟨h1, by omega⟩
        | succ m => right; exact ⟨m, by simpa using h1, by omega⟩
      · rintro (⟨h1, h2⟩ | ⟨m, h1, h2⟩)
        · exact ⟨0, by simp [h1], by omega⟩
        · exact ⟨m + 1, by simpa using h1, by omega⟩
    rw [cdB, cdB_test j xs, e]
    cases x with
    | false => simp
    | true =>
      rw [if_pos rfl, Nat.testBit_or, show 2 * 2 ^ i = 2 ^ (i + 1) by rw [Nat.pow_succ]; omega, Nat.testBit_two_pow]
      simp [or_assoc]
def cdN (xs : List Bool) (q : Bool) : Nat := cdB xs 0 0 + if q then 1 else 0
theorem cdB_even (xs : List Bool) : cdB xs 0 0 % 2 = 0 := by
  have h := cdB_test 0 xs 0 0
  rw [Nat.testBit_zero] at h
  simp at h
  omega
theorem cdN_half (xs : List Bool) (q : Bool) : cdN xs q / 2 = cdB xs 0 0 / 2 := by
  have := cdB_even xs
  unfold cdN
  cases q <;> simp <;> omega
theorem cdN_mod (xs : List Bool) (q : Bool) : cdN xs q % 2 = if q then 1 else 0 := by
  have := cdB_even xs
  unfold cdN
  cases q <;> simp <;> omega
theorem half_test (xs : List Bool) (j : Nat) : (cdB xs 0 0 / 2).testBit j = true ↔ xs[j]? = some true := by
  rw [show cdB xs 0 0 / 2 = cdB xs 0 0 / 2 ^ 1 by rw [Nat.pow_one], Nat.testBit_div_two_pow, cdB_test]
  constructor
  · rintro (h | ⟨m, h1, h2⟩)
    · simp at h
    · rw [show j = m by omega]; exact h1
  · intro h; exact .inr ⟨j, h, by omega⟩
theorem half_lt (xs : List Bool) : cdB xs 0 0 / 2 < 2 ^ xs.length := by
  refine Nat.lt_pow_two_of_testBit _ fun j hj => ?_
  rw [← Bool.not_eq_true, half_test, List.getElem?_eq_none hj]
  simp
theorem cdN_lt (xs : List Bool) (q : Bool) : cdN xs q < 2 * 2 ^ xs.length := by
  have h1 := half_lt xs
  have h2 := cdN_half xs q
  omega
theorem cdN_test (xs : List Bool) (q : Bool) (j : Nat) : (cdN xs q).testBit (j + 1) = true ↔ xs[j]? = some true := by
  rw [← half_test, ← cdN_half xs q, Nat.testBit_succ]
theorem cdN_test0 (xs : List Bool) (q : Bool) : (cdN xs q).testBit 0 = q := by
  rw [Nat.testBit_zero, cdN_mod]
  cases q <;> simp
def quS (a : Nat) (cd : Nat) : Bool := cuB a (cd / 2) && cuB a (2 ^ (2 * a) - 1 - cd / 2)
def bl (G i n : Nat) : List Int := ((List.range' i n).filter fun k => G.testBit k).map fun k : Nat => (k : Int)
theorem bl_mem (G i n : Nat) (x : Int) : x ∈ bl G i n ↔ ∃ k : Nat, x = k ∧ i ≤ k ∧ k < i + n ∧ G.testBit k = true := by
  unfold bl
  simp only [List.mem_map, List.mem_filter, List.mem_range'_1]
  constructor
  · rintro ⟨k, ⟨⟨h1, h2⟩, h3⟩, rfl⟩; exact ⟨k, rfl, h1, h2, h3⟩
  · rintro ⟨k, rfl, h1, h2, h3⟩; exact ⟨k, ⟨⟨h1, h2⟩, h3⟩, rfl⟩
theorem bl_pair (G i n : Nat) : (bl G i n).Pairwise (· < ·) := by
  unfold bl
  rw [List.pairwise_map]
  refine (List.Pairwise.filter _ (List.pairwise_lt_range' (s := i) (n := n) (step := 1))).imp fun {x y} h => ?_
  omega
theorem bits_bl (G n : Nat) (h : G < 2 ^ n) : bitsI (bl G 0 n) 0 = G := by
  refine Nat.eq_of_testBit_eq fun j => ?_
  rw [Bool.eq_iff_iff, bitsI_test]
  constructor
  · rintro (h1 | ⟨k, h1, h2⟩)
    · simp at h1
    · obtain ⟨k', rfl, _, _, h3⟩ := (bl_mem _ _ _ _).1 h1
      rw [← h2]; exact h3
  · intro h1
    refine .inr ⟨(j : Int), (bl_mem _ _ _ _).2 ⟨j, rfl, by omega, ?_, h1⟩, by omega⟩
    refine Nat.lt_of_not_le fun h2 => ?_
    rw [Nat.testBit_lt_two_pow (Nat.lt_of_lt_of_le h (Nat.pow_le_pow_right (by omega) (by omega)))] at h1
    cases h1
theorem bits_lt {g : List Int} {n : Nat} (h : ∀ k ∈ g, 0 ≤ k ∧ k < (n : Int)) : bitsI g 0 < 2 ^ n := by
  refine Nat.lt_pow_two_of_testBit _ fun j hj => ?_
  rw [← Bool.not_eq_true, bitsI_test]
  rintro (h1 | ⟨k, h1, h2⟩)
  · simp at h1
  · have := h k h1; omega
theorem ext_R {α : Type} (R : α → α → Prop) (hi : ∀ x, ¬ R x x) (ht : ∀ x y z, R x y → R y z → R x z) : ∀ (l m : List α), l.Pairwise R → m.Pairwise R → (∀ x, x ∈ l ↔ x ∈ m) → l = m
  | [], [], _, _, _ => rfl
  | [], y :: m, _, _, h => by simpa using (h y).2 (List.mem_cons_self ..)
  | x :: l, [], _, _, h => by simpa using (h x).1 (List.mem_cons_self ..)
  | x :: l, y :: m, hl, hm, h => by
    rw [List.pairwise_cons] at hl hm
    have e : x = y := by
      rcases List.mem_cons.1 ((h x).1 (List.mem_cons_self ..)) with h1 | h1
      · exact h1
      · rcases List.mem_cons.1 ((h y).2 (List.mem_cons_self ..)) with h2 | h2
        · exact h2.symm
        · exact absurd (ht _ _ _ (hm.1 x h1) (hl.1 y h2)) (hi _)
    subst e
    rw [ext_R R hi ht l m hl.2 hm.2 fun z => ?_]
    constructor
    · intro hz
      rcases List.mem_cons.1 ((h z).1 (List.mem_cons_of_mem _ hz)) with h1 | h1
      · subst h1; exact absurd (hl.1 _ hz) (hi _)
      · exact h1
    · intro hz
      rcases List.mem_cons.1 ((h z).2 (List.mem_cons_of_mem _ hz)) with h1 | h1
      · subst h1; exact absurd (hm.1 _ hz) (hi _)
      · exact h1
theorem pair_ext : ∀ (l m : List Int), l.Pairwise (· < ·) → m.Pairwise (· < ·) → (∀ x, x ∈ l ↔ x ∈ m) → l = m :=
  ext_R (fun x y : Int => x < y) (fun x => by omega) (fun x y z h1 h2 => by omega)
theorem bl_bits {g : List Int} {n : Nat} (hp : g.Pairwise (· < ·)) (h : ∀ k ∈ g, 0 ≤ k ∧ k < (n : Int)) : bl (bitsI g 0) 0 n = g := by
  refine pair_ext _ _ (bl_pair _ _ _) hp fun x => ?_
  rw [bl_mem]
  constructor
  · rintro ⟨k, rfl, h1, h2, h3⟩
    rcases (bitsI_test k g 0).1 h3 with h4 | ⟨y, h4, h5⟩
    · simp at h4
    · have := h y h4
      rw [show (k : Int) = y by omega]; exact h4
  · intro hx
    have := h x hx
    exact ⟨x.toNat, by omega, by omega, by omega, (bitsI_test _ g 0).2 (.inr ⟨x, hx, rfl⟩)⟩
def canS (a : Nat) (b : Int) (cd G : Nat) : Bool :=
  let here := if cd % 2 = 0 then 2 ^ (2 * a) - 1 - cd / 2 else cd / 2
  !decide (G = 0) && (decide (G &&& here = G) && (decide (((bl G 0 10).length : Int) ≤ b) && (cuB a G && quS a (cd ^^^ (2 * G + 1)))))
theorem comp_test {n x j : Nat} (h : x < 2 ^ n) : (2 ^ n - 1 - x).testBit j = (decide (j < n) && !x.testBit j) := by
  rw [show 2 ^ n - 1 - x = 2 ^ n - (x + 1) by omega, Nat.testBit_two_pow_sub_succ h]
theorem move_cd (a : Nat) (xs : List Bool) (q : Bool) (g : List Int) (hx : xs.length = 2 * a) (hg : ∀ k ∈ g, 0 ≤ k ∧ k < xs.length) (ha : atS xs q g = true) : cdN xs q ^^^ (2 * bitsI g 0 + 1) = cdN (mvB (!q) g xs) (!q) := by
  refine Nat.eq_of_testBit_eq fun j => ?_
  rw [Nat.testBit_xor]
  cases j with
  | zero =>
    rw [cdN_test0, cdN_test0, Nat.testBit_zero, show (2 * bitsI g 0 + 1) % 2 = 1 by omega]
    cases q <;> rfl
  | succ j =>
    have e1001 : (2 * bitsI g 0 + 1).testBit (j + 1) = decide ((j : Int) ∈ g) := by
      rw [Nat.testBit_succ, show (2 * bitsI g 0 + 1) / 2 = bitsI g 0 by omega, Bool.eq_iff_iff, bitsI_test, decide_eq_true_eq]
      constructor
      · rintro (h | ⟨k, h1, h2⟩)
        · simp at h
        · have := hg k h1
          rw [show (j : Int) = k by omega]; exact h1
      · intro h; exact .inr ⟨_, h, by omega⟩
    have e1002 : ∀ (ys : List Bool) (p : Bool), (cdN ys p).testBit (j + 1) = decide (ys[j]? = some true) := fun ys p => by
      rw [Bool.eq_iff_iff, cdN_test, decide_eq_true_eq]
    rw [e1001, e1002, e1002]
    by_cases hj : j < xs.length
    · rw [mvB_get _ g xs j hj fun k hk => (hg k hk).1]
      by_cases h : (j : Int) ∈ g
      · have h3 := (atS_iff.1 ha) _ h
        rw [show ((j : Int)).toNat = j by omega] at h3
        rw [h3]
        cases q <;> simp [h]
      · simp [h]
    · have h : ¬ (j : Int) ∈ g := fun h => by have := hg _ h; omega
      rw [List.getElem?_eq_none (by omega), List.getElem?_eq_none (by rw [mvB_length]; omega)]
      simp [h]
theorem quS_eq (a : Nat) (ha : a ≤ 1000) (xs : List Bool) (q : Bool) (hx : xs.length = 2 * a) : quS a (cdN xs q) = clS xs := by
  rw [Bool.eq_iff_iff, clS_iff a (by omega) xs hx]
  unfold quS
  rw [cdN_half, Bool.and_eq_true, cuB_iff, cuB_iff]
  have hl := half_lt xs
  rw [hx] at hl
  have e1001 : (Calm a fun j => (cdB xs 0 0 / 2).testBit j = true) ↔ Calm a fun j => xs[j]? = some true := Calm_congr fun j hj => half_test xs j
  have e1002 : (Calm a fun j => (2 ^ (2 * a) - 1 - cdB xs 0 0 / 2).testBit j = true) ↔ Calm a fun j => xs[j]? = some false := Calm_congr fun j hj => by
    rw [comp_test hl]
    have h := half_test xs j
    rw [List.getElem?_eq_getElem (by omega)] at h ⊢
    cases h1 : xs[j] <;> cases h2 : (cdB xs 0 0 / 2).testBit j <;> simp_all
  rw [e1001, e1002]
theorem can_row (a : Nat) (b : Int) (hgd : goodC a b = true) (xs : List Bool) (q : Bool) (hx : xs.length = 2 * a) (g : List Int) (hg : risesB 0 (2 * (a : Int) - 1) g = true) : canS a b (cdN xs q) (bitsI g 0) = rowS a b xs q g := by
  have hgo := goodC_of hgd
  have hin := risesB_in hg
  have hgi : ∀ k ∈ g, 0 ≤ k ∧ k < xs.length := fun k hk => by have := hin k hk; omega
  have hbl : bl (bitsI g 0) 0 10 = g := bl_bits (rises_pair hg) fun k hk => by have := hin k hk; omega
  have hlt : cdB xs 0 0 / 2 < 2 ^ (2 * a) := by have := half_lt xs; rwa [hx] at this
  have h0 : bitsI g 0 = 0 ↔ g = [] := by
    constructor
    · intro h
      rw [h] at hbl
      rw [← hbl]
      rfl
    · rintro rfl; rfl
  have hhere : ∀ j, ((if cdN xs q % 2 = 0 then 2 ^ (2 * a) - 1 - cdN xs q / 2 else cdN xs q / 2).testBit j = true ↔ xs[j]? = some q) := fun j => by
    rw [cdN_mod, cdN_half]
    have h := half_test xs j
    cases q with
    | true => simpa using h
    | false =>
      simp only [Bool.false_eq_true, if_false, if_true]
      rw [comp_test hlt]
      by_cases hj : j < xs.length
      · rw [List.getElem?_eq_getElem hj] at h ⊢
        have hj' : j < 2 * a := by omega
        cases h1 : xs[j] <;> cases h2 : (cdB xs 0 0 / 2).testBit j <;> simp_all
      · rw [List.getElem?_eq_none (by omega)]
        simp; omega
  have hand : (bitsI g 0 &&& (if cdN xs q % 2 = 0 then 2 ^ (2 * a) - 1 - cdN xs q / 2 else cdN xs q / 2) = bitsI g 0) ↔ atS xs q g = true := by
    rw [atS_iff]
    constructor
    · intro h k hk
      have h1 : (bitsI g 0).testBit k.toNat = true := (bitsI_test _ g 0).2 (.inr ⟨k, hk, rfl⟩)
      rw [← h, Nat.testBit_and, Bool.and_eq_true] at h1
      exact (hhere _).1 h1.2
    · intro h
      refine Nat.eq_of_testBit_eq fun j => ?_
      rw [Nat.testBit_and, Bool.eq_iff_iff, Bool.and_eq_true]
      refine ⟨fun h1 => h1.1, fun h1 => ⟨h1, ?_⟩⟩
      rcases (bitsI_test j g 0).1 h1 with h2 | ⟨k, h2, h3⟩
      · simp at h2
      · rw [hhere, ← h3]; exact h k h2
  unfold canS rowS
  dsimp only
  rw [hbl]
  by_cases h1 : g = []
  · subst h1
    simp [bitsI, inB]
  · have h2 : ¬ bitsI g 0 = 0 := fun h => h1 (h0.1 h)
    have h3 := List.length_pos_iff.2 h1
    rw [hg, ← group_calm a (by omega) g (fun k hk => by have := hin k hk; omega)]
    by_cases h4 : atS xs q g = true
    · rw [decide_eq_true (hand.2 h4), h4, move_cd a xs q g hx hgi h4, quS_eq a (by omega) _ _ (by rw [mvB_length]; exact hx)]
      have h5 : inB (g.length : Int) 1 b = decide ((g.length : Int) ≤ b) := by
        rw [Bool.eq_iff_iff, inB_iff, decide_eq_true_eq]; omega
      rw [h5]
      simp [h2, Bool.and_assoc]
    · rw [decide_eq_false (fun h => h4 (hand.1 h))]
      simp [h4]
end Go.Proofs.Ytanlmanifpknoaa.Ev

namespace Go.Proofs.Ytanlmanifpknoaa.Ev
open Go
set_option linter.unusedVariables false
set_option linter.unusedSimpArgs false
set_option linter.unusedSectionVars false

theorem befB_irr (x : List Int) : befB x x = false := by
  induction x with
  | nil => rfl
  | cons a x ih => rw [befB, if_pos rfl, ih]
theorem befB_trans : ∀ (x y z : List Int), befB x y = true → befB y z = true → befB x z = true
  | [], y, z, h1, h2 => by
    cases z with
    | cons c z => rfl
    | nil => cases y <;> simp [befB] at h2
  | a :: x, [], z, h1, h2 => by simp [befB] at h1
  | a :: x, b :: y, [], h1, h2 => by simp [befB] at h2
  | a :: x, b :: y, c :: z, h1, h2 => by
    rw [befB] at h1 h2 ⊢
    split at h1
    · rename_i e1001
      split at h2
      · rename_i e1002
        rw [if_pos (e1001.trans e1002)]
        exact befB_trans x y z h1 h2
      · rename_i e1002
        rw [if_neg (by rw [e1001]; exact e1002), e1001]; exact h2
    · rename_i e1001
      split at h2
      · rename_i e1002
        rw [if_neg (by rw [← e1002]; exact e1001), ← e1002]; exact h1
      · rename_i e1002
        rw [decide_eq_true_eq] at h1 h2
        have : ¬ a = c := by omega
        rw [if_neg this, decide_eq_true_eq]
        omega
theorem befB_tot : ∀ (x y : List Int), x ≠ y → befB x y = false → befB y x = true
  | [], [], h, _ => absurd rfl h
  | [], b :: y, _, h => by simp [befB] at h
  | a :: x, [], _, _ => rfl
  | a :: x, b :: y, h, h2 => by
    rw [befB] at h2 ⊢
    by_cases e : a = b
    · subst e
      rw [if_pos rfl] at h2 ⊢
      exact befB_tot x y (fun h3 => h (by rw [h3])) h2
    · rw [if_neg e] at h2
      rw [if_neg (Ne.symm e)]
      simp at h2 ⊢; omega
def insK (G : Nat) (out : List Nat) : Nat → Nat
  | 0 => 0
  | k + 1 => if befB (bl G 0 10) (bl (out[k]?.getD 0) 0 10) then insK G out k else k + 1
theorem insK_le (G : Nat) (out : List Nat) : ∀ n, insK G out n ≤ n
  | 0 => Nat.le_refl _
  | n + 1 => by
    rw [insK]
    have := insK_le G out n
    split <;> omega
theorem insK_spec (G : Nat) (out : List Nat) : ∀ n, (∀ j, insK G out n ≤ j → j < n → befB (bl G 0 10) (bl (out[j]?.getD 0) 0 10) = true) ∧ (0 < insK G out n → befB (bl G 0 10) (bl (out[insK G out n - 1]?.getD 0) 0 10) = false)
  | 0 => by simp [insK]
  | n + 1 => by
    rw [insK]
    have := insK_spec G out n
    split
    · rename_i h
      refine ⟨fun j h1 h2 => ?_, this.2⟩
      by_cases hj : j = n
      · subst hj; exact h
      · exact this.1 j h1 (by omega)
    · rename_i h
      refine ⟨fun j h1 h2 => by omega, fun _ => ?_⟩
      simpa using h
def insS (G : Nat) (out : List Nat) : List Nat := out.take (insK G out out.length) ++ G :: out.drop (insK G out out.length)
abbrev BefG (x y : Nat) : Prop := befB (bl x 0 10) (bl y 0 10) = true
theorem insS_mem (G : Nat) (out : List Nat) (x : Nat) : x ∈ insS G out ↔ x = G ∨ x ∈ out := by
  unfold insS
  rw [List.mem_append, List.mem_cons]
  conv => rhs; rw [← List.take_append_drop (insK G out out.length) out, List.mem_append]
  constructor
  · rintro (h | h | h) <;> simp [h]
  · rintro (h | h | h) <;> simp [h]
theorem insS_len (G : Nat) (out : List Nat) : (insS G out).length = out.length + 1 := by
  unfold insS
  have := insK_le G out out.length
  simp; omega
theorem insS_pair (G : Nat) (out : List Nat) (hp : out.Pairwise BefG) (hn : ∀ o ∈ out, bl o 0 10 ≠ bl G 0 10) : (insS G out).Pairwise BefG := by
  obtain ⟨h1, h2⟩ := insK_spec G out out.length
  have hle := insK_le G out out.length
  unfold insS
  generalize insK G out out.length = k at *
  have hd : ∀ x ∈ out.drop k, BefG G x := fun x hx => by
    obtain ⟨j, hj, rfl⟩ := List.getElem_of_mem hx
    rw [List.length_drop] at hj
    have := h1 (k + j) (by omega) (by omega)
    rw [List.getElem?_eq_getElem (by omega)] at this
    rw [List.getElem_drop]; exact this
  have ht : ∀ x ∈ out.take k, BefG x G := fun x hx => by
    obtain ⟨j, hj, rfl⟩ := List.getElem_of_mem hx
    rw [List.length_take] at hj
    have hk : 0 < k := by omega
    have h3 := h2 hk
    rw [List.getElem?_eq_getElem (by omega)] at h3
    have h4 : BefG out[k - 1] G := befB_tot _ _ (fun e => hn _ (List.getElem_mem (by omega)) e.symm) h3
    rw [List.getElem_take]
    by_cases hj2 : j = k - 1
    · subst hj2; exact h4
    · rw [List.pairwise_iff_getElem] at hp
      exact befB_trans _ _ _ (hp j (k - 1) (by omega) (by omega) (by omega)) h4
  rw [List.pairwise_append, List.pairwise_cons]
  refine ⟨hp.sublist (List.take_sublist _ _), ⟨hd, hp.sublist (List.drop_sublist _ _)⟩, fun x hx y hy => ?_⟩
  rcases List.mem_cons.1 hy with h | h
  · rw [h]; exact ht x hx
  · exact befB_trans _ _ _ (ht x hx) (hd y h)
def rowsF (a : Nat) (b : Int) (cd : Nat) (i : Nat) : Nat → List Nat → List Nat
  | 0, out => out
  | n + 1, out => rowsF a b cd (i + 1) n (if canS a b cd i then insS i out else out)
def rowsS (a : Nat) (b : Int) (cd : Nat) : List Nat := rowsF a b cd 1 (2 ^ (2 * a) - 1) []
theorem bl_inj {x y : Nat} (hx : x < 2 ^ 10) (hy : y < 2 ^ 10) (h : bl x 0 10 = bl y 0 10) : x = y := by
  rw [← bits_bl x 10 hx, h, bits_bl y 10 hy]
theorem rowsF_ok (a : Nat) (b : Int) (cd : Nat) : ∀ (n i : Nat) (out : List Nat), i + n ≤ 1024 → out.Pairwise BefG → (∀ x ∈ out, x < i) →
    (rowsF a b cd i n out).Pairwise BefG ∧ ∀ x, x ∈ rowsF a b cd i n out ↔ x ∈ out ∨ (i ≤ x ∧ x < i + n ∧ canS a b cd x = true)
  | 0, i, out, h, hp, hx => ⟨hp, fun x => by rw [rowsF]; constructor; exact .inl; rintro (h | h); exact h; omega⟩
  | n + 1, i, out, h, hp, hx => by
    rw [rowsF]
    have key : (if canS a b cd i then insS i out else out).Pairwise BefG ∧ ∀ x, x ∈ (if canS a b cd i then insS i out else out) ↔ x ∈ out ∨ (x = i ∧ canS a b cd i = true) := by
      split
      · rename_i hc
        refine ⟨insS_pair i out hp fun o ho e => ?_, fun x => ?_⟩
        · have := hx o ho
          have := bl_inj (by omega) (by omega) e
          omega
        · rw [insS_mem]
          constructor
          · rintro (h | h)
            · exact .inr ⟨h, hc⟩
            · exact .inl h
          · rintro (h | h)
            · exact .inr h
            · exact .inl h.1
      · rename_i hc
        exact ⟨hp, fun x => by simp [hc]⟩
    obtain ⟨h1, h2⟩ := rowsF_ok a b cd n (i + 1) _ (by omega) key.1 fun x hx2 => by
      rcases (key.2 x).1 hx2 with h3 | h3
      · have := hx x h3; omega
      · omega
    refine ⟨h1, fun x => ?_⟩
    rw [h2, key.2]
    constructor
    · rintro ((h | h) | h)
      · exact .inl h
      · exact .inr ⟨by omega, by omega, by rw [h.1]; exact h.2⟩
      · exact .inr ⟨by omega, by omega, h.2.2⟩
    · rintro (h | h)
      · exact .inl (.inl h)
      · by_cases e : x = i
        · exact .inl (.inr ⟨e, by rw [← e]; exact h.2.2⟩)
        · exact .inr ⟨by omega, by omega, h.2.2⟩
theorem pow4 {a : Nat} (ha : a ≤ 4) : 1 ≤ 2 ^ (2 * a) ∧ 2 ^ (2 * a) ≤ 256 := by
  rcases (by omega : a = 0 ∨ a = 1 ∨ a = 2 ∨ a = 3 ∨ a = 4) with h | h | h | h | h <;> subst h <;> decide
theorem rowsS_mem (a : Nat) (b : Int) (cd : Nat) (ha : a ≤ 4) (x : Nat) : x ∈ rowsS a b cd ↔ 1 ≤ x ∧ x < 2 ^ (2 * a) ∧ canS a b cd x = true := by
  have h4 := pow4 ha
  have := (rowsF_ok a b cd (2 ^ (2 * a) - 1) 1 [] (by omega) List.Pairwise.nil (by simp)).2 x
  unfold rowsS
  rw [this]
  constructor
  · rintro (h | h)
    · simp at h
    · exact ⟨h.1, by omega, h.2.2⟩
  · intro h; exact .inr ⟨h.1, by omega, h.2.2⟩
theorem rowsS_pair (a : Nat) (b : Int) (cd : Nat) (ha : a ≤ 4) : (rowsS a b cd).Pairwise BefG :=
  (rowsF_ok a b cd (2 ^ (2 * a) - 1) 1 [] (by have := pow4 ha; omega) List.Pairwise.nil (by simp)).1
theorem bl_rises {a G : Nat} (ha : a ≤ 4) (hG : G < 2 ^ (2 * a)) : risesB 0 (2 * (a : Int) - 1) (bl G 0 10) = true := by
  refine rises_of (bl_pair _ _ _) fun x hx => ?_
  obtain ⟨k, rfl, h1, h2, h3⟩ := (bl_mem _ _ _ _).1 hx
  have : k < 2 * a := Nat.lt_of_not_le fun h => by
    rw [Nat.testBit_lt_two_pow (Nat.lt_of_lt_of_le hG (Nat.pow_le_pow_right (by omega) h))] at h3
    cases h3
  omega
theorem rows_eq (a : Nat) (b : Int) (hgd : goodC a b = true) (xs : List Bool) (q : Bool) (hx : xs.length = 2 * a) : (rowsS a b (cdN xs q)).map (fun G => bl G 0 10) = rowsP b xs q := by
  have hgo := goodC_of hgd
  have h4 := pow4 (a := a) (by omega)
  refine ext_R (fun g h => befB g h = true) (fun x => by simp [befB_irr]) (fun x y z => befB_trans x y z) _ _ ?_ (rowsP_pair _ _ _) fun g => ?_
  · rw [List.pairwise_map]; exact rowsS_pair a b _ (by omega)
  · rw [rowsP_mem a b xs q hx, List.mem_map]
    constructor
    · rintro ⟨G, h1, rfl⟩
      rw [rowsS_mem a b _ (by omega)] at h1
      rw [← can_row a b hgd xs q hx _ (bl_rises (by omega) h1.2.1), bits_bl G 10 (by omega)]
      exact h1.2.2
    · intro h
      obtain ⟨h1, h2, h3, h4, h5⟩ := rowS_parts h
      have hin := risesB_in h2
      have hlt : bitsI g 0 < 2 ^ (2 * a) := bits_lt fun k hk => by have := hin k hk; omega
      refine ⟨bitsI g 0, (rowsS_mem a b _ (by omega) _).2 ⟨?_, hlt, ?_⟩, bl_bits (rises_pair h2) fun k hk => by have := hin k hk; omega⟩
      · obtain ⟨k, g', rfl⟩ : ∃ k g', g = k :: g' := by cases g with
          | nil => simp at h1
          | cons k g' => exact ⟨k, g', rfl⟩
        refine Nat.pos_of_ne_zero fun h0 => ?_
        have := (bitsI_test k.toNat (k :: g') 0).2 (.inr ⟨k, List.mem_cons_self .., rfl⟩)
        rw [h0] at this
        simp at this
      · rw [can_row a b hgd xs q hx g h2]; exact h
def ovS (cd : Nat) (i n : Nat) : List Bool := (List.range' i n).map fun k => cd.testBit (k + 1)
theorem ovS_cdN (xs : List Bool) (q : Bool) : ovS (cdN xs q) 0 xs.length = xs := by
  refine List.ext_getElem? fun m => ?_
  unfold ovS
  rw [List.getElem?_map]
  by_cases hm : m < xs.length
  · rw [List.getElem?_range' hm, Option.map_some]
    have := cdN_test xs q m
    rw [List.getElem?_eq_getElem hm] at this ⊢
    rw [show 0 + 1 * m = m by omega]
    cases h1 : (cdN xs q).testBit (m + 1) <;> cases h2 : xs[m] <;> simp_all
  · rw [List.getElem?_eq_none (by rw [List.length_range']; omega), List.getElem?_eq_none (by omega)]; rfl
theorem cdN_odd (xs : List Bool) (q : Bool) : decide (cdN xs q % 2 = 1) = q := by
  rw [cdN_mod]; cases q <;> simp
end Go.Proofs.Ytanlmanifpknoaa.Ev

namespace Go.Proofs.Ytanlmanifpknoaa.Ev
open Go
set_option linter.unusedVariables false
set_option linter.unusedSimpArgs false
set_option linter.unusedSectionVars false

def tbs (l : List Bool) : List T := l.map T.bool
@[reducible] def tbl (l : List Bool) : T := .lst 1 (tbs l)
theorem tbs_length (l : List Bool) : (tbs l).length = l.length := by simp [tbs]
theorem tbs_get (l : List Bool) (i : Nat) : (tbs l)[i]? = l[i]?.map T.bool := by simp [tbs]
theorem tbs_getE (l : List Bool) (i : Nat) (h : i < (tbs l).length) : (tbs l)[i] = T.bool (l[i]'(by simpa [tbs] using h)) := by simp [tbs]
theorem tbs_drop (l : List Bool) (n : Nat) : (tbs l).drop n = tbs (l.drop n) := by simp [tbs, List.map_drop]
theorem tbs_take (l : List Bool) (n : Nat) : (tbs l).take n = tbs (l.take n) := by simp [tbs, List.map_take]
theorem tbs_set (l : List Bool) (n : Nat) (x : Bool) : (tbs l).set n (T.bool x) = tbs (l.set n x) := by simp [tbs, List.map_set]
theorem tbs_replicate (n : Nat) (x : Bool) : List.replicate n (T.bool x) = tbs (List.replicate n x) := by simp [tbs]
theorem tbs_flat (l : List Bool) : (tbs l).all T.flat = true := by simp [tbs, T.flat, T.sc]
theorem tbs_snoc (l : List Bool) (x : Bool) : tbs l ++ [.bool x] = tbs (l ++ [x]) := by simp [tbs]
def LB (X : T) (l : List Bool) : Prop := (X = .nil ∧ l = []) ∨ X = .lst 1 (tbs l)
theorem LB.len {X : T} {l : List Bool} (h : LB X l) (H : Heap) : evLen H 1 (.t X) = some (l.length : Int) := by
  rcases h with ⟨rfl, rfl⟩ | rfl <;> simp [tbs_length]
theorem LB.ix {X : T} {l : List Bool} (h : LB X l) (H : Heap) (i : Nat) (hi : i < l.length) : evIxa H 1 (.t X) (.t (.int .i64 i)) = some (.rptr (.bool l[i]) 0) := by
  rcases h with ⟨rfl, rfl⟩ | rfl
  · simp at hi
  · simp [tbs_length, tbs_getE, hi]
attribute [local simp] tbs_length tbs_get tbs_getE til_getE til_length til_get til_drop til_take til_set til_snoc take_snoc
theorem shl64x (x i : Nat) (hi : i ≤ 50) (hx : x ≤ 1000) : shlI .i64 (x : Int) (i : Int) = ((x * 2 ^ i : Nat) : Int) := by
  unfold shlI
  have e : min ((i : Int)).toNat IntKind.i64.bits = i := by show min ((i : Int)).toNat 64 = i; omega
  rw [e]
  have h1 : (2 : Nat) ^ i ≤ 2 ^ 50 := Nat.pow_le_pow_right (by decide) hi
  have e1002 : (x : Int) * 2 ^ i = ((x * 2 ^ i : Nat) : Int) := by simp
  rw [e1002]
  have h2 : x * 2 ^ i ≤ 1000 * 2 ^ 50 := Nat.mul_le_mul hx h1
  generalize x * 2 ^ i = M at *
  exact w96 (by omega)
theorem l54 (xs : List Bool) (q : Bool) (hx : xs.length ≤ 40) : ∀ (d i N : Nat), i + d = xs.length → N < 2 ^ 61 →
    loopF env true [1, 3, 7, 8, 9] ir54_b0 ([(1, .ptr 0 0 0), (3, .t (ti N)), (7, .t (tbl xs)), (8, .t (ti xs.length)), (9, .t (ti i))], [.box 2 [.t (tbl xs), .t (tb q)]]) =
      some (.exit 0, [(1, .ptr 0 0 0), (3, .t (ti (cdB (xs.drop i) i N : Nat))), (7, .t (tbl xs)), (8, .t (ti xs.length)), (9, .t (ti xs.length)), (10, .t (tb false))], [.box 2 [.t (tbl xs), .t (tb q)]])
  | 0, i, N, hi, hN => by
    rw [x54_0]
    have : i = xs.length := by omega
    subst this
    simp [ir54_d0, cdB]
  | d + 1, i, N, hi, hN => by
    rw [x54_0]
    have hlt : i < xs.length := by omega
    have hw : IntKind.i64.wrap ((i : Int) + 1) = (i : Int) + 1 := w96 (by omega)
    have hs : cdB (xs.drop i) i N = cdB (xs.drop (i + 1)) (i + 1) (if xs[i] then N ||| 2 * 2 ^ i else N) := by rw [List.drop_eq_getElem_cons hlt, cdB]
    have hp : (2 : Nat) * 2 ^ i < 2 ^ 61 := by
      have : (2 : Nat) ^ i ≤ 2 ^ 50 := Nat.pow_le_pow_right (by decide) (by omega)
      omega
    have hor := Nat.or_lt_two_pow hN hp
    have h1 := shl64x 2 i (by omega) (by omega)
    have h2 := or64 N (2 * 2 ^ i) (by omega) (by omega)
    have ih1 := l54 xs q hx d (i + 1) (N ||| 2 * 2 ^ i) (by omega) hor
    have ih2 := l54 xs q hx d (i + 1) N (by omega) hN
    rw [hs]
    generalize hM : 2 * (2 : Nat) ^ i = M at *
    generalize N ||| M = NM at *
    cases hb : xs[i] with
    | true =>
      simp at ih1 h1
      simp [ir54_d0, hlt, hb, hw, h1, h2, ih1, show ¬ ((i : Int) < 0) by omega]
    | false =>
      simp at ih2
      simp [ir54_d0, hlt, hb, hw, ih2]
theorem r54 (xs : List Bool) (q : Bool) (hx : xs.length ≤ 40) : ownR env 54 [.agg [tbl xs, tb q]] = some (.t (ti (cdN xs q : Nat)), []) := by
  rw [own_ir e54 _ rfl]
  have hl := l54 xs q hx xs.length 0 0 (by omega) (by decide)
  have hlt := cdN_lt xs false
  have h2 : (2 : Nat) ^ xs.length ≤ 2 ^ 40 := Nat.pow_le_pow_right (by decide) hx
  unfold cdN at hlt ⊢
  simp at hl hlt
  generalize cdB xs 0 0 = M at *
  have hw : IntKind.i64.wrap ((M : Int) + 1) = (M : Int) + 1 := w96 (by omega)
  cases q <;> simp [ir54, ir54_c, hl, hw]

theorem bl_succ (G i n : Nat) : bl G i (n + 1) = (if G / 2 ^ i % 2 = 1 then [(i : Int)] else []) ++ bl G (i + 1) n := by
  have : bl G i (n + 1) = (((i :: List.range' (i + 1) n).filter fun k => G.testBit k).map fun k : Nat => (k : Int)) := rfl
  rw [this, List.filter_cons, Nat.testBit_eq_decide_div_mod_eq]
  by_cases h : G / 2 ^ i % 2 = 1
  · simp [h, bl]
  · simp [h, bl]
theorem bl_zero (G i n : Nat) (h : G / 2 ^ i = 0) : bl G i n = [] := by
  rw [List.eq_nil_iff_forall_not_mem]
  intro x hx
  obtain ⟨k, rfl, h1, h2, h3⟩ := (bl_mem _ _ _ _).1 hx
  have h4 : G < 2 ^ i := by
    rcases Nat.div_eq_zero_iff.1 h with h | h
    · have := Nat.two_pow_pos i; omega
    · exact h
  rw [Nat.testBit_lt_two_pow (Nat.lt_of_lt_of_le h4 (Nat.pow_le_pow_right (by omega) h1))] at h3
  cases h3
theorem l56 (G : Nat) (hG : G < 2 ^ 10) : ∀ (d i : Nat) (acc : List Int), i + d = 10 → acc.length ≤ 20 + i →
    ∃ j m : Int, loopF env true [0, 3, 4] ir56_b0 ([(0, .t (ti G)), (3, .ref 0 0 acc.length), (4, .t (ti i))], [.pure 1 (til acc)]) =
      some (.exit 0, [(0, .t (ti G)), (3, .ref 0 0 (acc ++ bl G i d).length), (4, .t (ti j)), (5, .t (ti G)), (6, .t (ti j)), (7, .t (ti m)), (8, .t (tb false))], [.pure 1 (til (acc ++ bl G i d))])
  | d, i, acc, hi, ha => by
    have hsh := shr64 G i (by omega)
    have hi0 : ¬ ((i : Int) < 0) := by omega
    by_cases hz : G / 2 ^ i = 0
    · rw [x56_0, bl_zero G i d hz, List.append_nil]
      rw [hz] at hsh
      refine ⟨i, 0, ?_⟩
      simp [ir56_d0, hsh, hi0]
    · cases d with
      | zero =>
        exfalso
        have : i = 10 := by omega
        subst this
        exact hz (Nat.div_eq_of_lt hG)
      | succ d =>
        have hw : IntKind.i64.wrap ((i : Int) + 1) = (i : Int) + 1 := w96 (by omega)
        have hb := bl_succ G i d
        obtain ⟨j1, m1001, ih1⟩ := l56 G hG d (i + 1) (acc ++ [(i : Int)]) (by omega) (by simp; omega)
        obtain ⟨j2, m1002, ih2⟩ := l56 G hG d (i + 1) acc (by omega) (by omega)
        rw [x56_0]
        generalize bl G i (d + 1) = B at *
        generalize bl G (i + 1) d = B2 at *
        generalize G / 2 ^ i = M at *
        have hM : 0 < (M : Int) := by omega
        have ha2 : acc.length + 1 ≤ 68719476736 := by omega
        by_cases h : M % 2 = 1
        · have h1 : (M : Int).tmod 2 = 1 := by rw [Int.tmod_eq_emod_of_nonneg (by omega)]; omega
          have h2 : (M : Int) % 2 = 1 := by omega
          refine ⟨j1, m1001, ?_⟩
          rw [if_pos h] at hb
          subst hb
          simp at ih1
          simp [ir56_d0, hsh, hi0, hM, h1, h2, hw, ha2, ih1, show 0 < M by omega]
        · have h1 : ¬ (M : Int).tmod 2 = 1 := by rw [Int.tmod_eq_emod_of_nonneg (by omega)]; omega
          have h2 : ¬ (M : Int) % 2 = 1 := by omega
          refine ⟨j2, m1002, ?_⟩
          rw [if_neg h, List.nil_append] at hb
          subst hb
          simp at ih2
          simp [ir56_d0, hsh, hi0, hM, h1, h2, hw, ih2, show 0 < M by omega]
termination_by d => d
theorem l56n (G : Nat) (hG : G < 2 ^ 10) (hG0 : 1 ≤ G) : ∀ (d i : Nat), i + d = 10 → bl G i d ≠ [] →
    ∃ j m : Int, loopF env true [0, 3, 4] ir56_b0 ([(0, .t (ti G)), (3, .t .nil), (4, .t (ti i))], []) =
      some (.exit 0, [(0, .t (ti G)), (3, .ref 0 0 (bl G i d).length), (4, .t (ti j)), (5, .t (ti G)), (6, .t (ti j)), (7, .t (ti m)), (8, .t (tb false))], [.pure 1 (til (bl G i d))])
  | 0, i, hi, hn => absurd rfl hn
  | d + 1, i, hi, hn => by
    have hsh := shr64 G i (by omega)
    have hi0 : ¬ ((i : Int) < 0) := by omega
    have hz : ¬ G / 2 ^ i = 0 := fun h => hn (bl_zero G i _ h)
    have hw : IntKind.i64.wrap ((i : Int) + 1) = (i : Int) + 1 := w96 (by omega)
    have hb := bl_succ G i d
    obtain ⟨j1, m1001, ih1⟩ := l56 G hG d (i + 1) [(i : Int)] (by omega) (by simp; omega)
    have ih2 := l56n G hG hG0 d (i + 1) (by omega)
    rw [x56_0]
    generalize bl G i (d + 1) = B at *
    generalize bl G (i + 1) d = B2 at *
    generalize G / 2 ^ i = M at *
    have hM : 0 < (M : Int) := by omega
    by_cases h : M % 2 = 1
    · have h1 : (M : Int).tmod 2 = 1 := by rw [Int.tmod_eq_emod_of_nonneg (by omega)]; omega
      have h2 : (M : Int) % 2 = 1 := by omega
      refine ⟨j1, m1001, ?_⟩
      rw [if_pos h] at hb
      subst hb
      simp [til] at ih1
      simp [ir56_d0, hsh, hi0, hM, h1, h2, hw, ih1, show 0 < M by omega, til]
    · have h1 : ¬ (M : Int).tmod 2 = 1 := by rw [Int.tmod_eq_emod_of_nonneg (by omega)]; omega
      have h2 : ¬ (M : Int) % 2 = 1 := by omega
      rw [if_neg h, List.nil_append] at hb
      subst hb
      obtain ⟨j2, m1002, ih2⟩ := ih2 hn
      refine ⟨j2, m1002, ?_⟩
      simp at ih2
      simp [ir56_d0, hsh, hi0, hM, h1, h2, hw, ih2, show 0 < M by omega]
theorem bl_ne {G : Nat} (hG : G < 2 ^ 10) (hG0 : 1 ≤ G) : bl G 0 10 ≠ [] := fun h => by
  have := bits_bl G 10 hG
  rw [h] at this
  simp [bitsI] at this
  omega
theorem r56 (G : Nat) (hG : G < 2 ^ 10) (hG0 : 1 ≤ G) : ownR env 56 [ti G] = some (.ref 0 0 (bl G 0 10).length, [.pure 1 (til (bl G 0 10))]) := by
  rw [own_ir e56 _ rfl]
  obtain ⟨j, m, h⟩ := l56n G hG hG0 10 0 (by omega) (bl_ne hG hG0)
  simp at h
  simp [ir56, ir56_c, h, til_flat]
end Go.Proofs.Ytanlmanifpknoaa.Ev

namespace Go.Proofs.Ytanlmanifpknoaa.Ev
open Go
set_option linter.unusedVariables false
set_option linter.unusedSimpArgs false
set_option linter.unusedSectionVars false
attribute [local simp] tbs_length tbs_get tbs_getE til_getE til_length til_get til_drop til_take til_set til_snoc take_snoc tbs_set tbs_drop tbs_take
def indexQ (x : Bool) : Nat → List Bool → Int
  | _, [] => -1
  | i, y :: ys => if x = y then i else indexQ x (i + 1) ys
theorem indexQ_nonneg (x : Bool) : ∀ (ys : List Bool) (i : Nat), 0 ≤ indexQ x i ys ↔ x ∈ ys
  | [], i => by simp [indexQ]
  | y :: ys, i => by
    simp only [indexQ]
    split
    · rename_i h; simp [h]
    · rename_i h; rw [indexQ_nonneg x ys (i + 1)]; simp [h]
theorem l108 (g : List Bool) (x : Bool) (hg : g.length ≤ 1000000) : ∀ (d i : Nat), i + d = g.length →
    endO [.tmp 4] (andN (outB 0 (loopF env true [0, 1, 7, 8] ir108_b0 ([(0, .t (tbl g)), (1, .t (tb x)), (7, .t (ti g.length)), (8, .t (ti i))], []))) (execD env (.seq (.reg false [] [⟨some 4, none, .mv (.k (ti (-1)))⟩]) .ret))) = some (.t (ti (indexQ x i (g.drop i))), [])
  | 0, i, hi => by
    rw [x108_0]
    have : i = g.length := by omega
    subst this
    simp [ir108_d0, indexQ]
  | d + 1, i, hi => by
    rw [x108_0]
    have hlt : i < g.length := by omega
    have hw : IntKind.i64.wrap ((i : Int) + 1) = (i : Int) + 1 := w96 (by omega)
    have ih := l108 g x hg d (i + 1) (by omega)
    by_cases h : x = g[i]
    · have hs : indexQ x i (g.drop i) = (i : Int) := by rw [List.drop_eq_getElem_cons hlt, indexQ, if_pos h]
      simp [ir108_d0, hlt, hw, ← h, hs]
    · have hs : indexQ x i (g.drop i) = indexQ x (i + 1) (g.drop (i + 1)) := by rw [List.drop_eq_getElem_cons hlt, indexQ, if_neg h]
      have hb : (x == g[i]) = false := by rw [Bool.eq_false_iff]; simpa using h
      simp at ih
      simp [ir108_d0, hlt, hw, hs, hb, ih]
theorem r108 (g : List Bool) (x : Bool) (hg : g.length ≤ 1000000) : ownR env 108 [tbl g, tb x] = some (.t (ti (indexQ x 0 g)), []) := by
  rw [own_ir e108 _ rfl]
  have hl := l108 g x hg g.length 0 (by omega)
  simp at hl
  simp [ir108, ir108_c, hl]
theorem r99 (g : List Bool) (x : Bool) (hg : g.length ≤ 1000000) : ownR env 99 [tbl g, tb x] = some (.t (tb (decide (x ∈ g))), []) := by
  rw [own_ir e99 _ rfl]
  simp [ir99, ir99_c, r108 g x hg, indexQ_nonneg]
theorem r79 (n : Int) (xs : List Bool) (q : Bool) (hx : xs.length ≤ 1000) : ownR env 79 [ti n, .agg [tbl xs, tb q]] = some (.t (tb (decide ((xs.length : Int) = n) && decide (q ∈ xs))), []) := by
  rw [own_ir e79 _ rfl]
  have h := r99 xs q (by omega)
  by_cases h1 : (xs.length : Int) = n
  · simp [ir79, ir79_c, h, h1]
  · simp [ir79, ir79_c, h, h1]
@[simp] theorem r22 (a b : Int) : ownR env 22 [.agg [ti a, ti b]] = some (.t (tb (goodC a b)), []) := by
  rw [own_ir e22 _ rfl]
  cases h1 : inB a 1 4 <;> simp [ir22, ir22_c, h1, goodC]
@[simp] theorem r58 (a b : Int) : ownR env 58 [.agg [ti a, ti b]] = some (.t (tb (goodC a b)), []) := by
  rw [own_ir e58 _ rfl]
  cases h1 : inB a 1 4 <;> simp [ir58, ir58_c, h1, goodC]
@[simp] theorem r23 (a b : Int) : ownR env 23 [.agg [ti a, ti b]] = some (.t (tb (goodC a b)), []) := by
  rw [own_ir e23 _ rfl]
  simp [ir23, ir23_c]
theorem r49 (a b : Int) (xs : List Bool) (q : Bool) (hx : xs.length ≤ 1000) : ownR env 49 [.agg [ti a, ti b], .agg [tbl xs, tb q]] = some (.t (tb (stS a b xs q)), []) := by
  rw [own_ir e49 _ rfl]
  unfold stS
  cases h : goodC a b with
  | false => simp [ir49, ir49_c, h]
  | true =>
    have hgo := goodC_of h
    have hw : IntKind.i64.wrap (2 * a) = 2 * a := w96 (by omega)
    have h1 := r79 (2 * a) xs q hx
    simp [ir49, ir49_c, h, hw, h1]
theorem l80 (xs : List Bool) (p : Bool) (q : Bool) (hl : xs.length ≤ 1000) : ∀ (d i : Nat) (acc : List Int), i + d = xs.length → acc.length ≤ i →
    loopF env true [1, 5, 10, 11, 12] ir80_b0 ([(1, .t (tb p)), (5, .ref 0 0 acc.length), (10, .t (tbl xs)), (11, .t (ti xs.length)), (12, .t (ti i))], [.pure 1 (til acc)]) =
      some (.exit 0, [(1, .t (tb p)), (5, .ref 0 0 (acc ++ sd p i (xs.drop i)).length), (10, .t (tbl xs)), (11, .t (ti xs.length)), (12, .t (ti xs.length)), (13, .t (tb false))], [.pure 1 (til (acc ++ sd p i (xs.drop i)))])
  | 0, i, acc, hi, _ => by
    rw [x80_0]
    have : i = xs.length := by omega
    subst this
    simp [ir80_d0, sd]
  | d + 1, i, acc, hi, ha => by
    rw [x80_0]
    have hlt : i < xs.length := by omega
    have ha2 : acc.length + 1 ≤ 68719476736 := by omega
    have hw : IntKind.i64.wrap ((i : Int) + 1) = (i : Int) + 1 := w96 (by omega)
    have hd : xs.drop i = xs[i] :: xs.drop (i + 1) := List.drop_eq_getElem_cons hlt
    by_cases h : xs[i] = p
    · have ih := l80 xs p q hl d (i + 1) (acc ++ [(i : Int)]) (by omega) (by simp; omega)
      have hs : sd p i (xs.drop i) = (i : Int) :: sd p (i + 1) (xs.drop (i + 1)) := by rw [hd, sd, if_pos h]
      simp at ih
      simp [ir80_d0, hlt, h, ha2, hw, hs, ih]
    · have ih := l80 xs p q hl d (i + 1) acc (by omega) (by omega)
      have hs : sd p i (xs.drop i) = sd p (i + 1) (xs.drop (i + 1)) := by rw [hd, sd, if_neg h]
      have hb : (xs[i] == p) = false := by rw [Bool.eq_false_iff]; simpa using h
      simp at ih
      simp [ir80_d0, hlt, hb, hw, hs, ih]
theorem r80 (xs : List Bool) (q p : Bool) (hl : xs.length ≤ 1000) : ownR env 80 [.agg [tbl xs, tb q], tb p] = some (.ref 0 0 (sd p 0 xs).length, [.pure 1 (til (sd p 0 xs))]) := by
  rw [own_ir e80 _ rfl]
  have h := l80 xs p q hl xs.length 0 [] (by omega) (by simp)
  simp [til_nil] at h
  simp [ir80, ir80_c, h, til_flat]
theorem r50 (xs : List Bool) (q : Bool) (hl : xs.length ≤ 1000) : ownR env 50 [.agg [tbl xs, tb q]] = some (.t (tb (clS xs)), []) := by
  rw [own_ir e50 _ rfl]
  have h1 := r80 xs q true hl
  have h2 := r80 xs q false hl
  have l1001 := sd_len true xs 0
  have l1002 := sd_len false xs 0
  have h3 := r63 (sd true 0 xs) (by omega)
  have h4 := r63 (sd false 0 xs) (by omega)
  unfold clS
  generalize sd true 0 xs = A at *
  generalize sd false 0 xs = B at *
  cases h5 : calmI A A <;> simp [ir50, ir50_c, h1, h2, h3, h4, h5]
theorem l60 (g : List Int) (t q : Bool) (xs : List Bool) (n : Nat) (hn : n ≤ 1000) (hg : g.length ≤ 1000) (hk : ∀ k ∈ g, 0 ≤ k ∧ k < n) : ∀ (d i : Nat) (y : List Bool), i + d = g.length → y.length = n →
    loopF env true [4, 5, 15, 16, 17] ir60_b0 ([(4, .ptr 0 0 0), (5, .ptr 1 0 0), (15, .t (tl g)), (16, .t (ti g.length)), (17, .t (ti i))], [.box 2 [.t .nil, .t (tb false)], .box 2 [.ref 2 0 n, .t (tb t)], .pure 1 (tbs y)]) =
      some (.exit 0, [(4, .ptr 0 0 0), (5, .ptr 1 0 0), (15, .t (tl g)), (16, .t (ti g.length)), (17, .t (ti g.length)), (18, .t (tb false))], [.box 2 [.t .nil, .t (tb false)], .box 2 [.ref 2 0 n, .t (tb t)], .pure 1 (tbs (mvB t (g.drop i) y))])
  | 0, i, y, hi, hy => by
    rw [x60_0]
    have : i = g.length := by omega
    subst this
    simp [ir60_d0, mvB]
  | d + 1, i, y, hi, hy => by
    rw [x60_0]
    have hlt : i < g.length := by omega
    have hw : IntKind.i64.wrap ((i : Int) + 1) = (i : Int) + 1 := w96 (by omega)
    have hs : mvB t (g.drop i) y = mvB t (g.drop (i + 1)) (y.set (g[i]).toNat t) := by rw [List.drop_eq_getElem_cons hlt, mvB]
    have hkk := hk g[i] (List.getElem_mem hlt)
    have hkn : (g[i]).toNat < y.length := by omega
    have ih := l60 g t q xs n hn hg hk d (i + 1) (y.set (g[i]).toNat t) (by omega) (by simpa using hy)
    simp at ih
    simp [ir60_d0, hlt, hw, hs, hkk, hkn, hy, ih, show (g[i]).toNat < n by omega]
theorem cloneQ (xs : List Bool) (h : xs.length ≤ 68719476736) : primR (cloneP 1) [tbl xs] = some (.ref 0 0 xs.length, [.pure 1 (tbs xs)]) := by
  simp [primR_E, primE, cloneP, tbs_length, h, tbs_flat]
theorem r60 (xs : List Bool) (g : List Int) (q : Bool) (h : xs.length ≤ 1000) (hg : g.length ≤ 1000) (hk : ∀ k ∈ g, 0 ≤ k ∧ k < xs.length) : ownR env 60 [.agg [tbl xs, tb q], tl g] = some (.agg [.ref 0 0 xs.length, .t (tb (!q))], [.pure 1 (tbs (mvB (!q) g xs))]) := by
  rw [own_ir e60 _ rfl]
  have hc := cloneQ xs (by omega)
  have hl := l60 g (!q) q xs xs.length h hg hk g.length 0 xs (by omega) rfl
  simp at hl
  simp [ir60, ir60_c, hl, hc, tbs_flat]
end Go.Proofs.Ytanlmanifpknoaa.Ev

namespace Go.Proofs.Ytanlmanifpknoaa.Ev
open Go
set_option linter.unusedVariables false
set_option linter.unusedSimpArgs false
set_option linter.unusedSectionVars false
attribute [local simp] tbs_length tbs_get tbs_getE til_getE til_length til_get til_drop til_take til_set til_snoc take_snoc tbs_set tbs_drop tbs_take
theorem l83 (Y : T) (n : Int) (xs : List Bool) (q : Bool) (hx : xs.length ≤ 1000) : ∀ (d i : Nat), i + d = xs.length →
    andO (endO [.tmp 4] (andN (outB 0 (loopF env true [3, 15, 16, 17] ir83_b0 ([(3, .ptr 0 0 0), (15, .t (tbl xs)), (16, .t (ti xs.length)), (17, .t (ti i))], [.box 2 [.t (tbl xs), .t (tb q)]]))) (execD env (.seq (.reg false [] [⟨some 4, none, .mv (.k (tb false))⟩]) .ret)))) ownEnd = some (.t (tb (decide (q ∈ xs.drop i))), [])
  | 0, i, hi => by
    rw [x83_0]
    have : i = xs.length := by omega
    subst this
    simp [ir83_d0]
  | d + 1, i, hi => by
    rw [x83_0]
    have hlt : i < xs.length := by omega
    have hw : IntKind.i64.wrap ((i : Int) + 1) = (i : Int) + 1 := w96 (by omega)
    have ih := l83 Y n xs q hx d (i + 1) (by omega)
    have hs : decide (q ∈ xs.drop i) = (decide (q = xs[i]) || decide (q ∈ xs.drop (i + 1))) := by rw [List.drop_eq_getElem_cons hlt, Bool.eq_iff_iff, Bool.or_eq_true, decide_eq_true_iff, decide_eq_true_iff, decide_eq_true_iff, List.mem_cons]
    rw [hs]
    generalize decide (q ∈ xs.drop (i + 1)) = R at *
    simp at ih
    by_cases h : xs[i] = q
    · have h' : decide (q = xs[i]) = true := decide_eq_true h.symm
      have hb : (xs[i] == q) = true := by rw [h]; exact beq_self_eq_true q
      rw [h', Bool.true_or]
      simp [ir83_d0, hlt, hw, hb]
    · have h' : decide (q = xs[i]) = false := decide_eq_false fun e => h e.symm
      have hb : (xs[i] == q) = false := by rw [Bool.eq_false_iff]; simpa using h
      rw [h', Bool.false_or]
      simp [ir83_d0, hlt, hw, hb, ih]
theorem r83 (l : List Int) (n : Int) (xs : List Bool) (q : Bool) (hx : xs.length ≤ 1000) (hl : l.length = xs.length) : ownR env 83 [.agg [tl l, ti n], .agg [tbl xs, tb q]] = some (.t (tb (decide (q ∈ xs))), []) := by
  rw [own_ir e83 _ rfl]
  have h := l83 (tl l) n xs q hx xs.length 0 (by omega)
  simp at h
  simp [ir83, ir83_c, h, hl]
theorem r52 (a b : Int) (xs : List Bool) (q : Bool) (hx : xs.length ≤ 1000) : ownR env 52 [.agg [ti a, ti b], .agg [tbl xs, tb q]] = some (.t (tb (stS a b xs q)), []) := by
  rw [own_ir e52 _ rfl]
  unfold stS
  cases h : goodC a b with
  | false => simp [ir52, ir52_c, h]
  | true =>
    have hgo := goodC_of h
    have hw : IntKind.i64.wrap (2 * a) = 2 * a := w96 (by omega)
    by_cases h1 : (xs.length : Int) = 2 * a
    · have h2 := r83 (List.replicate xs.length 0) 0 xs q hx (by simp)
      have h3 : (2 * a).toNat = xs.length := by omega
      have h4 : List.replicate xs.length (T.int .i64 0) = til (List.replicate xs.length 0) := til_replicate _ _
      have h5 : 2 * a = (xs.length : Int) := h1.symm
      rw [h5] at hw
      simp [ir52, ir52_c, h, hw, h5, h4, h2, show xs.length ≤ 68719476736 by omega, show (xs.length : Int) ≤ 68719476736 by omega]
    · simp [ir52, ir52_c, h, hw, h1]
theorem pow2a (a : Nat) (ha : a ≤ 4) : shlI .i64 1 (2 * (a : Int)) = ((2 ^ (2 * a) : Nat) : Int) := by
  have := shl64 (2 * a) (by omega)
  rw [← this]
  congr 1
theorem r84 (a : Nat) (b : Int) (ha : a ≤ 4) : ownR env 84 [.agg [ti a, ti b]] = some (.t (ti (2 ^ (2 * a) : Nat)), []) := by
  rw [own_ir e84 _ rfl]
  have hw : IntKind.i64.wrap (2 * (a : Int)) = 2 * (a : Int) := w96 (by omega)
  have h := pow2a a ha
  have h4 := pow4 ha
  generalize (2 : Nat) ^ (2 * a) = M at *
  simp [ir84, ir84_c, hw, h, show ¬ (2 * (a : Int) < 0) by omega]
theorem r53 (a : Nat) (b : Int) (ha : a ≤ 4) (cd : Nat) (hc : cd < 2 * 2 ^ (2 * a)) : ownR env 53 [.agg [ti a, ti b], ti cd] = some (.t (tb (quS a cd)), []) := by
  rw [own_ir e53 _ rfl]
  have h4 := pow4 ha
  have h1 := r84 a b ha
  have h2 := r72 a (cd / 2) (by omega)
  have h3 := r72 a (2 ^ (2 * a) - 1 - cd / 2) (by omega)
  have hd : IntKind.i64.wrap ((cd : Int) / 2) = ((cd / 2 : Nat) : Int) := by
    rw [w96 (by omega)]; omega
  unfold quS
  generalize (2 : Nat) ^ (2 * a) = M at *
  have hw1 : IntKind.i64.wrap ((M : Int) - 1) = (M : Int) - 1 := w96 (by omega)
  have hw2 : IntKind.i64.wrap ((M : Int) - 1 - ((cd / 2 : Nat) : Int)) = ((M - 1 - cd / 2 : Nat) : Int) := by rw [w96 (by omega)]; omega
  generalize cd / 2 = D at *
  generalize M - 1 - D = F at *
  cases h5 : cuB a D <;> simp [ir53, ir53_c, h1, h2, h3, hd, hw1, hw2, h5]
theorem and64 (x y : Nat) (hx : x < 2 ^ 62) (hy : y < 2 ^ 62) : IntKind.i64.wrap ((BitVec.ofInt IntKind.i64.bits (x : Int) &&& BitVec.ofInt IntKind.i64.bits (y : Int)).toNat : Int) = ((x &&& y : Nat) : Int) := by
  have e : ∀ z : Nat, z < 2 ^ 62 → (BitVec.ofInt 64 (z : Int)).toNat = z := fun z hz => by
    rw [BitVec.toNat_ofInt]; omega
  have h : (BitVec.ofInt IntKind.i64.bits (x : Int) &&& BitVec.ofInt IntKind.i64.bits (y : Int)).toNat = x &&& y := by
    show (BitVec.ofInt 64 (x : Int) &&& BitVec.ofInt 64 (y : Int)).toNat = _
    rw [BitVec.toNat_and, e x hx, e y hy]
  rw [h]
  have := Nat.and_lt_two_pow x hy
  exact w96 (by omega)
theorem xor64 (x y : Nat) (hx : x < 2 ^ 62) (hy : y < 2 ^ 62) : IntKind.i64.wrap ((BitVec.ofInt IntKind.i64.bits (x : Int) ^^^ BitVec.ofInt IntKind.i64.bits (y : Int)).toNat : Int) = ((x ^^^ y : Nat) : Int) := by
  have e : ∀ z : Nat, z < 2 ^ 62 → (BitVec.ofInt 64 (z : Int)).toNat = z := fun z hz => by
    rw [BitVec.toNat_ofInt]; omega
  have h : (BitVec.ofInt IntKind.i64.bits (x : Int) ^^^ BitVec.ofInt IntKind.i64.bits (y : Int)).toNat = x ^^^ y := by
    show (BitVec.ofInt 64 (x : Int) ^^^ BitVec.ofInt 64 (y : Int)).toNat = _
    rw [BitVec.toNat_xor, e x hx, e y hy]
  rw [h]
  have := Nat.xor_lt_two_pow hx hy
  exact w96 (by omega)
theorem evAnd (x y : Nat) (hx : x < 2 ^ 62) (hy : y < 2 ^ 62) : evBin .and .none (.t (ti x)) (.t (ti y)) = some (ti ((x &&& y : Nat) : Int)) :=
  (rfl : _ = some (ti (IntKind.i64.wrap ((BitVec.ofInt IntKind.i64.bits (x : Int) &&& BitVec.ofInt IntKind.i64.bits (y : Int)).toNat : Int)))).trans (by rw [and64 x y hx hy])
theorem evXor (x y : Nat) (hx : x < 2 ^ 62) (hy : y < 2 ^ 62) : evBin .xor .none (.t (ti x)) (.t (ti y)) = some (ti ((x ^^^ y : Nat) : Int)) :=
  (rfl : _ = some (ti (IntKind.i64.wrap ((BitVec.ofInt IntKind.i64.bits (x : Int) ^^^ BitVec.ofInt IntKind.i64.bits (y : Int)).toNat : Int)))).trans (by rw [xor64 x y hx hy])
theorem move_lt {a cd G : Nat} (hc : cd < 2 * 2 ^ (2 * a)) (hG : G < 2 ^ (2 * a)) : cd ^^^ (2 * G + 1) < 2 * 2 ^ (2 * a) := by
  have e : (2 : Nat) * 2 ^ (2 * a) = 2 ^ (2 * a + 1) := by rw [Nat.pow_succ]; omega
  rw [e] at hc ⊢
  exact Nat.xor_lt_two_pow hc (by rw [← e]; omega)
theorem r85 (a : Nat) (b : Int) (ha : a ≤ 4) (cd G : Nat) (hc : cd < 2 * 2 ^ (2 * a)) (hG : G < 2 ^ (2 * a)) : ownR env 85 [.agg [ti a, ti b], ti cd, ti G] = some (.t (tb (canS a b cd G)), []) := by
  rw [own_ir e85 _ rfl]
  have h4 := pow4 ha
  have h1 := r84 a b ha
  have hd : IntKind.i64.wrap ((cd : Int) / 2) = ((cd / 2 : Nat) : Int) := by
    rw [w96 (by omega)]; omega
  have hm : (cd : Int).tmod 2 = ((cd % 2 : Nat) : Int) := by rw [Int.tmod_eq_emod_of_nonneg (by omega)]; omega
  unfold canS
  dsimp only
  by_cases hG0 : G = 0
  · subst hG0
    by_cases hp : cd % 2 = 0
    · generalize (2 : Nat) ^ (2 * a) = M at *
      have hw1 : IntKind.i64.wrap ((M : Int) - 1) = (M : Int) - 1 := w96 (by omega)
      have hw2 : IntKind.i64.wrap ((M : Int) - 1 - ((cd / 2 : Nat) : Int)) = ((M - 1 - cd / 2 : Nat) : Int) := by rw [w96 (by omega)]; omega
      rw [hp, Int.ofNat_zero] at hm
      generalize cd / 2 = D at *
      simp [ir85, ir85_c, hd, hm, h1, hw1, hw2]
    · have hp1 : cd % 2 = 1 := by omega
      rw [hp1, Int.ofNat_one] at hm
      generalize cd / 2 = D at *
      simp [ir85, ir85_c, hd, hm]
  · have h2 := r56 G (by omega) (by omega)
    have h3 := r72 a G (by omega)
    have hmv := move_lt hc hG
    have h5 := r53 a b ha _ hmv
    have hx := evXor cd (2 * G + 1) (by omega) (by omega)
    have hw3 : IntKind.i64.wrap (2 * (G : Int)) = 2 * (G : Int) := w96 (by omega)
    have hw4 : IntKind.i64.wrap (2 * (G : Int) + 1) = ((2 * G + 1 : Nat) : Int) := by rw [w96 (by omega)]; omega
    obtain ⟨here, hh⟩ : ∃ here, (if cd % 2 = 0 then 2 ^ (2 * a) - 1 - cd / 2 else cd / 2) = here := ⟨_, rfl⟩
    have hhl : here < 2 ^ 62 := by rw [← hh]; split <;> omega
    have hand := evAnd G here (by omega) hhl
    rw [hh]
    have tail : ∀ (fr : Fr), True := fun _ => trivial
    have hGi : ¬ (G : Int) = 0 := by omega
    generalize cd ^^^ (2 * G + 1) = Z at *
    generalize hA : G &&& here = A at *
    generalize bl G 0 10 = L at *
    have hAe : (A = G) ↔ ((A : Int) = G) := by omega
    have key : ∀ (b1 b2 b3 b4 : Bool), decide (A = G) = b1 → decide ((L.length : Int) ≤ b) = b2 → cuB a G = b3 → quS a Z = b4 → (!decide (G = 0) && (decide (A = G) && (decide ((L.length : Int) ≤ b) && (cuB a G && quS a Z)))) = (b1 && (b2 && (b3 && b4))) := by
      rintro _ _ _ _ rfl rfl rfl rfl
      simp [hG0]
    by_cases hp : cd % 2 = 0
    · rw [if_pos hp] at hh
      generalize (2 : Nat) ^ (2 * a) = M at *
      have hw1 : IntKind.i64.wrap ((M : Int) - 1) = (M : Int) - 1 := w96 (by omega)
      have hw2 : IntKind.i64.wrap ((M : Int) - 1 - ((cd / 2 : Nat) : Int)) = (here : Int) := by rw [w96 (by omega)]; omega
      rw [hp, Int.ofNat_zero] at hm
      generalize cd / 2 = D at *
      simp at hx hand
      by_cases g1 : (A : Int) = G
      · by_cases g2 : (L.length : Int) ≤ b
        · cases g3 : cuB a G with
          | true => simp [ir85, ir85_c, hd, hm, h1, hw1, hw2, hGi, hand, h2, h3, g1, g2, g3, hw3, hw4, hx, h5, hG0, hAe, show ¬ b < (L.length : Int) by omega]
          | false => simp [ir85, ir85_c, hd, hm, h1, hw1, hw2, hGi, hand, h2, h3, g1, g2, g3, hG0, hAe, show ¬ b < (L.length : Int) by omega]
        · simp [ir85, ir85_c, hd, hm, h1, hw1, hw2, hGi, hand, h2, g1, g2, hG0, hAe, show b < (L.length : Int) by omega]
      · simp [ir85, ir85_c, hd, hm, h1, hw1, hw2, hGi, hand, g1, hG0, hAe]
    · rw [if_neg hp] at hh
      have hp1 : cd % 2 = 1 := by omega
      rw [hp1, Int.ofNat_one] at hm
      rw [hh] at hd
      simp at hx hand
      by_cases g1 : (A : Int) = G
      · by_cases g2 : (L.length : Int) ≤ b
        · cases g3 : cuB a G with
          | true => simp [ir85, ir85_c, hd, hm, hGi, hand, h2, h3, g1, g2, g3, hw3, hw4, hx, h5, hG0, hAe, show ¬ b < (L.length : Int) by omega]
          | false => simp [ir85, ir85_c, hd, hm, hGi, hand, h2, h3, g1, g2, g3, hG0, hAe, show ¬ b < (L.length : Int) by omega]
        · simp [ir85, ir85_c, hd, hm, hGi, hand, h2, g1, g2, hG0, hAe, show b < (L.length : Int) by omega]
      · simp [ir85, ir85_c, hd, hm, hGi, hand, g1, hG0, hAe]
end Go.Proofs.Ytanlmanifpknoaa.Ev

namespace Go.Proofs.Ytanlmanifpknoaa.Ev
open Go
set_option linter.unusedVariables false
set_option linter.unusedSimpArgs false
set_option linter.unusedSectionVars false
attribute [local simp] tbs_length tbs_get tbs_getE til_getE til_length til_get til_drop til_take til_set til_snoc take_snoc tbs_set tbs_drop tbs_take
theorem w86 (l m : List Int) (hl : l.length ≤ 1000000) : ∀ (d i : Nat), i + d = min l.length m.length →
    (∃ fr, loopF env true [0, 1, 5] ir86_b0 ([(0, .t (tl l)), (1, .t (tl m)), (5, .t (ti i))], []) = some (.exit 0, fr, []) ∧ fr.get 0 = .t (tl l) ∧ fr.get 1 = .t (tl m) ∧ befB (l.drop i) (m.drop i) = decide (l.length < m.length)) ∨
    (∃ fr, loopF env true [0, 1, 5] ir86_b0 ([(0, .t (tl l)), (1, .t (tl m)), (5, .t (ti i))], []) = some (.ret, fr, []) ∧ fr.get 4 = .t (tb (befB (l.drop i) (m.drop i))))
  | 0, i, hi => by
    left
    rw [x86_0]
    have h1 : ¬ (i < l.length ∧ i < m.length) := by omega
    by_cases hl1 : i < l.length
    · have hm1 : ¬ i < m.length := by omega
      refine ⟨_, by simp [ir86_d0, hl1, hm1]; rfl, rfl, rfl, ?_⟩
      rw [List.drop_eq_nil_of_le (show m.length ≤ i by omega), List.drop_eq_getElem_cons hl1]
      have : ¬ l.length < m.length := by omega
      simp [befB, this]
    · refine ⟨_, by simp [ir86_d0, hl1]; rfl, rfl, rfl, ?_⟩
      rw [List.drop_eq_nil_of_le (show l.length ≤ i by omega)]
      by_cases hm1 : i < m.length
      · rw [List.drop_eq_getElem_cons hm1]
        have : l.length < m.length := by omega
        simp [befB, this]
      · rw [List.drop_eq_nil_of_le (show m.length ≤ i by omega)]
        have : ¬ l.length < m.length := by omega
        simp [befB, this]
  | d + 1, i, hi => by
    have hl1 : i < l.length := by omega
    have hm1 : i < m.length := by omega
    have hw : IntKind.i64.wrap ((i : Int) + 1) = (i : Int) + 1 := w96 (by omega)
    have ih := w86 l m hl d (i + 1) (by omega)
    rw [List.drop_eq_getElem_cons hl1, List.drop_eq_getElem_cons hm1, befB]
    rw [x86_0]
    by_cases he : l[i] = m[i]
    · rw [if_pos he]
      rcases ih with ⟨fr, h1, h2⟩ | ⟨fr, h1, h2⟩
      · left
        refine ⟨fr, ?_, h2⟩
        simp at h1
        simp [ir86_d0, hl1, hm1, he, hw, h1]
      · right
        refine ⟨fr, ?_, h2⟩
        simp at h1
        simp [ir86_d0, hl1, hm1, he, hw, h1]
    · right
      rw [if_neg he]
      refine ⟨_, by simp [ir86_d0, hl1, hm1, he, hw]; rfl, ?_⟩
      simp
theorem r86 (l m : List Int) (hl : l.length ≤ 1000000) : ownR env 86 [tl l, tl m] = some (.t (tb (befB l m)), []) := by
  rw [own_ir e86 _ rfl]
  rcases w86 l m hl (min l.length m.length) 0 (by omega) with ⟨fr, h1, h2, h3, h4⟩ | ⟨fr, h1, h2⟩
  · simp at h1 h4
    simp [ir86, ir86_c, h1, h2, h3, h4, Fr.get_put]
  · simp at h1 h2
    simp [ir86, ir86_c, h1, h2, Fr.get_put]

theorem kput (live : List Nat) (t : Nat) (v : V) : ∀ fr : Fr, keep live (fr.put t v) = if live.contains t then (keep live fr).put t v else keep live fr
  | [] => by
    unfold Fr.put
    cases h : live.contains t <;> simp only [keep, h, Fr.put, if_true, if_false, Bool.false_eq_true]
  | (s, u) :: fr => by
    have ih := kput live t v fr
    unfold Fr.put
    by_cases hst : s = t
    · subst hst
      cases h : live.contains s <;> simp only [keep, h, Fr.put, if_true, if_false, Bool.false_eq_true]
    · simp only [hst, if_false]
      cases h : live.contains s <;> cases h2 : live.contains t <;> rw [h2] at ih <;> simp only [if_true, if_false, Bool.false_eq_true] at ih <;> first | (simp only [keep, h, h2, hst, ih, if_true, if_false, Bool.false_eq_true]; done) | simp only [keep, h, h2, Fr.put, hst, ih, if_true, if_false, Bool.false_eq_true] <;> (try (cases keep live fr <;> rfl))
def ni (out : List Nat) : List Int := out.map fun x : Nat => (x : Int)
theorem ni_length (out : List Nat) : (ni out).length = out.length := by simp [ni]
theorem ni_getE (out : List Nat) (i : Nat) (h : i < (ni out).length) : (ni out)[i] = ((out[i]'(by simpa [ni] using h) : Nat) : Int) := by simp [ni]
theorem ni_get (out : List Nat) (i : Nat) : (ni out)[i]? = out[i]?.map fun x : Nat => (x : Int) := by simp [ni]
attribute [local simp] ni_length ni_getE
theorem l297i (a : Nat) (b : Int) (cd G : Nat) (hG : G < 2 ^ 10) (hG0 : 1 ≤ G) (out : List Nat) (ho : ∀ x ∈ out, 1 ≤ x ∧ x < 2 ^ 10) (hl : out.length ≤ 1000) : ∀ (k : Nat), k ≤ out.length →
    ∃ (e : Fr) (E : Heap), keep [1, 2, 5, 6] e = [] ∧ loopF env true [1, 2, 5, 6, 7] ir55_b0 ([(1, .t (ti cd)), (2, .ptr 0 0 0), (5, .ref 1 0 out.length), (6, .t (ti G)), (7, .t (ti k))], [.box 2 [.t (ti a), .t (ti b)], .pure 1 (til (ni out))]) =
      some (.exit 2, (1, .t (ti cd)) :: (2, .ptr 0 0 0) :: (5, .ref 1 0 out.length) :: (6, .t (ti G)) :: (7, .t (ti (insK G out k : Nat))) :: e, .box 2 [.t (ti a), .t (ti b)] :: .pure 1 (til (ni out)) :: E)
  | 0, hk => by
    rw [x55_0]
    refine ⟨_, [], ?_, by simp [ir55_d0, insK]; rfl⟩
    simp [keep]
  | k + 1, hk => by
    rw [x55_0]
    have hlt : k < out.length := by omega
    have hw : IntKind.i64.wrap (((k + 1 : Nat) : Int) - 1) = (k : Int) := by rw [w96 (by omega)]; omega
    have hx := ho out[k] (List.getElem_mem hlt)
    have h1 := r56 G hG hG0
    have h2 := r56 out[k] hx.2 hx.1
    have hbl : ∀ x, (bl x 0 10).length ≤ 10 := fun x => by
      unfold bl
      rw [List.length_map]
      exact Nat.le_trans (List.length_filter_le _ _) (by simp)
    have hbG := hbl G
    have hbk := hbl out[k]
    have h3 := r86 (bl G 0 10) (bl out[k] 0 10) (by omega)
    have hs : insK G out (k + 1) = if befB (bl G 0 10) (bl out[k] 0 10) then insK G out k else k + 1 := by
      rw [insK, List.getElem?_eq_getElem hlt]; rfl
    obtain ⟨e, E, he, ih⟩ := l297i a b cd G hG hG0 out ho hl k (by omega)
    have hpos : (0 : Int) < ((k + 1 : Nat) : Int) := by omega
    rw [hs]
    generalize insK G out k = R at *
    generalize bl G 0 10 = BG at *
    generalize hBk : bl out[k] 0 10 = Bk at *
    cases hb : befB BG Bk with
    | true =>
      rw [hb] at h3
      refine ⟨e, E, he, ?_⟩
      simp at ih hw
      simp [ir55_d0, hw, hpos, h1, h2, h3, hlt, ih]
    | false =>
      rw [hb] at h3
      simp at hw
      refine ⟨_, _, ?_, by simp [ir55_d0, hw, hpos, h1, h2, h3, hlt]; exact ⟨rfl, rfl⟩⟩
      simp [keep]
end Go.Proofs.Ytanlmanifpknoaa.Ev

namespace Go.Proofs.Ytanlmanifpknoaa.Ev
open Go
set_option linter.unusedVariables false
set_option linter.unusedSimpArgs false
set_option linter.unusedSectionVars false
attribute [local simp] tbs_length tbs_get tbs_getE til_getE til_length til_get til_drop til_take til_set til_snoc take_snoc tbs_set tbs_drop tbs_take ni_length ni_getE
def nV (out : List Nat) : V := match out with | [] => .t .nil | x :: xs => .ref 1 0 (x :: xs).length
def nH (out : List Nat) : Heap := match out with | [] => [] | x :: xs => [.pure 1 (til (ni (x :: xs)))]
def nR (out : List Nat) : Option (V × Heap) := match out with | [] => some (.t .nil, []) | x :: xs => some (.ref 0 0 (x :: xs).length, [.pure 1 (til (ni (x :: xs)))])
theorem ni_take (out : List Nat) (n : Nat) : (ni out).take n = ni (out.take n) := by simp [ni, List.map_take]
theorem ni_drop (out : List Nat) (n : Nat) : (ni out).drop n = ni (out.drop n) := by simp [ni, List.map_drop]
theorem ni_ins (G : Nat) (out : List Nat) : ni (insS G out) = ni (out.take (insK G out out.length)) ++ (G : Int) :: ni (out.drop (insK G out out.length)) := by
  unfold insS; simp [ni]
theorem nV_ne {out : List Nat} (h : out ≠ []) : nV out = .ref 1 0 out.length := by cases out with | nil => exact absurd rfl h | cons => rfl
theorem nH_ne {out : List Nat} (h : out ≠ []) : nH out = [.pure 1 (til (ni out))] := by cases out with | nil => exact absurd rfl h | cons => rfl
theorem nR_ne {out : List Nat} (h : out ≠ []) : nR out = some (.ref 0 0 out.length, [.pure 1 (til (ni out))]) := by cases out with | nil => exact absurd rfl h | cons => rfl
theorem ins_ne (G : Nat) (out : List Nat) : insS G out ≠ [] := fun h => by
  have := insS_len G out; rw [h] at this; simp at this
theorem slc_nilh (H : Heap) : evSlc H 1 (.t .nil) none (some (.t (.int .i64 0))) = some (.t .nil) := rfl
theorem slc_nill (H : Heap) : evSlc H 1 (.t .nil) (some (.t (.int .i64 0))) none = some (.t .nil) := rfl
theorem l55 (a : Nat) (b : Int) (ha : a ≤ 4) (cd : Nat) (hc : cd < 2 * 2 ^ (2 * a)) : ∀ (d G : Nat) (out : List Nat), G + d = 2 ^ (2 * a) → 1 ≤ G → (∀ x ∈ out, 1 ≤ x ∧ x < G) → out.length ≤ G →
    andO (endO [.tmp 4] (andN (outB 0 (loopF env true [1, 2, 5, 6] ir55_b1 ([(1, .t (ti cd)), (2, .ptr 0 0 0), (5, nV out), (6, .t (ti G))], .box 2 [.t (ti a), .t (ti b)] :: nH out))) (execD env (.seq (.reg false [] [⟨some 49, none, .mv (.v 5)⟩, ⟨some 4, none, .mv (.v 49)⟩]) .ret)))) ownEnd = nR (rowsF a b cd G d out) := by
  have h4 := pow4 ha
  intro d
  induction d with
  | zero =>
    intro G out hi hG0 ho hl
    have h1 := r84 a b ha
    have hGe : G = 2 ^ (2 * a) := by omega
    rw [← hGe] at h1
    rw [x55_1, rowsF]
    cases out with
    | nil => simp [ir55_d1, nV, nH, nR, h1]
    | cons x xs => simp [ir55_d1, nV, nH, nR, h1, til_flat]
  | succ d ih =>
    intro G out hi hG0 ho hl
    have h1 := r84 a b ha
    have h2 := r85 a b ha cd G hc (by omega)
    have hw : IntKind.i64.wrap ((G : Int) + 1) = (G : Int) + 1 := w96 (by omega)
    have hlt : G < 2 ^ (2 * a) := by omega
    rw [rowsF]
    generalize (2 : Nat) ^ (2 * a) = M at *
    cases hcn : canS a b cd G with
    | false =>
      rw [hcn] at h2
      have ih1 := ih (G + 1) out (by omega) (by omega) (fun x hx => by have := ho x hx; omega) (by omega)
      rw [x55_1]
      cases out with
      | nil =>
        simp [nV, nH] at ih1
        simp [ir55_d1, nV, nH, h1, h2, hlt, hw, ih1]
      | cons x xs =>
        simp [nV, nH] at ih1
        simp [ir55_d1, nV, nH, h1, h2, hlt, hw, ih1]
    | true =>
      rw [hcn] at h2
      have hln := insS_len G out
      have ih1 := ih (G + 1) (insS G out) (by omega) (by omega) (fun x hx => by
        rcases (insS_mem G out x).1 hx with h | h
        · omega
        · have := ho x h; omega) (by omega)
      rw [nV_ne (ins_ne G out), nH_ne (ins_ne G out)] at ih1
      have hle := insK_le G out out.length
      have hni := ni_ins G out
      rw [x55_1]
      by_cases h0 : out = []
      · subst h0
        have h54 : ownR env 87 [.nil] = some (.ref 0 0 0, [.pure 1 (til [])]) := by
          rw [own_ir e87 _ rfl]
          simp [ir87, ir87_c, til_flat, til_nil]
        have hni : ni (insS G []) = [(G : Int)] := by simp [insS, insK, ni]
        simp [hni, hln, til_cons, til_nil] at ih1
        simp [ir55_d1, nV, nH, h1, h2, hlt, hw, x55_0, ir55_d0, h54, slc_nilh, slc_nill, til_nil, ih1]
      · obtain ⟨e, E, he, hin⟩ := l297i a b cd G (by omega) hG0 out (fun x hx => by have := ho x hx; omega) (by omega) out.length (Nat.le_refl _)
        have h54 := r87 (ni (out.take (insK G out out.length))) (by rw [ni_length, List.length_take]; omega)
        rw [nV_ne h0, nH_ne h0]
        generalize insK G out out.length = K at *
        simp [hni, hln] at ih1
        have hk1 : K + 1 + (out.length - K) = out.length + 1 := by omega
        have hk2 : List.take (out.length - K) (List.drop K out) = List.drop K out := List.take_of_length_le (by simp)
        simp at hin h54
        simp [ir55_d1, h1, h2, hlt, hw, hin, h54, ni_take, ni_drop, Fr.get_put, kput, he, hle, til_fold, show K ≤ 68719476735 by omega, hk1, hk2, show out.length + 1 ≤ 68719476736 by omega, show out.length ≤ 68719476735 by omega, ih1]
end Go.Proofs.Ytanlmanifpknoaa.Ev

namespace Go.Proofs.Ytanlmanifpknoaa.Ev
open Go
set_option linter.unusedVariables false
set_option linter.unusedSimpArgs false
set_option linter.unusedSectionVars false
attribute [local simp] tbs_length tbs_get tbs_getE til_getE til_length til_get til_drop til_take til_set til_snoc take_snoc tbs_set tbs_drop tbs_take ni_length ni_getE tbs_snoc
theorem r55 (a : Nat) (b : Int) (ha : a ≤ 4) (cd : Nat) (hc : cd < 2 * 2 ^ (2 * a)) : ownR env 55 [.agg [ti a, ti b], ti cd] = nR (rowsS a b cd) := by
  rw [own_ir e55 _ rfl]
  have h4 := pow4 ha
  have h := l55 a b ha cd hc (2 ^ (2 * a) - 1) 1 [] (by omega) (by omega) (by simp) (by simp)
  unfold rowsS
  simp [nV, nH] at h
  simp [ir55, ir55_c, h]
def qV (acc : List Bool) : V := match acc with | [] => .t .nil | x :: xs => .ref 3 0 (x :: xs).length
def qH (acc : List Bool) : Heap := match acc with | [] => [] | x :: xs => [.pure 1 (tbs (x :: xs))]
theorem qV_ne {out : List Bool} (h : out ≠ []) : qV out = .ref 3 0 out.length := by cases out with | nil => exact absurd rfl h | cons => rfl
theorem qH_ne {out : List Bool} (h : out ≠ []) : qH out = [.pure 1 (tbs out)] := by cases out with | nil => exact absurd rfl h | cons => rfl
theorem ovS_succ (cd i n : Nat) : ovS cd i (n + 1) = cd.testBit (i + 1) :: ovS cd (i + 1) n := rfl
theorem l68 (a : Nat) (b : Int) (ha : a ≤ 4) (cd : Nat) (q : Bool) : ∀ (d i : Nat) (acc : List Bool), i + d = 2 * a → acc.length ≤ i →
    ∃ e : Fr, loopF env true [1, 2, 4, 5, 6] ir68_b0 ([(1, .t (ti cd)), (2, .ptr 0 0 0), (4, .ptr 1 0 0), (5, .ptr 2 0 0), (6, .t (ti i))], [.box 2 [.t (ti a), .t (ti b)], .box 2 [.t .nil, .t (tb false)], .box 2 [qV acc, .t (tb q)]] ++ qH acc) =
      some (.exit 0, (1, .t (ti cd)) :: (2, .ptr 0 0 0) :: (4, .ptr 1 0 0) :: (5, .ptr 2 0 0) :: (6, .t (ti (2 * a : Nat))) :: e, [.box 2 [.t (ti a), .t (ti b)], .box 2 [.t .nil, .t (tb false)], .box 2 [qV (acc ++ ovS cd i d), .t (tb q)]] ++ qH (acc ++ ovS cd i d))
  | 0, i, acc, hi, hl => by
    rw [x68_0]
    have hw : IntKind.i64.wrap (2 * (a : Int)) = 2 * (a : Int) := w96 (by omega)
    have hi2 : i = 2 * a := by omega
    subst hi2
    have : acc ++ ovS cd (2 * a) 0 = acc := by simp [ovS]
    rw [this]
    exact ⟨_, by simp [ir68_d0, hw]; rfl⟩
  | d + 1, i, acc, hi, hl => by
    obtain ⟨J, hJ⟩ : ∃ J, J = i + 1 := ⟨_, rfl⟩
    have hw : IntKind.i64.wrap ((i : Int) + 1) = (J : Int) := by rw [w96 (by omega)]; omega
    have hw2 : IntKind.i64.wrap (2 * (a : Int)) = 2 * (a : Int) := w96 (by omega)
    have hlt : (i : Int) < 2 * (a : Int) := by omega
    have hsh := shr64 cd J (by omega)
    have hJ0 : ¬ ((J : Int) < 0) := by omega
    have ht : ((((cd / 2 ^ J : Nat) : Int).tmod 2 = 1)) = (cd.testBit J = true) := by
      rw [Nat.testBit_eq_decide_div_mod_eq, Int.tmod_eq_emod_of_nonneg (Int.natCast_nonneg _), decide_eq_true_eq]
      generalize cd / 2 ^ J = M
      exact propext (by omega)
    have ht2 : ((((cd / 2 ^ J : Nat) : Int) % 2 = 1)) = (cd.testBit J = true) := by
      rw [← ht, Int.tmod_eq_emod_of_nonneg (Int.natCast_nonneg _)]
    have hs : ovS cd i (d + 1) = cd.testBit J :: ovS cd J d := by rw [ovS_succ, hJ]
    obtain ⟨e, ih⟩ := l68 a b ha cd q d J (acc ++ [cd.testBit J]) (by omega) (by simp; omega)
    rw [hs]
    refine ⟨e, ?_⟩
    rw [x68_0]
    have hl2 : acc.length + 1 ≤ 68719476736 := by omega
    generalize cd.testBit J = B at *
    generalize cd / 2 ^ J = M at *
    rw [qV_ne (out := acc ++ [B]) (by simp), qH_ne (out := acc ++ [B]) (by simp)] at ih
    simp at ih
    cases acc with
    | nil =>
      simp [tbs] at ih
      simp [ir68_d0, qV, qH, hw, hw2, hlt, hsh, hJ0, ht, ht2]
      simp [qV, qH] at ih
      exact ih
    | cons x xs =>
      have hl3 : xs.length ≤ 68719476734 := by simp at hl; omega
      simp at ih
      simp [ir68_d0, qV, qH, hw, hw2, hlt, hsh, hJ0, ht, ht2, hl3]
      simp [qV, qH] at ih
      exact ih
end Go.Proofs.Ytanlmanifpknoaa.Ev

namespace Go.Proofs.Ytanlmanifpknoaa.Ev
open Go
set_option linter.unusedVariables false
set_option linter.unusedSimpArgs false
set_option linter.unusedSectionVars false
attribute [local simp] tbs_length tbs_get tbs_getE til_getE til_length til_get til_drop til_take til_set til_snoc take_snoc tbs_set tbs_drop tbs_take ni_length ni_getE tbs_snoc
theorem ovS_len (cd i n : Nat) : (ovS cd i n).length = n := by simp [ovS]
theorem r68 (a : Nat) (b : Int) (ha : a ≤ 4) (ha1 : 1 ≤ a) (cd : Nat) (hc : cd < 2 ^ 62) : ownR env 68 [.agg [ti a, ti b], ti cd] = some (.agg [.ref 0 0 (2 * a), .t (tb (decide (cd % 2 = 1)))], [.pure 1 (tbs (ovS cd 0 (2 * a)))]) := by
  rw [own_ir e68 _ rfl]
  obtain ⟨e, h⟩ := l68 a b ha cd (decide (cd % 2 = 1)) (2 * a) 0 [] (by omega) (by simp)
  have hne : ovS cd 0 (2 * a) ≠ [] := fun h => by
    have := ovS_len cd 0 (2 * a); rw [h] at this; simp at this; omega
  rw [List.nil_append, qV_ne hne, qH_ne hne, ovS_len] at h
  have ht : ((cd : Int).tmod 2 = 1) = (cd % 2 = 1) := by
    rw [Int.tmod_eq_emod_of_nonneg (Int.natCast_nonneg _)]; exact propext (by omega)
  have ht2 : ((cd : Int) % 2 = 1) = (cd % 2 = 1) := propext (by omega)
  generalize ovS cd 0 (2 * a) = L at *
  have hb : (decide ((cd : Int).tmod 2 = 1)) = decide (cd % 2 = 1) := by rw [decide_eq_decide.2 (iff_of_eq ht)]
  generalize decide (cd % 2 = 1) = q at *
  simp [qV, qH] at h
  simp [ir68, ir68_c, hb, h, tbs_flat, Fr.get_put]
def tripS (a : Nat) (b : Int) (cd : Nat) (l : List Int) : Bool := inB l.length 1 b && (risesB 0 (2 * (a : Int) - 1) l && canS a b cd (bitsI l 0))
theorem r67 (a : Nat) (b : Int) (hgd : goodC a b = true) (cd : Nat) (hc : cd < 2 * 2 ^ (2 * a)) (X : T) (l : List Int) (hX : LN X l) : ownR env 67 [.agg [ti a, ti b], ti cd, X] = some (.t (tb (tripS a b cd l)), []) := by
  rw [own_ir e67 _ rfl]
  have hgo := goodC_of hgd
  have hlen := hX.len
  have hw : IntKind.i64.wrap (2 * (a : Int)) = 2 * (a : Int) := w96 (by omega)
  have hw2 : IntKind.i64.wrap (2 * (a : Int) - 1) = 2 * (a : Int) - 1 := w96 (by omega)
  unfold tripS
  cases h1 : inB l.length 1 b with
  | false => simp [ir67, ir67_c, hlen, h1]
  | true =>
    have h1' := (inB_iff _ _ _).1 h1
    have hne : l ≠ [] := fun e => by subst e; simp at h1'
    have hXl := hX.tl hne
    subst hXl
    have h65 := r71 l 0 (2 * (a : Int) - 1) (by omega)
    cases h2 : risesB 0 (2 * (a : Int) - 1) l with
    | false =>
      rw [h2] at h65
      simp [ir67, ir67_c, hlen, h1, hw, hw2, h65]
    | true =>
      rw [h2] at h65
      have hin := risesB_in h2
      have h67 := r69 l (by omega) (fun k hk => by have := hin k hk; omega)
      have hbl : bitsI l 0 < 2 ^ (2 * a) := bits_lt fun k hk => by have := hin k hk; omega
      have h316 := r85 a b (by omega) cd (bitsI l 0) hc hbl
      generalize bitsI l 0 = G at *
      simp [ir67, ir67_c, hlen, h1, hw, hw2, h65, h67, h316]
theorem tll_snoc (gl : List (List Int)) (g : List Int) : tll gl ++ [.lst 1 (til g)] = tll (gl ++ [g]) := by simp [tll]
abbrev B10 (G : Nat) : List Int := bl G 0 10
theorem l19 (rows : List Nat) (hr : ∀ x ∈ rows, 1 ≤ x ∧ x < 2 ^ 10) (hl : rows.length ≤ 1000) : ∀ (d i : Nat), i + d = rows.length → 1 ≤ i →
    ∃ e : Fr, loopF env true [6, 23, 24, 25] ir19_b0 ([(6, .ref 0 0 i), (23, .ref 1 0 rows.length), (24, .t (ti rows.length)), (25, .t (ti i))], [.pure 1 (tll ((rows.take i).map B10)), .pure 1 (til (ni rows))]) =
      some (.exit 0, (6, .ref 0 0 rows.length) :: (23, .ref 1 0 rows.length) :: (24, .t (ti rows.length)) :: (25, .t (ti rows.length)) :: e, [.pure 1 (tll (rows.map B10)), .pure 1 (til (ni rows))])
  | 0, i, hi, h1 => by
    rw [x19_0]
    have hi2 : i = rows.length := by omega
    subst hi2
    rw [List.take_length]
    exact ⟨_, by simp [ir19_d0]; rfl⟩
  | d + 1, i, hi, h1 => by
    have hlt : i < rows.length := by omega
    have hw : IntKind.i64.wrap ((i : Int) + 1) = (i : Int) + 1 := w96 (by omega)
    have hx := hr rows[i] (List.getElem_mem hlt)
    have h2 := r56 rows[i] hx.2 hx.1
    obtain ⟨e, ih⟩ := l19 rows hr hl d (i + 1) (by omega) (by omega)
    have hs : (rows.take (i + 1)).map B10 = (rows.take i).map B10 ++ [B10 rows[i]] := by
      rw [List.take_succ_eq_append_getElem hlt, List.map_append]; rfl
    have htl : ((rows.take i).map B10).length = i := by rw [List.length_map, List.length_take]; omega
    rw [hs] at ih
    refine ⟨e, ?_⟩
    rw [x19_0]
    unfold B10 at *
    generalize (rows.take i).map (fun G => bl G 0 10) = A at *
    generalize bl rows[i] 0 10 = g at *
    have hA : List.take i (tll A) = tll A := List.take_of_length_le (by rw [tll_length]; omega)
    simp [tll_length, htl] at ih
    simp [ir19_d0, hlt, hw, h2, tll_length, htl, hA, tll_snoc, ih, show i + 1 ≤ 68719476736 by omega, show i ≤ 68719476735 by omega]
end Go.Proofs.Ytanlmanifpknoaa.Ev

namespace Go.Proofs.Ytanlmanifpknoaa.Ev
open Go
set_option linter.unusedVariables false
set_option linter.unusedSimpArgs false
set_option linter.unusedSectionVars false
attribute [local simp] tbs_length tbs_get tbs_getE til_getE til_length til_get til_drop til_take til_set til_snoc take_snoc tbs_set tbs_drop tbs_take ni_length ni_getE tbs_snoc
structure CbR (H : Heap) (is io k : Nat) (xs : List Bool) (q : Bool) (vs : List (List Int)) : Prop where
  s : H[is]? = some (.box 2 [.t (tbl xs), .t (tb q)])
  o : H[io]? = some (.box 1 [.ref k 0 vs.length])
  v : H[k]? = some (.pure 1 (tll vs))
theorem d82 (H : Heap) (is io k : Nat) (xs : List Bool) (hl : xs.length ≤ 100) (q : Bool) (vs : List (List Int)) (hvs : vs.length ≤ 2 ^ 30) (h : CbR H is io k xs q vs) (g : List Int) (hg : g.length ≤ 100) (hk : ∀ x ∈ g, 0 ≤ x ∧ x < xs.length) :
    ∃ v H' k', den env 82 [.t (tl g), .ptr is 0 0, .ptr io 0 0] H = some (v, H') ∧ H.length ≤ H'.length ∧ (k' = k ∨ H.length ≤ k') ∧ CbR H' is io k' xs q (if calmI g g && clS (mvB (!q) g xs) then vs ++ [g] else vs) ∧ ∀ id, id < H.length → id ≠ io → id ≠ k → H'[id]? = H[id]? := by
  rw [den_ir e82 _ _ rfl (.inl rfl)]
  have h34 := r63 g (by omega)
  cases h1 : calmI g g with
  | false =>
    refine ⟨.tup [], H, k, ?_, Nat.le_refl _, .inl rfl, h, fun _ _ _ _ => rfl⟩
    simp [ir82, ir82_c, h34, h1]
  | true =>
    have h22 := r60 xs g q (by omega) (by omega) hk
    have hsl := mvB_length (!q) g xs
    have h35 := r50 (mvB (!q) g xs) (!q) (by rw [mvB_length]; omega)
    have htk : (mvB (!q) g xs).take xs.length = mvB (!q) g xs := List.take_of_length_le (by omega)
    have ho : ∀ X, (H ++ X)[io]? = some (.box 1 [.ref k 0 vs.length]) := fun X => get_app2 h.o
    have hv : ∀ X, (H ++ X)[k]? = some (.pure 1 (tll vs)) := fun X => get_app2 h.v
    generalize mvB (!q) g xs = L at *
    cases h2 : clS L with
    | false =>
      refine ⟨.tup [], H ++ [.pure 1 (tbs L)], k, ?_, by simp, .inl rfl, ⟨get_app2 h.s, get_app2 h.o, get_app2 h.v⟩, fun id hid _ _ => get_app hid⟩
      simp [ir82, ir82_c, h34, h1, h.s, h22, h35, htk, h2]
    | true =>
      have hne : k ≠ io := fun e => by have := h.o; rw [← e, h.v] at this; cases this
      have hkl := (List.getElem?_eq_some_iff.1 h.v).1
      have hiol := (List.getElem?_eq_some_iff.1 h.o).1
      have hio : ∀ X Y, ((H ++ X).set k .dead ++ Y)[io]? = some (.box 1 [.ref k 0 vs.length]) := fun X Y => get_app2 (by rw [List.getElem?_set_ne hne]; exact ho X)
      refine ⟨.tup [], ((H ++ [Blk.pure 1 (tbs L), Blk.pure 1 [.lst 1 (til g)]]).set k Blk.dead ++ [Blk.pure 1 (tll (vs ++ [g]))]).set io (.box 1 [.ref (H.length + 2) 0 (vs.length + 1)]), H.length + 2, ?_, by simp; omega, .inr (by omega), ?_, fun id hid h1 h2 => ?_⟩
      · simp [ir82, ir82_c, h34, h1, h.s, h22, h35, htk, h2, ho, hv, tll_length, tll_take, show vs.length + 1 ≤ 68719476736 by omega, hio, tll_snoc]
      · have keep : ∀ {id : Nat} {x : Blk}, H[id]? = some x → id ≠ io → id ≠ k → (((H ++ [Blk.pure 1 (tbs L), Blk.pure 1 [.lst 1 (til g)]]).set k Blk.dead ++ [Blk.pure 1 (tll (vs ++ [g]))]).set io (.box 1 [.ref (H.length + 2) 0 (vs.length + 1)]))[id]? = some x := fun {id x} hx n1 n2 => by
          rw [List.getElem?_set_ne (Ne.symm n1)]
          exact get_app2 (by rw [List.getElem?_set_ne (Ne.symm n2)]; exact get_app2 hx)
        simp only [h1, Bool.and_self, if_true]
        have hs1 : is ≠ io := fun e => by have := h.o; rw [← e, h.s] at this; cases this
        have hs2 : is ≠ k := fun e => by have := h.v; rw [← e, h.s] at this; cases this
        refine ⟨keep h.s hs1 hs2, ?_, ?_⟩
        · rw [List.getElem?_set_self (by simp; omega)]; simp
        · rw [List.getElem?_set_ne (by omega), List.getElem?_append_right (by simp)]
          simp
      · rw [List.getElem?_set_ne (Ne.symm h1), List.getElem?_append_left (by simp; omega), List.getElem?_set_ne (Ne.symm h2), get_app hid]
def rowsF2 (xs : List Bool) (q : Bool) (gs : List (List Int)) : List (List Int) := gs.filter fun g => calmI g g && clS (mvB (!q) g xs)
theorem rowsF2_len (xs : List Bool) (q : Bool) (gs : List (List Int)) : (rowsF2 xs q gs).length ≤ gs.length := List.length_filter_le _ _
theorem rowsF2_snoc (xs : List Bool) (q : Bool) (gs : List (List Int)) (g : List Int) : rowsF2 xs q (gs ++ [g]) = if calmI g g && clS (mvB (!q) g xs) then rowsF2 xs q gs ++ [g] else rowsF2 xs q gs := by
  unfold rowsF2
  rw [List.filter_append]
  cases h : (calmI g g && clS (mvB (!q) g xs)) <;> simp [h]
def InvR (is io : Nat) (xs : List Bool) (q : Bool) (gs : List (List Int)) (W : Nat → Prop) (H : Heap) : Prop :=
  ∃ k, CbR H is io k xs q (rowsF2 xs q gs) ∧ ∀ id, W id ↔ (id = is ∨ id = io ∨ id = k)
theorem CbR.lt {H : Heap} {is io k : Nat} {xs : List Bool} {q : Bool} {vs : List (List Int)} (h : CbR H is io k xs q vs) : is < H.length ∧ io < H.length ∧ k < H.length :=
  ⟨(List.getElem?_eq_some_iff.1 h.s).1, (List.getElem?_eq_some_iff.1 h.o).1, (List.getElem?_eq_some_iff.1 h.v).1⟩
theorem stepsR (is io : Nat) (xs : List Bool) (hl : xs.length ≤ 100) (q : Bool) :
    Steps 82 [.ptr is 0 0, .ptr io 0 0] (InvR is io xs q) (fun g => g.length ≤ 100 ∧ ∀ x ∈ g, 0 ≤ x ∧ x < xs.length) (2 ^ 20) := by
  refine ⟨fun i o n H => by simp, fun H => by simp, ?_, ?_, ?_⟩
  · rintro gs W H g hM ⟨hg, hk⟩ ⟨k, hI, hW⟩
    have := rowsF2_len xs q gs
    obtain ⟨v, H', k', h1, h2, h3, h4, h5⟩ := d82 H is io k xs hl q _ (by omega) hI g hg hk
    rw [← rowsF2_snoc] at h4
    refine ⟨v, H', fun id => (id = is ∨ id = io ∨ id = k'), h1, h2, ⟨k', h4, fun id => Iff.rfl⟩, fun id hid => ?_, fun id hid hn => ?_⟩
    · rw [hW]
      rcases hid with h | h | h
      · simp [h]
      · simp [h]
      · rcases h3 with h3 | h3
        · left; simp [h, h3]
        · right; omega
    · rw [hW] at hn
      exact h5 id hid (fun e => hn (by simp [e])) (fun e => hn (by simp [e]))
  · rintro gs W H H' ⟨k, hI, hW⟩ hlen hk
    exact ⟨k, ⟨(hk _ ((hW _).2 (by simp))).trans hI.s, (hk _ ((hW _).2 (by simp))).trans hI.o, (hk _ ((hW _).2 (by simp))).trans hI.v⟩, hW⟩
  · rintro gs W H ⟨k, hI, hW⟩ id hid
    have := hI.lt
    rcases (hW id).1 hid with h | h | h <;> omega
theorem r51 (a b : Int) (hb : b ≤ 4) (xs : List Bool) (hl : xs.length ≤ 9) (q : Bool) : ownFR env 51 [.agg [ti a, ti b], .agg [tbl xs, tb q]] = some (.ref 0 0 (rowsP b xs q).length, [.pure 1 (tll (rowsP b xs q))]) := by
  rw [ownF_ir e51 _ rfl]
  have h1 := r80 xs q q (by omega)
  have hst := sd_len q xs 0
  have hsl := sd_in q xs 0
  have hgl := grps_len b (sd q 0 xs) []
  have hp2 : 2 ^ (sd q 0 xs).length ≤ 2 ^ 9 := Nat.pow_le_pow_right (by decide) (by omega)
  obtain ⟨v, H', W', hr, ⟨k, hI, hW⟩, hE⟩ := d81 (sd q 0 xs) b (stepsR 1 3 xs (by omega) q) (by omega) (by omega) (fun g hg => by
        have h1 := grps_lens b (sd q 0 xs) [] g hg
        refine ⟨by omega, fun x hx => ?_⟩
        rcases grps_sub b (sd q 0 xs) [] g hg x hx with h | h
        · cases h
        · have := hsl x h; simp at this; omega) [] (fun id => id = 1 ∨ id = 3 ∨ id = 2)
        [.box 2 [.t (ti a), .t (ti b)], .box 2 [.t (tbl xs), .t (tb q)], .pure 1 [], .box 1 [.ref 2 0 0], .froz 1 (til (sd q 0 xs))] (by simp; omega) ⟨2, ⟨rfl, by simp [rowsF2], by simp [rowsF2, tll]⟩, fun id => Iff.rfl⟩
  rw [List.nil_append] at hI
  have hIs := hI.s
  have hIo := hI.o
  have hIv := hI.v
  have hrf : rowsF2 xs q (grps b (sd q 0 xs) []) = rowsP b xs q := rfl
  rw [hrf] at hIo hIv
  generalize rowsP b xs q = R at *

  simp [ir51, ir51_c, h1, hr, hIo, hIv]
end Go.Proofs.Ytanlmanifpknoaa.Ev

namespace Go.Proofs.Ytanlmanifpknoaa.Ev
open Go
set_option linter.unusedVariables false
set_option linter.unusedSimpArgs false
set_option linter.unusedSectionVars false
attribute [local simp] tbs_length tbs_get tbs_getE til_getE til_length til_get til_drop til_take til_set til_snoc take_snoc tbs_set tbs_drop tbs_take ni_length ni_getE tbs_snoc
theorem r102 (xs : List Bool) (q p : Bool) (k : Int) (hk : 0 ≤ k ∧ k < xs.length) : ownR env 102 [ti k, .ptr (.agg [tbl xs, tb q]), .ptr (tb p)] = some (.t (tb (!decide (xs[k.toNat]? = some p))), []) := by
  rw [own_ir e102 _ rfl]
  obtain ⟨n, rfl⟩ : ∃ n : Nat, k = n := ⟨k.toNat, by omega⟩
  have hn : n < xs.length := by omega
  have h1 : xs[n]? = some xs[n] := by simp [hn]
  simp only [Int.toNat_natCast, h1]
  have h2 : (!decide (some xs[n] = some p)) = (xs[n] != p) := by
    generalize xs[n] = x
    cases x <;> cases p <;> rfl
  rw [h2]
  simp [ir102, ir102_c, hn]
  all_goals (generalize xs[n] = x; cases x <;> cases p <;> rfl)
theorem r88 (xs : List Bool) (q p : Bool) (g : List Int) (hg : g.length ≤ 1000) (hk : ∀ x ∈ g, 0 ≤ x ∧ x < xs.length) : ownR env 88 [.agg [tbl xs, tb q], tl g, tb p] = some (.t (tb (atS xs p g)), []) := by
  rw [own_ir e88 _ rfl]
  have h73 := r73g 102 [.ptr (.agg [tbl xs, tb q]), .ptr (tb p)] (fun k => !decide (xs[k.toNat]? = some p)) g (fun x hx H => by simp [r102 xs q p x (hk x hx)]) (by omega)
  have hat : (g.any fun k => !decide (xs[k.toNat]? = some p)) = !(atS xs p g) := by
    unfold atS
    rw [List.all_eq_not_any_not]; simp
  rw [hat] at h73
  cases h : atS xs p g with
  | true => rw [h] at h73; simp at h73; simp [ir88, ir88_c, h73]
  | false => rw [h] at h73; simp at h73; simp [ir88, ir88_c, h73]
theorem r59 (a : Nat) (b : Int) (hgd : goodC a b = true) (xs : List Bool) (hl : xs.length = 2 * a) (q : Bool) (G : T) (g : List Int) (hG : LN G g) : ownR env 59 [.agg [ti a, ti b], .agg [tbl xs, tb q], G] = some (.t (tb (rowS a b xs q g)), []) := by
  have hgo := goodC_of hgd
  have hw1 : IntKind.i64.wrap (2 * (a : Int)) = 2 * (a : Int) := w96 (by omega)
  have hw : IntKind.i64.wrap (2 * (a : Int) - 1) = 2 * (a : Int) - 1 := w96 (by omega)
  have h243 := r61 G g hG 0 (2 * (a : Int) - 1) 1 b (by omega) (by omega)
  have hc0 : rowS a b xs q g = (areB g 0 (2 * (a : Int) - 1) 1 b && (riseB g && (atS xs q g && (calmI g g && clS (mvB (!q) g xs))))) := by
    unfold rowS areB
    rw [rises_eq]
    simp only [Bool.and_assoc]
  rw [hc0, own_ir e59 _ rfl]
  cases h3 : areB g 0 (2 * (a : Int) - 1) 1 b with
  | false => rw [h3] at h243; rcases hG with ⟨rfl, rfl⟩ | rfl <;> simp [ir59, ir59_c, hw1, hw, h243]
  | true =>
    rw [h3] at h243
    unfold areB at h3
    rw [Bool.and_eq_true, inB_iff, List.all_eq_true] at h3
    have hne : g ≠ [] := fun e => by subst e; simp at h3
    have hGl := hG.tl hne
    subst hGl
    have hin : ∀ k ∈ g, 0 ≤ k ∧ k < xs.length := fun k hk => by
      have := (inB_iff _ _ _).1 (h3.2 k hk); omega
    have h244 := r62 g (by omega) hne
    cases h4 : riseB g with
    | false => rw [h4] at h244; simp [ir59, ir59_c, hw1, hw, h243, h244]
    | true =>
      rw [h4] at h244
      have h318 := r88 xs q q g (by omega) hin
      have h61 := r63 g (by omega)
      have h301 := r60 xs g q (by omega) (by omega) hin
      have hsl := mvB_length (!q) g xs
      have h292 := r50 (mvB (!q) g xs) (!q) (by omega)
      have htk : (mvB (!q) g xs).take xs.length = mvB (!q) g xs := List.take_of_length_le (by omega)
      generalize mvB (!q) g xs = L at *
      cases h5 : atS xs q g with
      | false => rw [h5] at h318; simp [ir59, ir59_c, hw1, hw, h243, h244, h318]
      | true =>
        rw [h5] at h318
        cases h6 : calmI g g with
        | false => rw [h6] at h61; simp [ir59, ir59_c, hw1, hw, h243, h244, h318, h61]
        | true =>
          rw [h6] at h61
          simp [ir59, ir59_c, hw1, hw, h243, h244, h318, h61, h301, htk, h292]
theorem stS_parts {a b : Int} {xs : List Bool} {q : Bool} (h : stS a b xs q = true) : ∃ n : Nat, a = n ∧ goodC n b = true ∧ xs.length = 2 * n ∧ q ∈ xs := by
  unfold stS at h
  simp only [Bool.and_eq_true, decide_eq_true_eq] at h
  have hgo := goodC_of h.1
  refine ⟨a.toNat, by omega, ?_, by omega, h.2.2⟩
  rw [show ((a.toNat : Nat) : Int) = a by omega]; exact h.1
def roOk (a b : Int) (xs : List Bool) (q : Bool) : Bool := stS a b xs q && clS xs
theorem r20 (a b : Int) (xs : List Bool) (hl : xs.length ≤ 1000) (q : Bool) : ownR env 20 [.agg [ti a, ti b], .agg [tbl xs, tb q]] = some (.tup [.t (tb (roOk a b xs q)), .t (tb (stS a b xs q))], []) := by
  rw [own_ir e20 _ rfl]
  have h1 := r49 a b xs q hl
  have h2 := r50 xs q hl
  unfold roOk
  cases h3 : stS a b xs q with
  | false => rw [h3] at h1; simp [ir20, ir20_c, h1]
  | true => rw [h3] at h1; simp [ir20, ir20_c, h1, h2]
theorem r21 (a b : Int) (xs : List Bool) (hl : xs.length ≤ 1000) (q : Bool) : ownR env 21 [.agg [ti a, ti b], .agg [tbl xs, tb q]] = some (.tup [.t (tb (roOk a b xs q)), .t (tb (stS a b xs q))], []) := by
  rw [own_ir e21 _ rfl]
  have h1 := r52 a b xs q hl
  unfold roOk
  cases h3 : stS a b xs q with
  | false => rw [h3] at h1; simp [ir21, ir21_c, h1]
  | true =>
    rw [h3] at h1
    obtain ⟨n, rfl, hg, hx, hq⟩ := stS_parts h3
    have hgo := goodC_of hg
    have h4 := r54 xs q (by omega)
    have hlt := cdN_lt xs q
    rw [hx] at hlt
    have h5 := r53 n b (by omega) _ hlt
    rw [quS_eq n (by omega) xs q hx] at h5
    generalize cdN xs q = cd at *
    simp [ir21, ir21_c, h1, h4, h5]
theorem r18 (a b : Int) (xs : List Bool) (hl : xs.length ≤ 9) (q : Bool) : ownFR env 18 [.agg [ti a, ti b], .agg [tbl xs, tb q]] = if roOk a b xs q then some (.tup [.ref 0 0 (rowsP b xs q).length, .t (tb true)], [.pure 1 (tll (rowsP b xs q))]) else some (.tup [.t .nil, .t (tb false)], []) := by
  rw [ownF_ir e18 _ rfl]
  have h1 := r49 a b xs q (by omega)
  have h2 := r50 xs q (by omega)
  unfold roOk
  cases h3 : stS a b xs q with
  | false => rw [h3] at h1; simp [ir18, ir18_c, h1]
  | true =>
    rw [h3] at h1
    cases h4 : clS xs with
    | false => rw [h4] at h2; simp [ir18, ir18_c, h1, h2]
    | true =>
      rw [h4] at h2
      obtain ⟨n, rfl, hg, hx, hq⟩ := stS_parts h3
      have hgo := goodC_of hg
      have h5 := r51 n b (by omega) xs hl q
      generalize rowsP b xs q = R at *
      simp [ir18, ir18_c, h1, h2, h5]
def roV (rs : List (List Int)) : Option (V × Heap) := match rs with | [] => some (.tup [.t .nil, .t (tb true)], []) | r :: rs => some (.tup [.ref 0 0 (r :: rs).length, .t (tb true)], [.pure 1 (tll (r :: rs))])
theorem l19n (r : Nat) (rows : List Nat) (hr : ∀ x ∈ r :: rows, 1 ≤ x ∧ x < 2 ^ 10) (hl : (r :: rows).length ≤ 1000) :
    ∃ e : Fr, loopF env true [6, 23, 24, 25] ir19_b0 ([(6, .t .nil), (23, .ref 0 0 (r :: rows).length), (24, .t (ti (r :: rows).length)), (25, .t (ti 0))], [.pure 1 (til (ni (r :: rows)))]) =
      some (.exit 0, (6, .ref 0 0 (r :: rows).length) :: (23, .ref 1 0 (r :: rows).length) :: (24, .t (ti (r :: rows).length)) :: (25, .t (ti (r :: rows).length)) :: e, [.pure 1 (tll ((r :: rows).map B10)), .pure 1 (til (ni (r :: rows)))]) := by
  have hx := hr r (List.mem_cons_self ..)
  have h8 := r56 r hx.2 hx.1
  obtain ⟨e, hlp⟩ := l19 (r :: rows) hr hl rows.length 1 (by simp; omega) (by omega)
  have h0 : (ni (r :: rows))[0]? = some (r : Int) := rfl
  have hw : IntKind.i64.wrap 1 = 1 := by decide
  refine ⟨e, ?_⟩
  rw [x19_0]
  have hs : ((r :: rows).take 1).map B10 = [bl r 0 10] := rfl
  rw [hs, ← tll_one] at hlp
  have hp : (0 : Int) < ((r :: rows).length : Int) := by simp
  have hp2 : 0 < (r :: rows).length := by simp
  have h9 : (r :: rows)[0]'hp2 = r := rfl
  generalize (r :: rows).map B10 = Z at *
  generalize bl r 0 10 = L at *
  generalize r :: rows = rr at *
  simp at hlp
  simp [ir19_d0, hp, hp2, h9, h8, hw, hlp]
theorem r19 (a b : Int) (xs : List Bool) (hl : xs.length ≤ 9) (q : Bool) : ownFR env 19 [.agg [ti a, ti b], .agg [tbl xs, tb q]] = if roOk a b xs q then roV (rowsP b xs q) else some (.tup [.t .nil, .t (tb false)], []) := by
  rw [ownF_ir e19 _ rfl]
  have h1 := r52 a b xs q (by omega)
  unfold roOk
  cases h3 : stS a b xs q with
  | false => rw [h3] at h1; simp [ir19, ir19_c, h1]
  | true =>
    rw [h3] at h1
    obtain ⟨n, rfl, hg, hx, hq⟩ := stS_parts h3
    have hgo := goodC_of hg
    have h4 := r54 xs q (by omega)
    have hlt := cdN_lt xs q
    rw [hx] at hlt
    have h5 := r53 n b (by omega) _ hlt
    rw [quS_eq n (by omega) xs q hx] at h5
    have h6 := r55 n b (by omega) _ hlt
    have he := rows_eq n b hg xs q hx
    have hrm : ∀ x ∈ rowsS n b (cdN xs q), 1 ≤ x ∧ x < 2 ^ 10 := fun x hx2 => by
      have h4 := pow4 (a := n) (by omega)
      have := (rowsS_mem n b _ (by omega) x).1 hx2
      omega
    have hrl : (rowsS n b (cdN xs q)).length ≤ 1000 := by
      have : (rowsS n b (cdN xs q)).length = (rowsP b xs q).length := by rw [← he, List.length_map]
      rw [this]
      have h7 := grps_len b (sd q 0 xs) []
      have h8 := sd_len q xs 0
      have h9 : 2 ^ (sd q 0 xs).length ≤ 2 ^ 9 := Nat.pow_le_pow_right (by decide) (by omega)
      have h10 : (rowsP b xs q).length ≤ (grps b (sd q 0 xs) []).length := List.length_filter_le _ _
      omega
    rw [← he]
    generalize rowsS n b (cdN xs q) = rows at *
    generalize cdN xs q = cd at *
    cases h7 : clS xs with
    | false => rw [h7] at h5; simp [ir19, ir19_c, h1, h4, h5]
    | true =>
      rw [h7] at h5
      cases rows with
      | nil =>
        simp [nR] at h6
        simp [ir19, ir19_c, h1, h4, h5, h6, x19_0, ir19_d0, roV]
      | cons r rows =>
        obtain ⟨e, hlp⟩ := l19n r rows hrm hrl
        simp only [nR] at h6
        have hz : ∀ z : List (List Int), z = (r :: rows).map (fun G => bl G 0 10) → roV z = some (.tup [.ref 0 0 (r :: rows).length, .t (tb true)], [.pure 1 (tll ((r :: rows).map B10))]) := by
          rintro z rfl
          simp [roV, B10]
        rw [hz _ rfl]
        generalize (r :: rows).map B10 = Z at *
        generalize r :: rows = rr at *
        simp [ir19, ir19_c, h1, h4, h5, h6, hlp, Fr.get_put]
end Go.Proofs.Ytanlmanifpknoaa.Ev

namespace Go.Proofs.Ytanlmanifpknoaa.Ev
open Go
set_option linter.unusedVariables false
set_option linter.unusedSimpArgs false
set_option linter.unusedSectionVars false
attribute [local simp] tbs_length tbs_get tbs_getE til_getE til_length til_get til_drop til_take til_set til_snoc take_snoc tbs_set tbs_drop tbs_take ni_length ni_getE tbs_snoc
def rbOk (a b : Int) (xs : List Bool) (q : Bool) (g : List Int) : Bool := roOk a b xs q && rowS a b xs q g
def rbR (a b : Int) (xs : List Bool) (q : Bool) (g : List Int) : Option (V × Heap) :=
  if rbOk a b xs q g then some (.tup [.agg [.ref 0 0 xs.length, .t (tb (!q))], .t (tb true)], [.pure 1 (tbs (mvB (!q) g xs))]) else some (.tup [.agg [.t .nil, .t (tb false)], .t (tb false)], [])
theorem roOk_parts {a b : Int} {xs : List Bool} {q : Bool} (h : roOk a b xs q = true) : ∃ n : Nat, a = n ∧ goodC n b = true ∧ xs.length = 2 * n ∧ q ∈ xs ∧ clS xs = true ∧ stS a b xs q = true := by
  unfold roOk at h
  rw [Bool.and_eq_true] at h
  obtain ⟨n, h1, h2, h3, h4⟩ := stS_parts h.1
  exact ⟨n, h1, h2, h3, h4, h.2, h.1⟩
theorem row_in {a b : Int} {xs : List Bool} {q : Bool} {g : List Int} {n : Nat} (hx : xs.length = 2 * n) (ha : a = n) (h : rowS a b xs q g = true) : ∀ k ∈ g, 0 ≤ k ∧ k < xs.length := fun k hk => by
  have := risesB_in (rowS_parts h).2.1 k hk; omega
theorem row_ne {a b : Int} {xs : List Bool} {q : Bool} {g : List Int} (h : rowS a b xs q g = true) : g ≠ [] := fun e => by
  have := (rowS_parts h).1; rw [e] at this; simp at this
theorem r24 (a b : Int) (xs : List Bool) (hl : xs.length ≤ 1000) (q : Bool) (X : T) (g : List Int) (hX : LN X g) : ownR env 24 [.agg [ti a, ti b], .agg [tbl xs, tb q], X] = rbR a b xs q g := by
  rw [own_ir e24 _ rfl]
  have h1 := r49 a b xs q (by omega)
  have h2 := r50 xs q (by omega)
  unfold rbR rbOk
  cases h0 : roOk a b xs q with
  | false =>
    unfold roOk at h0
    cases h3 : stS a b xs q with
    | false => rw [h3] at h1; rcases hX with ⟨rfl, rfl⟩ | rfl <;> simp [ir24, ir24_c, h1]
    | true =>
      rw [h3] at h1 h0
      simp at h0
      rw [h0] at h2
      rcases hX with ⟨rfl, rfl⟩ | rfl <;> simp [ir24, ir24_c, h1, h2]
  | true =>
    obtain ⟨n, rfl, hg, hx, hq, hc, hs⟩ := roOk_parts h0
    rw [hs] at h1
    rw [hc] at h2
    have h4 := r59 n b hg xs hx q X g hX
    cases h5 : rowS n b xs q g with
    | false =>
      rw [h5] at h4
      rcases hX with ⟨rfl, rfl⟩ | rfl <;> simp [ir24, ir24_c, h1, h2, h4]
    | true =>
      rw [h5] at h4
      have hgo := goodC_of hg
      have hXl := hX.tl (row_ne h5)
      subst hXl
      have hgl := (rowS_parts h5).1
      have h6 := r60 xs g q hl (by omega) (row_in hx rfl h5)
      simp [ir24, ir24_c, h1, h2, h4, h6, tbs_flat]
theorem r29 (a b : Int) (xs : List Bool) (hl : xs.length ≤ 1000) (q : Bool) (X : T) (g : List Int) (hX : LN X g) : ownR env 29 [.agg [ti a, ti b], .agg [tbl xs, tb q], X] = rbR a b xs q g := by
  rw [own_ir e29 _ rfl]
  have h1 := r52 a b xs q (by omega)
  unfold rbR rbOk
  cases h3 : stS a b xs q with
  | false =>
    rw [h3] at h1
    have h0 : roOk a b xs q = false := by unfold roOk; rw [h3]; rfl
    rw [h0]
    rcases hX with ⟨rfl, rfl⟩ | rfl <;> simp [ir29, ir29_c, h1]
  | true =>
    rw [h3] at h1
    obtain ⟨n, rfl, hg, hx, hq⟩ := stS_parts h3
    have hgo := goodC_of hg
    have h4 := r54 xs q (by omega)
    have hlt := cdN_lt xs q
    rw [hx] at hlt
    have h5 := r53 n b (by omega) _ hlt
    rw [quS_eq n (by omega) xs q hx] at h5
    have h6 := r67 n b hg _ hlt X g hX
    have e1000 : roOk n b xs q = clS xs := by unfold roOk; rw [h3]; rfl
    rw [e1000]
    cases h7 : clS xs with
    | false =>
      rw [h7] at h5
      rcases hX with ⟨rfl, rfl⟩ | rfl <;> simp [ir29, ir29_c, h1, h4, h5]
    | true =>
      rw [h7] at h5
      have e1001 : tripS n b (cdN xs q) g = rowS n b xs q g := by
        unfold tripS
        cases h8 : risesB 0 (2 * (n : Int) - 1) g with
        | false => unfold rowS; rw [h8]; simp
        | true =>
          rw [can_row n b hg xs q hx g h8]
          unfold rowS
          rw [h8]
          cases inB g.length 1 b <;> simp
      rw [e1001] at h6
      cases h8 : rowS n b xs q g with
      | false =>
        rw [h8] at h6
        generalize cdN xs q = cd at *
        rcases hX with ⟨rfl, rfl⟩ | rfl <;> simp [ir29, ir29_c, h1, h4, h5, h6]
      | true =>
        rw [h8] at h6
        have hXl := hX.tl (row_ne h8)
        subst hXl
        have hin := row_in hx rfl h8
        have hgl := (rowS_parts h8).1
        have h67 := r69 g (by omega) (fun k hk => by have := hin k hk; omega)
        have hmv := move_cd n xs q g hx hin (rowS_parts h8).2.2.1
        have hbl : bitsI g 0 < 2 ^ (2 * n) := bits_lt fun k hk => by have := hin k hk; omega
        have h4p := pow4 (a := n) (by omega)
        have hxr := evXor (cdN xs q) (2 * bitsI g 0 + 1) (by omega) (by omega)
        rw [hmv] at hxr
        have hlt2 := cdN_lt (mvB (!q) g xs) (!q)
        rw [mvB_length, hx] at hlt2
        have h305 := r68 n b (by omega) (by omega) (cdN (mvB (!q) g xs) (!q)) (by omega)
        rw [cdN_odd] at h305
        have hov := ovS_cdN (mvB (!q) g xs) (!q)
        rw [mvB_length, hx] at hov
        rw [hov, ← hx] at h305
        have hw3 : IntKind.i64.wrap (2 * ((bitsI g 0 : Nat) : Int)) = 2 * ((bitsI g 0 : Nat) : Int) := w96 (by omega)
        have hw4 : IntKind.i64.wrap (2 * ((bitsI g 0 : Nat) : Int) + 1) = ((2 * bitsI g 0 + 1 : Nat) : Int) := by rw [w96 (by omega)]; omega
        generalize cdN (mvB (!q) g xs) (!q) = cd2 at *
        generalize mvB (!q) g xs = L at *
        generalize 2 * bitsI g 0 + 1 = G1 at *
        generalize bitsI g 0 = G at *
        generalize cdN xs q = cd at *
        simp [ir29, ir29_c, h1, h4, h5, h6, h67, hw3, hw4, hxr, h305, tbs_flat]
end Go.Proofs.Ytanlmanifpknoaa.Ev

namespace Go.Proofs.Ytanlmanifpknoaa.Ev
open Go
set_option linter.unusedVariables false
set_option linter.unusedSimpArgs false
set_option linter.unusedSectionVars false
attribute [local simp] tbs_length tbs_get tbs_getE til_getE til_length til_get til_drop til_take til_set til_snoc take_snoc tbs_set tbs_drop tbs_take ni_length ni_getE tbs_snoc
theorem r63n : ownR env 63 [.nil] = some (.t (tb true), []) := by
  rw [own_ir e63 _ rfl]
  simp [ir63, ir63_c, x63_0, ir63_d0]
theorem r71n (a b : Int) : ownR env 71 [.nil, ti a, ti b] = some (.t (tb true), []) := by
  rw [own_ir e71 _ rfl]
  simp [ir71, ir71_c, x71_0, ir71_d0]
theorem r69n : ownR env 69 [.nil] = some (.t (ti 0), []) := by
  rw [own_ir e69 _ rfl]
  simp [ir69, ir69_c, x69_0, ir69_d0]
theorem r103n (f : FuncId) (caps : List T) : ownR env 103 [.nil, .clo f [] caps] = some (.t (ti (-1)), []) := by
  rw [own_ir e103 _ rfl]
  simp [ir103, ir103_c, x103_0, ir103_d0]
theorem r90n (f : FuncId) (caps : List T) : ownR env 90 [.nil, .clo f [] caps] = some (.t (tb false), []) := by
  rw [own_ir e90 _ rfl]
  have h := r103n f caps
  simp [ir90, ir90_c, h]
theorem r73l (f : FuncId) (caps : List T) : ownR env 90 [.lst 1 [], .clo f [] caps] = some (.t (tb false), []) :=
  r73g f caps (fun _ => true) [] (by simp) (by simp)
theorem r244e (X : T) (hX : LN X []) : ownR env 62 [X] = some (.t (tb true), []) := by
  rw [own_ir e62 _ rfl]
  rcases hX with ⟨rfl, _⟩ | rfl <;> simp [ir62, ir62_c, x62_0, ir62_d0, til_nil]
theorem r243e (X : T) (hX : LN X []) (a b hi : Int) (hhi : 0 ≤ hi) : ownR env 61 [X, ti a, ti b, ti 0, ti hi] = some (.t (tb true), []) := by
  rw [own_ir e61 _ rfl]
  have h1 : ownR env 90 [.nil, .clo 91 [] [.ptr (ti a), .ptr (ti b)]] = _ := r90n _ _
  have h2 : ownR env 90 [.lst 1 [], .clo 91 [] [.ptr (ti a), .ptr (ti b)]] = _ := r73l _ _
  have h3 : inB 0 0 hi = true := (inB_iff _ _ _).2 (by omega)
  rcases hX with ⟨rfl, _⟩ | rfl <;> simp [ir61, ir61_c, h1, h2, h3, til_nil]
theorem r243b (l : List Int) (a b lo hi : Int) (hhi : hi ≤ 1000) : ownR env 61 [tl l, ti a, ti b, ti lo, ti hi] = some (.t (tb (areB l a b lo hi)), []) := by
  rw [own_ir e61 _ rfl]
  have hlen := (LN.of l).len
  unfold areB
  cases h : inB l.length lo hi with
  | false => simp [ir61, ir61_c, hlen, h]
  | true =>
    rw [inB_iff] at h
    have h73 := r73g 91 [.ptr (ti a), .ptr (ti b)] (fun x => !inB x a b) l (fun x hx H => by simp) (by omega)
    have ha : (l.any fun x => !inB x a b) = !(l.all fun x => inB x a b) := by
      rw [List.all_eq_not_any_not]; simp
    rw [ha] at h73
    have h' : inB l.length lo hi = true := (inB_iff _ _ _).2 h
    cases hl : l.all fun x => inB x a b with
    | true => rw [hl] at h73; simp at h73; simp [ir61, ir61_c, h', h73]
    | false => rw [hl] at h73; simp at h73; simp [ir61, ir61_c, h', h73]
def gOk (a : Int) (l : List Int) : Bool := inB a 1 4 && risesB 0 (2 * a - 1) l
theorem rises_len {n : Int} {l : List Int} (h : risesB 0 (n - 1) l = true) (hn : 0 ≤ n) : (l.length : Int) ≤ n := by
  have h1 := sub_sorted ((List.range n.toNat).map fun k : Nat => (k : Int)) l (by
    rw [List.pairwise_map]
    exact List.pairwise_lt_range.imp fun {a b} h => by omega) (rises_pair h) (fun x hx => by
      have := risesB_in h x hx
      rw [List.mem_map]
      exact ⟨x.toNat, List.mem_range.2 (by omega), by omega⟩)
  have := h1.length_le
  rw [List.length_map, List.length_range] at this
  omega
theorem areB_rises (n : Int) (hn : 0 ≤ n) (l : List Int) : (areB l 0 (n - 1) 0 n && riseB l) = risesB 0 (n - 1) l := by
  rw [Bool.eq_iff_iff]
  constructor
  · intro h
    unfold areB at h
    simp only [Bool.and_eq_true] at h
    rw [rises_eq, h.1.2, h.2]; rfl
  · intro h
    have h1 := rises_len h hn
    unfold areB
    rw [(inB_iff _ _ _).2 ⟨by omega, h1⟩]
    rw [rises_eq] at h
    simpa using h
theorem r25 (a : Int) (X : T) (l : List Int) (hX : LN X l) (hl : l.length ≤ 1000000) : ownR env 25 [ti a, X] = some (.tup [.t (tb (gOk a l && calmI l l)), .t (tb (gOk a l))], []) := by
  rw [own_ir e25 _ rfl]
  unfold gOk
  cases h1 : inB a 1 4 with
  | false => simp [ir25, ir25_c, h1]
  | true =>
    have ha := (inB_iff _ _ _).1 h1
    have hw1 : IntKind.i64.wrap (2 * a) = 2 * a := w96 (by omega)
    have hw : IntKind.i64.wrap (2 * a - 1) = 2 * a - 1 := w96 (by omega)
    by_cases h0 : l = []
    · subst h0
      have h2 := r243e X hX 0 (2 * a - 1) (2 * a) (by omega)
      have h3 := r244e X hX
      have e1001 : risesB 0 (2 * a - 1) [] = true := rfl
      have e1002 : calmI [] [] = true := rfl
      have h4 := r63n
      have h5 := r63 [] (by simp)
      rw [e1001, e1002]
      rw [e1002] at h5
      rcases hX with ⟨rfl, _⟩ | rfl
      · simp [ir25, ir25_c, h1, hw1, hw, h2, h3, h4]
      · simp [ir25, ir25_c, h1, hw1, hw, h2, h3, h5]
    · have hXl := hX.tl h0
      subst hXl
      have h2 := r243b l 0 (2 * a - 1) 0 (2 * a) (by omega)
      have h3 := r62 l hl h0
      have h5 := r63 l hl
      have he := areB_rises (2 * a) (by omega) l
      rw [← he]
      cases h6 : areB l 0 (2 * a - 1) 0 (2 * a) with
      | false => rw [h6] at h2; simp [ir25, ir25_c, h1, hw1, hw, h2]
      | true =>
        rw [h6] at h2
        cases h7 : riseB l with
        | false => rw [h7] at h3; simp [ir25, ir25_c, h1, hw1, hw, h2, h3]
        | true => rw [h7] at h3; simp [ir25, ir25_c, h1, hw1, hw, h2, h3, h5]
theorem r31 (a : Int) (X : T) (l : List Int) (hX : LN X l) (hl : l.length ≤ 1000000) : ownR env 31 [ti a, X] = some (.tup [.t (tb (gOk a l && calmI l l)), .t (tb (gOk a l))], []) := by
  rw [own_ir e31 _ rfl]
  unfold gOk
  cases h1 : inB a 1 4 with
  | false => simp [ir31, ir31_c, h1]
  | true =>
    have ha := (inB_iff _ _ _).1 h1
    obtain ⟨n, rfl⟩ : ∃ n : Nat, a = n := ⟨a.toNat, by omega⟩
    have hw1 : IntKind.i64.wrap (2 * (n : Int)) = 2 * (n : Int) := w96 (by omega)
    have hw : IntKind.i64.wrap (2 * (n : Int) - 1) = 2 * (n : Int) - 1 := w96 (by omega)
    rcases hX with ⟨rfl, rfl⟩ | rfl
    · have h2 := r71n 0 (2 * (n : Int) - 1)
      have h3 := r69n
      have h4 := r72 n 0 (by omega)
      have h5 := group_calm n (by omega) [] (by simp)
      have e1001 : risesB 0 (2 * (n : Int) - 1) [] = true := rfl
      have e1003 : bitsI [] 0 = 0 := rfl
      rw [e1003] at h5
      rw [← h5] at h4
      rw [e1001]
      simp at h4
      simp [ir31, ir31_c, h1, hw1, hw, h2, h3, h4]
    · have h2 := r71 l 0 (2 * (n : Int) - 1) hl
      cases h6 : risesB 0 (2 * (n : Int) - 1) l with
      | false => rw [h6] at h2; simp [ir31, ir31_c, h1, hw1, hw, h2]
      | true =>
        rw [h6] at h2
        have hin := risesB_in h6
        have h3 := r69 l hl (fun k hk => by have := hin k hk; omega)
        have h4 := r72 n (bitsI l 0) (by omega)
        rw [← group_calm n (by omega) l (fun k hk => by have := hin k hk; omega)] at h4
        generalize bitsI l 0 = B at *
        simp [ir31, ir31_c, h1, hw1, hw, h2, h3, h4]
theorem l64 (X Y : T) (l : List Bool) (hX : LB X l) (hY : LB Y l) (hl : l.length ≤ 2 ^ 40) : ∀ (d i : Nat), i + d = l.length →
    ∃ e : Fr, loopF env true [0, 1, 12, 13] ir64_b0 ([(0, .t X), (1, .t Y), (12, .t (ti l.length)), (13, .t (ti i))], []) = some (.exit 0, e, [])
  | 0, i, hi => by
    rw [x64_0]
    have : i = l.length := by omega
    subst this
    exact ⟨_, by simp [ir64_d0]; rfl⟩
  | d + 1, i, hi => by
    obtain ⟨e, ih⟩ := l64 X Y l hX hY hl d (i + 1) (by omega)
    refine ⟨e, ?_⟩
    rw [x64_0]
    have hlt : i < l.length := by omega
    have hw : IntKind.i64.wrap ((i : Int) + 1) = (i : Int) + 1 := w96 (by omega)
    have h1 := fun H => hX.ix H i hlt
    have h2 := fun H => hY.ix H i hlt
    generalize l[i] = x at *
    cases x <;> (simp at ih; simp [ir64_d0, hlt, hw, h1, h2, ih])
theorem r64 (X Y : T) (l : List Bool) (hX : LB X l) (hY : LB Y l) (hl : l.length ≤ 2 ^ 40) : ownR env 64 [X, Y] = some (.t (tb true), []) := by
  rw [own_ir e64 _ rfl]
  obtain ⟨e, h⟩ := l64 X Y l hX hY hl l.length 0 (by omega)
  have h1 := hX.len
  have h2 := hY.len
  have o1 : V.one (.t X) = true := by rcases hX with ⟨rfl, _⟩ | rfl <;> rfl
  have o2 : V.one (.t Y) = true := by rcases hY with ⟨rfl, _⟩ | rfl <;> rfl
  simp at h
  simp [ir64, ir64_c, h1, h2, h, Fr.get_put]
theorem r26 (X Y : T) (l : List Bool) (hX : LB X l) (hY : LB Y l) (hl : l.length ≤ 2 ^ 40) (q : Bool) : ownR env 26 [.agg [X, tb q], .agg [Y, tb q]] = some (.t (tb true), []) := by
  rw [own_ir e26 _ rfl]
  have h := r64 X Y l hX hY hl
  rcases hX with ⟨rfl, rfl⟩ | rfl <;> rcases hY with ⟨rfl, h0⟩ | rfl <;> cases q <;> simp [ir26, ir26_c, h]
theorem w33 (l : List Int) (y : Int) (hl : l.length ≤ 1000000) : ∀ (d i : Nat), i + d = l.length →
    endO [.tmp 4] (andN (outB 0 (loopF env true [1, 7, 8, 9] ir33_b0 ([(1, .t (ti y)), (7, .t (tl l)), (8, .t (ti l.length)), (9, .t (ti i))], []))) (execD env (.seq (.reg false [] [⟨some 4, none, .mv (.k (tb false))⟩]) .ret))) = some (.t (tb (decide (y ∈ l.drop i))), [])
  | 0, i, hi => by
    rw [x33_0]
    have : i = l.length := by omega
    subst this
    simp [ir33_d0]
  | d + 1, i, hi => by
    rw [x33_0]
    have hlt : i < l.length := by omega
    have hw : IntKind.i64.wrap ((i : Int) + 1) = (i : Int) + 1 := w96 (by omega)
    have ih := w33 l y hl d (i + 1) (by omega)
    have hs : decide (y ∈ l.drop i) = (decide (l[i] = y) || decide (y ∈ l.drop (i + 1))) := by
      have hm : y ∈ l.drop i ↔ l[i] = y ∨ y ∈ l.drop (i + 1) := by rw [List.drop_eq_getElem_cons hlt, List.mem_cons, eq_comm]
      rw [Bool.eq_iff_iff, Bool.or_eq_true, decide_eq_true_eq, decide_eq_true_eq, decide_eq_true_eq, hm]
    rw [hs]
    generalize decide (y ∈ l.drop (i + 1)) = A at *
    simp at ih
    by_cases h1 : l[i] = y
    · simp [ir33_d0, hlt, hw, h1]
    · simp [ir33_d0, hlt, hw, h1, ih]
theorem r33 (l : List Int) (y : Int) (hl : l.length ≤ 1000000) : ownR env 33 [tl l, ti y] = some (.t (tb (decide (y ∈ l))), []) := by
  rw [own_ir e33 _ rfl]
  have h := w33 l y hl l.length 0 (by omega)
  simp at h
  simp [ir33, ir33_c, h]
def LR (X : T) (rs : List (List Int)) : Prop := (X = .nil ∧ rs = []) ∨ X = .lst 1 (tll rs)
theorem LR.len {X : T} {rs : List (List Int)} (h : LR X rs) (H : Heap) : evLen H 1 (.t X) = some (rs.length : Int) := by
  rcases h with ⟨rfl, rfl⟩ | rfl <;> simp [tll_length]
theorem LR.ix {X : T} {rs : List (List Int)} (h : LR X rs) (H : Heap) (i : Nat) (hi : i < rs.length) : evIxa H 1 (.t X) (.t (.int .i64 i)) = some (.rptr (.lst 1 (til rs[i])) 0) := by
  rcases h with ⟨rfl, rfl⟩ | rfl
  · simp at hi
  · simp [tll_length, tll_getE, hi]
theorem l259r (X Y : T) (l : List (List Int)) (hX : LR X l) (hY : LR Y l) (hl : l.length ≤ 2 ^ 40) (hg : ∀ g ∈ l, g.length ≤ 2 ^ 40) : ∀ (d i : Nat), i + d = l.length →
    ∃ e : Fr, loopF env true [0, 1, 12, 13] ir11_b0 ([(0, .t X), (1, .t Y), (12, .t (ti l.length)), (13, .t (ti i))], []) = some (.exit 0, e, [])
  | 0, i, hi => by
    rw [x11_0]
    have : i = l.length := by omega
    subst this
    exact ⟨_, by simp [ir11_d0]; rfl⟩
  | d + 1, i, hi => by
    obtain ⟨e, ih⟩ := l259r X Y l hX hY hl hg d (i + 1) (by omega)
    refine ⟨e, ?_⟩
    rw [x11_0]
    have hlt : i < l.length := by omega
    have hw : IntKind.i64.wrap ((i : Int) + 1) = (i : Int) + 1 := w96 (by omega)
    have h1 := fun H => hX.ix H i hlt
    have h2 := fun H => hY.ix H i hlt
    have h3 := r32 _ _ _ _ (LN.of l[i]) (LN.of l[i]) (hg _ (List.getElem_mem hlt))
    generalize l[i] = x at *
    simp at ih h3
    simp [ir11_d0, hlt, hw, h1, h2, h3, ih]
theorem r259r (X Y : T) (l : List (List Int)) (hX : LR X l) (hY : LR Y l) (hl : l.length ≤ 2 ^ 40) (hg : ∀ g ∈ l, g.length ≤ 2 ^ 40) : ownR env 11 [X, Y] = some (.t (tb true), []) := by
  rw [own_ir e11 _ rfl]
  obtain ⟨e, h⟩ := l259r X Y l hX hY hl hg l.length 0 (by omega)
  have h1 := hX.len
  have h2 := hY.len
  simp at h
  simp [ir11, ir11_c, h1, h2, h, Fr.get_put]
end Go.Proofs.Ytanlmanifpknoaa.Ev

namespace Go.Proofs.Ytanlmanifpknoaa.Ev
open Go
set_option linter.unusedVariables false
set_option linter.unusedSimpArgs false
set_option linter.unusedSectionVars false

@[simp] theorem gpk {α : Type} (P R : List α) (k : Nat) : (P ++ R)[P.length + k]? = R[k]? := by rw [List.getElem?_append_right (by omega), Nat.add_sub_cancel_left]
@[simp] theorem spk {α : Type} (P R : List α) (k : Nat) (x : α) : (P ++ R).set (P.length + k) x = P ++ R.set k x := by rw [List.set_append_right _ _ (by omega), Nat.add_sub_cancel_left]
@[simp] theorem gpa {α : Type} (P R : List α) (a k : Nat) : (P ++ R)[P.length + a + k]? = R[a + k]? := by rw [Nat.add_assoc, gpk]
structure BL (C : T) (bs : List Int) : Prop where
  len : ∀ H, evLen H 1 (.t C) = some (bs.length : Int)
  ix : ∀ H (i : Nat) (h : i < bs.length), evIxa H 1 (.t C) (.t (.int .i64 i)) = some (.rptr (.int .u8 bs[i]) 0)
  rng : ∀ b ∈ bs, 0 ≤ b ∧ b < 256
  small : bs.length ≤ 2 ^ 30
def CurX (C : T) (K : Nat) (X : Blk) : Prop := ∃ a s : Int, X = .box 3 [.t C, .t (ti a), .t (.int .u64 s)] ∧ 0 ≤ a ∧ a ≤ K
theorem CurX.mono {C : T} {K K' : Nat} {X : Blk} (h : CurX C K X) (hk : K ≤ K') : CurX C K' X := by
  obtain ⟨a, s, h1, h2, h3⟩ := h
  exact ⟨a, s, h1, h2, by omega⟩
theorem w1008_and (a : Int) : 0 ≤ ((BitVec.ofInt IntKind.u64.bits a &&& BitVec.ofInt IntKind.u64.bits 255).toNat : Int) ∧ ((BitVec.ofInt IntKind.u64.bits a &&& BitVec.ofInt IntKind.u64.bits 255).toNat : Int) < 256 := by
  refine ⟨Int.natCast_nonneg _, ?_⟩
  have h : (BitVec.ofInt IntKind.u64.bits 255).toNat = 255 := by decide
  rw [BitVec.toNat_and, h]
  have := @Nat.and_le_right (BitVec.ofInt IntKind.u64.bits a).toNat 255
  omega
theorem wu8 {n : Int} (h : 0 ≤ n ∧ n < 256) : IntKind.u64.wrap n = n := by
  unfold IntKind.wrap
  simp only [IntKind.signed, IntKind.bits]
  simp
  omega
variable {C : T} {bs : List Int}
theorem r77 (hC : BL C bs) (P Q : Heap) (K : Nat) (hK : K ≤ 2 ^ 40) (X : Blk) (hX : CurX C K X) :
    ∃ n X', den env 77 [.ptr P.length 0 0] (P ++ X :: Q) = some (.t (ti n), P ++ X' :: Q) ∧ CurX C (K + 1) X' ∧ 0 ≤ n ∧ n < 256 := by
  obtain ⟨a, s, rfl, h0, hk⟩ := hX
  have hlen := hC.len
  have hsm := hC.small
  have hw : IntKind.i64.wrap (a + 1) = a + 1 := w96 (by omega)
  suffices h : ∃ n s', den env 77 [.ptr P.length 0 0] (P ++ .box 3 [.t C, .t (ti a), .t (.int .u64 s)] :: Q) = some (.t (ti n), P ++ .box 3 [.t C, .t (ti (a + 1)), .t (.int .u64 s')] :: Q) ∧ 0 ≤ n ∧ n < 256 by
    obtain ⟨n, s', h1, h2⟩ := h
    exact ⟨n, _, h1, ⟨a + 1, s', rfl, by omega, by omega⟩, h2⟩
  by_cases h1 : a < bs.length
  · have hix := fun H => hC.ix H a.toNat (by omega)
    rw [show ((a.toNat : Nat) : Int) = a by omega] at hix
    have hr := hC.rng (bs[a.toNat]'(by omega)) (List.getElem_mem _)
    have hw2 : IntKind.i64.wrap (bs[a.toNat]'(by omega)) = bs[a.toNat]'(by omega) := w96 (by omega)
    have h2 : a + 1 ≤ bs.length := by omega
    have e : ∃ n s', den env 77 [.ptr P.length 0 0] (P ++ .box 3 [.t C, .t (ti a), .t (.int .u64 s)] :: Q) = some (.t (ti n), P ++ .box 3 [.t C, .t (ti (a + 1)), .t (.int .u64 s')] :: Q) ∧ n = bs[a.toNat]'(by omega) := by
      rw [den_ir e77 _ _ rfl (.inl rfl)]
      simp [ir77, ir77_c, hlen, h1, hix, hw, hw2, h2]
    obtain ⟨n, s', e1001, rfl⟩ := e
    exact ⟨_, s', e1001, hr⟩
  · have h2 : ¬ a + 1 ≤ bs.length := by omega
    have e : ∃ n s', den env 77 [.ptr P.length 0 0] (P ++ .box 3 [.t C, .t (ti a), .t (.int .u64 s)] :: Q) = some (.t (ti n), P ++ .box 3 [.t C, .t (ti (a + 1)), .t (.int .u64 s')] :: Q) ∧ ∃ x : Int, n = IntKind.i64.wrap (IntKind.u64.wrap ((BitVec.ofInt IntKind.u64.bits x &&& BitVec.ofInt IntKind.u64.bits 255).toNat : Int)) := by
      rw [den_ir e77 _ _ rfl (.inl rfl)]
      simp [ir77, ir77_c, hlen, h1, hw, h2, evBin, evInt]
      exact ⟨_, rfl⟩
    obtain ⟨n, s', e1001, x, rfl⟩ := e
    have h3 := w1008_and x
    refine ⟨_, s', e1001, ?_⟩
    rw [wu8 h3, w96 (by omega)]
    exact h3
end Go.Proofs.Ytanlmanifpknoaa.Ev

namespace Go.Proofs.Ytanlmanifpknoaa.Ev
open Go
set_option linter.unusedVariables false
set_option linter.unusedSimpArgs false
set_option linter.unusedSectionVars false
attribute [local simp] til_getE til_length til_get
variable {C : T} {bs : List Int}
def Dn (C : T) (K : Nat) (P Q : Heap) (lo hi : Int) (r : Option (V × Heap)) : Prop := ∃ n X', r = some (.t (ti n), P ++ X' :: Q) ∧ CurX C K X' ∧ lo ≤ n ∧ n < hi
theorem r43 (hC : BL C bs) (P Q : Heap) {K : Nat} (hK : K ≤ 2 ^ 39) {X : Blk} (hX : CurX C K X) (m : Int) (hm : m ≤ 2 ^ 40) :
    Dn C (K + 2) P Q 0 (max m 1) (den env 43 [.ptr P.length 0 0, .t (ti m)] (P ++ X :: Q)) := by
  by_cases h1 : m ≤ 1
  · refine ⟨0, X, ?_, hX.mono (by omega), by omega, by omega⟩
    rw [den_ir e43 _ _ rfl (.inl rfl)]
    simp [ir43, ir43_c, h1]
  · obtain ⟨n, X1, e1001, hX1, a1, b1⟩ := r77 hC P Q K (by omega) X hX
    have hmx : max m 1 = m := by omega
    rw [hmx]
    by_cases h2 : 200 < m
    · obtain ⟨n2, X2, e1002, hX2, a2, b2⟩ := r77 hC P Q (K + 1) (by omega) X1 hX1
      have w1001 : IntKind.i64.wrap (n * 256) = n * 256 := w96 (by omega)
      have w1002 : IntKind.i64.wrap (n * 256 + n2) = n * 256 + n2 := w96 (by omega)
      have hm0 : ¬ m = 0 := by omega
      refine ⟨(n * 256 + n2).tmod m, X2, ?_, hX2, Int.tmod_nonneg _ (by omega), Int.tmod_lt_of_pos _ (by omega)⟩
      rw [den_ir e43 _ _ rfl (.inl rfl)]
      simp [ir43, ir43_c, h1, h2, e1001, e1002, w1001, w1002, evBin, evInt, hm0]
    · have hm0 : ¬ m = 0 := by omega
      refine ⟨n.tmod m, X1, ?_, hX1.mono (by omega), Int.tmod_nonneg _ (by omega), Int.tmod_lt_of_pos _ (by omega)⟩
      rw [den_ir e43 _ _ rfl (.inl rfl)]
      simp [ir43, ir43_c, h1, h2, e1001, evBin, evInt, hm0]
theorem r42 (hC : BL C bs) (P Q : Heap) {K : Nat} (hK : K ≤ 2 ^ 39) {X : Blk} (hX : CurX C K X) (m : Int) (hm : m ≤ 2 ^ 40) :
    ∃ b X', den env 42 [.ptr P.length 0 0, .t (ti m)] (P ++ X :: Q) = some (.t (tb b), P ++ X' :: Q) ∧ CurX C (K + 2) X' := by
  obtain ⟨n, X1, e1001, hX1, a1, b1⟩ := r43 hC P Q hK hX m hm
  refine ⟨decide (n = 0), X1, ?_, hX1⟩
  rw [den_ir e42 _ _ rfl (.inl rfl)]
  simp [ir42, ir42_c, e1001]
theorem r70 (hC : BL C bs) (P Q : Heap) {K : Nat} (hK : K ≤ 2 ^ 39) {X : Blk} (hX : CurX C K X) (l : List Int) (h0 : 0 < l.length) (hl : l.length ≤ 1000) :
    ∃ n X', den env 70 [.ptr P.length 0 0, .t (tl l)] (P ++ X :: Q) = some (.t (ti n), P ++ X' :: Q) ∧ CurX C (K + 2) X' ∧ n ∈ l := by
  obtain ⟨n, X1, e1001, hX1, a1, b1⟩ := r43 hC P Q hK hX l.length (by omega)
  have hlt : n.toNat < l.length := by omega
  refine ⟨l[n.toNat], X1, ?_, hX1, List.getElem_mem _⟩
  rw [den_ir e70 _ _ rfl (.inl rfl)]
  simp [ir70, ir70_c, e1001, til_length, a1, til_get, hlt]
end Go.Proofs.Ytanlmanifpknoaa.Ev

namespace Go.Proofs.Ytanlmanifpknoaa.Ev
open Go
set_option linter.unusedVariables false
set_option linter.unusedSimpArgs false
set_option linter.unusedSectionVars false
attribute [local simp] til_getE til_length til_get
variable {C : T} {bs : List Int}
end Go.Proofs.Ytanlmanifpknoaa.Ev

namespace Go.Proofs.Ytanlmanifpknoaa.Ev
open Go
set_option linter.unusedVariables false
set_option linter.unusedSimpArgs false
set_option linter.unusedSectionVars false
attribute [local simp] til_getE til_length til_get til_snoc take_snoc til_take
variable {C : T} {bs : List Int}
def GL (P Q E : Heap) (v : V) (l : List Int) : Prop := (v = .t .nil ∧ l = []) ∨ ∃ k, v = .ref (P.length + (Q.length + k + 1)) 0 l.length ∧ E[k]? = some (.pure 1 (til l))
theorem GL.app {P Q E : Heap} {v : V} {l : List Int} (h : GL P Q E v l) (hl : l.length ≤ 1000) (X : Blk) (x : Int) :
    ∃ v' E', evApp (P ++ X :: (Q ++ (E ++ [Blk.pure 1 [.int .i64 x]]))) 1 v (.ref (P.length + (Q.length + E.length + 1)) 0 1) = some (v', P ++ X :: (Q ++ E')) ∧ GL P Q E' v' (l ++ [x]) := by
  rcases h with ⟨rfl, rfl⟩ | ⟨k, rfl, hk⟩
  · refine ⟨.ref (P.length + (Q.length + (E.length + 1) + 1)) 0 1, E ++ [.pure 1 [.int .i64 x], .pure 1 [.int .i64 x]], ?_, .inr ⟨E.length + 1, by simp, by simp [til]⟩⟩
    simp
  · have hkl := (List.getElem?_eq_some_iff.1 hk).1
    refine ⟨.ref (P.length + (Q.length + (E.length + 1) + 1)) 0 (l.length + 1), (E ++ [Blk.pure 1 [.int .i64 x]]).set k .dead ++ [.pure 1 (til (l ++ [x]))], ?_, .inr ⟨E.length + 1, by simp, ?_⟩⟩
    · have h1 : (E ++ [Blk.pure 1 [.int .i64 x]])[k]? = some (.pure 1 (til l)) := by rw [List.getElem?_append_left hkl]; exact hk
      have h2 : l.length + 1 ≤ 68719476736 := by omega
      simp [h1, h2]
    · rw [List.getElem?_append_right (by simp)]
      simp
theorem GL.ext {P Q E : Heap} {v : V} {l : List Int} (h : GL P Q E v l) (F : Heap) : GL P Q (E ++ F) v l := by
  rcases h with h | ⟨k, rfl, hk⟩
  · exact .inl h
  · exact .inr ⟨k, rfl, by rw [List.getElem?_append_left (List.getElem?_eq_some_iff.1 hk).1]; exact hk⟩
theorem l66 (hC : BL C bs) (P Q : Heap) (n : Nat) (hn : n ≤ 100) {K : Nat} (hK : K ≤ 2 ^ 38) : ∀ (d i : Nat) (X : Blk) (E : Heap) (v : V) (l : List Int), i + d = n → CurX C (K + 2 * i) X → GL P Q E v l → l.length ≤ i →
    ∃ X' E' v' l', loopF env false [0, 1, 5, 6] ir66_b0 ([(0, .ptr P.length 0 0), (1, .t (ti n)), (5, v), (6, .t (ti i))], P ++ X :: (Q ++ E)) =
      some (.exit 0, [(0, .ptr P.length 0 0), (1, .t (ti n)), (5, v'), (6, .t (ti n)), (7, .t (ti n)), (8, .t (ti n)), (9, .t (tb false))], P ++ X' :: (Q ++ E')) ∧ CurX C (K + 2 * n) X' ∧ GL P Q E' v' l' ∧ l'.length ≤ n
  | 0, i, X, E, v, l, hi, hX, hg, hl => by
    have : i = n := by omega
    subst this
    refine ⟨X, E, v, l, ?_, hX, hg, hl⟩
    rw [x66_0]
    simp [ir66_d0]
  | d + 1, i, X, E, v, l, hi, hX, hg, hl => by
    have hlt : (i : Int) < n := by omega
    have hw : IntKind.i64.wrap ((i : Int) + 1) = (i : Int) + 1 := w96 (by omega)
    obtain ⟨b, X1, e1001, hX1⟩ := r42 hC P (Q ++ E) (by omega) hX 3 (by omega)
    cases b with
    | false =>
      obtain ⟨X', E', v', l', h1, h2, h3, h4⟩ := l66 hC P Q n hn hK d (i + 1) X1 E v l (by omega) (hX1.mono (by omega)) hg (by omega)
      refine ⟨X', E', v', l', ?_, h2, h3, h4⟩
      rw [x66_0]
      simp at h1
      simp [ir66_d0, hlt, e1001, hw, h1]
    | true =>
      obtain ⟨v1, E1, a1, g1⟩ := hg.app (by omega) X1 (i : Int)
      obtain ⟨X', E', v', l', h1, h2, h3, h4⟩ := l66 hC P Q n hn hK d (i + 1) X1 E1 v1 (l ++ [(i : Int)]) (by omega) (hX1.mono (by omega)) g1 (by simp; omega)
      refine ⟨X', E', v', l', ?_, h2, h3, h4⟩
      rw [x66_0]
      simp at h1 a1
      simp [ir66_d0, hlt, e1001, hw, h1, a1]
theorem r66 (hC : BL C bs) (P Q : Heap) (n : Nat) (hn : n ≤ 100) {K : Nat} (hK : K ≤ 2 ^ 37) {X : Blk} (hX : CurX C K X) :
    ∃ X' E' v' l', den env 66 [.ptr P.length 0 0, .t (ti n)] (P ++ X :: Q) = some (v', P ++ X' :: (Q ++ E')) ∧ CurX C (K + 300) X' ∧ GL P Q E' v' l' ∧ l'.length ≤ n + 1 := by
  obtain ⟨X1, E1, v1, l1001, h1, c1001, g1, b1⟩ := l66 hC P Q n hn (K := K) (by omega) n 0 X [] (.t .nil) [] (by omega) (by simpa using hX) (.inl ⟨rfl, rfl⟩) (by simp)
  obtain ⟨b, X2, e1002, c1002⟩ := r42 hC P (Q ++ E1) (by omega) c1001 14 (by omega)
  simp at h1
  rw [den_ir e66 _ _ rfl (.inl rfl)]
  cases b with
  | false =>
    have c1002' := c1002.mono (K' := K + 300) (by omega)
    simp [ir66, ir66_c, h1, e1002]
    exact ⟨_, _, _, ⟨rfl, rfl, rfl⟩, c1002', l1001, g1, by omega⟩
  | true =>
    obtain ⟨x, X3, e1003, c1003, _⟩ := r70 hC P (Q ++ (E1 ++ [.froz 1 (til [-1, 0, n, 4611686018427387904])])) (by omega) c1002 [-1, 0, n, 4611686018427387904] (by simp) (by simp)
    obtain ⟨v4, E4, a4, g4⟩ := (g1.ext [.froz 1 (til [-1, 0, n, 4611686018427387904])]).app (by omega) X3 x
    have c1003' := c1003.mono (K' := K + 300) (by omega)
    simp [til, tl] at e1003 a4
    simp [ir66, ir66_c, h1, e1002, e1003, a4]
    exact ⟨_, _, _, ⟨rfl, rfl, rfl⟩, c1003', _, g4, by simp; omega⟩
end Go.Proofs.Ytanlmanifpknoaa.Ev

namespace Go.Proofs.Ytanlmanifpknoaa.Ev
open Go
set_option linter.unusedVariables false
set_option linter.unusedSimpArgs false
set_option linter.unusedSectionVars false
attribute [local simp] til_getE til_length til_get til_snoc take_snoc til_take tlv_getE tlv_length tlv_take
variable {C : T} {bs : List Int}
end Go.Proofs.Ytanlmanifpknoaa.Ev

namespace Go.Proofs.Ytanlmanifpknoaa.Ev
open Go
set_option linter.unusedVariables false
set_option linter.unusedSimpArgs false
set_option linter.unusedSectionVars false
attribute [local simp] til_getE til_length til_get til_snoc take_snoc til_take tlv_getE tlv_length tlv_take til_set
variable {C : T} {bs : List Int}
end Go.Proofs.Ytanlmanifpknoaa.Ev

namespace Go.Proofs.Ytanlmanifpknoaa.Ev
open Go
set_option linter.unusedVariables false
set_option linter.unusedSimpArgs false
set_option linter.unusedSectionVars false
attribute [local simp] til_getE til_length til_get til_snoc take_snoc til_take tlv_getE tlv_length tlv_take til_set
variable {C : T} {bs : List Int}
end Go.Proofs.Ytanlmanifpknoaa.Ev

namespace Go.Proofs.Ytanlmanifpknoaa.Ev
open Go
set_option linter.unusedVariables false
set_option linter.unusedSimpArgs false
set_option linter.unusedSectionVars false
attribute [local simp] til_getE til_length til_get til_snoc take_snoc til_take tlv_getE tlv_length tlv_take til_set
variable {C : T} {bs : List Int}
end Go.Proofs.Ytanlmanifpknoaa.Ev

namespace Go.Proofs.Ytanlmanifpknoaa.Ev
open Go
set_option linter.unusedVariables false
set_option linter.unusedSimpArgs false
set_option linter.unusedSectionVars false
attribute [local simp] til_getE til_length til_get til_drop til_take til_snoc til_fold take_snoc til_set
def rst : Nat → C → C
  | 0, c => c
  | k + 1, .seq _ b => rst k b
  | _ + 1, c => c
def nth (k : Nat) (c : C) : C := match rst k c with | .seq a _ => a | c => c
variable {a1 b1 c1001 a2 b2 c1002 a3 b3 c1003 : Int} {X1 G1 X2 Z : T} {p1001 t1001 p1002 : Int} {fr : Fr} {H : Heap}
end Go.Proofs.Ytanlmanifpknoaa.Ev

namespace Go.Proofs.Ytanlmanifpknoaa.Ev
open Go
set_option linter.unusedVariables false
set_option linter.unusedSimpArgs false
set_option linter.unusedSectionVars false
attribute [local simp] til_getE til_length til_get til_drop til_take til_snoc til_fold take_snoc til_set
variable {a1 b1 c1001 a2 b2 c1002 a3 b3 c1003 : Int} {X1 G1 X2 Z : T} {p1001 t1001 p1002 : Int} {fr : Fr} {H : Heap}
end Go.Proofs.Ytanlmanifpknoaa.Ev

namespace Go.Proofs.Ytanlmanifpknoaa.Ev
open Go
set_option linter.unusedVariables false
set_option linter.unusedSimpArgs false
set_option linter.unusedSectionVars false
attribute [local simp] til_getE til_length til_get til_drop til_take til_snoc til_fold take_snoc til_set
variable {a1 b1 c1001 a2 b2 c1002 a3 b3 c1003 : Int} {X1 G1 X2 Z : T} {p1001 t1001 p1002 : Int} {fr : Fr} {H : Heap}
end Go.Proofs.Ytanlmanifpknoaa.Ev

namespace Go.Proofs.Ytanlmanifpknoaa.Ev
open Go
set_option linter.unusedVariables false
set_option linter.unusedSimpArgs false
set_option linter.unusedSectionVars false

variable {a1 b1 c1001 a2 b2 c1002 a3 b3 c1003 : Int} {X1 G1 X2 Z : T} {p1001 t1001 p1002 : Int}
end Go.Proofs.Ytanlmanifpknoaa.Ev

namespace Go.Proofs.Ytanlmanifpknoaa.Ev
open Go
set_option linter.unusedVariables false
set_option linter.unusedSimpArgs false
set_option linter.unusedSectionVars false
attribute [local simp] til_getE til_length til_get til_snoc take_snoc til_take tlv_getE tlv_length tlv_take til_set
variable {C : T} {bs : List Int}
end Go.Proofs.Ytanlmanifpknoaa.Ev

namespace Go.Proofs.Ytanlmanifpknoaa.Ev
open Go
set_option linter.unusedVariables false
set_option linter.unusedSimpArgs false
set_option linter.unusedSectionVars false
attribute [local simp] til_getE til_length til_get til_snoc take_snoc til_take tlv_getE tlv_length tlv_take til_set
variable {C : T} {bs : List Int}
theorem cur0 (C : T) : CurX C 0 (.box 3 [.t C, .t (ti 0), .t (.int .u64 0)]) := ⟨0, 0, rfl, by omega, by omega⟩
theorem BL.cells (hC : BL C bs) : V.cells (.t C) = some [.t C] := by
  have := hC.len []
  cases C <;> first | rfl | (simp [evLen] at this)
end Go.Proofs.Ytanlmanifpknoaa.Ev

namespace Go.Proofs.Ytanlmanifpknoaa.Ev
open Go
set_option linter.unusedVariables false
set_option linter.unusedSimpArgs false
set_option linter.unusedSectionVars false
attribute [local simp] til_getE til_length til_get
variable {C : T} {bs : List Int}
def y2 : Blk := .box 2 [.t (ti 0), .t (ti 0)]
theorem r105 (hC : BL C bs) (P Q : Heap) {K : Nat} (hK : K ≤ 2 ^ 38) {X : Blk} (hX : CurX C K X) :
    ∃ a b X' E, den env 105 [.ptr P.length 0 0] (P ++ X :: Q) = some (.agg [.t (ti a), .t (ti b)], P ++ X' :: (Q ++ E)) ∧ CurX C (K + 20) X' := by
  obtain ⟨b1, X1, e1001, hX1⟩ := r42 hC P (Q ++ [y2]) (by omega) hX 8 (by omega)
  obtain ⟨n2, X2, e1002, hX2, a2, b2⟩ := r43 hC P (Q ++ [y2]) (by omega) hX1 3 (by omega)
  obtain ⟨n3, X3, e1003, hX3, a3, b3⟩ := r43 hC P (Q ++ [y2]) (by omega) hX2 4 (by omega)
  have w1001 : IntKind.i64.wrap (2 + n2) = 2 + n2 := w96 (by omega)
  have w1002 : IntKind.i64.wrap (1 + n2) = 1 + n2 := w96 (by omega)
  have w1003 : IntKind.i64.wrap (1 + n3) = 1 + n3 := w96 (by omega)
  simp [y2] at e1001 e1002 e1003
  have c1002 := hX2.mono (K' := K + 20) (by omega)
  have c1003 := hX3.mono (K' := K + 20) (by omega)
  rw [den_ir e105 _ _ rfl (.inl rfl)]
  cases b1 with
  | true =>
    simp [ir105, ir105_c, e1001, e1002, w1001, c1002]
    exact ⟨_, _, _, ⟨⟨rfl, rfl⟩, rfl⟩, by assumption⟩
  | false =>
    simp [ir105, ir105_c, e1001, e1002, e1003, w1002, w1003, c1003]
    exact ⟨_, _, _, ⟨⟨rfl, rfl⟩, rfl⟩, by assumption⟩
theorem r94 (hC : BL C bs) (P Q : Heap) {K : Nat} (hK : K ≤ 2 ^ 37) {X : Blk} (hX : CurX C K X) :
    ∃ a b X' E, den env 94 [.ptr P.length 0 0] (P ++ X :: Q) = some (.agg [.t (ti a), .t (ti b)], P ++ X' :: (Q ++ E)) ∧ CurX C (K + 60) X' := by
  obtain ⟨a, b, X1, E1, e1001, hX1⟩ := r105 hC P (Q ++ [y2]) (by omega) hX
  obtain ⟨n2, X2, e1002, hX2, a2, b2⟩ := r43 hC P (Q ++ (y2 :: (E1 ++ [.box 2 [.t (ti a), .t (ti b)]]))) (by omega) hX1 14 (by omega)
  obtain ⟨n3, X3, e1003, hX3, _⟩ := r70 hC P (Q ++ (y2 :: (E1 ++ [.box 2 [.t (ti a), .t (ti b)], .froz 1 (til [-1, 0, 5, 4611686018427387904])]))) (by omega) hX2 [-1, 0, 5, 4611686018427387904] (by simp) (by simp)
  simp [y2, til, tl] at e1001 e1002 e1003
  have c1002 := hX2.mono (K' := K + 60) (by omega)
  have c1003 := hX3.mono (K' := K + 60) (by omega)
  rw [den_ir e94 _ _ rfl (.inl rfl)]
  by_cases h0 : n2 = 0
  · subst h0
    simp [ir94, ir94_c, e1001, e1002, e1003]
    exact ⟨_, _, _, ⟨⟨rfl, rfl⟩, rfl⟩, by assumption⟩
  by_cases h1 : n2 = 1
  · subst h1
    simp [ir94, ir94_c, e1001, e1002, e1003]
    exact ⟨_, _, _, ⟨⟨rfl, rfl⟩, rfl⟩, by assumption⟩
  · simp [ir94, ir94_c, e1001, e1002, h0, h1]
    exact ⟨_, _, _, ⟨⟨rfl, rfl⟩, rfl⟩, by assumption⟩
end Go.Proofs.Ytanlmanifpknoaa.Ev

namespace Go.Proofs.Ytanlmanifpknoaa.Ev
open Go
set_option linter.unusedVariables false
set_option linter.unusedSimpArgs false
set_option linter.unusedSectionVars false
attribute [local simp] til_getE til_length til_get ni_length ni_getE ni_get
variable {C : T} {bs : List Int}
theorem rowsS_lt {a : Nat} {b : Int} {cd : Nat} (ha : a ≤ 4) {x : Nat} (h : x ∈ rowsS a b cd) : x < 2 ^ (2 * a) := ((rowsS_mem a b cd ha x).1 h).2.1
theorem rowsF_len (a : Nat) (b : Int) (cd : Nat) : ∀ (n i : Nat) (out : List Nat), (rowsF a b cd i n out).length ≤ out.length + n
  | 0, i, out => by rw [rowsF]; omega
  | n + 1, i, out => by
    rw [rowsF]
    have := rowsF_len a b cd n (i + 1) (if canS a b cd i then insS i out else out)
    have h2 := insS_len i out
    split at this
    · rename_i h; rw [if_pos h]; omega
    · rename_i h; rw [if_neg h]; omega
theorem rowsS_len (a : Nat) (b : Int) (cd : Nat) (ha : a ≤ 4) : (rowsS a b cd).length ≤ 255 := by
  have h := rowsF_len a b cd (2 ^ (2 * a) - 1) 1 []
  have h4 := pow4 ha
  unfold rowsS
  simp at h
  omega
theorem l65 (hC : BL C bs) (P Q : Heap) (a : Nat) (b : Int) (ha : a ≤ 4) {K : Nat} (hK : K ≤ 2 ^ 37) (j2 j3 jw : Nat) : ∀ (d : Nat) (X : Blk) (E : Heap) (cd : Nat), d ≤ 100 → CurX C (K + 2 * (100 - d)) X → E[jw]? = some (.box 2 [.t (ti a), .t (ti b)]) → cd < 2 * 2 ^ (2 * a) →
    ∃ X' F, ∃ cd' : Nat, loopF env false [0, 2, 3, 4, 5, 6] ir65_b0 ([(0, .ptr P.length 0 0), (2, .ptr (P.length + (Q.length + j2 + 1)) 0 0), (3, .ptr (P.length + (Q.length + j3 + 1)) 0 0), (4, .ptr (P.length + (Q.length + jw + 1)) 0 0), (5, .t (ti cd)), (6, .t (ti d))], P ++ X :: (Q ++ E)) =
      some (.exit 0, [(0, .ptr P.length 0 0), (2, .ptr (P.length + (Q.length + j2 + 1)) 0 0), (3, .ptr (P.length + (Q.length + j3 + 1)) 0 0), (4, .ptr (P.length + (Q.length + jw + 1)) 0 0), (5, .t (ti (cd' : Int))), (6, .t (ti 0)), (26, .t (ti 0)), (27, .t (tb false))], P ++ X' :: (Q ++ (E ++ F))) ∧ CurX C (K + 200) X' ∧ cd' < 2 * 2 ^ (2 * a)
  | 0, X, E, cd, hd, hX, hw, hc => by
    refine ⟨X, [], cd, ?_, hX.mono (by omega), hc⟩
    rw [x65_0]
    simp [ir65_d0]
  | d + 1, X, E, cd, hd, hX, hw, hc => by
    have h297 := r55 a b ha cd hc
    have hlen := rowsS_len a b cd ha
    have hlt := fun x => @rowsS_lt a b cd ha x
    have h4 := pow4 ha
    have hwd : IntKind.i64.wrap (((d + 1 : Nat) : Int) - 1) = d := by rw [w96 (by omega)]; omega
    have hd1 : (0 : Int) < ((d + 1 : Nat) : Int) := by omega
    have hwl := (List.getElem?_eq_some_iff.1 hw).1
    generalize rowsS a b cd = rows at *
    cases rows with
    | nil =>
      obtain ⟨X', F, cd', f1, f2⟩ := l65 hC P Q a b ha hK j2 j3 jw d X E cd (by omega) (hX.mono (by omega)) hw hc
      refine ⟨X', F, cd', ?_, f2⟩
      rw [x65_0]
      simp [nR] at h297
      simp at hwd hd1
      simp [ir65_d0, hw, hd1, h297, hwd, f1]
    | cons r rows =>
      rw [nR_ne (by simp)] at h297
      generalize hrr : r :: rows = rr at *
      have hpos : 0 < rr.length := by rw [← hrr]; simp
      obtain ⟨n, X1, e1001, hX1, a1, b1⟩ := r43 hC P (Q ++ (E ++ [.pure 1 (til (ni rr))])) (by omega) hX rr.length (by omega)
      have hnlt : n.toNat < rr.length := by omega
      have hnlt2 : n < (rr.length : Int) := by omega
      have hG := hlt _ (List.getElem_mem hnlt)
      have hmv := move_lt hc hG
      have hxr : xorI .i64 (cd : Int) ((2 * rr[n.toNat] + 1 : Nat) : Int) = ((cd ^^^ (2 * rr[n.toNat] + 1) : Nat) : Int) := by unfold xorI; exact xor64 _ _ (by omega) (by omega)
      have hw3 : IntKind.i64.wrap (2 * ((rr[n.toNat] : Nat) : Int)) = 2 * ((rr[n.toNat] : Nat) : Int) := w96 (by omega)
      have hw4 : IntKind.i64.wrap (2 * ((rr[n.toNat] : Nat) : Int) + 1) = ((2 * rr[n.toNat] + 1 : Nat) : Int) := by rw [w96 (by omega)]; omega
      have hg : rr[n.toNat]? = some rr[n.toNat] := by simp [hnlt]
      obtain ⟨X', F, cd', f1, f2⟩ := l65 hC P Q a b ha hK j2 j3 jw d X1 (E ++ [.pure 1 (til (ni rr))]) (cd ^^^ (2 * rr[n.toNat] + 1)) (by omega) (hX1.mono (by omega)) (by rw [List.getElem?_append_left hwl]; exact hw) hmv
      generalize hGe : rr[n.toNat] = G at *
      generalize cd ^^^ (2 * G + 1) = Z at *
      generalize 2 * G + 1 = G1 at *
      refine ⟨X', .pure 1 (til (ni rr)) :: F, cd', ?_, f2⟩
      rw [x65_0]
      have hge : List.length E + 1 ≠ 0 := by omega
      simp at hwd hd1 f1 e1001
      simp [ir65_d0, hw, hd1, h297, hwd, hpos, e1001, a1, hnlt, hnlt2, hg, hGe, hw3, hw4, hxr, f1]
end Go.Proofs.Ytanlmanifpknoaa.Ev

namespace Go.Proofs.Ytanlmanifpknoaa.Ev
open Go
set_option linter.unusedVariables false
set_option linter.unusedSimpArgs false
set_option linter.unusedSectionVars false
attribute [local simp] til_getE til_length til_get ni_length ni_getE ni_get tbs_length
variable {C : T} {bs : List Int}
def yS : Blk := .box 2 [.t .nil, .t (tb false)]
def SV (P Q E : Heap) (v : V) (xs : List Bool) : Prop := v = .t (tbl xs) ∨ ∃ k, v = .ref (P.length + (Q.length + k + 1)) 0 xs.length ∧ E[k]? = some (.pure 1 (tbs xs))
theorem r65 (hC : BL C bs) (P Q : Heap) {K : Nat} (hK : K ≤ 2 ^ 36) {X : Blk} (hX : CurX C K X) :
    ∃ a b v xs q X' E, den env 65 [.ptr P.length 0 0] (P ++ X :: Q) = some (.tup [.agg [.t (ti a), .t (ti b)], .agg [v, .t (tb q)]], P ++ X' :: (Q ++ E)) ∧ CurX C (K + 1000) X' ∧ SV P Q E v xs ∧ xs.length ≤ 9 := by
  obtain ⟨a, b, X1, E0, e1001, hX1⟩ := r94 hC P (Q ++ [y2, yS]) (by omega) hX
  obtain ⟨W, hW⟩ : ∃ W, W = Blk.box 2 [.t (ti a), .t (ti b)] := ⟨_, rfl⟩
  have hbad : ∀ {X2 : Blk} {K2 : Nat}, CurX C K2 X2 → K2 ≤ K + 500 → ∃ n1 X3 q X4, den env 43 [.ptr P.length 0 0, .t (ti 9)] (P ++ X2 :: (Q ++ y2 :: yS :: (E0 ++ [W]))) = some (.t (ti n1), P ++ X3 :: (Q ++ y2 :: yS :: (E0 ++ [W]))) ∧
      den env 42 [.ptr P.length 0 0, .t (ti 2)] (P ++ X3 :: (Q ++ y2 :: yS :: (E0 ++ [W]))) = some (.t (tb q), P ++ X4 :: (Q ++ y2 :: yS :: (E0 ++ [W]))) ∧ CurX C (K + 1000) X4 ∧ 0 ≤ n1 ∧ n1 < 9 := by
    intro X2 K2 h2 hk2
    obtain ⟨n1, X3, h3, c1003, k1001, k1002⟩ := r43 hC P (Q ++ y2 :: yS :: (E0 ++ [W])) (by omega) h2 9 (by omega)
    obtain ⟨q, X4, h4, c1004⟩ := r42 hC P (Q ++ y2 :: yS :: (E0 ++ [W])) (by omega) c1003 2 (by omega)
    exact ⟨n1, X3, q, X4, h3, h4, c1004.mono (by omega), k1001, by omega⟩
  obtain ⟨b0, X2, e1002, hX2⟩ := r42 hC P (Q ++ y2 :: yS :: (E0 ++ [W])) (by omega) hX1 12 (by omega)
  simp at e1001
  rw [den_ir e65 _ _ rfl (.inl rfl)]
  have hbadrun : ∀ {X2 : Blk} {K2 : Nat}, CurX C K2 X2 → K2 ≤ K + 500 → True := fun _ _ => trivial
  cases hgd : goodC a b with
  | false =>
    obtain ⟨n1, X3, q, X4, h3, h4, c1004, k1001, k1002⟩ := hbad hX1 (by omega)
    simp [y2, yS] at e1001 h3 h4
    subst hW
    have k1003 : n1 ≤ 68719476736 := by omega
    exact ⟨a, b, .t (tbl (List.replicate n1.toNat false)), List.replicate n1.toNat false, q, X4, .box 2 [.t (ti a), .t (ti b)] :: .box 2 [.t (tbl (List.replicate n1.toNat false)), .t (tb q)] :: (E0 ++ [.box 2 [.t (ti a), .t (ti b)]]), by simp [ir65, ir65_c, e1001, hgd, h3, h4, k1001, k1003, tbs_replicate], c1004, .inl rfl, by simp; omega⟩
  | true =>
    cases b0 with
    | true =>
      obtain ⟨n1, X3, q, X4, h3, h4, c1004, k1001, k1002⟩ := hbad hX2 (by omega)
      simp [y2, yS] at e1001 e1002 h3 h4
      subst hW
      have k1003 : n1 ≤ 68719476736 := by omega
      exact ⟨a, b, .t (tbl (List.replicate n1.toNat false)), List.replicate n1.toNat false, q, X4, .box 2 [.t (ti a), .t (ti b)] :: .box 2 [.t (tbl (List.replicate n1.toNat false)), .t (tb q)] :: (E0 ++ [.box 2 [.t (ti a), .t (ti b)]]), by simp [ir65, ir65_c, e1001, e1002, hgd, h3, h4, k1001, k1003, tbs_replicate], c1004, .inl rfl, by simp; omega⟩
    | false =>
      have hgo := goodC_of hgd
      obtain ⟨m, rfl⟩ : ∃ m : Nat, a = m := ⟨a.toNat, by omega⟩
      have h4p := pow4 (a := m) (by omega)
      obtain ⟨n, X3, e1003, hX3, a3, b3⟩ := r43 hC P (Q ++ y2 :: yS :: (E0 ++ [W])) (by omega) hX2 8 (by omega)
      obtain ⟨X4, F, cd, h4, hX4, hcd⟩ := l65 hC P Q m b (by omega) (K := K + 100) (by omega) 0 1 (E0.length + 2) n.toNat X3 (y2 :: yS :: (E0 ++ [W])) 0 (by omega) (hX3.mono (by omega)) (by simp [hW]) (by omega)
      have hnn : ((n.toNat : Nat) : Int) = n := by omega
      rw [hnn] at h4
      obtain ⟨b5, X5, e1005, hX5⟩ := r42 hC P (Q ++ (y2 :: yS :: (E0 ++ [W] ++ F))) (by omega) hX4 6 (by omega)
      have h315 := r84 m b (by omega)
      have hw : IntKind.i64.wrap (2 * ((2 ^ (2 * m) : Nat) : Int)) = ((2 * 2 ^ (2 * m) : Nat) : Int) := by rw [w96 (by omega)]; omega
      obtain ⟨n6, X6, e1006, hX6, a6, b6⟩ := r43 hC P (Q ++ (y2 :: yS :: (E0 ++ [W] ++ F))) (by omega) hX5 ((2 * 2 ^ (2 * m) : Nat) : Int) (by omega)
      have h305 := r68 m b (by omega) (by omega) cd (by omega)
      have h305b := r68 m b (by omega) (by omega) n6.toNat (by omega)
      have hn6 : ((n6.toNat : Nat) : Int) = n6 := by omega
      rw [hn6] at h305b
      have ol := ovS_len cd 0 (2 * m)
      have ol2 := ovS_len n6.toNat 0 (2 * m)
      generalize ovS cd 0 (2 * m) = L1 at *
      generalize ovS n6.toNat 0 (2 * m) = L2 at *
      generalize (2 : Nat) * 2 ^ (2 * m) = M2 at *
      generalize (2 : Nat) ^ (2 * m) = M at *
      simp [y2, yS] at e1001 e1002 e1003 h4 e1005 e1006
      subst hW
      have c1005 := hX5.mono (K' := K + 1000) (by omega)
      have c1006 := hX6.mono (K' := K + 1000) (by omega)
      cases b5 with
      | false =>
        exact ⟨m, b, .ref (P.length + (Q.length + (E0.length + (F.length + 1) + 1 + 1) + 1)) 0 (2 * m), L1, decide (cd % 2 = 1), X5, .box 2 [.t (ti m), .t (ti b)] :: .box 2 [.ref (P.length + (Q.length + (E0.length + (F.length + 1) + 1 + 1) + 1)) 0 (2 * m), .t (tb (decide (cd % 2 = 1)))] :: (E0 ++ .box 2 [.t (ti m), .t (ti b)] :: (F ++ [.pure 1 (tbs L1)])), by simp [ir65, ir65_c, e1001, e1002, hgd, e1003, h4, e1005, h305], c1005, .inr ⟨E0.length + (F.length + 1) + 1 + 1, by rw [show L1.length = 2 * m by omega], by simp⟩, by omega⟩
      | true =>
        exact ⟨m, b, .ref (P.length + (Q.length + (E0.length + (F.length + 1) + 1 + 1) + 1)) 0 (2 * m), L2, decide (n6.toNat % 2 = 1), X6, .box 2 [.t (ti m), .t (ti b)] :: .box 2 [.ref (P.length + (Q.length + (E0.length + (F.length + 1) + 1 + 1) + 1)) 0 (2 * m), .t (tb (decide (n6.toNat % 2 = 1)))] :: (E0 ++ .box 2 [.t (ti m), .t (ti b)] :: (F ++ [.pure 1 (tbs L2)])), by simp [ir65, ir65_c, e1001, e1002, hgd, e1003, h4, e1005, h315, hw, e1006, h305b], c1006, .inr ⟨E0.length + (F.length + 1) + 1 + 1, by rw [show L2.length = 2 * m by omega], by simp⟩, by omega⟩
end Go.Proofs.Ytanlmanifpknoaa.Ev

namespace Go.Proofs.Ytanlmanifpknoaa.Ev
open Go
set_option linter.unusedVariables false
set_option linter.unusedSimpArgs false
set_option linter.unusedSectionVars false
attribute [local simp] til_getE til_length til_get ni_length ni_getE ni_get tbs_length
variable {C : T} {bs : List Int}
def RS (H : Heap) (v : V) (xs : List Bool) : Prop := (v = .t (tbl xs) ∧ H = []) ∨ (v = .ref 0 0 xs.length ∧ H = [.pure 1 (tbs xs)])
theorem r48 (hC : BL C bs) : ∃ a b xs q v H, ownFR env 48 [C] = some (.tup [.agg [.t (ti a), .t (ti b)], .agg [v, .t (tb q)]], H) ∧ RS H v xs ∧ xs.length ≤ 9 := by
  obtain ⟨a, b, v, xs, q, X', E, e, _, hv, hl⟩ := r65 hC [y2, yS] [] (by omega) (cur0 C)
  have h1 := hC.cells
  rw [ownF_ir e48 _ rfl]
  simp [y2, yS] at e
  rcases hv with rfl | ⟨k, rfl, hk⟩
  · exact ⟨a, b, xs, q, .t (tbl xs), [], by simp [ir48, ir48_c, e, h1], .inl ⟨rfl, rfl⟩, hl⟩
  · have g : ∀ x y z : Blk, (x :: y :: z :: E)[2 + (k + 1)]? = some (.pure 1 (tbs xs)) := fun x y z => by rw [show 2 + (k + 1) = k + 3 by omega]; simpa using hk
    simp at e
    exact ⟨a, b, xs, q, .ref 0 0 xs.length, [.pure 1 (tbs xs)], by simp [ir48, ir48_c, e, h1, hk, g], .inr ⟨rfl, rfl⟩, hl⟩
theorem r17 (hC : BL C bs) : ∃ a b xs q v H, ownFR env 17 [C] = some (.tup [.agg [.t (ti a), .t (ti b)], .agg [v, .t (tb q)]], H) ∧ RS H v xs ∧ xs.length ≤ 9 := by
  obtain ⟨a, b, xs, q, v, H, e, hv, hl⟩ := r48 hC
  rw [ownF_ir e17 _ rfl]
  rcases hv with ⟨rfl, rfl⟩ | ⟨rfl, rfl⟩
  · exact ⟨a, b, xs, q, .t (tbl xs), [], by simp [ir17, ir17_c, e], .inl ⟨rfl, rfl⟩, hl⟩
  · exact ⟨a, b, xs, q, .ref 0 0 xs.length, [.pure 1 (tbs xs)], by simp [ir17, ir17_c, e], .inr ⟨rfl, rfl⟩, hl⟩
def RL (H : Heap) (v : V) (l : List Int) : Prop := (v = .t .nil ∧ l = [] ∧ H = []) ∨ (v = .ref 0 0 l.length ∧ H = [.pure 1 (til l)])
theorem r30 (hC : BL C bs) : ∃ a l v H, ownFR env 30 [C] = some (.tup [.t (ti a), v], H) ∧ RL H v l ∧ l.length ≤ 1000 := by
  have h1 := hC.cells
  obtain ⟨b0, X1, e1001, hX1⟩ := r42 hC [] [] (by omega) (cur0 C) 12 (by omega)
  rw [ownF_ir e30 _ rfl]
  cases b0 with
  | true =>
    obtain ⟨x, X2, e1002, c1002, _⟩ := r70 hC [] [.froz 1 (til [-1, 0, 1, 4, 5])] (by omega) hX1 [-1, 0, 1, 4, 5] (by simp) (by simp)
    obtain ⟨X3, E3, v3, l1003, e1003, c1003, g3, b3⟩ := r66 hC [] [.froz 1 (til [-1, 0, 1, 4, 5])] 8 (by omega) (by omega) c1002
    simp [til, tl] at e1001 e1002 e1003
    rcases g3 with ⟨rfl, rfl⟩ | ⟨k, rfl, hk⟩
    · exact ⟨x, [], .t .nil, [], by simp [ir30, ir30_c, e1001, e1002, e1003, h1], .inl ⟨rfl, rfl, rfl⟩, by simp⟩
    · have g : ∀ x y : Blk, (x :: y :: E3)[1 + k + 1]? = some (.pure 1 (til l1003)) := fun x y => by rw [show 1 + k + 1 = k + 2 by omega]; simpa using hk
      simp at e1003
      exact ⟨x, l1003, .ref 0 0 l1003.length, [.pure 1 (til l1003)], by simp [ir30, ir30_c, e1001, e1002, e1003, h1, hk, g], .inr ⟨rfl, rfl⟩, by omega⟩
  | false =>
    obtain ⟨n, X2, e1002, c1002, a2, b2⟩ := r43 hC [] [] (by omega) hX1 4 (by omega)
    have hw : IntKind.i64.wrap (1 + n) = 1 + n := w96 (by omega)
    have hw2 : IntKind.i64.wrap (2 * (1 + n)) = 2 * (1 + n) := w96 (by omega)
    obtain ⟨X3, E3, v3, l1003, e1003, c1003, g3, b3⟩ := r66 hC [] [] (2 * (1 + n)).toNat (by omega) (by omega) c1002
    have hn : (((2 * (1 + n)).toNat : Nat) : Int) = 2 * (1 + n) := by omega
    rw [hn] at e1003
    simp at e1001 e1002 e1003
    rcases g3 with ⟨rfl, rfl⟩ | ⟨k, rfl, hk⟩
    · exact ⟨1 + n, [], .t .nil, [], by simp [ir30, ir30_c, e1001, e1002, e1003, h1, hw, hw2], .inl ⟨rfl, rfl, rfl⟩, by simp⟩
    · simp at e1003
      exact ⟨1 + n, l1003, .ref 0 0 l1003.length, [.pure 1 (til l1003)], by simp [ir30, ir30_c, e1001, e1002, e1003, h1, hw, hw2, hk], .inr ⟨rfl, rfl⟩, by omega⟩
end Go.Proofs.Ytanlmanifpknoaa.Ev

