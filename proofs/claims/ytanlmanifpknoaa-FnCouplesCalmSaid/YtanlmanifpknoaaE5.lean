/- The evaluator and what it gives of the functions, part 5. No conditions of ours: a law's row is in YtanlmanifpknoaaLFnCouplesCalm. -/
import Derived.Test.YtanlmanifpknoaaE4
namespace Go.Proofs.Ytanlmanifpknoaa.Ev
open Go
set_option linter.unusedVariables false
set_option linter.unusedSimpArgs false
set_option linter.unusedSectionVars false
attribute [local simp] til_getE til_length til_get ni_length ni_getE ni_get tbs_length
variable {C : T} {bs : List Int}
def RT (H : Heap) (v lv : V) (xs : List Bool) (l : List Int) : Prop :=
  (v = .t (tbl xs) ∧ lv = .t .nil ∧ l = [] ∧ H = []) ∨ (v = .t (tbl xs) ∧ lv = .ref 0 0 l.length ∧ H = [.pure 1 (til l)]) ∨
  (v = .ref 0 0 xs.length ∧ lv = .t .nil ∧ l = [] ∧ H = [.pure 1 (tbs xs)]) ∨ (v = .ref 0 0 xs.length ∧ lv = .ref 1 0 l.length ∧ H = [.pure 1 (tbs xs), .pure 1 (til l)])
theorem st_facts (a b : Int) (xs : List Bool) (q : Bool) (hx : xs.length ≤ 9) : ownR env 52 [.agg [ti a, ti b], .agg [tbl xs, tb q]] = some (.t (tb (stS a b xs q)), []) ∧
    (stS a b xs q = true → ∃ n : Nat, a = n ∧ n ≤ 4 ∧ ownR env 54 [.agg [tbl xs, tb q]] = some (.t (ti (cdN xs q : Nat)), []) ∧ ownR env 53 [.agg [ti a, ti b], ti (cdN xs q : Nat)] = some (.t (tb (clS xs)), []) ∧
      ∃ rows : List Nat, ownR env 55 [.agg [ti a, ti b], ti (cdN xs q : Nat)] = nR rows ∧ rows.length ≤ 255 ∧ ∀ x ∈ rows, 1 ≤ x ∧ x < 2 ^ 10) := by
  refine ⟨r52 a b xs q (by omega), fun h => ?_⟩
  obtain ⟨n, rfl, hg, hl, hq⟩ := stS_parts h
  have hgo := goodC_of hg
  have hlt := cdN_lt xs q
  rw [hl] at hlt
  have h5 := r53 n b (by omega) _ hlt
  rw [quS_eq n (by omega) xs q hl] at h5
  have h4 := pow4 (a := n) (by omega)
  refine ⟨n, rfl, by omega, r54 xs q (by omega), h5, _, r55 n b (by omega) _ hlt, rowsS_len n b _ (by omega), fun x hx => ?_⟩
  have := (rowsS_mem n b _ (by omega) x).1 hx
  omega
theorem r275t (hC : BL C bs) {X1 : Blk} {E : Heap} {a b : Int} {xs : List Bool} {q : Bool} (hl : xs.length ≤ 9) (e : den env 65 [.ptr 2 0 0] (y2 :: yS :: .box 3 [.t C, .t (ti 0), .t (.int .u64 0)] :: []) = some (.tup [.agg [.t (ti a), .t (ti b)], .agg [.t (tbl xs), .t (tb q)]], y2 :: yS :: X1 :: E)) (hX1 : CurX C 1000 X1) :
    ∃ l v lv H, ownFR env 28 [C] = some (.tup [.agg [.t (ti a), .t (ti b)], .agg [v, .t (tb q)], lv], H) ∧ RT H v lv xs l ∧ l.length ≤ 1000 := by
  have h1 := hC.cells
  obtain ⟨f1, f2⟩ := st_facts a b xs q hl
  have grp : ∀ {X2 : Blk}, CurX C 2000 X2 → ∃ X3 E3 v3 l1003, den env 66 [.ptr 2 0 0, .t (ti 8)] (y2 :: yS :: X2 :: (E ++ [.box 2 [.t (ti a), .t (ti b)], .box 2 [.t (tbl xs), .t (tb q)]])) = some (v3, y2 :: yS :: X3 :: (E ++ .box 2 [.t (ti a), .t (ti b)] :: .box 2 [.t (tbl xs), .t (tb q)] :: E3)) ∧ l1003.length ≤ 9 ∧ ((v3 = .t .nil ∧ l1003 = []) ∨ ∃ k, v3 = .ref (E.length + 2 + k + 3) 0 l1003.length ∧ ∀ x y : Blk, (x :: y :: E3)[2 + k]? = some (.pure 1 (til l1003))) := by
    intro X2 h2
    obtain ⟨X3, E3, v3, l1003, e1003, c1003, g3, b3⟩ := r66 hC [y2, yS] (E ++ [.box 2 [.t (ti a), .t (ti b)], .box 2 [.t (tbl xs), .t (tb q)]]) 8 (by omega) (by omega) h2
    simp at e1003
    refine ⟨X3, E3, v3, l1003, e1003, by omega, ?_⟩
    rcases g3 with g3 | ⟨k, rfl, hk⟩
    · exact .inl g3
    · exact .inr ⟨k, by simp; omega, fun x y => by rw [show 2 + k = k + 2 by omega]; simpa using hk⟩
  have c1001 := hX1.mono (K' := 2000) (by omega)
  rw [ownF_ir e28 _ rfl]
  simp [y2, yS] at e
  cases h3 : stS a b xs q with
  | false =>
    rw [h3] at f1
    obtain ⟨X3, E3, v3, l1003, e1003, b3, g3⟩ := grp c1001
    simp [y2, yS] at e1003
    rcases g3 with ⟨rfl, rfl⟩ | ⟨k, rfl, hk⟩
    · exact ⟨[], .t (tbl xs), .t .nil, [], by simp [ir28, ir28_c, e, f1, e1003, h1], .inl ⟨rfl, rfl, rfl, rfl⟩, by simp⟩
    · exact ⟨l1003, .t (tbl xs), .ref 0 0 l1003.length, [.pure 1 (til l1003)], by simp [ir28, ir28_c, e, f1, e1003, h1, hk], .inr (.inl ⟨rfl, rfl, rfl⟩), by omega⟩
  | true =>
    rw [h3] at f1
    obtain ⟨n, rfl, hn, f3, f4, rows, f5, f6, f7⟩ := f2 h3
    generalize cdN xs q = cd at *
    cases h4 : clS xs with
    | false =>
      rw [h4] at f4
      obtain ⟨X3, E3, v3, l1003, e1003, b3, g3⟩ := grp c1001
      simp [y2, yS] at e1003
      rcases g3 with ⟨rfl, rfl⟩ | ⟨k, rfl, hk⟩
      · exact ⟨[], .t (tbl xs), .t .nil, [], by simp [ir28, ir28_c, e, f1, f3, f4, e1003, h1], .inl ⟨rfl, rfl, rfl, rfl⟩, by simp⟩
      · exact ⟨l1003, .t (tbl xs), .ref 0 0 l1003.length, [.pure 1 (til l1003)], by simp [ir28, ir28_c, e, f1, f3, f4, e1003, h1, hk], .inr (.inl ⟨rfl, rfl, rfl⟩), by omega⟩
    | true =>
      rw [h4] at f4
      obtain ⟨b2, X2, e1002, hX2⟩ := r42 hC [y2, yS] (E ++ [.box 2 [.t (ti n), .t (ti b)], .box 2 [.t (tbl xs), .t (tb q)]]) (by omega) hX1 4 (by omega)
      have c1002 := hX2.mono (K' := 2000) (by omega)
      simp [y2, yS] at e1002
      cases b2 with
      | true =>
        obtain ⟨X3, E3, v3, l1003, e1003, b3, g3⟩ := grp c1002
        simp [y2, yS] at e1003
        rcases g3 with ⟨rfl, rfl⟩ | ⟨k, rfl, hk⟩
        · exact ⟨[], .t (tbl xs), .t .nil, [], by simp [ir28, ir28_c, e, f1, f3, f4, e1002, e1003, h1], .inl ⟨rfl, rfl, rfl, rfl⟩, by simp⟩
        · exact ⟨l1003, .t (tbl xs), .ref 0 0 l1003.length, [.pure 1 (til l1003)], by simp [ir28, ir28_c, e, f1, f3, f4, e1002, e1003, h1, hk], .inr (.inl ⟨rfl, rfl, rfl⟩), by omega⟩
      | false =>
        cases rows with
        | nil =>
          simp only [nR] at f5
          obtain ⟨X3, E3, v3, l1003, e1003, b3, g3⟩ := grp c1002
          simp [y2, yS] at e1003
          rcases g3 with ⟨rfl, rfl⟩ | ⟨k, rfl, hk⟩
          · exact ⟨[], .t (tbl xs), .t .nil, [], by simp [ir28, ir28_c, e, f1, f3, f4, f5, e1002, e1003, h1], .inl ⟨rfl, rfl, rfl, rfl⟩, by simp⟩
          · exact ⟨l1003, .t (tbl xs), .ref 0 0 l1003.length, [.pure 1 (til l1003)], by simp [ir28, ir28_c, e, f1, f3, f4, f5, e1002, e1003, h1, hk], .inr (.inl ⟨rfl, rfl, rfl⟩), by omega⟩
        | cons r rows =>
          rw [nR_ne (by simp)] at f5
          have hpos : 0 < (r :: rows).length := by simp
          generalize r :: rows = rr at *
          obtain ⟨m, X3, e1003, hX3, a3, b3⟩ := r43 hC [y2, yS] (E ++ [.box 2 [.t (ti n), .t (ti b)], .box 2 [.t (tbl xs), .t (tb q)], .pure 1 (til (ni rr))]) (by omega) hX2 rr.length (by omega)
          have hlt : m.toNat < rr.length := by omega
          have hlt2 : m < (rr.length : Int) := by omega
          have hx := f7 _ (List.getElem_mem hlt)
          have h298 := r56 rr[m.toNat] hx.2 hx.1
          have hg : rr[m.toNat]? = some rr[m.toNat] := by simp [hlt]
          have hbl : (bl rr[m.toNat] 0 10).length ≤ 10 := by
            unfold bl
            rw [List.length_map]
            exact Nat.le_trans (List.length_filter_le _ _) (by simp)
          generalize hG : rr[m.toNat] = G at *
          generalize bl G 0 10 = L at *
          simp [y2, yS] at e1003
          exact ⟨L, .t (tbl xs), .ref 0 0 L.length, [.pure 1 (til L)], by simp [ir28, ir28_c, e, f1, f3, f4, f5, e1002, e1003, h1, hpos, a3, hlt, hlt2, hg, hG, h298], .inr (.inl ⟨rfl, rfl, rfl⟩), by omega⟩
end Go.Proofs.Ytanlmanifpknoaa.Ev

namespace Go.Proofs.Ytanlmanifpknoaa.Ev
open Go
set_option linter.unusedVariables false
set_option linter.unusedSimpArgs false
set_option linter.unusedSectionVars false
attribute [local simp] til_getE til_length til_get ni_length ni_getE ni_get tbs_length
variable {C : T} {bs : List Int}
theorem r275r (hC : BL C bs) {X1 : Blk} {E : Heap} {k1000 : Nat} {a b : Int} {xs : List Bool} {q : Bool} (hl : xs.length ≤ 9) (e : den env 65 [.ptr 2 0 0] (y2 :: yS :: .box 3 [.t C, .t (ti 0), .t (.int .u64 0)] :: []) = some (.tup [.agg [.t (ti a), .t (ti b)], .agg [.ref (k1000 + 3) 0 xs.length, .t (tb q)]], y2 :: yS :: X1 :: E)) (hk0 : E[k1000]? = some (.pure 1 (tbs xs))) (hX1 : CurX C 1000 X1) :
    ∃ l v lv H, ownFR env 28 [C] = some (.tup [.agg [.t (ti a), .t (ti b)], .agg [v, .t (tb q)], lv], H) ∧ RT H v lv xs l ∧ l.length ≤ 1000 := by
  have h1 := hC.cells
  obtain ⟨f1, f2⟩ := st_facts a b xs q hl
  have hkl := (List.getElem?_eq_some_iff.1 hk0).1
  have htk : List.take xs.length (tbs xs) = tbs xs := List.take_of_length_le (by simp)
  have n1 : ∀ k, ¬ (E.length + 2 + k = k1000) := fun k => by omega
  have n2 : ¬ (E.length + 3 = k1000) := by omega
  have n3 : ∀ k, ¬ (k1000 = E.length + 2 + k) := fun k => by omega
  have n4 : ¬ (k1000 = E.length + 3) := by omega
  have g0 : ∀ F, (E ++ F)[k1000]? = some (.pure 1 (tbs xs)) := fun F => by rw [List.getElem?_append_left hkl]; exact hk0
  have i0 : ∀ F : Heap, (E ++ F)[E.length]? = F[0]? := fun F => by rw [List.getElem?_append_right (Nat.le_refl _), Nat.sub_self]
  have i1 : ∀ (F : Heap) (j : Nat), (E ++ F)[E.length + j]? = F[j]? := fun F j => by rw [List.getElem?_append_right (by omega)]; simp
  have grp : ∀ {X2 : Blk}, CurX C 2000 X2 → ∃ X3 E3 v3 l1003, den env 66 [.ptr 2 0 0, .t (ti 8)] (y2 :: yS :: X2 :: (E ++ [.box 2 [.t (ti a), .t (ti b)], .box 2 [.ref (k1000 + 3) 0 xs.length, .t (tb q)]])) = some (v3, y2 :: yS :: X3 :: (E ++ .box 2 [.t (ti a), .t (ti b)] :: .box 2 [.ref (k1000 + 3) 0 xs.length, .t (tb q)] :: E3)) ∧ l1003.length ≤ 9 ∧ ((v3 = .t .nil ∧ l1003 = []) ∨ ∃ k, v3 = .ref (E.length + 2 + k + 3) 0 l1003.length ∧ ∀ x y : Blk, (x :: y :: E3)[2 + k]? = some (.pure 1 (til l1003))) := by
    intro X2 h2
    obtain ⟨X3, E3, v3, l1003, e1003, c1003, g3, b3⟩ := r66 hC [y2, yS] (E ++ [.box 2 [.t (ti a), .t (ti b)], .box 2 [.ref (k1000 + 3) 0 xs.length, .t (tb q)]]) 8 (by omega) (by omega) h2
    simp at e1003
    refine ⟨X3, E3, v3, l1003, e1003, by omega, ?_⟩
    rcases g3 with g3 | ⟨k, rfl, hk⟩
    · exact .inl g3
    · exact .inr ⟨k, by simp; omega, fun x y => by rw [show 2 + k = k + 2 by omega]; simpa using hk⟩
  have c1001 := hX1.mono (K' := 2000) (by omega)
  rw [ownF_ir e28 _ rfl]
  simp [y2, yS] at e
  cases h3 : stS a b xs q with
  | false =>
    rw [h3] at f1
    obtain ⟨X3, E3, v3, l1003, e1003, b3, g3⟩ := grp c1001
    simp [y2, yS] at e1003
    rcases g3 with ⟨rfl, rfl⟩ | ⟨k, rfl, hk⟩
    · exact ⟨[], .ref 0 0 xs.length, .t .nil, [.pure 1 (tbs xs)], by simp [ir28, ir28_c, e, g0, htk, i0, i1, n1, n2, n3, n4, f1, e1003, h1], .inr (.inr (.inl ⟨rfl, rfl, rfl, rfl⟩)), by simp⟩
    · exact ⟨l1003, .ref 0 0 xs.length, .ref 1 0 l1003.length, [.pure 1 (tbs xs), .pure 1 (til l1003)], by simp [ir28, ir28_c, e, g0, htk, i0, i1, n1, n2, n3, n4, f1, e1003, h1, hk], .inr (.inr (.inr ⟨rfl, rfl, rfl⟩)), by omega⟩
  | true =>
    rw [h3] at f1
    obtain ⟨n, rfl, hn, f3, f4, rows, f5, f6, f7⟩ := f2 h3
    generalize cdN xs q = cd at *
    cases h4 : clS xs with
    | false =>
      rw [h4] at f4
      obtain ⟨X3, E3, v3, l1003, e1003, b3, g3⟩ := grp c1001
      simp [y2, yS] at e1003
      rcases g3 with ⟨rfl, rfl⟩ | ⟨k, rfl, hk⟩
      · exact ⟨[], .ref 0 0 xs.length, .t .nil, [.pure 1 (tbs xs)], by simp [ir28, ir28_c, e, g0, htk, i0, i1, n1, n2, n3, n4, f1, f3, f4, e1003, h1], .inr (.inr (.inl ⟨rfl, rfl, rfl, rfl⟩)), by simp⟩
      · exact ⟨l1003, .ref 0 0 xs.length, .ref 1 0 l1003.length, [.pure 1 (tbs xs), .pure 1 (til l1003)], by simp [ir28, ir28_c, e, g0, htk, i0, i1, n1, n2, n3, n4, f1, f3, f4, e1003, h1, hk], .inr (.inr (.inr ⟨rfl, rfl, rfl⟩)), by omega⟩
    | true =>
      rw [h4] at f4
      obtain ⟨b2, X2, e1002, hX2⟩ := r42 hC [y2, yS] (E ++ [.box 2 [.t (ti n), .t (ti b)], .box 2 [.ref (k1000 + 3) 0 xs.length, .t (tb q)]]) (by omega) hX1 4 (by omega)
      have c1002 := hX2.mono (K' := 2000) (by omega)
      simp [y2, yS] at e1002
      cases b2 with
      | true =>
        obtain ⟨X3, E3, v3, l1003, e1003, b3, g3⟩ := grp c1002
        simp [y2, yS] at e1003
        rcases g3 with ⟨rfl, rfl⟩ | ⟨k, rfl, hk⟩
        · exact ⟨[], .ref 0 0 xs.length, .t .nil, [.pure 1 (tbs xs)], by simp [ir28, ir28_c, e, g0, htk, i0, i1, n1, n2, n3, n4, f1, f3, f4, e1002, e1003, h1], .inr (.inr (.inl ⟨rfl, rfl, rfl, rfl⟩)), by simp⟩
        · exact ⟨l1003, .ref 0 0 xs.length, .ref 1 0 l1003.length, [.pure 1 (tbs xs), .pure 1 (til l1003)], by simp [ir28, ir28_c, e, g0, htk, i0, i1, n1, n2, n3, n4, f1, f3, f4, e1002, e1003, h1, hk], .inr (.inr (.inr ⟨rfl, rfl, rfl⟩)), by omega⟩
      | false =>
        cases rows with
        | nil =>
          simp only [nR] at f5
          obtain ⟨X3, E3, v3, l1003, e1003, b3, g3⟩ := grp c1002
          simp [y2, yS] at e1003
          rcases g3 with ⟨rfl, rfl⟩ | ⟨k, rfl, hk⟩
          · exact ⟨[], .ref 0 0 xs.length, .t .nil, [.pure 1 (tbs xs)], by simp [ir28, ir28_c, e, g0, htk, i0, i1, n1, n2, n3, n4, f1, f3, f4, f5, e1002, e1003, h1], .inr (.inr (.inl ⟨rfl, rfl, rfl, rfl⟩)), by simp⟩
          · exact ⟨l1003, .ref 0 0 xs.length, .ref 1 0 l1003.length, [.pure 1 (tbs xs), .pure 1 (til l1003)], by simp [ir28, ir28_c, e, g0, htk, i0, i1, n1, n2, n3, n4, f1, f3, f4, f5, e1002, e1003, h1, hk], .inr (.inr (.inr ⟨rfl, rfl, rfl⟩)), by omega⟩
        | cons r rows =>
          rw [nR_ne (by simp)] at f5
          have hpos : 0 < (r :: rows).length := by simp
          generalize r :: rows = rr at *
          obtain ⟨m, X3, e1003, hX3, a3, b3⟩ := r43 hC [y2, yS] (E ++ [.box 2 [.t (ti n), .t (ti b)], .box 2 [.ref (k1000 + 3) 0 xs.length, .t (tb q)], .pure 1 (til (ni rr))]) (by omega) hX2 rr.length (by omega)
          have hlt : m.toNat < rr.length := by omega
          have hlt2 : m < (rr.length : Int) := by omega
          have hx := f7 _ (List.getElem_mem hlt)
          have h298 := r56 rr[m.toNat] hx.2 hx.1
          have hg : rr[m.toNat]? = some rr[m.toNat] := by simp [hlt]
          have hbl : (bl rr[m.toNat] 0 10).length ≤ 10 := by
            unfold bl
            rw [List.length_map]
            exact Nat.le_trans (List.length_filter_le _ _) (by simp)
          generalize hG : rr[m.toNat] = G at *
          generalize bl G 0 10 = L at *
          simp [y2, yS] at e1003
          exact ⟨L, .ref 0 0 xs.length, .ref 1 0 L.length, [.pure 1 (tbs xs), .pure 1 (til L)], by simp [ir28, ir28_c, e, g0, htk, i0, i1, n1, n2, n3, n4, f1, f3, f4, f5, e1002, e1003, h1, hpos, a3, hlt, hlt2, hg, hG, h298], .inr (.inr (.inr ⟨rfl, rfl, rfl⟩)), by omega⟩
theorem r28 (hC : BL C bs) : ∃ a b xs q l v lv H, ownFR env 28 [C] = some (.tup [.agg [.t (ti a), .t (ti b)], .agg [v, .t (tb q)], lv], H) ∧ RT H v lv xs l ∧ xs.length ≤ 9 ∧ l.length ≤ 1000 := by
  obtain ⟨a, b, v, xs, q, X', E, e, hX, hv, hl⟩ := r65 hC [y2, yS] [] (by omega) (cur0 C)
  rcases hv with rfl | ⟨k, rfl, hk⟩
  · obtain ⟨l, v, lv, H, h1, h2, h3⟩ := r275t hC hl e (hX.mono (by omega))
    exact ⟨a, b, xs, q, l, v, lv, H, h1, h2, hl, h3⟩
  · rw [show ([y2, yS] : Heap).length + (([] : Heap).length + k + 1) = k + 3 by simp; omega] at e
    obtain ⟨l, v, lv, H, h1, h2, h3⟩ := r275r hC hl e hk (hX.mono (by omega))
    exact ⟨a, b, xs, q, l, v, lv, H, h1, h2, hl, h3⟩
end Go.Proofs.Ytanlmanifpknoaa.Ev

namespace Go.Proofs.Ytanlmanifpknoaa.Ev
open Go
set_option linter.unusedVariables false
set_option linter.unusedSimpArgs false
set_option linter.unusedSectionVars false
attribute [local simp] til_getE til_length til_get til_snoc take_snoc til_take tlv_getE tlv_length tlv_take til_set
variable {C : T} {bs : List Int}
end Go.Proofs.Ytanlmanifpknoaa.Ev

namespace Go.Proofs.Ytanlmanifpknoaa.Ev
open Go
set_option linter.unusedVariables false
set_option linter.unusedSimpArgs false
set_option linter.unusedSectionVars false
attribute [local simp] til_getE til_length til_get til_snoc take_snoc til_take tlv_getE tlv_length tlv_take til_set
variable {C : T} {bs : List Int}
end Go.Proofs.Ytanlmanifpknoaa.Ev

namespace Go.Proofs.Ytanlmanifpknoaa.Ev
open Go
set_option linter.unusedVariables false
set_option linter.unusedSimpArgs false
set_option linter.unusedSectionVars false

variable {a1 b1 c1001 a2 b2 c1002 a3 b3 c1003 : Int} {X1 G1 X2 Z : T} {p1001 t1001 p1002 : Int} {fr : Fr} {H : Heap}
end Go.Proofs.Ytanlmanifpknoaa.Ev

namespace Go.Proofs.Ytanlmanifpknoaa.Ev
open Go
set_option linter.unusedVariables false
set_option linter.unusedSimpArgs false
set_option linter.unusedSectionVars false
attribute [local simp] til_getE til_length til_get til_drop til_take til_snoc til_fold take_snoc til_set
variable {C : T} {bs : List Int} {fr : Fr} {H : Heap}
end Go.Proofs.Ytanlmanifpknoaa.Ev

namespace Go.Proofs.Ytanlmanifpknoaa.Ev
open Go
set_option linter.unusedVariables false
set_option linter.unusedSimpArgs false
set_option linter.unusedSectionVars false
set_option maxRecDepth 20000
set_option maxHeartbeats 4000000
attribute [local simp] til_getE til_length til_get tbs_length tll_length tll_getE tll_get
variable {C : T} {bs : List Int}
structure S9 (P : Heap) (a b : Int) (xs : List Bool) (q : Bool) (X : T) (Ls Lt : List (Nat × Blk)) (sv lv : V) (fr : Fr) : Prop where
  f25 : fr.get 25 = .ptr P.length 0 0
  f26 : fr.get 26 = .ptr (P.length + 1) 0 0
  f27 : fr.get 27 = lv
  s : ∀ R, rd (P ++ R) 5 sv = some (tbl xs, Ls)
  t : ∀ R, rd (P ++ R) 6 lv = some (X, Lt)
  k1002 : keep [26, 27, 28, 33, 34, 35, 39, 40, 275, 276, 277] fr = [(26, .ptr (P.length + 1) 0 0), (27, lv)]
  k1004 : keep [33, 34, 43, 302, 303, 304] fr = []
theorem p4_9 (hC : BL C bs) {fr : Fr} (h1 : fr.get 1 = .t C) (hk2 : keep [26, 27, 28, 33, 34, 35, 39, 40, 275, 276, 277] fr = []) (hk4 : keep [33, 34, 43, 302, 303, 304] fr = []) (P : Heap) :
    ∃ (a b : Int) (xs : List Bool) (q : Bool) (l : List Int) (sv lv : V) (Z : Heap) (X : T) (Ls Lt : List (Nat × Blk)) (fr' : Fr), execD env (nth 9 ir4_c) (fr, P) = some (.norm, fr', (P ++ Z) ++ [.box 2 [.t (ti a), .t (ti b)], .box 2 [sv, .t (tb q)]]) ∧
      S9 (P ++ Z) a b xs q X Ls Lt sv lv fr' ∧ fr'.get 1 = .t C ∧ LN X l ∧ xs.length ≤ 9 ∧ l.length ≤ 1000 ∧
      ((sv = .t (tbl xs) ∧ lv = .t .nil ∧ l = [] ∧ Z = []) ∨ (sv = .t (tbl xs) ∧ lv = .ref P.length 0 l.length ∧ Z = [.pure 1 (til l)]) ∨
        (sv = .ref P.length 0 xs.length ∧ lv = .t .nil ∧ l = [] ∧ Z = [.pure 1 (tbs xs)]) ∨ (sv = .ref P.length 0 xs.length ∧ lv = .ref (P.length + 1) 0 l.length ∧ Z = [.pure 1 (tbs xs), .pure 1 (til l)])) := by
  obtain ⟨a, b, xs, q, l, v, lv, H, e, hv, hx, hl⟩ := r28 hC
  have htx : List.take xs.length (tbs xs) = tbs xs := List.take_of_length_le (by simp)
  have htl : List.take l.length (til l) = til l := List.take_of_length_le (by simp)
  rcases hv with ⟨rfl, rfl, rfl, rfl⟩ | ⟨rfl, rfl, rfl⟩ | ⟨rfl, rfl, rfl, rfl⟩ | ⟨rfl, rfl, rfl⟩
  · refine ⟨a, b, xs, q, [], .t (tbl xs), .t .nil, [], .nil, [], [], _, (by simp [nth, rst, ir4_c, h1, e, Fr.get_put]; exact rfl), ⟨?_, ?_, ?_, ?_, ?_, ?_, ?_⟩, ?_, .inl ⟨rfl, rfl⟩, hx, by simp, .inl ⟨rfl, rfl, rfl, rfl⟩⟩ <;> simp [Fr.get_put, kput, hk2, hk4, h1, Fr.put]
  · refine ⟨a, b, xs, q, l, .t (tbl xs), .ref P.length 0 l.length, [.pure 1 (til l)], tl l, [], [(P.length, .froz 1 (til l))], _, (by simp [nth, rst, ir4_c, h1, e, Fr.get_put]; exact rfl), ⟨?_, ?_, ?_, ?_, ?_, ?_, ?_⟩, ?_, LN.of l, hx, hl, .inr (.inl ⟨rfl, rfl, rfl⟩)⟩ <;> simp [Fr.get_put, kput, hk2, hk4, h1, Fr.put, htl]
  · refine ⟨a, b, xs, q, [], .ref P.length 0 xs.length, .t .nil, [.pure 1 (tbs xs)], .nil, [(P.length, .froz 1 (tbs xs))], [], _, (by simp [nth, rst, ir4_c, h1, e, Fr.get_put]; exact rfl), ⟨?_, ?_, ?_, ?_, ?_, ?_, ?_⟩, ?_, .inl ⟨rfl, rfl⟩, hx, by simp, .inr (.inr (.inl ⟨rfl, rfl, rfl, rfl⟩))⟩ <;> simp [Fr.get_put, kput, hk2, hk4, h1, Fr.put, htx]
  · refine ⟨a, b, xs, q, l, .ref P.length 0 xs.length, .ref (P.length + 1) 0 l.length, [.pure 1 (tbs xs), .pure 1 (til l)], tl l, [(P.length, .froz 1 (tbs xs))], [(P.length + 1, .froz 1 (til l))], _, (by simp [nth, rst, ir4_c, h1, e, Fr.get_put]; exact rfl), ⟨?_, ?_, ?_, ?_, ?_, ?_, ?_⟩, ?_, LN.of l, hx, hl, .inr (.inr (.inr ⟨rfl, rfl, rfl⟩))⟩ <;> simp [Fr.get_put, kput, hk2, hk4, h1, Fr.put, htx, htl]
end Go.Proofs.Ytanlmanifpknoaa.Ev

namespace Go.Proofs.Ytanlmanifpknoaa.Ev
open Go
set_option linter.unusedVariables false
set_option linter.unusedSimpArgs false
set_option linter.unusedSectionVars false
set_option maxRecDepth 20000
set_option maxHeartbeats 4000000
attribute [local simp] til_getE til_length til_get tbs_length tll_length tll_getE tll_get
def K2 (fr : Fr) : Prop := keep [26, 27, 28, 33, 34, 35, 39, 40, 275, 276, 277] fr = [] ∧ keep [33, 34, 43, 302, 303, 304] fr = []
theorem row_facts {a b : Int} {xs : List Bool} {q : Bool} (hl : xs.length ≤ 9) (hok : roOk a b xs q = true) {g : List Int} (hg : g ∈ rowsP b xs q) : ∃ L : List Bool, L.length = xs.length ∧
    ownR env 24 [.agg [ti a, ti b], .agg [tbl xs, tb q], tl g] = some (.tup [.agg [.ref 0 0 xs.length, .t (tb (!q))], .t (tb true)], [.pure 1 (tbs L)]) ∧
    ownR env 20 [.agg [ti a, ti b], .agg [tbl L, tb (!q)]] = some (.tup [.t (tb true), .t (tb true)], []) ∧
    ownR env 25 [ti a, tl g] = some (.tup [.t (tb true), .t (tb true)], []) ∧
    ownR env 24 [.agg [ti a, ti b], .agg [tbl L, tb (!q)], tl g] = some (.tup [.agg [.ref 0 0 xs.length, .t (tb q)], .t (tb true)], [.pure 1 (tbs xs)]) ∧
    ownR env 26 [.agg [tbl xs, tb q], .agg [tbl xs, tb q]] = some (.t (tb true), []) ∧ 1 ≤ (g.length : Int) ∧ (g.length : Int) ≤ b ∧ g.length ≤ 10 := by
  obtain ⟨n, rfl, hgd, hx, hq, hc, hs⟩ := roOk_parts hok
  have hgo := goodC_of hgd
  have hrow := (rowsP_mem n b xs q hx g).1 hg
  obtain ⟨k1001, k1002, k1003⟩ := row_back hs hc hrow
  have hp := rowS_parts hrow
  have hok2 : roOk n b (mvB (!q) g xs) (!q) = true := by unfold roOk; rw [k1001, hp.2.2.2.2]; rfl
  have e1001 := r24 n b xs (by omega) q (tl g) g (LN.of g)
  have e1002 := r20 n b (mvB (!q) g xs) (by rw [mvB_length]; omega) (!q)
  have e1003 := r25 n (tl g) g (LN.of g) (by omega)
  have e1004 := r24 n b (mvB (!q) g xs) (by rw [mvB_length]; omega) (!q) (tl g) g (LN.of g)
  have e1005 := r26 (tbl xs) (tbl xs) xs (.inr rfl) (.inr rfl) (by omega) q
  unfold rbR rbOk at e1001 e1004
  rw [hok, hrow] at e1001
  rw [hok2, k1002, k1003, Bool.not_not, mvB_length] at e1004
  rw [hok2, k1001] at e1002
  have hgk : gOk n g = true := by
    unfold gOk; rw [(inB_iff _ _ _).2 (by omega), hp.2.1]; rfl
  rw [hgk, hp.2.2.2.1] at e1003
  exact ⟨mvB (!q) g xs, mvB_length _ _ _, e1001, e1002, e1003, e1004, e1005, hp.1.1, hp.1.2, by omega⟩
theorem rowsP_len {b : Int} {xs : List Bool} (hl : xs.length ≤ 9) (q : Bool) : (rowsP b xs q).length ≤ 1000 := by
  have h7 := grps_len b (sd q 0 xs) []
  have h8 := sd_len q xs 0
  have h9 : 2 ^ (sd q 0 xs).length ≤ 2 ^ 9 := Nat.pow_le_pow_right (by decide) (by omega)
  have h10 : (rowsP b xs q).length ≤ (grps b (sd q 0 xs) []).length := List.length_filter_le _ _
  omega
theorem l253T (C2 : T) {a b : Int} {xs : List Bool} {q : Bool} (hl : xs.length ≤ 9) (hok : roOk a b xs q = true) : ∀ (d i : Nat), i + d = (rowsP b xs q).length →
    ∃ e H', K2 e ∧ loopF env true [1, 5, 6, 7, 123, 124, 125] ir4_b3 ([(1, .t C2), (5, .ptr 0 0 0), (6, .ptr 1 0 0), (7, .ref 2 0 (rowsP b xs q).length), (123, .ref 2 0 (rowsP b xs q).length), (124, .t (ti (rowsP b xs q).length)), (125, .t (ti i))], [.box 2 [.t (ti a), .t (ti b)], .box 2 [.t (tbl xs), .t (tb q)], .pure 1 (tll (rowsP b xs q))]) =
      some (.exit 0, (1, .t C2) :: e, H')
  | 0, i, hi => by
    rw [x4_3]
    have : i = (rowsP b xs q).length := by omega
    subst this
    refine ⟨_, _, ?_, by simp [ir4_d3]; exact ⟨rfl, rfl⟩⟩
    simp [K2, keep]
  | d + 1, i, hi => by
    obtain ⟨e, H', hK, ih⟩ := l253T C2 hl hok d (i + 1) (by omega)
    refine ⟨e, H', hK, ?_⟩
    have hlt : i < (rowsP b xs q).length := by omega
    have hRl := rowsP_len (b := b) hl q
    have hw : IntKind.i64.wrap ((i : Int) + 1) = (i : Int) + 1 := w96 (by omega)
    obtain ⟨L, hL, e1001, e1002, e1003, e1004, e1005, e1006, e1007, e1008⟩ := row_facts hl hok (List.getElem_mem hlt)
    have hpr := rowsP_pair b xs q
    rw [List.pairwise_iff_getElem] at hpr
    have htx : List.take xs.length (tbs xs) = tbs xs := List.take_of_length_le (by simp)
    have htL : List.take xs.length (tbs L) = tbs L := List.take_of_length_le (by simp; omega)
    rw [x4_3]
    rcases Nat.eq_zero_or_pos i with h0 | h0
    · subst h0
      generalize hg : (rowsP b xs q)[0] = g at *
      have c1001 : ¬ ((g.length : Int) < 1) := by omega
      have c1002 : ¬ (b < (g.length : Int)) := by omega
      have c1003 : ¬ (g.length = 0) := by omega
      have c1004 : ¬ (g = []) := fun h => by rw [h] at c1003; simp at c1003
      generalize rowsP b xs q = R at *
      simp at ih hw
      simp [ir4_d3, hlt, hg, hw, e1001, e1002, e1003, e1004, e1005, htx, htL, c1001, c1002, c1003, c1004, ih]
    · obtain ⟨j, hj⟩ : ∃ j, j + 1 = i := ⟨i - 1, by omega⟩
      have hlt2 : j < (rowsP b xs q).length := by omega
      have hb : ownR env 27 [tl ((rowsP b xs q)[j]), tl ((rowsP b xs q)[i])] = some (.t (tb true), []) := by
        have h2 := hpr j i (by omega) hlt (by omega)
        obtain ⟨_, _, _, _, _, _, _, _, _, e1009⟩ := row_facts hl hok (List.getElem_mem hlt2)
        rw [← h2]
        exact r27 _ _ (by omega)
      have hw2 : IntKind.i64.wrap ((i : Int) - 1) = (j : Int) := by rw [w96 (by omega)]; omega
      generalize hg : (rowsP b xs q)[i] = g at *
      generalize hgj : (rowsP b xs q)[j] = gj at *
      have c1001 : ¬ ((g.length : Int) < 1) := by omega
      have c1002 : ¬ (b < (g.length : Int)) := by omega
      have c1003 : ¬ (g.length = 0) := by omega
      have c1004 : ¬ (g = []) := fun h => by rw [h] at c1003; simp at c1003
      have c1005 : (0 : Int) < (i : Int) := by omega
      generalize rowsP b xs q = R at *
      clear hj
      simp at ih
      simp [ir4_d3, hlt, hg, hgj, hw, hw2, hlt2, e1001, e1002, e1003, e1004, e1005, htx, htL, c1001, c1002, c1003, c1004, c1005, h0, hb, ih]
end Go.Proofs.Ytanlmanifpknoaa.Ev

namespace Go.Proofs.Ytanlmanifpknoaa.Ev
open Go
set_option linter.unusedVariables false
set_option linter.unusedSimpArgs false
set_option linter.unusedSectionVars false
set_option maxRecDepth 20000
set_option maxHeartbeats 4000000
attribute [local simp] til_getE til_length til_get tbs_length tll_length tll_getE tll_get
variable {C : T} {bs : List Int}
theorem cut253b : rst 10 ir4_c = .seq (nth 10 ir4_c) (.seq (nth 11 ir4_c) (.seq (nth 12 ir4_c) (.seq (nth 13 ir4_c) (.seq (nth 14 ir4_c) (.seq (nth 15 ir4_c) (rst 16 ir4_c)))))) := rfl
structure G4 (m : Int) (gl : List Int) (gv : V) (fr : Fr) (H : Heap) : Prop where
  f33 : fr.get 33 = gv
  f34 : fr.get 34 = .t (tb (gOk m gl && calmI gl gl))
  f35 : fr.get 35 = .t (tb (gOk m gl))
  k1004 : keep [33, 34, 43, 302, 303, 304] fr = [(33, gv), (34, .t (tb (gOk m gl && calmI gl gl)))]
  v : (gv = .t .nil ∧ gl = []) ∨ ∃ i, gv = .ref i 0 gl.length ∧ H[i]? = some (.pure 1 (til gl))
  l : gl.length ≤ 1000
theorem p4_15n (hC : BL C bs) {P : Heap} {a b : Int} {xs : List Bool} {q : Bool} {X : T} {l : List Int} {Ls Lt : List (Nat × Blk)} {sv lv : V} {fr : Fr} (hS : S9 P a b xs q X Ls Lt sv lv fr) (h1 : fr.get 1 = .t C) (hX : LN X l) (hx : xs.length ≤ 9) (hl : l.length ≤ 1000) (hok : rbOk a b xs q l = false) :
    ∃ fr2 H2 m gl gv, execD env (rst 10 ir4_c) (fr, P ++ [.box 2 [.t (ti a), .t (ti b)], .box 2 [sv, .t (tb q)]]) = execD env (rst 16 ir4_c) (fr2, H2) ∧ fr2.get 29 = .t (tb false) ∧ G4 m gl gv fr2 H2 := by
  obtain ⟨f25, f26, f27, hs, ht, k1002, k1004⟩ := hS
  have e1001 := r24 a b xs (by omega) q X l hX
  have e1002 := r29 a b xs (by omega) q X l hX
  unfold rbR at e1001 e1002
  rw [hok] at e1001 e1002
  simp only [Bool.false_eq_true, if_false] at e1001 e1002
  obtain ⟨m, gl, gv, H, e1003, hv, hgl⟩ := r30 hC
  have e1004 := r26 .nil .nil [] (.inl ⟨rfl, rfl⟩) (.inl ⟨rfl, rfl⟩) (by simp) false
  rw [cut253b]
  generalize rst 16 ir4_c = TL
  rcases hv with ⟨rfl, rfl, rfl⟩ | ⟨rfl, rfl⟩
  · have e1005 := r25 m .nil [] (.inl ⟨rfl, rfl⟩) (by simp)
    have e1006 := r31 m .nil [] (.inl ⟨rfl, rfl⟩) (by simp)
    generalize h7 : gOk m [] = G at *
    generalize h8 : calmI [] [] = K at *
    refine ⟨_, _, m, [], .t .nil, (by simp [nth, rst, ir4_c, h1, f25, f26, f27, hs, ht, e1001, e1002, e1003, e1004, e1005, e1006, Fr.get_put]; exact rfl), ?_, ⟨?_, ?_, ?_, ?_, .inl ⟨rfl, rfl⟩, by simp⟩⟩ <;> simp [Fr.get_put, kput, k1004, Fr.put, h7, h8]
  · have htg : List.take gl.length (til gl) = til gl := List.take_of_length_le (by simp)
    have e1005 := r25 m (tl gl) gl (LN.of gl) (by omega)
    have e1006 := r31 m (tl gl) gl (LN.of gl) (by omega)
    generalize h7 : gOk m gl = G at *
    generalize h8 : calmI gl gl = K at *
    refine ⟨_, _, m, gl, _, (by simp [nth, rst, ir4_c, h1, f25, f26, f27, hs, ht, e1001, e1002, e1003, e1004, e1005, e1006, htg, Fr.get_put]; exact rfl), ?_, ⟨by simp [Fr.get_put], ?_, ?_, ?_, .inr ⟨P.length + 4, rfl, ?_⟩, hgl⟩⟩ <;> simp [Fr.get_put, kput, k1004, Fr.put, h7, h8]
end Go.Proofs.Ytanlmanifpknoaa.Ev

namespace Go.Proofs.Ytanlmanifpknoaa.Ev
open Go
set_option linter.unusedVariables false
set_option linter.unusedSimpArgs false
set_option linter.unusedSectionVars false
set_option maxRecDepth 20000
set_option maxHeartbeats 4000000
attribute [local simp] til_getE til_length til_get tbs_length tll_length tll_getE tll_get
variable {C : T} {bs : List Int}
structure S16 (P : Heap) (sv lv : V) (m : Int) (gl : List Int) (gv : V) (fr : Fr) : Prop where
  f25 : fr.get 25 = .ptr P.length 0 0
  f26 : fr.get 26 = .ptr (P.length + 1) 0 0
  f27 : fr.get 27 = lv
  f28 : fr.get 28 = .ptr (P.length + 3) 0 0
  f29 : fr.get 29 = .t (tb true)
  k1002 : keep [26, 27, 28, 33, 34, 35, 39, 40, 275, 276, 277] fr = [(26, .ptr (P.length + 1) 0 0), (27, lv), (28, .ptr (P.length + 3) 0 0), (33, gv), (34, .t (tb (gOk m gl && calmI gl gl))), (35, .t (tb (gOk m gl)))]
theorem p4_15y (hC : BL C bs) {P : Heap} {a b : Int} {xs : List Bool} {q : Bool} {X : T} {l : List Int} {Ls Lt : List (Nat × Blk)} {sv lv : V} {fr : Fr} (hS : S9 P a b xs q X Ls Lt sv lv fr) (h1 : fr.get 1 = .t C) (hX : LN X l) (hx : xs.length ≤ 9) (hl : l.length ≤ 1000) (hok : rbOk a b xs q l = true) :
    ∃ fr2 Z2 m gl gv, ∃ L : List Bool, L.length = xs.length ∧ execD env (rst 10 ir4_c) (fr, P ++ [.box 2 [.t (ti a), .t (ti b)], .box 2 [sv, .t (tb q)]]) = execD env (rst 16 ir4_c) (fr2, P ++ (.box 2 [.t (ti a), .t (ti b)] :: .box 2 [sv, .t (tb q)] :: .pure 1 (tbs L) :: .box 2 [.ref (P.length + 2) 0 xs.length, .t (tb (!q))] :: .pure 1 (tbs L) :: .box 2 [.ref (P.length + 4) 0 xs.length, .t (tb (!q))] :: Z2)) ∧ S16 P sv lv m gl gv fr2 ∧ gl.length ≤ 1000 ∧ ((gv = .t .nil ∧ gl = [] ∧ Z2 = []) ∨ (gv = .ref (P.length + 6) 0 gl.length ∧ Z2 = [.pure 1 (til gl)])) := by
  obtain ⟨f25, f26, f27, hs, ht, k1002, k1004⟩ := hS
  have e1001 := r24 a b xs (by omega) q X l hX
  have e1002 := r29 a b xs (by omega) q X l hX
  unfold rbR at e1001 e1002
  rw [hok] at e1001 e1002
  rw [if_pos rfl] at e1001 e1002
  have hL := mvB_length (!q) l xs
  have e1004 := r26 (tbl (mvB (!q) l xs)) (tbl (mvB (!q) l xs)) _ (.inr rfl) (.inr rfl) (by omega) (!q)
  have htL : List.take xs.length (tbs (mvB (!q) l xs)) = tbs (mvB (!q) l xs) := List.take_of_length_le (by simp; omega)
  generalize mvB (!q) l xs = L at *
  obtain ⟨m, gl, gv, H, e1003, hv, hgl⟩ := r30 hC
  rw [cut253b]
  generalize rst 16 ir4_c = TL
  rcases hv with ⟨rfl, rfl, rfl⟩ | ⟨rfl, rfl⟩
  · have e1005 := r25 m .nil [] (.inl ⟨rfl, rfl⟩) (by simp)
    have e1006 := r31 m .nil [] (.inl ⟨rfl, rfl⟩) (by simp)
    generalize h7 : gOk m [] = G at *
    generalize h8 : calmI [] [] = K at *
    refine ⟨_, [], m, [], .t .nil, L, hL, (by simp [nth, rst, ir4_c, h1, f25, f26, f27, hs, ht, e1001, e1002, e1003, e1004, e1005, e1006, htL, Fr.get_put]; exact rfl), ⟨?_, ?_, ?_, ?_, ?_, ?_⟩, by simp, .inl ⟨rfl, rfl, rfl⟩⟩ <;> simp [Fr.get_put, kput, k1002, Fr.put, h7, h8, f25, f26, f27]
  · have htg : List.take gl.length (til gl) = til gl := List.take_of_length_le (by simp)
    have e1005 := r25 m (tl gl) gl (LN.of gl) (by omega)
    have e1006 := r31 m (tl gl) gl (LN.of gl) (by omega)
    generalize h7 : gOk m gl = G at *
    generalize h8 : calmI gl gl = K at *
    refine ⟨_, [.pure 1 (til gl)], m, gl, .ref (P.length + 6) 0 gl.length, L, hL, (by simp [nth, rst, ir4_c, h1, f25, f26, f27, hs, ht, e1001, e1002, e1003, e1004, e1005, e1006, htg, htL, Fr.get_put]; exact rfl), ⟨?_, ?_, ?_, ?_, ?_, ?_⟩, hgl, .inr ⟨rfl, rfl⟩⟩ <;> simp [Fr.get_put, kput, k1002, Fr.put, h7, h8, f25, f26, f27]
end Go.Proofs.Ytanlmanifpknoaa.Ev

namespace Go.Proofs.Ytanlmanifpknoaa.Ev
open Go
set_option linter.unusedVariables false
set_option linter.unusedSimpArgs false
set_option linter.unusedSectionVars false
set_option maxRecDepth 20000
set_option maxHeartbeats 4000000
attribute [local simp] til_getE til_length til_get tbs_length tll_length tll_getE tll_get
theorem l253fTn (R : List (List Int)) (hR : R.length ≤ 1000) (hg : ∀ g ∈ R, g.length ≤ 100) (l : List Int) (xs L : List Bool) (hL : L.length = xs.length) (gl : List Int) (q u w : Bool) : ∀ (d i : Nat) (f : Bool), i + d = R.length →
    ∃ e, keep [33, 34, 43, 302, 303, 304] e = [] ∧ loopF env true [26, 27, 28, 33, 34, 35, 39, 40, 275, 276, 277] ir4_b2 ((26, .ptr 0 0 0) :: (27, .ref 1 0 l.length) :: (28, .ptr 2 0 0) :: (33, .t .nil) :: (34, .t (tb u)) :: (35, .t (tb w)) :: (39, .t (tb true)) :: (40, .t (tb f)) :: (275, .ref 3 0 R.length) :: (276, .t (ti R.length)) :: (277, .t (ti i)) :: [], [.box 2 [.t (tbl xs), .t (tb q)], .pure 1 (til l), .box 2 [.ref 4 0 xs.length, .t (tb (!q))], .pure 1 (tll R), .pure 1 (tbs L)]) =
      some (.exit 2, (26, .ptr 0 0 0) :: (27, .ref 1 0 l.length) :: (28, .ptr 2 0 0) :: (33, .t .nil) :: (34, .t (tb u)) :: (35, .t (tb w)) :: (39, .t (tb true)) :: (40, .t (tb (f || decide (l ∈ R.drop i)))) :: (275, .ref 3 0 R.length) :: (276, .t (ti R.length)) :: (277, .t (ti R.length)) :: e, [.box 2 [.t (tbl xs), .t (tb q)], .pure 1 (til l), .box 2 [.ref 4 0 xs.length, .t (tb (!q))], .pure 1 (tll R), .pure 1 (tbs L)])
  | 0, i, f, hi => by
    rw [x4_2]
    have : i = R.length := by omega
    subst this
    refine ⟨_, ?_, by simp [ir4_d2]; rfl⟩
    simp [keep]
  | d + 1, i, f, hi => by
    have hlt : i < R.length := by omega
    have hw : IntKind.i64.wrap ((i : Int) + 1) = (i : Int) + 1 := w96 (by omega)
    obtain ⟨e, he, ih⟩ := l253fTn R hR hg l xs L hL gl q u w d (i + 1) (f || decide (R[i] = l)) (by omega)
    have hs : (f || decide (l ∈ R.drop i)) = ((f || decide (R[i] = l)) || decide (l ∈ R.drop (i + 1))) := by
      have hm : l ∈ R.drop i ↔ R[i] = l ∨ l ∈ R.drop (i + 1) := by rw [List.drop_eq_getElem_cons hlt, List.mem_cons, eq_comm]
      rw [Bool.eq_iff_iff]
      simp only [Bool.or_eq_true, decide_eq_true_eq, hm, or_assoc]
    rw [hs]
    refine ⟨e, he, ?_⟩
    have hgl := hg _ (List.getElem_mem hlt)
    have e1001 := r32 (tl R[i]) (tl l) R[i] l (LN.of _) (LN.of _) (by omega)
    have htl : List.take l.length (til l) = til l := List.take_of_length_le (by simp)
    generalize decide (l ∈ R.drop (i + 1)) = D at *
    generalize hgi : R[i] = g at *
    generalize decide (g = l) = B at *
    rw [x4_2]
    cases f with
    | true => simp at ih; simp [ir4_d2, hlt, hgi, hw, ih]
    | false => simp at ih; simp [ir4_d2, hlt, hgi, hw, e1001, htl, ih]
theorem l253fTg (R : List (List Int)) (hR : R.length ≤ 1000) (hg : ∀ g ∈ R, g.length ≤ 100) (l : List Int) (xs L : List Bool) (hL : L.length = xs.length) (gl : List Int) (q u w : Bool) : ∀ (d i : Nat) (f : Bool), i + d = R.length →
    ∃ e, keep [33, 34, 43, 302, 303, 304] e = [] ∧ loopF env true [26, 27, 28, 33, 34, 35, 39, 40, 275, 276, 277] ir4_b2 ((26, .ptr 0 0 0) :: (27, .ref 1 0 l.length) :: (28, .ptr 2 0 0) :: (33, .ref 3 0 gl.length) :: (34, .t (tb u)) :: (35, .t (tb w)) :: (39, .t (tb true)) :: (40, .t (tb f)) :: (275, .ref 4 0 R.length) :: (276, .t (ti R.length)) :: (277, .t (ti i)) :: [], [.box 2 [.t (tbl xs), .t (tb q)], .pure 1 (til l), .box 2 [.ref 5 0 xs.length, .t (tb (!q))], .pure 1 (til gl), .pure 1 (tll R), .pure 1 (tbs L)]) =
      some (.exit 2, (26, .ptr 0 0 0) :: (27, .ref 1 0 l.length) :: (28, .ptr 2 0 0) :: (33, .ref 3 0 gl.length) :: (34, .t (tb u)) :: (35, .t (tb w)) :: (39, .t (tb true)) :: (40, .t (tb (f || decide (l ∈ R.drop i)))) :: (275, .ref 4 0 R.length) :: (276, .t (ti R.length)) :: (277, .t (ti R.length)) :: e, [.box 2 [.t (tbl xs), .t (tb q)], .pure 1 (til l), .box 2 [.ref 5 0 xs.length, .t (tb (!q))], .pure 1 (til gl), .pure 1 (tll R), .pure 1 (tbs L)])
  | 0, i, f, hi => by
    rw [x4_2]
    have : i = R.length := by omega
    subst this
    refine ⟨_, ?_, by simp [ir4_d2]; rfl⟩
    simp [keep]
  | d + 1, i, f, hi => by
    have hlt : i < R.length := by omega
    have hw : IntKind.i64.wrap ((i : Int) + 1) = (i : Int) + 1 := w96 (by omega)
    obtain ⟨e, he, ih⟩ := l253fTg R hR hg l xs L hL gl q u w d (i + 1) (f || decide (R[i] = l)) (by omega)
    have hs : (f || decide (l ∈ R.drop i)) = ((f || decide (R[i] = l)) || decide (l ∈ R.drop (i + 1))) := by
      have hm : l ∈ R.drop i ↔ R[i] = l ∨ l ∈ R.drop (i + 1) := by rw [List.drop_eq_getElem_cons hlt, List.mem_cons, eq_comm]
      rw [Bool.eq_iff_iff]
      simp only [Bool.or_eq_true, decide_eq_true_eq, hm, or_assoc]
    rw [hs]
    refine ⟨e, he, ?_⟩
    have hgl := hg _ (List.getElem_mem hlt)
    have e1001 := r32 (tl R[i]) (tl l) R[i] l (LN.of _) (LN.of _) (by omega)
    have htl : List.take l.length (til l) = til l := List.take_of_length_le (by simp)
    generalize decide (l ∈ R.drop (i + 1)) = D at *
    generalize hgi : R[i] = g at *
    generalize decide (g = l) = B at *
    rw [x4_2]
    cases f with
    | true => simp at ih; simp [ir4_d2, hlt, hgi, hw, ih]
    | false => simp at ih; simp [ir4_d2, hlt, hgi, hw, e1001, htl, ih]
theorem l253fRn (R : List (List Int)) (hR : R.length ≤ 1000) (hg : ∀ g ∈ R, g.length ≤ 100) (l : List Int) (xs L : List Bool) (hL : L.length = xs.length) (gl : List Int) (q u w : Bool) : ∀ (d i : Nat) (f : Bool), i + d = R.length →
    ∃ e, keep [33, 34, 43, 302, 303, 304] e = [] ∧ loopF env true [26, 27, 28, 33, 34, 35, 39, 40, 275, 276, 277] ir4_b2 ((26, .ptr 0 0 0) :: (27, .ref 1 0 l.length) :: (28, .ptr 2 0 0) :: (33, .t .nil) :: (34, .t (tb u)) :: (35, .t (tb w)) :: (39, .t (tb true)) :: (40, .t (tb f)) :: (275, .ref 3 0 R.length) :: (276, .t (ti R.length)) :: (277, .t (ti i)) :: [], [.box 2 [.ref 4 0 xs.length, .t (tb q)], .pure 1 (til l), .box 2 [.ref 5 0 xs.length, .t (tb (!q))], .pure 1 (tll R), .froz 1 (tbs xs), .pure 1 (tbs L)]) =
      some (.exit 2, (26, .ptr 0 0 0) :: (27, .ref 1 0 l.length) :: (28, .ptr 2 0 0) :: (33, .t .nil) :: (34, .t (tb u)) :: (35, .t (tb w)) :: (39, .t (tb true)) :: (40, .t (tb (f || decide (l ∈ R.drop i)))) :: (275, .ref 3 0 R.length) :: (276, .t (ti R.length)) :: (277, .t (ti R.length)) :: e, [.box 2 [.ref 4 0 xs.length, .t (tb q)], .pure 1 (til l), .box 2 [.ref 5 0 xs.length, .t (tb (!q))], .pure 1 (tll R), .froz 1 (tbs xs), .pure 1 (tbs L)])
  | 0, i, f, hi => by
    rw [x4_2]
    have : i = R.length := by omega
    subst this
    refine ⟨_, ?_, by simp [ir4_d2]; rfl⟩
    simp [keep]
  | d + 1, i, f, hi => by
    have hlt : i < R.length := by omega
    have hw : IntKind.i64.wrap ((i : Int) + 1) = (i : Int) + 1 := w96 (by omega)
    obtain ⟨e, he, ih⟩ := l253fRn R hR hg l xs L hL gl q u w d (i + 1) (f || decide (R[i] = l)) (by omega)
    have hs : (f || decide (l ∈ R.drop i)) = ((f || decide (R[i] = l)) || decide (l ∈ R.drop (i + 1))) := by
      have hm : l ∈ R.drop i ↔ R[i] = l ∨ l ∈ R.drop (i + 1) := by rw [List.drop_eq_getElem_cons hlt, List.mem_cons, eq_comm]
      rw [Bool.eq_iff_iff]
      simp only [Bool.or_eq_true, decide_eq_true_eq, hm, or_assoc]
    rw [hs]
    refine ⟨e, he, ?_⟩
    have hgl := hg _ (List.getElem_mem hlt)
    have e1001 := r32 (tl R[i]) (tl l) R[i] l (LN.of _) (LN.of _) (by omega)
    have htl : List.take l.length (til l) = til l := List.take_of_length_le (by simp)
    generalize decide (l ∈ R.drop (i + 1)) = D at *
    generalize hgi : R[i] = g at *
    generalize decide (g = l) = B at *
    rw [x4_2]
    cases f with
    | true => simp at ih; simp [ir4_d2, hlt, hgi, hw, ih]
    | false => simp at ih; simp [ir4_d2, hlt, hgi, hw, e1001, htl, ih]
theorem l253fRg (R : List (List Int)) (hR : R.length ≤ 1000) (hg : ∀ g ∈ R, g.length ≤ 100) (l : List Int) (xs L : List Bool) (hL : L.length = xs.length) (gl : List Int) (q u w : Bool) : ∀ (d i : Nat) (f : Bool), i + d = R.length →
    ∃ e, keep [33, 34, 43, 302, 303, 304] e = [] ∧ loopF env true [26, 27, 28, 33, 34, 35, 39, 40, 275, 276, 277] ir4_b2 ((26, .ptr 0 0 0) :: (27, .ref 1 0 l.length) :: (28, .ptr 2 0 0) :: (33, .ref 3 0 gl.length) :: (34, .t (tb u)) :: (35, .t (tb w)) :: (39, .t (tb true)) :: (40, .t (tb f)) :: (275, .ref 4 0 R.length) :: (276, .t (ti R.length)) :: (277, .t (ti i)) :: [], [.box 2 [.ref 5 0 xs.length, .t (tb q)], .pure 1 (til l), .box 2 [.ref 6 0 xs.length, .t (tb (!q))], .pure 1 (til gl), .pure 1 (tll R), .froz 1 (tbs xs), .pure 1 (tbs L)]) =
      some (.exit 2, (26, .ptr 0 0 0) :: (27, .ref 1 0 l.length) :: (28, .ptr 2 0 0) :: (33, .ref 3 0 gl.length) :: (34, .t (tb u)) :: (35, .t (tb w)) :: (39, .t (tb true)) :: (40, .t (tb (f || decide (l ∈ R.drop i)))) :: (275, .ref 4 0 R.length) :: (276, .t (ti R.length)) :: (277, .t (ti R.length)) :: e, [.box 2 [.ref 5 0 xs.length, .t (tb q)], .pure 1 (til l), .box 2 [.ref 6 0 xs.length, .t (tb (!q))], .pure 1 (til gl), .pure 1 (tll R), .froz 1 (tbs xs), .pure 1 (tbs L)])
  | 0, i, f, hi => by
    rw [x4_2]
    have : i = R.length := by omega
    subst this
    refine ⟨_, ?_, by simp [ir4_d2]; rfl⟩
    simp [keep]
  | d + 1, i, f, hi => by
    have hlt : i < R.length := by omega
    have hw : IntKind.i64.wrap ((i : Int) + 1) = (i : Int) + 1 := w96 (by omega)
    obtain ⟨e, he, ih⟩ := l253fRg R hR hg l xs L hL gl q u w d (i + 1) (f || decide (R[i] = l)) (by omega)
    have hs : (f || decide (l ∈ R.drop i)) = ((f || decide (R[i] = l)) || decide (l ∈ R.drop (i + 1))) := by
      have hm : l ∈ R.drop i ↔ R[i] = l ∨ l ∈ R.drop (i + 1) := by rw [List.drop_eq_getElem_cons hlt, List.mem_cons, eq_comm]
      rw [Bool.eq_iff_iff]
      simp only [Bool.or_eq_true, decide_eq_true_eq, hm, or_assoc]
    rw [hs]
    refine ⟨e, he, ?_⟩
    have hgl := hg _ (List.getElem_mem hlt)
    have e1001 := r32 (tl R[i]) (tl l) R[i] l (LN.of _) (LN.of _) (by omega)
    have htl : List.take l.length (til l) = til l := List.take_of_length_le (by simp)
    generalize decide (l ∈ R.drop (i + 1)) = D at *
    generalize hgi : R[i] = g at *
    generalize decide (g = l) = B at *
    rw [x4_2]
    cases f with
    | true => simp at ih; simp [ir4_d2, hlt, hgi, hw, ih]
    | false => simp at ih; simp [ir4_d2, hlt, hgi, hw, e1001, htl, ih]
end Go.Proofs.Ytanlmanifpknoaa.Ev

namespace Go.Proofs.Ytanlmanifpknoaa.Ev
open Go
set_option linter.unusedVariables false
set_option linter.unusedSimpArgs false
set_option linter.unusedSectionVars false
set_option maxRecDepth 20000
set_option maxHeartbeats 4000000
attribute [local simp] til_getE til_length til_get tbs_length tll_length tll_getE tll_get
theorem row_lens {a b : Int} {xs : List Bool} {q : Bool} (hx : xs.length ≤ 9) (hok : roOk a b xs q = true) : ∀ g ∈ rowsP b xs q, g.length ≤ 100 := fun g hg => by
  obtain ⟨_, _, _, _, _, _, _, _, _, e1009⟩ := row_facts hx hok hg
  omega
theorem p4_16Tn {P : Heap} {a b : Int} {xs : List Bool} {q : Bool} {l : List Int} (hx : xs.length ≤ 9) (hl : l.length ≤ 1000) (hok : rbOk a b xs q l = true) {m : Int} {gl : List Int} (h0 : gl = []) (hgl : gl.length ≤ 1000) {L : List Bool} (hL : L.length = xs.length) {fr : Fr}
    (hS : S16 (P ++ [Blk.pure 1 (til l)]) (.t (tbl xs)) (.ref P.length 0 l.length) m gl (.t .nil) fr) :
    ∃ fr3 H3 gv, execD env (nth 16 ir4_c) (fr, (P ++ [Blk.pure 1 (til l)]) ++ (.box 2 [.t (ti a), .t (ti b)] :: .box 2 [.t (tbl xs), .t (tb q)] :: .pure 1 (tbs L) :: .box 2 [.ref ((P ++ [Blk.pure 1 (til l)]).length + 2) 0 xs.length, .t (tb (!q))] :: .pure 1 (tbs L) :: .box 2 [.ref ((P ++ [Blk.pure 1 (til l)]).length + 4) 0 xs.length, .t (tb (!q))] :: [])) = some (.norm, fr3, H3) ∧ G4 m gl gv fr3 H3 := by
  obtain ⟨f25, f26, f27, f28, f29, k1002⟩ := hS
  have hok2 := hok
  unfold rbOk at hok2
  rw [Bool.and_eq_true] at hok2
  obtain ⟨hr, hrow⟩ := hok2
  have h266 := r18 a b xs hx q
  rw [if_pos hr] at h266
  obtain ⟨n, rfl, hgd, hxn, hq, hc, hs⟩ := roOk_parts hr
  have hmem := (rowsP_mem n b xs q hxn l).2 hrow
  have hRl := rowsP_len (b := b) hx q
  have hgs := row_lens hx hr
  have htx : List.take xs.length (tbs xs) = tbs xs := List.take_of_length_le (by simp)
  generalize rowsP b xs q = R at *
  obtain ⟨e, he, hlp⟩ := l253fTn R hRl hgs l xs L hL gl q (gOk m gl && calmI gl gl) (gOk m gl) R.length 0 false (by omega)
  have hd : (false || decide (l ∈ R.drop 0)) = true := by simpa using hmem
  rw [hd] at hlp
  generalize hu : (gOk m gl && calmI gl gl) = u at *
  generalize hw : gOk m gl = w at *
  simp [Nat.add_assoc] at f25 f26 f27 f28 k1002 hlp
  refine ⟨_, _, .t .nil, (by simp [nth, rst, ir4_c, f25, f26, f27, f28, f29, k1002, h266, htx, hlp, Fr.get_put, kput, Fr.put, Nat.add_assoc]; exact ⟨rfl, rfl⟩), ⟨?_, ?_, ?_, ?_, .inl ⟨rfl, h0⟩, hgl⟩⟩
  · simp [Fr.get_put, Fr.get]
  · simp [Fr.get_put, Fr.get, hu, hw]
  · simp [Fr.get_put, Fr.get, hu, hw]
  · simp [keep, kput, hu, hw, he]
theorem p4_16Tg {P : Heap} {a b : Int} {xs : List Bool} {q : Bool} {l : List Int} (hx : xs.length ≤ 9) (hl : l.length ≤ 1000) (hok : rbOk a b xs q l = true) {m : Int} {gl : List Int} (hgl : gl.length ≤ 1000) {L : List Bool} (hL : L.length = xs.length) {fr : Fr}
    (hS : S16 (P ++ [Blk.pure 1 (til l)]) (.t (tbl xs)) (.ref P.length 0 l.length) m gl (.ref ((P ++ [Blk.pure 1 (til l)]).length + 6) 0 gl.length) fr) :
    ∃ fr3 H3 gv, execD env (nth 16 ir4_c) (fr, (P ++ [Blk.pure 1 (til l)]) ++ (.box 2 [.t (ti a), .t (ti b)] :: .box 2 [.t (tbl xs), .t (tb q)] :: .pure 1 (tbs L) :: .box 2 [.ref ((P ++ [Blk.pure 1 (til l)]).length + 2) 0 xs.length, .t (tb (!q))] :: .pure 1 (tbs L) :: .box 2 [.ref ((P ++ [Blk.pure 1 (til l)]).length + 4) 0 xs.length, .t (tb (!q))] :: [.pure 1 (til gl)])) = some (.norm, fr3, H3) ∧ G4 m gl gv fr3 H3 := by
  obtain ⟨f25, f26, f27, f28, f29, k1002⟩ := hS
  have hok2 := hok
  unfold rbOk at hok2
  rw [Bool.and_eq_true] at hok2
  obtain ⟨hr, hrow⟩ := hok2
  have h266 := r18 a b xs hx q
  rw [if_pos hr] at h266
  obtain ⟨n, rfl, hgd, hxn, hq, hc, hs⟩ := roOk_parts hr
  have hmem := (rowsP_mem n b xs q hxn l).2 hrow
  have hRl := rowsP_len (b := b) hx q
  have hgs := row_lens hx hr
  have htx : List.take xs.length (tbs xs) = tbs xs := List.take_of_length_le (by simp)
  generalize rowsP b xs q = R at *
  obtain ⟨e, he, hlp⟩ := l253fTg R hRl hgs l xs L hL gl q (gOk m gl && calmI gl gl) (gOk m gl) R.length 0 false (by omega)
  have hd : (false || decide (l ∈ R.drop 0)) = true := by simpa using hmem
  rw [hd] at hlp
  generalize hu : (gOk m gl && calmI gl gl) = u at *
  generalize hw : gOk m gl = w at *
  simp [Nat.add_assoc] at f25 f26 f27 f28 k1002 hlp
  refine ⟨_, _, .ref 3 0 gl.length, (by simp [nth, rst, ir4_c, f25, f26, f27, f28, f29, k1002, h266, htx, hlp, Fr.get_put, kput, Fr.put, Nat.add_assoc]; exact ⟨rfl, rfl⟩), ⟨?_, ?_, ?_, ?_, .inr ⟨3, rfl, by simp⟩, hgl⟩⟩
  · simp [Fr.get_put, Fr.get]
  · simp [Fr.get_put, Fr.get, hu, hw]
  · simp [Fr.get_put, Fr.get, hu, hw]
  · simp [keep, kput, hu, hw, he]
theorem p4_16Rn {P : Heap} {a b : Int} {xs : List Bool} {q : Bool} {l : List Int} (hx : xs.length ≤ 9) (hl : l.length ≤ 1000) (hok : rbOk a b xs q l = true) {m : Int} {gl : List Int} (h0 : gl = []) (hgl : gl.length ≤ 1000) {L : List Bool} (hL : L.length = xs.length) {fr : Fr}
    (hS : S16 (P ++ [Blk.pure 1 (tbs xs), Blk.pure 1 (til l)]) (.ref P.length 0 xs.length) (.ref (P.length + 1) 0 l.length) m gl (.t .nil) fr) :
    ∃ fr3 H3 gv, execD env (nth 16 ir4_c) (fr, (P ++ [Blk.pure 1 (tbs xs), Blk.pure 1 (til l)]) ++ (.box 2 [.t (ti a), .t (ti b)] :: .box 2 [.ref P.length 0 xs.length, .t (tb q)] :: .pure 1 (tbs L) :: .box 2 [.ref ((P ++ [Blk.pure 1 (tbs xs), Blk.pure 1 (til l)]).length + 2) 0 xs.length, .t (tb (!q))] :: .pure 1 (tbs L) :: .box 2 [.ref ((P ++ [Blk.pure 1 (tbs xs), Blk.pure 1 (til l)]).length + 4) 0 xs.length, .t (tb (!q))] :: [])) = some (.norm, fr3, H3) ∧ G4 m gl gv fr3 H3 := by
  obtain ⟨f25, f26, f27, f28, f29, k1002⟩ := hS
  have hok2 := hok
  unfold rbOk at hok2
  rw [Bool.and_eq_true] at hok2
  obtain ⟨hr, hrow⟩ := hok2
  have h266 := r18 a b xs hx q
  rw [if_pos hr] at h266
  obtain ⟨n, rfl, hgd, hxn, hq, hc, hs⟩ := roOk_parts hr
  have hmem := (rowsP_mem n b xs q hxn l).2 hrow
  have hRl := rowsP_len (b := b) hx q
  have hgs := row_lens hx hr
  have htx : List.take xs.length (tbs xs) = tbs xs := List.take_of_length_le (by simp)
  generalize rowsP b xs q = R at *
  obtain ⟨e, he, hlp⟩ := l253fRn R hRl hgs l xs L hL gl q (gOk m gl && calmI gl gl) (gOk m gl) R.length 0 false (by omega)
  have hd : (false || decide (l ∈ R.drop 0)) = true := by simpa using hmem
  rw [hd] at hlp
  generalize hu : (gOk m gl && calmI gl gl) = u at *
  generalize hw : gOk m gl = w at *
  simp [Nat.add_assoc] at f25 f26 f27 f28 k1002 hlp
  refine ⟨_, _, .t .nil, (by simp [nth, rst, ir4_c, f25, f26, f27, f28, f29, k1002, h266, htx, hlp, Fr.get_put, kput, Fr.put, Nat.add_assoc]; exact ⟨rfl, rfl⟩), ⟨?_, ?_, ?_, ?_, .inl ⟨rfl, h0⟩, hgl⟩⟩
  · simp [Fr.get_put, Fr.get]
  · simp [Fr.get_put, Fr.get, hu, hw]
  · simp [Fr.get_put, Fr.get, hu, hw]
  · simp [keep, kput, hu, hw, he]
theorem p4_16Rg {P : Heap} {a b : Int} {xs : List Bool} {q : Bool} {l : List Int} (hx : xs.length ≤ 9) (hl : l.length ≤ 1000) (hok : rbOk a b xs q l = true) {m : Int} {gl : List Int} (hgl : gl.length ≤ 1000) {L : List Bool} (hL : L.length = xs.length) {fr : Fr}
    (hS : S16 (P ++ [Blk.pure 1 (tbs xs), Blk.pure 1 (til l)]) (.ref P.length 0 xs.length) (.ref (P.length + 1) 0 l.length) m gl (.ref ((P ++ [Blk.pure 1 (tbs xs), Blk.pure 1 (til l)]).length + 6) 0 gl.length) fr) :
    ∃ fr3 H3 gv, execD env (nth 16 ir4_c) (fr, (P ++ [Blk.pure 1 (tbs xs), Blk.pure 1 (til l)]) ++ (.box 2 [.t (ti a), .t (ti b)] :: .box 2 [.ref P.length 0 xs.length, .t (tb q)] :: .pure 1 (tbs L) :: .box 2 [.ref ((P ++ [Blk.pure 1 (tbs xs), Blk.pure 1 (til l)]).length + 2) 0 xs.length, .t (tb (!q))] :: .pure 1 (tbs L) :: .box 2 [.ref ((P ++ [Blk.pure 1 (tbs xs), Blk.pure 1 (til l)]).length + 4) 0 xs.length, .t (tb (!q))] :: [.pure 1 (til gl)])) = some (.norm, fr3, H3) ∧ G4 m gl gv fr3 H3 := by
  obtain ⟨f25, f26, f27, f28, f29, k1002⟩ := hS
  have hok2 := hok
  unfold rbOk at hok2
  rw [Bool.and_eq_true] at hok2
  obtain ⟨hr, hrow⟩ := hok2
  have h266 := r18 a b xs hx q
  rw [if_pos hr] at h266
  obtain ⟨n, rfl, hgd, hxn, hq, hc, hs⟩ := roOk_parts hr
  have hmem := (rowsP_mem n b xs q hxn l).2 hrow
  have hRl := rowsP_len (b := b) hx q
  have hgs := row_lens hx hr
  have htx : List.take xs.length (tbs xs) = tbs xs := List.take_of_length_le (by simp)
  generalize rowsP b xs q = R at *
  obtain ⟨e, he, hlp⟩ := l253fRg R hRl hgs l xs L hL gl q (gOk m gl && calmI gl gl) (gOk m gl) R.length 0 false (by omega)
  have hd : (false || decide (l ∈ R.drop 0)) = true := by simpa using hmem
  rw [hd] at hlp
  generalize hu : (gOk m gl && calmI gl gl) = u at *
  generalize hw : gOk m gl = w at *
  simp [Nat.add_assoc] at f25 f26 f27 f28 k1002 hlp
  refine ⟨_, _, .ref 3 0 gl.length, (by simp [nth, rst, ir4_c, f25, f26, f27, f28, f29, k1002, h266, htx, hlp, Fr.get_put, kput, Fr.put, Nat.add_assoc]; exact ⟨rfl, rfl⟩), ⟨?_, ?_, ?_, ?_, .inr ⟨3, rfl, by simp⟩, hgl⟩⟩
  · simp [Fr.get_put, Fr.get]
  · simp [Fr.get_put, Fr.get, hu, hw]
  · simp [Fr.get_put, Fr.get, hu, hw]
  · simp [keep, kput, hu, hw, he]
end Go.Proofs.Ytanlmanifpknoaa.Ev

namespace Go.Proofs.Ytanlmanifpknoaa.Ev
open Go
set_option linter.unusedVariables false
set_option linter.unusedSimpArgs false
set_option linter.unusedSectionVars false
set_option maxRecDepth 20000
set_option maxHeartbeats 4000000
attribute [local simp] til_getE til_length til_get til_take
def oddB (x : Int) : Bool := decide (x.tmod 2 = 1)
def calmL (gl l : List Int) : Bool := l.all fun a => decide (a.tmod 2 = 0) || decide (IntKind.i64.wrap (a - 1) ∈ gl) || gl.all oddB
theorem calmL_eq (gl : List Int) (h : ∀ x ∈ gl, 0 ≤ x) : calmL gl gl = calmI gl gl := by
  unfold calmL calmI
  have e : gl.all oddB = !decide (∃ y ∈ gl, y.tmod 2 = 0) := by
    rw [Bool.eq_iff_iff]
    simp only [List.all_eq_true, oddB, decide_eq_true_eq, Bool.not_eq_true', decide_eq_false_iff_not]
    constructor
    · rintro h1 ⟨y, hy, h2⟩
      have := h1 y hy; omega
    · intro h1 x hx
      have h2 : ¬ x.tmod 2 = 0 := fun h3 => h1 ⟨x, hx, h3⟩
      rw [Int.tmod_eq_emod_of_nonneg (h x hx)] at h2 ⊢
      omega
  rw [e]
theorem l253g (gl : List Int) (u : Bool) (hl : gl.length ≤ 1000) (i : Int) : ∀ (d j : Nat) (f : Bool), j + d = gl.length →
    ∃ e, keep [33, 34, 43, 302, 303, 304] e = [] ∧ loopF env true [33, 34, 43, 302, 303, 304, 317, 318, 319] ir4_b0 ([(33, .ref 0 0 gl.length), (34, .t (tb u)), (43, .t (tb f)), (302, .ref 0 0 gl.length), (303, .t (ti gl.length)), (304, .t (ti i)), (317, .ref 0 0 gl.length), (318, .t (ti gl.length)), (319, .t (ti j))], [.pure 1 (til gl)]) =
      some (.exit 6, (33, .ref 0 0 gl.length) :: (34, .t (tb u)) :: (43, .t (tb (f && (gl.drop j).all oddB))) :: (302, .ref 0 0 gl.length) :: (303, .t (ti gl.length)) :: (304, .t (ti i)) :: (317, .ref 0 0 gl.length) :: (318, .t (ti gl.length)) :: (319, .t (ti gl.length)) :: e, [.pure 1 (til gl)])
  | 0, j, f, hj => by
    rw [x4_0]
    have : j = gl.length := by omega
    subst this
    refine ⟨_, ?_, by simp [ir4_d0]; rfl⟩
    simp [keep]
  | d + 1, j, f, hj => by
    have hlt : j < gl.length := by omega
    have hw : IntKind.i64.wrap ((j : Int) + 1) = (j : Int) + 1 := w96 (by omega)
    obtain ⟨e, he, ih⟩ := l253g gl u hl i d (j + 1) (f && oddB gl[j]) (by omega)
    have hs : (f && (gl.drop j).all oddB) = ((f && oddB gl[j]) && (gl.drop (j + 1)).all oddB) := by
      rw [List.drop_eq_getElem_cons hlt, List.all_cons, Bool.and_assoc]
    rw [hs]
    refine ⟨e, he, ?_⟩
    generalize (gl.drop (j + 1)).all oddB = D at *
    unfold oddB at *
    generalize hx : gl[j] = x at *
    rw [x4_0]
    cases f with
    | true => simp at ih; simp [ir4_d0, hlt, hx, hw, ih]
    | false => simp at ih; simp [ir4_d0, hlt, hx, hw, ih]
theorem l253h (gl : List Int) (u : Bool) (hl : gl.length ≤ 1000) (hn : ∀ x ∈ gl, 0 ≤ x ∧ x ≤ 100) : ∀ (d i : Nat) (f : Bool), i + d = gl.length →
    ∃ e, loopF env true [33, 34, 43, 302, 303, 304] ir4_b1 ([(33, .ref 0 0 gl.length), (34, .t (tb u)), (43, .t (tb f)), (302, .ref 0 0 gl.length), (303, .t (ti gl.length)), (304, .t (ti i))], [.pure 1 (til gl)]) =
      some (.exit 4, (33, .ref 0 0 gl.length) :: (34, .t (tb u)) :: (43, .t (tb (f && calmL gl (gl.drop i)))) :: (302, .ref 0 0 gl.length) :: (303, .t (ti gl.length)) :: (304, .t (ti gl.length)) :: e, [.pure 1 (til gl)])
  | 0, i, f, hi => by
    rw [x4_1]
    have : i = gl.length := by omega
    subst this
    exact ⟨_, by simp [ir4_d1, calmL]; rfl⟩
  | d + 1, i, f, hi => by
    have hlt : i < gl.length := by omega
    have hw : IntKind.i64.wrap ((i : Int) + 1) = (i : Int) + 1 := w96 (by omega)
    have hx0 := hn _ (List.getElem_mem hlt)
    have hw2 : IntKind.i64.wrap (gl[i] - 1) = gl[i] - 1 := w96 (by omega)
    have e1001 := r33 gl (gl[i] - 1) (by omega)
    have htg : List.take gl.length (til gl) = til gl := List.take_of_length_le (by simp)
    have hs : calmL gl (gl.drop i) = ((decide (gl[i].tmod 2 = 0) || decide (gl[i] - 1 ∈ gl) || gl.all oddB) && calmL gl (gl.drop (i + 1))) := by
      unfold calmL
      rw [List.drop_eq_getElem_cons hlt, List.all_cons, hw2]
    rw [hs]
    obtain ⟨e, ih⟩ := l253h gl u hl hn d (i + 1) f (by omega)
    obtain ⟨e', ih'⟩ := l253h gl u hl hn d (i + 1) (f && gl.all oddB) (by omega)
    obtain ⟨e1002, he2, hin⟩ := l253g gl u hl i gl.length 0 f (by omega)
    rw [List.drop_zero] at hin
    generalize calmL gl (gl.drop (i + 1)) = D at *
    generalize gl.all oddB = O at *
    generalize hM : decide (gl[i] - 1 ∈ gl) = M at *
    generalize hx : gl[i] = x at *
    rw [x4_1]
    by_cases h0 : x.tmod 2 = 0
    · refine ⟨e, ?_⟩
      simp at ih
      have hd : (f && ((decide (x.tmod 2 = 0) || M || O) && D)) = (f && D) := by simp [h0]
      rw [hd]
      have h0' : decide (x.tmod 2 = 0) = true := decide_eq_true h0
      simp [ir4_d1, hlt, hx, hw, h0, h0', ih]
    · have h0' : decide (x.tmod 2 = 0) = false := decide_eq_false h0
      cases M with
      | true =>
        refine ⟨e, ?_⟩
        simp at ih
        have hd : (f && ((decide (x.tmod 2 = 0) || true || O) && D)) = (f && D) := by simp
        rw [hd]
        simp [ir4_d1, hlt, hx, hw, hw2, h0, h0', htg, e1001, ih]
      | false =>
        refine ⟨e', ?_⟩
        have hd : (f && ((decide (x.tmod 2 = 0) || false || O) && D)) = ((f && O) && D) := by rw [h0', Bool.or_false, Bool.false_or, Bool.and_assoc]
        rw [hd]
        simp at ih' hin
        simp [ir4_d1, hlt, hx, hw, hw2, h0, h0', htg, e1001, hin, he2, kput, Fr.get_put, ih']
end Go.Proofs.Ytanlmanifpknoaa.Ev

namespace Go.Proofs.Ytanlmanifpknoaa.Ev
open Go
set_option linter.unusedVariables false
set_option linter.unusedSimpArgs false
set_option linter.unusedSectionVars false
set_option maxRecDepth 20000
set_option maxHeartbeats 4000000
attribute [local simp] til_getE til_length til_get tbs_length tll_length tll_getE tll_get
theorem l253P (C2 : T) {a b : Int} {xs : List Bool} {q : Bool} (hl : xs.length ≤ 9) (hok : roOk a b xs q = true) : ∀ (d i : Nat), i + d = (rowsP b xs q).length →
    ∃ e H', K2 e ∧ loopF env true [1, 5, 6, 7, 123, 124, 125] ir4_b3 ([(1, .t C2), (5, .ptr 0 0 0), (6, .ptr 1 0 0), (7, .ref 2 0 (rowsP b xs q).length), (123, .ref 2 0 (rowsP b xs q).length), (124, .t (ti (rowsP b xs q).length)), (125, .t (ti i))], [.box 2 [.t (ti a), .t (ti b)], .box 2 [.ref 3 0 xs.length, .t (tb q)], .pure 1 (tll (rowsP b xs q)), .froz 1 (tbs xs)]) =
      some (.exit 0, (1, .t C2) :: e, H')
  | 0, i, hi => by
    rw [x4_3]
    have : i = (rowsP b xs q).length := by omega
    subst this
    refine ⟨_, _, ?_, by simp [ir4_d3]; exact ⟨rfl, rfl⟩⟩
    simp [K2, keep]
  | d + 1, i, hi => by
    obtain ⟨e, H', hK, ih⟩ := l253P C2 hl hok d (i + 1) (by omega)
    refine ⟨e, H', hK, ?_⟩
    have hlt : i < (rowsP b xs q).length := by omega
    have hRl := rowsP_len (b := b) hl q
    have hw : IntKind.i64.wrap ((i : Int) + 1) = (i : Int) + 1 := w96 (by omega)
    obtain ⟨L, hL, e1001, e1002, e1003, e1004, e1005, e1006, e1007, e1008⟩ := row_facts hl hok (List.getElem_mem hlt)
    have hpr := rowsP_pair b xs q
    rw [List.pairwise_iff_getElem] at hpr
    have htx : List.take xs.length (tbs xs) = tbs xs := List.take_of_length_le (by simp)
    have htL : List.take xs.length (tbs L) = tbs L := List.take_of_length_le (by simp; omega)
    rw [x4_3]
    rcases Nat.eq_zero_or_pos i with h0 | h0
    · subst h0
      generalize hg : (rowsP b xs q)[0] = g at *
      have c1001 : ¬ ((g.length : Int) < 1) := by omega
      have c1002 : ¬ (b < (g.length : Int)) := by omega
      have c1003 : ¬ (g.length = 0) := by omega
      have c1004 : ¬ (g = []) := fun h => by rw [h] at c1003; simp at c1003
      generalize rowsP b xs q = R at *
      simp at ih hw
      simp [ir4_d3, hlt, hg, hw, e1001, e1002, e1003, e1004, e1005, htx, htL, c1001, c1002, c1003, c1004, ih]
    · obtain ⟨j, hj⟩ : ∃ j, j + 1 = i := ⟨i - 1, by omega⟩
      have hlt2 : j < (rowsP b xs q).length := by omega
      have hb : ownR env 27 [tl ((rowsP b xs q)[j]), tl ((rowsP b xs q)[i])] = some (.t (tb true), []) := by
        have h2 := hpr j i (by omega) hlt (by omega)
        obtain ⟨_, _, _, _, _, _, _, _, _, e1009⟩ := row_facts hl hok (List.getElem_mem hlt2)
        rw [← h2]
        exact r27 _ _ (by omega)
      have hw2 : IntKind.i64.wrap ((i : Int) - 1) = (j : Int) := by rw [w96 (by omega)]; omega
      generalize hg : (rowsP b xs q)[i] = g at *
      generalize hgj : (rowsP b xs q)[j] = gj at *
      have c1001 : ¬ ((g.length : Int) < 1) := by omega
      have c1002 : ¬ (b < (g.length : Int)) := by omega
      have c1003 : ¬ (g.length = 0) := by omega
      have c1004 : ¬ (g = []) := fun h => by rw [h] at c1003; simp at c1003
      have c1005 : (0 : Int) < (i : Int) := by omega
      generalize rowsP b xs q = R at *
      clear hj
      simp at ih
      simp [ir4_d3, hlt, hg, hgj, hw, hw2, hlt2, e1001, e1002, e1003, e1004, e1005, htx, htL, c1001, c1002, c1003, c1004, c1005, h0, hb, ih]
end Go.Proofs.Ytanlmanifpknoaa.Ev

namespace Go.Proofs.Ytanlmanifpknoaa.Ev
open Go
set_option linter.unusedVariables false
set_option linter.unusedSimpArgs false
set_option linter.unusedSectionVars false
attribute [local simp] til_getE til_length til_get til_drop til_take til_snoc til_fold take_snoc til_set
variable {a1 b1 c1001 : Int} {X1 G1 Z : T} {p1001 t1001 : Int} {fr : Fr} {H : Heap}
end Go.Proofs.Ytanlmanifpknoaa.Ev

namespace Go.Proofs.Ytanlmanifpknoaa.Ev
open Go
set_option linter.unusedVariables false
set_option linter.unusedSimpArgs false
set_option linter.unusedSectionVars false
attribute [local simp] til_getE til_length til_get til_drop til_take til_snoc til_fold take_snoc til_set
variable {a1 b1 c1001 a2 b2 c1002 a3 b3 c1003 : Int} {X1 G1 X2 Z : T} {p1001 t1001 p1002 : Int} {fr : Fr} {H : Heap}
end Go.Proofs.Ytanlmanifpknoaa.Ev

namespace Go.Proofs.Ytanlmanifpknoaa.Ev
open Go
set_option linter.unusedVariables false
set_option linter.unusedSimpArgs false
set_option linter.unusedSectionVars false
attribute [local simp] til_getE til_length til_get til_drop til_take til_snoc til_fold take_snoc til_set
variable {a1 b1 c1001 a2 b2 c1002 a3 b3 c1003 : Int} {X1 G1 X2 Z : T} {p1001 t1001 p1002 : Int} {fr : Fr} {H : Heap}
end Go.Proofs.Ytanlmanifpknoaa.Ev

namespace Go.Proofs.Ytanlmanifpknoaa.Ev
open Go
set_option linter.unusedVariables false
set_option linter.unusedSimpArgs false
set_option linter.unusedSectionVars false

variable {a1 b1 c1001 a2 b2 c1002 a3 b3 c1003 : Int} {X1 G1 X2 Z : T} {p1001 t1001 p1002 : Int} {fr : Fr} {H : Heap}
variable {C : T} {bs : List Int}
end Go.Proofs.Ytanlmanifpknoaa.Ev

namespace Go.Proofs.Ytanlmanifpknoaa.Ev
open Go
set_option linter.unusedVariables false
set_option linter.unusedSimpArgs false
set_option linter.unusedSectionVars false
attribute [local simp] til_getE til_length til_get til_snoc take_snoc til_take tlv_getE tlv_length tlv_take til_set
variable {C : T} {bs : List Int}
theorem r5 {C1 C2 : T} {n1 n2 : Nat} (h1 : ∀ H, evLen H 1 (.t C1) = some (n1 : Int)) (h2 : ∀ H, evLen H 1 (.t C2) = some (n2 : Int)) :
    ownR env 5 [C1, C2] = some (.t (tb (decide (1048576 < n1 + n2))), []) := by
  rw [own_ir e5 _ rfl]
  by_cases h : (1048576 : Int) < n1
  · have : 1048576 < n1 + n2 := by omega
    simp [ir5, ir5_c, h1, h, this]
  · have hw : IntKind.i64.wrap (1048576 - (n1 : Int)) = 1048576 - n1 := w96 (by omega)
    by_cases h3 : (1048576 : Int) - n1 < n2
    · have : 1048576 < n1 + n2 := by omega
      simp [ir5, ir5_c, h1, h2, h, hw, h3, this]
    · have : ¬ 1048576 < n1 + n2 := by omega
      simp [ir5, ir5_c, h1, h2, h, hw, h3, this]
end Go.Proofs.Ytanlmanifpknoaa.Ev

namespace Go.Proofs.Ytanlmanifpknoaa.Ev
open Go
set_option linter.unusedVariables false
set_option linter.unusedSimpArgs false
set_option linter.unusedSectionVars false
set_option maxRecDepth 20000
set_option maxHeartbeats 4000000
attribute [local simp] til_getE til_length til_get tbs_length tll_length tll_getE tll_get
theorem cut253 : ir4_c = .seq (nth 0 ir4_c) (.seq (nth 1 ir4_c) (.seq (nth 2 ir4_c) (.seq (nth 3 ir4_c) (.seq (nth 4 ir4_c) (.seq (nth 5 ir4_c) (.seq (nth 6 ir4_c) (.seq (nth 7 ir4_c) (.seq (nth 8 ir4_c) (rst 9 ir4_c))))))))) := rfl
theorem a253n {C1 C2 : T} {n1 n2 : Nat} (g1 : ∀ H, evLen H 1 (.t C1) = some (n1 : Int)) (g2 : ∀ H, evLen H 1 (.t C2) = some (n2 : Int)) (hb : ¬ 1048576 < n1 + n2)
    {a b : Int} {xs : List Bool} {q : Bool} {v : V} {H : Heap} (h265 : ownFR env 17 [C1] = some (.tup [.agg [.t (ti a), .t (ti b)], .agg [v, .t (tb q)]], H)) (hv : RS H v xs) (hl : xs.length ≤ 9) (hok : roOk a b xs q = false) :
    ∃ fr H', execD env ir4_c ([(0, .t C1), (1, .t C2)], []) = execD env (rst 9 ir4_c) (fr, H') ∧ fr.get 1 = .t C2 ∧ K2 fr := by
  have q5 := r5 g1 g2
  simp only [hb, decide_false] at q5
  have h266 := r18 a b xs hl q
  have h267 := r19 a b xs hl q
  have h268 := r20 a b xs (by omega) q
  have h269 := r21 a b xs (by omega) q
  rw [hok] at h266 h267 h268 h269
  have h259 := r259r .nil .nil [] (.inl ⟨rfl, rfl⟩) (.inl ⟨rfl, rfl⟩) (by simp) (by simp)
  have hst : stS a b xs q = true → goodC a b = true := fun h => by
    unfold stS at h; rw [Bool.and_eq_true] at h; exact h.1
  have htx : List.take xs.length (tbs xs) = tbs xs := List.take_of_length_le (by simp)
  rw [cut253]
  generalize rst 9 ir4_c = TL
  rcases hv with ⟨rfl, rfl⟩ | ⟨rfl, rfl⟩
  · cases hs : stS a b xs q with
    | false =>
      rw [hs] at h268 h269
      exact ⟨_, _, by simp [nth, rst, ir4_c, q5, h265, h266, h267, h268, h269, h259]; exact rfl, by simp [Fr.get], by simp [K2, keep]⟩
    | true =>
      rw [hs] at h268 h269
      have hg := hst hs
      exact ⟨_, _, by simp [nth, rst, ir4_c, q5, h265, h266, h267, h268, h269, h259, hg]; exact rfl, by simp [Fr.get], by simp [K2, keep]⟩
  · cases hs : stS a b xs q with
    | false =>
      rw [hs] at h268 h269
      exact ⟨_, _, by simp [nth, rst, ir4_c, q5, h265, h266, h267, h268, h269, h259, htx]; exact rfl, by simp [Fr.get], by simp [K2, keep]⟩
    | true =>
      rw [hs] at h268 h269
      have hg := hst hs
      exact ⟨_, _, by simp [nth, rst, ir4_c, q5, h265, h266, h267, h268, h269, h259, hg, htx]; exact rfl, by simp [Fr.get], by simp [K2, keep]⟩
end Go.Proofs.Ytanlmanifpknoaa.Ev

namespace Go.Proofs.Ytanlmanifpknoaa.Ev
open Go
set_option linter.unusedVariables false
set_option linter.unusedSimpArgs false
set_option linter.unusedSectionVars false
set_option maxRecDepth 20000
set_option maxHeartbeats 4000000
attribute [local simp] til_getE til_length til_get tbs_length tll_length tll_getE tll_get
theorem a253T {C1 C2 : T} {n1 n2 : Nat} (g1 : ∀ H, evLen H 1 (.t C1) = some (n1 : Int)) (g2 : ∀ H, evLen H 1 (.t C2) = some (n2 : Int)) (hb : ¬ 1048576 < n1 + n2)
    {a b : Int} {xs : List Bool} {q : Bool} (h265 : ownFR env 17 [C1] = some (.tup [.agg [.t (ti a), .t (ti b)], .agg [.t (tbl xs), .t (tb q)]], [])) (hl : xs.length ≤ 9) (hok : roOk a b xs q = true) :
    ∃ fr H', execD env ir4_c ([(0, .t C1), (1, .t C2)], []) = execD env (rst 9 ir4_c) (fr, H') ∧ fr.get 1 = .t C2 ∧ K2 fr := by
  have q5 := r5 g1 g2
  simp only [hb, decide_false] at q5
  have h266 := r18 a b xs hl q
  have h267 := r19 a b xs hl q
  have h268 := r20 a b xs (by omega) q
  have h269 := r21 a b xs (by omega) q
  rw [hok] at h266 h267 h268 h269
  rw [if_pos rfl] at h266 h267
  obtain ⟨n, hn, hgd, hx, hq, hc, hs⟩ := roOk_parts hok
  have hg : goodC a b = true := by rw [hn]; exact hgd
  rw [hs] at h268 h269
  have htx : List.take xs.length (tbs xs) = tbs xs := List.take_of_length_le (by simp)
  obtain ⟨e, H', hK, hlp⟩ := l253T C2 hl hok (rowsP b xs q).length 0 (by omega)
  have hRl := rowsP_len (b := b) hl q
  have hgl : ∀ g ∈ rowsP b xs q, g.length ≤ 2 ^ 40 := fun g hg2 => by
    obtain ⟨_, _, _, _, _, _, _, _, _, e1009⟩ := row_facts hl hok hg2
    omega
  generalize rowsP b xs q = R at *
  have htR : List.take R.length (tll R) = tll R := List.take_of_length_le (by simp)
  rw [cut253]
  generalize rst 9 ir4_c = TL
  cases R with
  | nil =>
    have h259 := r259r (.lst 1 []) .nil [] (.inr rfl) (.inl ⟨rfl, rfl⟩) (by simp) (by simp)
    simp only [roV] at h267
    simp [tll] at hlp h266
    exact ⟨(1, .t C2) :: e, H', by simp [nth, rst, ir4_c, q5, h265, h266, h267, h268, h269, h259, hg, htx, hlp], by simp [Fr.get], by simpa [K2, keep] using hK⟩
  | cons r R =>
    have h259 := r259r (.lst 1 (tll (r :: R))) (.lst 1 (tll (r :: R))) (r :: R) (.inr rfl) (.inr rfl) (by omega) hgl
    simp only [roV] at h267
    generalize r :: R = R at *
    simp at hlp
    exact ⟨(1, .t C2) :: e, H', by simp [nth, rst, ir4_c, q5, h265, h266, h267, h268, h269, h259, hg, htx, htR, hlp], by simp [Fr.get], by simpa [K2, keep] using hK⟩
end Go.Proofs.Ytanlmanifpknoaa.Ev

namespace Go.Proofs.Ytanlmanifpknoaa.Ev
open Go
set_option linter.unusedVariables false
set_option linter.unusedSimpArgs false
set_option linter.unusedSectionVars false
set_option maxRecDepth 20000
set_option maxHeartbeats 4000000
attribute [local simp] til_getE til_length til_get tbs_length tll_length tll_getE tll_get
theorem a253P {C1 C2 : T} {n1 n2 : Nat} (g1 : ∀ H, evLen H 1 (.t C1) = some (n1 : Int)) (g2 : ∀ H, evLen H 1 (.t C2) = some (n2 : Int)) (hb : ¬ 1048576 < n1 + n2)
    {a b : Int} {xs : List Bool} {q : Bool} (h265 : ownFR env 17 [C1] = some (.tup [.agg [.t (ti a), .t (ti b)], .agg [.ref 0 0 xs.length, .t (tb q)]], [.pure 1 (tbs xs)])) (hl : xs.length ≤ 9) (hok : roOk a b xs q = true) :
    ∃ fr H', execD env ir4_c ([(0, .t C1), (1, .t C2)], []) = execD env (rst 9 ir4_c) (fr, H') ∧ fr.get 1 = .t C2 ∧ K2 fr := by
  have q5 := r5 g1 g2
  simp only [hb, decide_false] at q5
  have h266 := r18 a b xs hl q
  have h267 := r19 a b xs hl q
  have h268 := r20 a b xs (by omega) q
  have h269 := r21 a b xs (by omega) q
  rw [hok] at h266 h267 h268 h269
  rw [if_pos rfl] at h266 h267
  obtain ⟨n, hn, hgd, hx, hq, hc, hs⟩ := roOk_parts hok
  have hg : goodC a b = true := by rw [hn]; exact hgd
  rw [hs] at h268 h269
  have htx : List.take xs.length (tbs xs) = tbs xs := List.take_of_length_le (by simp)
  obtain ⟨e, H', hK, hlp⟩ := l253P C2 hl hok (rowsP b xs q).length 0 (by omega)
  have hRl := rowsP_len (b := b) hl q
  have hgl : ∀ g ∈ rowsP b xs q, g.length ≤ 2 ^ 40 := fun g hg2 => by
    obtain ⟨_, _, _, _, _, _, _, _, _, e1009⟩ := row_facts hl hok hg2
    omega
  generalize rowsP b xs q = R at *
  have htR : List.take R.length (tll R) = tll R := List.take_of_length_le (by simp)
  rw [cut253]
  generalize rst 9 ir4_c = TL
  cases R with
  | nil =>
    have h259 := r259r (.lst 1 []) .nil [] (.inr rfl) (.inl ⟨rfl, rfl⟩) (by simp) (by simp)
    simp only [roV] at h267
    simp [tll] at hlp h266
    exact ⟨(1, .t C2) :: e, H', by simp [nth, rst, ir4_c, q5, h265, h266, h267, h268, h269, h259, hg, htx, hlp], by simp [Fr.get], by simpa [K2, keep] using hK⟩
  | cons r R =>
    have h259 := r259r (.lst 1 (tll (r :: R))) (.lst 1 (tll (r :: R))) (r :: R) (.inr rfl) (.inr rfl) (by omega) hgl
    simp only [roV] at h267
    generalize r :: R = R at *
    simp at hlp
    exact ⟨(1, .t C2) :: e, H', by simp [nth, rst, ir4_c, q5, h265, h266, h267, h268, h269, h259, hg, htx, htR, hlp], by simp [Fr.get], by simpa [K2, keep] using hK⟩
end Go.Proofs.Ytanlmanifpknoaa.Ev

namespace Go.Proofs.Ytanlmanifpknoaa.Ev
open Go
set_option linter.unusedVariables false
set_option linter.unusedSimpArgs false
set_option linter.unusedSectionVars false
attribute [local simp] til_getE til_length til_get til_drop til_take til_snoc til_fold take_snoc til_set tlv_getE tlv_length tlv_take
end Go.Proofs.Ytanlmanifpknoaa.Ev

namespace Go.Proofs.Ytanlmanifpknoaa.Ev
open Go
set_option linter.unusedVariables false
set_option linter.unusedSimpArgs false
set_option linter.unusedSectionVars false
attribute [local simp] til_getE til_length til_get til_drop til_take til_snoc til_fold take_snoc til_set tlv_getE tlv_length tlv_take
variable {C1 C2 : T} {bs1 bs2 : List Int}
end Go.Proofs.Ytanlmanifpknoaa.Ev

namespace Go.Proofs.Ytanlmanifpknoaa.Ev
open Go
set_option linter.unusedVariables false
set_option linter.unusedSimpArgs false
set_option linter.unusedSectionVars false
attribute [local simp] til_getE til_length til_get til_drop til_take til_snoc til_fold take_snoc til_set tlv_getE tlv_length tlv_take
end Go.Proofs.Ytanlmanifpknoaa.Ev

namespace Go.Proofs.Ytanlmanifpknoaa.Ev
open Go
set_option linter.unusedVariables false
set_option linter.unusedSimpArgs false
set_option linter.unusedSectionVars false
attribute [local simp] til_getE til_length til_get til_drop til_take til_snoc til_fold take_snoc til_set tlv_getE tlv_length tlv_take
variable {C1 C2 : T} {bs1 bs2 : List Int}
end Go.Proofs.Ytanlmanifpknoaa.Ev

namespace Go.Proofs.Ytanlmanifpknoaa.Ev
open Go
set_option linter.unusedVariables false
set_option linter.unusedSimpArgs false
def wfB (ts : List T) : Prop := ∃ n, ts = [.int .u8 n] ∧ (Lit.int .u8 n).wf = true
def wfBs (ts : List T) : Prop := ts = [.nil] ∨ ∃ els : List (List T), ts = [.lst 1 (els.map fun x => x.headD .nil)] ∧ ∀ x ∈ els, wfB x
theorem bytes_of : ∀ (els : List (List T)), (∀ x ∈ els, wfB x) → ∃ bs : List Int, (els.map fun x => x.headD .nil) = bs.map (T.int .u8) ∧ ∀ b ∈ bs, 0 ≤ b ∧ b < 256
  | [], _ => ⟨[], rfl, by simp⟩
  | x :: els, h => by
    obtain ⟨n, rfl, hn⟩ := h x (List.mem_cons_self ..)
    obtain ⟨bs, h1, h2⟩ := bytes_of els fun x hx => h x (List.mem_cons_of_mem _ hx)
    refine ⟨n :: bs, by rw [List.map_cons, h1]; rfl, fun b hb => ?_⟩
    rcases List.mem_cons.1 hb with rfl | hb
    · simp only [Lit.wf, Bool.and_eq_true, decide_eq_true_eq] at hn
      have e1001 : IntKind.u8.min = 0 := by decide
      have e1002 : IntKind.u8.max = 255 := by decide
      omega
    · exact h2 b hb
theorem bl_of {ts : List T} (h : wfBs ts) : ∃ C bs, ts = [C] ∧ (∀ H, evLen H 1 (.t C) = some (bs.length : Int)) ∧ (bs.length ≤ 2 ^ 30 → BL C bs) := by
  rcases h with rfl | ⟨els, rfl, h⟩
  · exact ⟨.nil, [], rfl, fun H => rfl, fun _ => ⟨fun H => rfl, fun H i h => by simp at h, by simp, by simp⟩⟩
  · obtain ⟨bs, h1, h2⟩ := bytes_of els h
    rw [h1]
    exact ⟨_, bs, rfl, fun H => by simp, fun hs => ⟨fun H => by simp, fun H i h => by simp [h], h2, hs⟩⟩
end Go.Proofs.Ytanlmanifpknoaa.Ev

namespace Go.Proofs.Ytanlmanifpknoaa.Ev
open Go
set_option linter.unusedVariables false
set_option linter.unusedSimpArgs false
set_option linter.unusedSectionVars false
set_option maxRecDepth 20000
set_option maxHeartbeats 4000000
attribute [local simp] til_getE til_length til_get til_take
variable {C1 C2 : T} {bs1 bs2 : List Int}
theorem cut253c : rst 17 ir4_c = .seq (nth 17 ir4_c) (.seq (nth 18 ir4_c) .ret) := rfl
theorem p4_17 {m : Int} {gl : List Int} {gv : V} {fr : Fr} {H : Heap} (hG : G4 m gl gv fr H) : ∃ fr' H', execD env (rst 17 ir4_c) (fr, H) = some (.ret, fr', H') ∧ fr'.get 4 = .t (tb true) := by
  obtain ⟨f33, f34, f35, k1004, hv, hl⟩ := hG
  rw [cut253c]
  cases hg : gOk m gl with
  | false =>
    rw [hg] at f35
    exact ⟨_, _, by simp [nth, rst, ir4_c, f35, Fr.get_put]; exact ⟨rfl, rfl⟩, by simp [Fr.get_put]⟩
  | true =>
    rw [hg] at f34 f35 k1004
    rw [Bool.true_and] at f34 k1004
    have hg2 := hg
    unfold gOk at hg2
    rw [Bool.and_eq_true] at hg2
    have hm := (inB_iff _ _ _).1 hg2.1
    have hin := risesB_in hg2.2
    have hn : ∀ x ∈ gl, 0 ≤ x ∧ x ≤ 100 := fun x hx => by have := hin x hx; omega
    rcases hv with ⟨rfl, rfl⟩ | ⟨i, rfl, hi⟩
    · have e1000 : calmI [] [] = true := rfl
      rw [e1000] at f34 k1004
      exact ⟨_, _, by simp [nth, rst, ir4_c, f33, f34, f35, k1004, Fr.get_put, kput, Fr.put, x4_1, ir4_d1]; exact ⟨rfl, rfl⟩, by simp [Fr.get_put, Fr.get]⟩
    · have htg : List.take gl.length (til gl) = til gl := List.take_of_length_le (by simp)
      obtain ⟨e, hlp⟩ := l253h gl (calmI gl gl) hl hn gl.length 0 true (by omega)
      rw [List.drop_zero, Bool.true_and, calmL_eq gl (fun x hx => (hn x hx).1)] at hlp
      generalize calmI gl gl = U at *
      simp at hlp
      exact ⟨_, _, by simp [nth, rst, ir4_c, f33, f34, f35, k1004, Fr.get_put, kput, Fr.put, hi, hlp]; exact ⟨rfl, rfl⟩, by simp [Fr.get_put, Fr.get]⟩
theorem cut253d : rst 9 ir4_c = .seq (nth 9 ir4_c) (rst 10 ir4_c) := rfl
theorem cut253e : rst 16 ir4_c = .seq (nth 16 ir4_c) (rst 17 ir4_c) := rfl
theorem p4_16n {fr : Fr} {H : Heap} (h : fr.get 29 = .t (tb false)) {m : Int} {gl : List Int} {gv : V} (hG : G4 m gl gv fr H) : ∃ fr3 H3, execD env (nth 16 ir4_c) (fr, H) = some (.norm, fr3, H3) ∧ G4 m gl gv fr3 H3 := by
  obtain ⟨f33, f34, f35, k1004, hv, hl⟩ := hG
  exact ⟨_, H, by simp [nth, rst, ir4_c, h, Fr.get_put]; exact rfl, ⟨by simp [Fr.get_put, f33], by simp [Fr.get_put, f34], by simp [Fr.get_put, f35], by simp [kput, k1004], hv, hl⟩⟩
theorem p4_9all (hC : BL C2 bs2) {fr : Fr} (h1 : fr.get 1 = .t C2) (hK : K2 fr) (P : Heap) : ∃ fr' H', execD env (rst 9 ir4_c) (fr, P) = some (.ret, fr', H') ∧ fr'.get 4 = .t (tb true) := by
  obtain ⟨a, b, xs, q, l, sv, lv, Z, X, Ls, Lt, fr', e1009, hS, h1', hX, hx, hl, hsh⟩ := p4_9 hC h1 hK.1 hK.2 P
  rw [cut253d, execD_seq, e1009]
  show ∃ fr'' H', execD env (rst 10 ir4_c) (fr', _) = some (.ret, fr'', H') ∧ fr''.get 4 = .t (tb true)
  cases hok : rbOk a b xs q l with
  | false =>
    obtain ⟨fr2, H2, m, gl, gv, e1010, h29, hG⟩ := p4_15n hC hS h1' hX hx hl hok
    obtain ⟨fr3, H3, e1016, hG3⟩ := p4_16n h29 hG
    rw [e1010, cut253e, execD_seq, e1016]
    exact p4_17 hG3
  | true =>
    obtain ⟨fr2, Z2, m, gl, gv, L, hL, e1010, hS16, hgl, hgv⟩ := p4_15y hC hS h1' hX hx hl hok
    have hne : l ≠ [] := by
      unfold rbOk at hok
      rw [Bool.and_eq_true] at hok
      exact row_ne hok.2
    have key : ∃ fr3 H3 gv', execD env (nth 16 ir4_c) (fr2, (P ++ Z) ++ (.box 2 [.t (ti a), .t (ti b)] :: .box 2 [sv, .t (tb q)] :: .pure 1 (tbs L) :: .box 2 [.ref ((P ++ Z).length + 2) 0 xs.length, .t (tb (!q))] :: .pure 1 (tbs L) :: .box 2 [.ref ((P ++ Z).length + 4) 0 xs.length, .t (tb (!q))] :: Z2)) = some (.norm, fr3, H3) ∧ G4 m gl gv' fr3 H3 := by
      rcases hsh with ⟨_, _, h, _⟩ | ⟨rfl, rfl, rfl⟩ | ⟨_, _, h, _⟩ | ⟨rfl, rfl, rfl⟩
      · exact absurd h hne
      · rcases hgv with ⟨rfl, h0, rfl⟩ | ⟨rfl, rfl⟩
        · exact p4_16Tn hx hl hok h0 hgl hL hS16
        · exact p4_16Tg hx hl hok hgl hL hS16
      · exact absurd h hne
      · rcases hgv with ⟨rfl, h0, rfl⟩ | ⟨rfl, rfl⟩
        · exact p4_16Rn hx hl hok h0 hgl hL hS16
        · exact p4_16Rg hx hl hok hgl hL hS16
    obtain ⟨fr3, H3, gv', e1016, hG3⟩ := key
    rw [e1010, cut253e, execD_seq, e1016]
    exact p4_17 hG3
theorem r253b (hC1 : BL C1 bs1) (hC2 : BL C2 bs2) (hb : ¬ 1048576 < bs1.length + bs2.length) : ownR env 4 [C1, C2] = some (.t (tb true), []) := by
  obtain ⟨a, b, xs, q, v, H, h265, hv, hl⟩ := r17 hC1
  have key : ∃ fr H', execD env ir4_c ([(0, .t C1), (1, .t C2)], []) = execD env (rst 9 ir4_c) (fr, H') ∧ fr.get 1 = .t C2 ∧ K2 fr := by
    cases hok : roOk a b xs q with
    | false => exact a253n hC1.len hC2.len hb h265 hv hl hok
    | true =>
      rcases hv with ⟨rfl, rfl⟩ | ⟨rfl, rfl⟩
      · exact a253T hC1.len hC2.len hb h265 hl hok
      · exact a253P hC1.len hC2.len hb h265 hl hok
  obtain ⟨fr, H', e, h1, hK⟩ := key
  obtain ⟨fr', H'', e1002, h4⟩ := p4_9all hC2 h1 hK H'
  rw [own_ir e4 _ rfl]
  rw [e1002] at e
  have eb : ir4.body = ir4_c := rfl
  have er : ir4.res = [.tmp 4] := rfl
  rw [eb, er]
  simp [e, h4]
theorem big253 {n1 n2 : Nat} (h1 : ∀ H, evLen H 1 (.t C1) = some (n1 : Int)) (h2 : ∀ H, evLen H 1 (.t C2) = some (n2 : Int)) (hb : 1048576 < n1 + n2) : ownR env 4 [C1, C2] = some (.t (tb true), []) := by
  have q5 := r5 h1 h2
  simp only [hb, decide_true] at q5
  rw [own_ir e4 _ rfl]
  have e : ir4.body = .seq (nth 0 ir4_c) (.seq (nth 1 ir4_c) (rst 2 ir4_c)) := rfl
  rw [e]
  generalize rst 2 ir4_c = TL
  simp [nth, rst, ir4, ir4_c, q5]
theorem r4_top {t1000 t1001 : List T} (h0 : wfBs t1000) (h1 : wfBs t1001) : ∃ C1 C2, t1000 = [C1] ∧ t1001 = [C2] ∧ ownR env 4 [C1, C2] = some (.t (tb true), []) := by
  obtain ⟨C1, bs1, rfl, l1001, k1001⟩ := bl_of h0
  obtain ⟨C2, bs2, rfl, l1002, k1002⟩ := bl_of h1
  refine ⟨C1, C2, rfl, rfl, ?_⟩
  by_cases hb : 1048576 < bs1.length + bs2.length
  · exact big253 l1001 l1002 hb
  · exact r253b (k1001 (by omega)) (k1002 (by omega)) (by omega)
end Go.Proofs.Ytanlmanifpknoaa.Ev

