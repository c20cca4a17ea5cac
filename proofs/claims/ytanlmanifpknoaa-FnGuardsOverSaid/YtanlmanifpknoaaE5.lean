/- The evaluator and what it gives of the functions, part 5. No conditions of ours: a law's row is in YtanlmanifpknoaaLFnGuardsOver. -/
import Derived.Test.YtanlmanifpknoaaE4
namespace Go.Proofs.Ytanlmanifpknoaa.Ev
open Go
set_option linter.unusedVariables false
set_option linter.unusedSimpArgs false
set_option linter.unusedSectionVars false
attribute [local simp] til_getE til_length til_get til_drop til_take til_snoc til_fold take_snoc til_set ptl_len
def fb (G C s N : Nat) (ov : V) (g k b left : Nat) (x y : Int) (fd : Bool) (i j : Nat) : Fr := [(0, .t (ti G)), (1, .t (ti C)), (2, .t (ti s)), (8, .ref 0 0 N), (9, ov), (10, .t (ti g)), (11, .t (ti k)), (12, .t (ti b)), (13, .t (ti left)), (14, .t (ti x)), (15, .t (ti y)), (16, .t (tb fd)), (17, .t (ti i)), (18, .t (ti j))]
theorem x256found (G C s N : Nat) (ov : V) (H : Heap) (g k b left : Nat) (x y : Int) (i j : Nat) (hi : i ≤ 100) (hj : j ≤ 100) :
    ∃ e, KE e ∧ loopF env true [0, 1, 2, 8, 9, 10, 11, 12, 13, 14, 15, 16, 17, 18] ir8_b0 (fb G C s N ov g k b left x y true i j, H) = some (.exit 4, fb G C s N ov g k b left x y true i j ++ e, H) := by
  have h1 : IntKind.i64.wrap ((i : Int) + j) = (i : Int) + j := w96 (by omega)
  by_cases h2 : (i : Int) + j ≤ s
  · refine ⟨[(56, .t (ti i)), (57, .t (ti j)), (58, .t (ti ((i : Int) + j))), (59, .t (ti s)), (60, .t (tb true)), (61, .t (tb true)), (62, .t (tb true)), (63, .t (tb false)), (64, .t (tb false))], by intro p hp; simp at hp; rcases hp with rfl | rfl | rfl | rfl | rfl | rfl | rfl | rfl | rfl <;> simp, ?_⟩
    rw [x8_0]
    simp [ir8_d0, fb, h1, h2]
  · refine ⟨[(56, .t (ti i)), (57, .t (ti j)), (58, .t (ti ((i : Int) + j))), (59, .t (ti s)), (60, .t (tb false)), (61, .t (tb false)), (62, .tup []), (63, .tup []), (64, .t (tb false))], by intro p hp; simp at hp; rcases hp with rfl | rfl | rfl | rfl | rfl | rfl | rfl | rfl | rfl <;> simp, ?_⟩
    rw [x8_0]
    simp [ir8_d0, fb, h1, h2]
set_option maxHeartbeats 4000000 in
theorem l256y (G C s N : Nat) (hG : G ≤ 8) (hC : C ≤ 8) (hs : s ≤ 4) (far : List Int) (hfl : far.length = N) (hN : N = (G + 1) * (C + 1) * 2) (hfar : ∀ y, okG G C y → far[cdC C y]?.getD 0 = DG G C s y) (g k b : Nat) (hx : okG G C (g, k, b)) (n : Nat) (hn : n ≤ 1000) (acc : List (Nat × Nat)) (ha : acc.length ≤ 2 ^ 30) (i : Nat) (hi : i ≤ s) : ∀ (d j : Nat), i + j + d = s + 1 →
    match ((List.range' j d).map fun y => (i, y)).find? (condS G C s (g, k, b) n) with
    | none => ∃ e, KE e ∧ loopF env true [0, 1, 2, 8, 9, 10, 11, 12, 13, 14, 15, 16, 17, 18] ir8_b0 (fb G C s N (oV acc) g k b (n + 1) 0 0 false i j, oH far acc) = some (.exit 4, fb G C s N (oV acc) g k b (n + 1) 0 0 false i (s + 1 - i) ++ e, oH far acc)
    | some m => ∃ e j', KE e ∧ j' ≤ 10 ∧ loopF env true [0, 1, 2, 8, 9, 10, 11, 12, 13, 14, 15, 16, 17, 18] ir8_b0 (fb G C s N (oV acc) g k b (n + 1) 0 0 false i j, oH far acc) = some (.exit 4, fb G C s N (oV (acc ++ [m])) g k b (n + 1) (stepTo (g, k, b) m).1 (stepTo (g, k, b) m).2.1 true i j' ++ e, oH far (acc ++ [m])) := by
  intro d
  induction d with
  | zero =>
    intro j hj
    have h1 : IntKind.i64.wrap ((i : Int) + j) = (i : Int) + j := w96 (by omega)
    have h2 : ¬ ((i : Int) + j ≤ s) := by omega
    have hjs : s + 1 - i = j := by omega
    refine ⟨[(56, .t (ti i)), (57, .t (ti j)), (58, .t (ti ((i : Int) + j))), (59, .t (ti s)), (60, .t (tb false)), (61, .t (tb false)), (62, .tup []), (63, .tup []), (64, .t (tb false))], by intro p hp; simp at hp; rcases hp with rfl | rfl | rfl | rfl | rfl | rfl | rfl | rfl | rfl <;> simp, ?_⟩
    rw [x8_0, hjs]
    simp [ir8_d0, fb, h1, h2]
  | succ d ihd =>
    intro j hj
    have ih := ihd (j + 1) (by omega)
    rw [List.range'_succ, List.map_cons, List.find?_cons]
    have h1 : IntKind.i64.wrap ((i : Int) + j) = (i : Int) + j := w96 (by omega)
    have h2 : (i : Int) + j ≤ s := by omega
    have hb : b = 0 ∨ b = 1 := by have := hx.2.2; simp only at this; omega
    have hg := hx.1
    have hk := hx.2.1
    simp only at hg hk
    have a1 : IntKind.i64.wrap ((g : Int) + i) = (g : Int) + i := w96 (by omega)
    have a2 : IntKind.i64.wrap ((k : Int) + j) = (k : Int) + j := w96 (by omega)
    have a3 : IntKind.i64.wrap ((g : Int) - i) = (g : Int) - i := w96 (by omega)
    have a4 : IntKind.i64.wrap ((k : Int) - j) = (k : Int) - j := w96 (by omega)
    have a5 : IntKind.i64.wrap ((j : Int) + 1) = (j : Int) + 1 := w96 (by omega)
    have a6 : IntKind.i64.wrap ((n : Int) + 1 - 1) = (n : Int) := by rw [show (n : Int) + 1 - 1 = n by omega]; exact w96 (by omega)
    have a6' : IntKind.i64.wrap (n : Int) = n := w96 (by omega)
    have hNs : N ≤ 200 := by
      have : (G + 1) * (C + 1) ≤ 9 * 9 := Nat.mul_le_mul (by omega) (by omega)
      omega
    have u1 : IntKind.i64.wrap 1 = 1 := by decide
    have u0 : IntKind.i64.wrap 0 = 0 := by decide
    have q41 : okG G C (stepTo (g, k, b) (i, j)) → ((stepTo (g, k, b) (i, j)).1 : Int) = (tgt (g, k, b) i j).1 → ((stepTo (g, k, b) (i, j)).2.1 : Int) = (tgt (g, k, b) i j).2 → ownR env 41 [ti C, ti ((tgt (g, k, b) i j).1), ti ((tgt (g, k, b) i j).2), ti ((1 - b : Nat) : Int)] = some (.t (ti (cdC C (stepTo (g, k, b) (i, j)) : Nat)), []) := by
      intro hok e1001 e1002
      have h := r41 C (stepTo (g, k, b) (i, j)).1 (stepTo (g, k, b) (i, j)).2.1 (stepTo (g, k, b) (i, j)).2.2 (by omega) (by have := hok.1; omega) (by have := hok.2.1; omega) hok.2.2
      rw [e1001, e1002] at h
      exact h
    have hokS : inB (tgt (g, k, b) i j).1 0 G = true → inB (tgt (g, k, b) i j).2 0 C = true → okG G C (stepTo (g, k, b) (i, j)) ∧ ((stepTo (g, k, b) (i, j)).1 : Int) = (tgt (g, k, b) i j).1 ∧ ((stepTo (g, k, b) (i, j)).2.1 : Int) = (tgt (g, k, b) i j).2 := by
      intro m1002 m1003
      rw [inB_iff] at m1002 m1003
      have e1001 : ((tgt (g, k, b) i j).1.toNat : Int) = (tgt (g, k, b) i j).1 := by omega
      have e1002 : ((tgt (g, k, b) i j).2.toNat : Int) = (tgt (g, k, b) i j).2 := by omega
      exact ⟨⟨by simp only [stepTo]; omega, by simp only [stepTo]; omega, by simp only [stepTo]; omega⟩, e1001, e1002⟩
    cases hc : condS G C s (g, k, b) n (i, j) with
    | true =>
      simp only
      obtain ⟨e, he, ih⟩ := x256found G C s N (oV (acc ++ [(i, j)])) (oH far (acc ++ [(i, j)])) g k b (n + 1) (stepTo (g, k, b) (i, j)).1 (stepTo (g, k, b) (i, j)).2.1 i (j + 1) (by omega) (by omega)
      refine ⟨e, j + 1, he, by omega, ?_⟩
      rw [x8_0]
      unfold condS at hc
      simp only [Bool.and_eq_true, decide_eq_true_eq] at hc
      obtain ⟨⟨⟨⟨m1001, m1004⟩, m1002⟩, m1003⟩, m1005⟩ := hc
      obtain ⟨hok, e1001, e1002⟩ := hokS m1002 m1003
      have q := q41 hok e1001 e1002
      have hncN : cdC C (stepTo (g, k, b) (i, j)) < N := hN ▸ cdC_lt hok
      have hfv := hfar _ hok
      rw [m1005] at hfv
      rw [e1001, e1002] at ih ⊢
      have m1001' : ¬ ((i : Int) + j = 0) := by omega
      have hq : acc.length ≤ 68719476735 := by omega
      have hsn := ptl_snoc acc (i, j)
      generalize cdC C (stepTo (g, k, b) (i, j)) = nc at *
      have hnc : nc < far.length := by omega
      have hfv' : far[nc] = n := by simpa [hnc] using hfv
      rcases hb with rfl | rfl
      · simp only [tgt, Nat.zero_ne_one, if_false] at m1002 m1003 q ih ⊢
        cases acc with
        | nil =>
          have hp1 : ptl [(i, j)] = [.lst 1 [ti i, ti j]] := by simp [ptl]
          simp [fb, oV, oH, hp1] at ih q
          simp [ir8_d0, fb, oV, oH, h1, h2, a1, a2, a3, a4, a5, a6, a6', m1001', r38, m1004, m1002, m1003, u1, u0, q, hncN, hnc, hfv', hfl, hp1, ih]
        | cons m1000 acc =>
          simp [fb, oV, oH] at ih q hsn hq
          simp [ir8_d0, fb, oV, oH, h1, h2, a1, a2, a3, a4, a5, a6, a6', m1001', r38, m1004, m1002, m1003, u1, u0, q, hncN, hnc, hfv', hfl, hq, hsn, ih]
      · simp only [tgt, if_true] at m1002 m1003 q ih ⊢
        cases acc with
        | nil =>
          have hp1 : ptl [(i, j)] = [.lst 1 [ti i, ti j]] := by simp [ptl]
          simp [fb, oV, oH, hp1] at ih q
          simp [ir8_d0, fb, oV, oH, h1, h2, a1, a2, a3, a4, a5, a6, a6', m1001', r38, m1004, m1002, m1003, u1, u0, q, hncN, hnc, hfv', hfl, hp1, ih]
        | cons m1000 acc =>
          simp [fb, oV, oH] at ih q hsn hq
          simp [ir8_d0, fb, oV, oH, h1, h2, a1, a2, a3, a4, a5, a6, a6', m1001', r38, m1004, m1002, m1003, u1, u0, q, hncN, hnc, hfv', hfl, hq, hsn, ih]
    | false =>
      simp only
      have skip : ∀ (ov : V) (H : Heap), (ov = .t .nil ∧ H = [.pure 1 (til far)]) ∨ (∃ w L, ov = .ref 1 0 w ∧ H = [.pure 1 (til far), .pure 1 L]) → ∀ R, loopF env true [0, 1, 2, 8, 9, 10, 11, 12, 13, 14, 15, 16, 17, 18] ir8_b0 (fb G C s N ov g k b (n + 1) 0 0 false i (j + 1), H) = some R → loopF env true [0, 1, 2, 8, 9, 10, 11, 12, 13, 14, 15, 16, 17, 18] ir8_b0 (fb G C s N ov g k b (n + 1) 0 0 false i j, H) = some R := by
        intro ov H hov R ih
        rw [x8_0]
        unfold condS at hc
        simp [fb] at ih
        by_cases v1 : 0 < i + j
        · have v1' : ¬ ((i : Int) + j = 0) := by omega
          cases v4 : fine (i : Int) (j : Int) with
          | false => rcases hb with rfl | rfl <;> rcases hov with ⟨rfl, rfl⟩ | ⟨w, L, rfl, rfl⟩ <;> simp at ih <;> simp [ir8_d0, fb, h1, h2, a1, a2, a3, a4, a5, v1', r38, v4, ih]
          | true =>
            cases v2 : inB (tgt (g, k, b) i j).1 0 G with
            | false => rcases hb with rfl | rfl <;> simp [tgt] at v2 <;> rcases hov with ⟨rfl, rfl⟩ | ⟨w, L, rfl, rfl⟩ <;> simp at ih <;> simp [ir8_d0, fb, h1, h2, a1, a2, a3, a4, a5, v1', r38, v4, v2, ih]
            | true =>
              cases v3 : inB (tgt (g, k, b) i j).2 0 C with
              | false => rcases hb with rfl | rfl <;> simp [tgt] at v2 v3 <;> rcases hov with ⟨rfl, rfl⟩ | ⟨w, L, rfl, rfl⟩ <;> simp at ih <;> simp [ir8_d0, fb, h1, h2, a1, a2, a3, a4, a5, v1', r38, v4, v2, v3, ih]
              | true =>
                obtain ⟨hok, e1001, e1002⟩ := hokS v2 v3
                have q := q41 hok e1001 e1002
                have hncN : cdC C (stepTo (g, k, b) (i, j)) < N := hN ▸ cdC_lt hok
                have hfv := hfar _ hok
                have hne : DG G C s (stepTo (g, k, b) (i, j)) ≠ n := by simpa [v1, v2, v3, v4] using hc
                rw [← hfv] at hne
                generalize cdC C (stepTo (g, k, b) (i, j)) = nc at *
                have hnc : nc < far.length := by omega
                have hne' : ¬ (far[nc] = n) := by simpa [hnc] using hne
                rcases hb with rfl | rfl
                · simp [tgt] at v2 v3 q
                  rcases hov with ⟨rfl, rfl⟩ | ⟨w, L, rfl, rfl⟩ <;> simp at ih <;> simp [ir8_d0, fb, h1, h2, a1, a2, a3, a4, a5, a6, a6', v1', r38, v4, v2, v3, u1, u0, q, hncN, hnc, hne', hfl, ih]
                · simp [tgt] at v2 v3 q
                  rcases hov with ⟨rfl, rfl⟩ | ⟨w, L, rfl, rfl⟩ <;> simp at ih <;> simp [ir8_d0, fb, h1, h2, a1, a2, a3, a4, a5, a6, a6', v1', r38, v4, v2, v3, u1, u0, q, hncN, hnc, hne', hfl, ih]
        · obtain ⟨rfl, rfl⟩ : i = 0 ∧ j = 0 := by omega
          simp at ih h1 a1 a2 a3 a4 a5
          rcases hb with rfl | rfl <;> rcases hov with ⟨rfl, rfl⟩ | ⟨w, L, rfl, rfl⟩ <;> simp at ih <;> simp [ir8_d0, fb, h1, h2, a1, a2, a3, a4, a5, ih]
      have hov : (oV acc = .t .nil ∧ oH far acc = [.pure 1 (til far)]) ∨ (∃ w L, oV acc = .ref 1 0 w ∧ oH far acc = [.pure 1 (til far), .pure 1 L]) := by
        cases acc with
        | nil => exact Or.inl ⟨rfl, rfl⟩
        | cons m1000 acc => exact Or.inr ⟨_, _, rfl, rfl⟩
      cases hfd : ((List.range' (j + 1) d).map fun y => (i, y)).find? (condS G C s (g, k, b) n) with
      | none =>
        rw [hfd] at ih
        simp only at ih ⊢
        obtain ⟨e, he, ih⟩ := ih
        exact ⟨e, he, skip _ _ hov _ ih⟩
      | some m =>
        rw [hfd] at ih
        simp only at ih ⊢
        obtain ⟨e, j', he, hj', ih⟩ := ih
        exact ⟨e, j', he, hj', skip _ _ hov _ ih⟩
end Go.Proofs.Ytanlmanifpknoaa.Ev

namespace Go.Proofs.Ytanlmanifpknoaa.Ev
open Go
set_option linter.unusedVariables false
set_option linter.unusedSimpArgs false
set_option linter.unusedSectionVars false
attribute [local simp] til_getE til_length til_get til_drop til_take til_snoc til_fold take_snoc til_set ptl_len
def fm (G C s N : Nat) (ov : V) (g k b left : Nat) (x y : Int) (fd : Bool) (i : Nat) : Fr := [(0, .t (ti G)), (1, .t (ti C)), (2, .t (ti s)), (8, .ref 0 0 N), (9, ov), (10, .t (ti g)), (11, .t (ti k)), (12, .t (ti b)), (13, .t (ti left)), (14, .t (ti x)), (15, .t (ti y)), (16, .t (tb fd)), (17, .t (ti i))]
theorem oVH (far : List Int) (acc : List (Nat × Nat)) : (oV acc = .t .nil ∧ oH far acc = [.pure 1 (til far)]) ∨ (∃ w L, oV acc = .ref 1 0 w ∧ oH far acc = [.pure 1 (til far), .pure 1 L]) := by
  cases acc with
  | nil => exact Or.inl ⟨rfl, rfl⟩
  | cons m1000 acc => exact Or.inr ⟨_, _, rfl, rfl⟩
theorem x256end (G C s N : Nat) (ov : V) (H : Heap) (g k b left : Nat) (x y : Int) (i : Nat) :
    ∃ e, KE e ∧ loopF env true [0, 1, 2, 8, 9, 10, 11, 12, 13, 14, 15, 16, 17] ir8_b1 (fm G C s N ov g k b left x y true i, H) = some (.exit 2, fm G C s N ov g k b left x y true i ++ e, H) := by
  by_cases h2 : (i : Int) ≤ s
  · refine ⟨[(47, .t (ti i)), (48, .t (ti s)), (49, .t (tb true)), (50, .t (tb true)), (51, .t (tb true)), (52, .t (tb false)), (53, .t (tb false))], by intro p hp; simp at hp; rcases hp with rfl | rfl | rfl | rfl | rfl | rfl | rfl <;> simp, ?_⟩
    rw [x8_1]
    simp [ir8_d1, fm, h2]
  · refine ⟨[(47, .t (ti i)), (48, .t (ti s)), (49, .t (tb false)), (50, .t (tb false)), (51, .tup []), (52, .tup []), (53, .t (tb false))], by intro p hp; simp at hp; rcases hp with rfl | rfl | rfl | rfl | rfl | rfl | rfl <;> simp, ?_⟩
    rw [x8_1]
    simp [ir8_d1, fm, h2]
set_option maxHeartbeats 4000000 in
theorem l256x (G C s N : Nat) (hG : G ≤ 8) (hC : C ≤ 8) (hs : s ≤ 4) (far : List Int) (hfl : far.length = N) (hN : N = (G + 1) * (C + 1) * 2) (hfar : ∀ y, okG G C y → far[cdC C y]?.getD 0 = DG G C s y) (g k b : Nat) (hx : okG G C (g, k, b)) (n : Nat) (hn : n ≤ 1000) (acc : List (Nat × Nat)) (ha : acc.length ≤ 2 ^ 30) (m : Nat × Nat) : ∀ (d i : Nat), i + d = s + 1 → (rowsM s i d).find? (condS G C s (g, k, b) n) = some m →
    ∃ e i', KE e ∧ loopF env true [0, 1, 2, 8, 9, 10, 11, 12, 13, 14, 15, 16, 17] ir8_b1 (fm G C s N (oV acc) g k b (n + 1) 0 0 false i, oH far acc) = some (.exit 2, fm G C s N (oV (acc ++ [m])) g k b (n + 1) (stepTo (g, k, b) m).1 (stepTo (g, k, b) m).2.1 true i' ++ e, oH far (acc ++ [m])) := by
  intro d
  induction d with
  | zero => intro i hi h; simp [rowsM] at h
  | succ d ihd =>
    intro i hi hm
    rw [rowsM_cons, List.find?_append] at hm
    have hin := l256y G C s N hG hC hs far hfl hN hfar g k b hx n hn acc ha i (by omega) (s + 1 - i) 0 (by omega)
    have hrow : ((List.range' 0 (s + 1 - i)).map fun y => (i, y)) = rowM i 0 (s + 1 - i) := rfl
    rw [hrow] at hin
    have h2 : (i : Int) ≤ s := by omega
    have a5 : IntKind.i64.wrap ((i : Int) + 1) = (i : Int) + 1 := w96 (by omega)
    cases hr : (rowM i 0 (s + 1 - i)).find? (condS G C s (g, k, b) n) with
    | none =>
      rw [hr] at hm hin
      obtain ⟨e, he, h⟩ := hin
      obtain ⟨e', i', he', ih⟩ := ihd (i + 1) (by omega) (by simpa using hm)
      refine ⟨e', i', he', ?_⟩
      rw [x8_1]
      have hk := ((he.put (t := 54) (by omega) (.t (ti i))).put (t := 55) (by omega) (.t (ti ((i : Int) + 1)))).keep [0, 1, 2, 8, 9, 10, 11, 12, 13, 14, 15, 16, 17] (by simp)
      generalize hoR : fm G C s N (oV (acc ++ [m])) g k b (n + 1) (stepTo (g, k, b) m).1 (stepTo (g, k, b) m).2.1 true i' ++ e' = FR at *
      generalize oH far (acc ++ [m]) = HR at *
      rcases oVH far acc with ⟨q1001, q1002⟩ | ⟨w, L, q1001, q1002⟩
      · rw [q1001, q1002] at h ih ⊢
        simp [fb] at h
        simp [fm] at ih
        simp [ir8_d1, fm, h2, h, a5, Fr.get_put, hk, ih]
      · rw [q1001, q1002] at h ih ⊢
        simp [fb] at h
        simp [fm] at ih
        simp [ir8_d1, fm, h2, h, a5, Fr.get_put, hk, ih]
    | some m' =>
      rw [hr] at hm hin
      obtain ⟨e, j', he, hj', h⟩ := hin
      have : m' = m := by simpa using hm
      subst this
      obtain ⟨e', he', ih⟩ := x256end G C s N (oV (acc ++ [m'])) (oH far (acc ++ [m'])) g k b (n + 1) (stepTo (g, k, b) m').1 (stepTo (g, k, b) m').2.1 (i + 1)
      refine ⟨e', i + 1, he', ?_⟩
      rw [x8_1]
      have hk := ((he.put (t := 54) (by omega) (.t (ti i))).put (t := 55) (by omega) (.t (ti ((i : Int) + 1)))).keep [0, 1, 2, 8, 9, 10, 11, 12, 13, 14, 15, 16, 17] (by simp)
      generalize ((stepTo (g, k, b) m').1 : Int) = sx at *
      generalize ((stepTo (g, k, b) m').2.1 : Int) = sy at *
      have q1004 : ∃ w L, oV (acc ++ [m']) = .ref 1 0 w ∧ oH far (acc ++ [m']) = [.pure 1 (til far), .pure 1 L] := by
        cases acc <;> exact ⟨_, _, rfl, rfl⟩
      obtain ⟨w', L', q1005, q1006⟩ := q1004
      rw [q1005, q1006] at h ih ⊢
      rcases oVH far acc with ⟨q1001, q1002⟩ | ⟨w, L, q1001, q1002⟩
      · rw [q1001, q1002] at h ⊢
        simp [fb] at h
        simp [fm] at ih
        simp [ir8_d1, fm, h2, h, a5, Fr.get_put, hk, ih]
      · rw [q1001, q1002] at h ⊢
        simp [fb] at h
        simp [fm] at ih
        simp [ir8_d1, fm, h2, h, a5, Fr.get_put, hk, ih]
end Go.Proofs.Ytanlmanifpknoaa.Ev

namespace Go.Proofs.Ytanlmanifpknoaa.Ev
open Go
set_option linter.unusedVariables false
set_option linter.unusedSimpArgs false
set_option linter.unusedSectionVars false
attribute [local simp] til_getE til_length til_get til_drop til_take til_snoc til_fold take_snoc til_set ptl_len
def fo (G C s N : Nat) (ov : V) (x : Nd) (left : Nat) : Fr := [(0, .t (ti G)), (1, .t (ti C)), (2, .t (ti s)), (8, .ref 0 0 N), (9, ov), (10, .t (ti x.1)), (11, .t (ti x.2.1)), (12, .t (ti x.2.2)), (13, .t (ti left))]
set_option maxHeartbeats 4000000 in
theorem l256o (G C s N : Nat) (hG : G ≤ 8) (hC : C ≤ 8) (hs : s ≤ 4) (hf : fine G C = true) (far : List Int) (hfl : far.length = N) (hN : N = (G + 1) * (C + 1) * 2) (hfar : ∀ y, okG G C y → far[cdC C y]?.getD 0 = DG G C s y) (hT : TabG G C s (DG G C s)) : ∀ (n : Nat) (x : Nd) (acc : List (Nat × Nat)), n ≤ 1000 → okG G C x → Dist (scG G C s) (lastG G C) n x → acc.length + n ≤ 2 ^ 30 →
    ∃ fr, loopF env true [0, 1, 2, 8, 9, 10, 11, 12, 13] ir8_b2 (fo G C s N (oV acc) x n, oH far acc) = some (.exit 0, fr, oH far (acc ++ pathG G C s (DG G C s) n x)) ∧ fr.get 9 = oV (acc ++ pathG G C s (DG G C s) n x) := by
  intro n
  induction n with
  | zero =>
    intro x acc hn hx hd ha
    refine ⟨fo G C s N (oV acc) x 0 ++ [(43, .t (ti 0)), (44, .t (tb false))], ?_, ?_⟩
    · rw [x8_2]
      simp [ir8_d2, fo, pathG]
    · simp [fo, pathG]
  | succ n ihn =>
    intro x acc hn hx hd ha
    obtain ⟨m, h1, h2, h3, h4, h5, h6, _⟩ := find_near hf hT hx hd
    have hfd : (rowsM s 0 (s + 1)).find? (condS G C s x n) = some m := by rw [rowsM_all, find_condS hf hT hx hd, h1]
    obtain ⟨e, i', he, h⟩ := l256x G C s N hG hC hs far hfl hN hfar x.1 x.2.1 x.2.2 hx n (by omega) acc (by omega) m (s + 1) 0 (by omega) hfd
    obtain ⟨fr, ih, ih2⟩ := ihn (stepTo x m) (acc ++ [m]) (by omega) h5 h4 (by simp; omega)
    have hpath : pathG G C s (DG G C s) (n + 1) x = m :: pathG G C s (DG G C s) n (stepTo x m) := by rw [pathG, h1]
    have hx3 : (stepTo x m).2.2 = 1 - x.2.2 := rfl
    have hb : x.2.2 = 0 ∨ x.2.2 = 1 := by have := hx.2.2; omega
    have hxx : stepTo (x.1, x.2.1, x.2.2) m = stepTo x m := rfl
    rw [hpath, show acc ++ m :: pathG G C s (DG G C s) n (stepTo x m) = acc ++ [m] ++ pathG G C s (DG G C s) n (stepTo x m) by simp]
    refine ⟨fr, ?_, ih2⟩
    rw [x8_2]
    rw [hxx] at h
    generalize oH far (acc ++ [m] ++ pathG G C s (DG G C s) n (stepTo x m)) = HR at *
    unfold fo at ih
    rw [hx3] at ih
    generalize ((stepTo x m).1 : Int) = sx at *
    generalize ((stepTo x m).2.1 : Int) = sy at *
    obtain ⟨g, k, b⟩ := x
    simp only at h hb ih ⊢
    have a6 : IntKind.i64.wrap ((n : Int) + 1 - 1) = (n : Int) := by rw [show (n : Int) + 1 - 1 = n by omega]; exact w96 (by omega)
    have a6' : IntKind.i64.wrap (n : Int) = n := w96 (by omega)
    have u1 : IntKind.i64.wrap 1 = 1 := by decide
    have u0 : IntKind.i64.wrap 0 = 0 := by decide
    have hp : (0 : Int) < (n : Int) + 1 := by omega
    obtain ⟨w', L', q1005, q1006⟩ : ∃ w L, oV (acc ++ [m]) = .ref 1 0 w ∧ oH far (acc ++ [m]) = [.pure 1 (til far), .pure 1 L] := by
      cases acc <;> exact ⟨_, _, rfl, rfl⟩
    rw [q1005, q1006] at h ih
    have hk : ∀ v1 v2 v3 v4 v5 v6 : V, keep [0, 1, 2, 8, 9, 10, 11, 12, 13] ((((((e.put 123 v1).put 124 v2).put 125 v3).put 126 v4).put 45 v5).put 46 v6) = [] := fun v1 v2 v3 v4 v5 v6 => ((((((he.put (t := 123) (by omega) v1).put (t := 124) (by omega) v2).put (t := 125) (by omega) v3).put (t := 126) (by omega) v4).put (t := 45) (by omega) v5).put (t := 46) (by omega) v6).keep _ (by simp)
    rcases hb with rfl | rfl <;> rcases oVH far acc with ⟨q1001, q1002⟩ | ⟨w, L, q1001, q1002⟩ <;> rw [q1001, q1002] at h ⊢ <;> simp [fm] at h <;> simp at ih <;>
      simp [ir8_d2, fo, hp, h, a6, a6', u1, u0, Fr.get_put, hk, ih]
theorem r8 (g c s : Int) : ownFR env 8 [ti g, ti c, ti s] = firstV g c s (fewG g c s) := by
  rw [ownF_ir e8 _ rfl]
  cases hs : sidesB g c s with
  | false =>
    have hb : (sidesB g c s && fine g c) = false := by rw [hs]; rfl
    have hn := fewG_bad hb
    simp [ir8, ir8_c, r37, hs, hn, firstV]
  | true =>
    cases hf : fine g c with
    | false =>
      have hb : (sidesB g c s && fine g c) = false := by rw [hs, hf]; rfl
      have hn := fewG_bad hb
      simp [ir8, ir8_c, r37, r38, hs, hf, hn, firstV]
    | true =>
      have hb : (sidesB g c s && fine g c) = true := by rw [hs, hf]; rfl
      obtain ⟨G, C, S, rfl, rfl, rfl, hG, hC, hS, hf'⟩ := sides_nat hb
      obtain ⟨r, h1, h2, h3⟩ := r39 G C S hG hC hS hf'
      have hN0 : 0 < (G + 1) * (C + 1) := Nat.mul_pos (by omega) (by omega)
      have hr0 : 0 < r.length := by omega
      have hg : r[0]?.getD 0 = r[0] := by simp [hr0]
      obtain ⟨N, hN⟩ : ∃ N, N = (G + 1) * (C + 1) * 2 := ⟨_, rfl⟩
      rw [← hN] at h1 h2
      have hNs : 0 < N := by omega
      rcases few_far hb (by simp [cdC, node0]) h3 with ⟨h4, h5⟩ | ⟨d, h4, h5, hd⟩
      · rw [hg] at h4
        simp [ir8, ir8_c, r37, r38, hs, hf, h1, h5, firstV, hr0, h4, hNs]
      · rw [hg] at h4
        have hodd := fewG_odd h5
        have hB := bfsG9 (s := S) hG hC
        have hd162 := dist_lt hB (lastG_ok hf').1 hd
        have hT := tab_DG h3
        obtain ⟨fr, k1001, k1002⟩ := l256o G C S N hG hC hS hf' r h2 hN (far_DG h3) hT d node0 [] (by omega) node0_ok hd (by simp; omega)
        have hlen := pathG_len hf' hT d node0 node0_ok hd
        have hway : pathG G C S (DG G C S) d node0 = wayG G C S d := rfl
        rw [List.nil_append, hway] at k1001 k1002
        rw [hway] at hlen
        have hne : ¬ ((d : Int) < 0) := by omega
        cases hw : wayG (G : Int) C S d with
        | nil => rw [hw] at hlen; simp at hlen; omega
        | cons m1000 ms =>
          rw [hw] at k1001 k1002 hlen
          simp [fo, node0, oV, oH] at k1001 k1002
          simp at hlen
          simp [ir8, ir8_c, r37, r38, hs, hf, h1, h5, firstV, hr0, h4, hNs, hne, k1001, k1002, hw, hlen, Fr.get_put]
end Go.Proofs.Ytanlmanifpknoaa.Ev

namespace Go.Proofs.Ytanlmanifpknoaa.Ev
open Go
set_option linter.unusedVariables false
set_option linter.unusedSimpArgs false
set_option linter.unusedSectionVars false

@[simp] theorem gpk {α : Type} (P R : List α) (k : Nat) : (P ++ R)[P.length + k]? = R[k]? := by rw [List.getElem?_append_right (by omega), Nat.add_sub_cancel_left]
@[simp] theorem spk {α : Type} (P R : List α) (k : Nat) (x : α) : (P ++ R).set (P.length + k) x = P ++ R.set k x := by rw [List.set_append_right _ _ (by omega), Nat.add_sub_cancel_left]
@[simp] theorem gpa {α : Type} (P R : List α) (a k : Nat) : (P ++ R)[P.length + a + k]? = R[a + k]? := by rw [Nat.add_assoc, gpk]
structure BL (C : T) (bs : List Int) : Prop where
  len : ∀ H, evLen H 1 (.t C) = some (bs.length : Int)
  ix : ∀ H (i : Nat) (h : i < bs.length), evIxa H 1 (.t C) (.t (.int .i64 i)) = some (.rptr (.int .u8 bs[i]) 0)
  rng : ∀ b ∈ bs, 0 ≤ b ∧ b < 256
  small : bs.length ≤ 2 ^ 30
def CurX (C : T) (K : Nat) (X : Blk) : Prop := ∃ a s : Int, X = .box 3 [.t C, .t (ti a), .t (.int .u64 s)] ∧ 0 ≤ a ∧ a ≤ K
theorem CurX.mono {C : T} {K K' : Nat} {X : Blk} (h : CurX C K X) (hk : K ≤ K') : CurX C K' X := by
  obtain ⟨a, s, h1, h2, h3⟩ := h
  exact ⟨a, s, h1, h2, by omega⟩
theorem w1008_and (a : Int) : 0 ≤ ((BitVec.ofInt IntKind.u64.bits a &&& BitVec.ofInt IntKind.u64.bits 255).toNat : Int) ∧ ((BitVec.ofInt IntKind.u64.bits a &&& BitVec.ofInt IntKind.u64.bits 255).toNat : Int) < 256 := by
  refine ⟨Int.natCast_nonneg _, ?_⟩
  have h : (BitVec.ofInt IntKind.u64.bits 255).toNat = 255 := by decide
  rw [BitVec.toNat_and, h]
  have := @Nat.and_le_right (BitVec.ofInt IntKind.u64.bits a).toNat 255
  omega
theorem wu8 {n : Int} (h : 0 ≤ n ∧ n < 256) : IntKind.u64.wrap n = n := by
  unfold IntKind.wrap
  simp only [IntKind.signed, IntKind.bits]
  simp
  omega
variable {C : T} {bs : List Int}
theorem r77 (hC : BL C bs) (P Q : Heap) (K : Nat) (hK : K ≤ 2 ^ 40) (X : Blk) (hX : CurX C K X) :
    ∃ n X', den env 77 [.ptr P.length 0 0] (P ++ X :: Q) = some (.t (ti n), P ++ X' :: Q) ∧ CurX C (K + 1) X' ∧ 0 ≤ n ∧ n < 256 := by
  obtain ⟨a, s, rfl, h0, hk⟩ := hX
  have hlen := hC.len
  have hsm := hC.small
  have hw : IntKind.i64.wrap (a + 1) = a + 1 := w96 (by omega)
  suffices h : ∃ n s', den env 77 [.ptr P.length 0 0] (P ++ .box 3 [.t C, .t (ti a), .t (.int .u64 s)] :: Q) = some (.t (ti n), P ++ .box 3 [.t C, .t (ti (a + 1)), .t (.int .u64 s')] :: Q) ∧ 0 ≤ n ∧ n < 256 by
    obtain ⟨n, s', h1, h2⟩ := h
    exact ⟨n, _, h1, ⟨a + 1, s', rfl, by omega, by omega⟩, h2⟩
  by_cases h1 : a < bs.length
  · have hix := fun H => hC.ix H a.toNat (by omega)
    rw [show ((a.toNat : Nat) : Int) = a by omega] at hix
    have hr := hC.rng (bs[a.toNat]'(by omega)) (List.getElem_mem _)
    have hw2 : IntKind.i64.wrap (bs[a.toNat]'(by omega)) = bs[a.toNat]'(by omega) := w96 (by omega)
    have h2 : a + 1 ≤ bs.length := by omega
    have e : ∃ n s', den env 77 [.ptr P.length 0 0] (P ++ .box 3 [.t C, .t (ti a), .t (.int .u64 s)] :: Q) = some (.t (ti n), P ++ .box 3 [.t C, .t (ti (a + 1)), .t (.int .u64 s')] :: Q) ∧ n = bs[a.toNat]'(by omega) := by
      rw [den_ir e77 _ _ rfl (.inl rfl)]
      simp [ir77, ir77_c, hlen, h1, hix, hw, hw2, h2]
    obtain ⟨n, s', e1001, rfl⟩ := e
    exact ⟨_, s', e1001, hr⟩
  · have h2 : ¬ a + 1 ≤ bs.length := by omega
    have e : ∃ n s', den env 77 [.ptr P.length 0 0] (P ++ .box 3 [.t C, .t (ti a), .t (.int .u64 s)] :: Q) = some (.t (ti n), P ++ .box 3 [.t C, .t (ti (a + 1)), .t (.int .u64 s')] :: Q) ∧ ∃ x : Int, n = IntKind.i64.wrap (IntKind.u64.wrap ((BitVec.ofInt IntKind.u64.bits x &&& BitVec.ofInt IntKind.u64.bits 255).toNat : Int)) := by
      rw [den_ir e77 _ _ rfl (.inl rfl)]
      simp [ir77, ir77_c, hlen, h1, hw, h2, evBin, evInt]
      exact ⟨_, rfl⟩
    obtain ⟨n, s', e1001, x, rfl⟩ := e
    have h3 := w1008_and x
    refine ⟨_, s', e1001, ?_⟩
    rw [wu8 h3, w96 (by omega)]
    exact h3
end Go.Proofs.Ytanlmanifpknoaa.Ev

namespace Go.Proofs.Ytanlmanifpknoaa.Ev
open Go
set_option linter.unusedVariables false
set_option linter.unusedSimpArgs false
set_option linter.unusedSectionVars false
attribute [local simp] til_getE til_length til_get
variable {C : T} {bs : List Int}
def Dn (C : T) (K : Nat) (P Q : Heap) (lo hi : Int) (r : Option (V × Heap)) : Prop := ∃ n X', r = some (.t (ti n), P ++ X' :: Q) ∧ CurX C K X' ∧ lo ≤ n ∧ n < hi
theorem r43 (hC : BL C bs) (P Q : Heap) {K : Nat} (hK : K ≤ 2 ^ 39) {X : Blk} (hX : CurX C K X) (m : Int) (hm : m ≤ 2 ^ 40) :
    Dn C (K + 2) P Q 0 (max m 1) (den env 43 [.ptr P.length 0 0, .t (ti m)] (P ++ X :: Q)) := by
  by_cases h1 : m ≤ 1
  · refine ⟨0, X, ?_, hX.mono (by omega), by omega, by omega⟩
    rw [den_ir e43 _ _ rfl (.inl rfl)]
    simp [ir43, ir43_c, h1]
  · obtain ⟨n, X1, e1001, hX1, a1, b1⟩ := r77 hC P Q K (by omega) X hX
    have hmx : max m 1 = m := by omega
    rw [hmx]
    by_cases h2 : 200 < m
    · obtain ⟨n2, X2, e1002, hX2, a2, b2⟩ := r77 hC P Q (K + 1) (by omega) X1 hX1
      have w1001 : IntKind.i64.wrap (n * 256) = n * 256 := w96 (by omega)
      have w1002 : IntKind.i64.wrap (n * 256 + n2) = n * 256 + n2 := w96 (by omega)
      have hm0 : ¬ m = 0 := by omega
      refine ⟨(n * 256 + n2).tmod m, X2, ?_, hX2, Int.tmod_nonneg _ (by omega), Int.tmod_lt_of_pos _ (by omega)⟩
      rw [den_ir e43 _ _ rfl (.inl rfl)]
      simp [ir43, ir43_c, h1, h2, e1001, e1002, w1001, w1002, evBin, evInt, hm0]
    · have hm0 : ¬ m = 0 := by omega
      refine ⟨n.tmod m, X1, ?_, hX1.mono (by omega), Int.tmod_nonneg _ (by omega), Int.tmod_lt_of_pos _ (by omega)⟩
      rw [den_ir e43 _ _ rfl (.inl rfl)]
      simp [ir43, ir43_c, h1, h2, e1001, evBin, evInt, hm0]
theorem r42 (hC : BL C bs) (P Q : Heap) {K : Nat} (hK : K ≤ 2 ^ 39) {X : Blk} (hX : CurX C K X) (m : Int) (hm : m ≤ 2 ^ 40) :
    ∃ b X', den env 42 [.ptr P.length 0 0, .t (ti m)] (P ++ X :: Q) = some (.t (tb b), P ++ X' :: Q) ∧ CurX C (K + 2) X' := by
  obtain ⟨n, X1, e1001, hX1, a1, b1⟩ := r43 hC P Q hK hX m hm
  refine ⟨decide (n = 0), X1, ?_, hX1⟩
  rw [den_ir e42 _ _ rfl (.inl rfl)]
  simp [ir42, ir42_c, e1001]
theorem r70 (hC : BL C bs) (P Q : Heap) {K : Nat} (hK : K ≤ 2 ^ 39) {X : Blk} (hX : CurX C K X) (l : List Int) (h0 : 0 < l.length) (hl : l.length ≤ 1000) :
    ∃ n X', den env 70 [.ptr P.length 0 0, .t (tl l)] (P ++ X :: Q) = some (.t (ti n), P ++ X' :: Q) ∧ CurX C (K + 2) X' ∧ n ∈ l := by
  obtain ⟨n, X1, e1001, hX1, a1, b1⟩ := r43 hC P Q hK hX l.length (by omega)
  have hlt : n.toNat < l.length := by omega
  refine ⟨l[n.toNat], X1, ?_, hX1, List.getElem_mem _⟩
  rw [den_ir e70 _ _ rfl (.inl rfl)]
  simp [ir70, ir70_c, e1001, til_length, a1, til_get, hlt]
end Go.Proofs.Ytanlmanifpknoaa.Ev

namespace Go.Proofs.Ytanlmanifpknoaa.Ev
open Go
set_option linter.unusedVariables false
set_option linter.unusedSimpArgs false
set_option linter.unusedSectionVars false
attribute [local simp] til_getE til_length til_get
variable {C : T} {bs : List Int}
end Go.Proofs.Ytanlmanifpknoaa.Ev

namespace Go.Proofs.Ytanlmanifpknoaa.Ev
open Go
set_option linter.unusedVariables false
set_option linter.unusedSimpArgs false
set_option linter.unusedSectionVars false
attribute [local simp] til_getE til_length til_get til_snoc take_snoc til_take
variable {C : T} {bs : List Int}
end Go.Proofs.Ytanlmanifpknoaa.Ev

namespace Go.Proofs.Ytanlmanifpknoaa.Ev
open Go
set_option linter.unusedVariables false
set_option linter.unusedSimpArgs false
set_option linter.unusedSectionVars false
attribute [local simp] til_getE til_length til_get til_drop til_take til_snoc til_fold take_snoc til_set
def LN (X : T) (l : List Int) : Prop := (X = .nil ∧ l = []) ∨ X = .lst 1 (til l)
theorem LN.len {X : T} {l : List Int} (h : LN X l) (H : Heap) : evLen H 1 (.t X) = some (l.length : Int) := by
  rcases h with ⟨rfl, rfl⟩ | rfl <;> simp
theorem LN.of (l : List Int) : LN (.lst 1 (til l)) l := .inr rfl
end Go.Proofs.Ytanlmanifpknoaa.Ev

namespace Go.Proofs.Ytanlmanifpknoaa.Ev
open Go
set_option linter.unusedVariables false
set_option linter.unusedSimpArgs false
set_option linter.unusedSectionVars false
attribute [local simp] til_getE til_length til_get til_drop til_take til_snoc til_fold take_snoc til_set
end Go.Proofs.Ytanlmanifpknoaa.Ev

namespace Go.Proofs.Ytanlmanifpknoaa.Ev
open Go
set_option linter.unusedVariables false
set_option linter.unusedSimpArgs false
set_option linter.unusedSectionVars false
attribute [local simp] til_getE til_length til_get til_drop til_take til_snoc til_fold take_snoc til_set
theorem LN.ix {X : T} {l : List Int} (h : LN X l) (H : Heap) (i : Nat) (hi : i < l.length) : evIxa H 1 (.t X) (.t (.int .i64 i)) = some (.rptr (.int .i64 l[i]) 0) := by
  rcases h with ⟨rfl, rfl⟩ | rfl
  · simp at hi
  · simp [hi]
theorem w32 (X Y : T) (l m : List Int) (hX : LN X l) (hY : LN Y m) (hlm : l.length = m.length) (hl : l.length ≤ 2 ^ 40) : ∀ (d i : Nat), i + d = l.length →
    endO [.tmp 4] (andN (outB 0 (loopF env true [0, 1, 12, 13] ir32_b0 ([(0, .t X), (1, .t Y), (12, .t (ti l.length)), (13, .t (ti i))], []))) (execD env (.seq (.reg false [] [⟨some 4, none, .mv (.k (tb true))⟩]) .ret))) = some (.t (tb (decide (l.drop i = m.drop i))), [])
  | 0, i, hi => by
    rw [x32_0]
    have : i = l.length := by omega
    subst this
    have : m.drop l.length = [] := by rw [hlm]; simp
    simp [ir32_d0, this]
  | d + 1, i, hi => by
    rw [x32_0]
    have hlt : i < l.length := by omega
    have hltm : i < m.length := by omega
    have hw : IntKind.i64.wrap ((i : Int) + 1) = (i : Int) + 1 := w96 (by omega)
    have ih := w32 X Y l m hX hY hlm hl d (i + 1) (by omega)
    have hs : decide (l.drop i = m.drop i) = (decide (l[i] = m[i]) && decide (l.drop (i + 1) = m.drop (i + 1))) := by
      rw [List.drop_eq_getElem_cons hlt, List.drop_eq_getElem_cons hltm, Bool.eq_iff_iff, Bool.and_eq_true, decide_eq_true_eq, decide_eq_true_eq, decide_eq_true_eq, List.cons.injEq]
    rw [hs]
    have hxi := fun H => hX.ix H i hlt
    have hyi := fun H => hY.ix H i hltm
    generalize decide (l.drop (i + 1) = m.drop (i + 1)) = A at *
    simp at ih
    by_cases h : l[i] = m[i]
    · simp [ir32_d0, hlt, hw, hxi, hyi, h, ih]
    · simp [ir32_d0, hlt, hw, hxi, hyi, h]
theorem r32 (X Y : T) (l m : List Int) (hX : LN X l) (hY : LN Y m) (hl : l.length ≤ 2 ^ 40) : ownR env 32 [X, Y] = some (.t (tb (decide (l = m))), []) := by
  rw [own_ir e32 _ rfl]
  have h1 := hX.len
  have h2 := hY.len
  by_cases hlm : l.length = m.length
  · have h := w32 X Y l m hX hY hlm hl l.length 0 (by omega)
    simp at h
    simp [ir32, ir32_c, h1, h2, hlm] at h ⊢
    simp [h]
  · have hne : ¬ (l = m) := fun e => hlm (by rw [e])
    have hne2 : ¬ ((l.length : Int) = m.length) := by omega
    have hd : decide ((l.length : Int) = m.length) = false := decide_eq_false hne2
    simp [ir32, ir32_c, h1, h2, hne, hd]
end Go.Proofs.Ytanlmanifpknoaa.Ev

namespace Go.Proofs.Ytanlmanifpknoaa.Ev
open Go
set_option linter.unusedVariables false
set_option linter.unusedSimpArgs false
set_option linter.unusedSectionVars false
attribute [local simp] til_getE til_length til_get til_drop til_take til_snoc til_fold take_snoc til_set
end Go.Proofs.Ytanlmanifpknoaa.Ev

namespace Go.Proofs.Ytanlmanifpknoaa.Ev
open Go
set_option linter.unusedVariables false
set_option linter.unusedSimpArgs false
set_option linter.unusedSectionVars false
attribute [local simp] til_getE til_length til_get til_drop til_take til_snoc til_fold take_snoc til_set
end Go.Proofs.Ytanlmanifpknoaa.Ev

namespace Go.Proofs.Ytanlmanifpknoaa.Ev
open Go
set_option linter.unusedVariables false
set_option linter.unusedSimpArgs false
set_option linter.unusedSectionVars false
attribute [local simp] til_getE til_length til_get til_drop til_take til_snoc til_fold take_snoc til_set
def RetS (r : Option Out) (Q : Fr → Heap → Prop) : Prop := ∃ fr H, r = some (.ret, fr, H) ∧ Q fr H
@[simp] theorem retS_some (fr : Fr) (H : Heap) (Q : Fr → Heap → Prop) : RetS (some (.ret, fr, H)) Q ↔ Q fr H := by
  constructor
  · rintro ⟨_, _, h, hq⟩; cases h; exact hq
  · exact fun h => ⟨_, _, rfl, h⟩
end Go.Proofs.Ytanlmanifpknoaa.Ev

namespace Go.Proofs.Ytanlmanifpknoaa.Ev
open Go
set_option linter.unusedVariables false
set_option linter.unusedSimpArgs false
set_option linter.unusedSectionVars false
attribute [local simp] til_getE til_length til_get til_drop til_take til_snoc til_fold take_snoc til_set
end Go.Proofs.Ytanlmanifpknoaa.Ev

namespace Go.Proofs.Ytanlmanifpknoaa.Ev
open Go
set_option linter.unusedVariables false
set_option linter.unusedSimpArgs false
set_option linter.unusedSectionVars false
attribute [local simp] til_getE til_length til_get til_drop til_take til_snoc til_fold take_snoc til_set
end Go.Proofs.Ytanlmanifpknoaa.Ev

namespace Go.Proofs.Ytanlmanifpknoaa.Ev
open Go
set_option linter.unusedVariables false
set_option linter.unusedSimpArgs false
set_option linter.unusedSectionVars false
attribute [local simp] til_getE til_length til_get til_drop til_take til_snoc til_fold take_snoc til_set
end Go.Proofs.Ytanlmanifpknoaa.Ev

namespace Go.Proofs.Ytanlmanifpknoaa.Ev
open Go
set_option linter.unusedVariables false
set_option linter.unusedSimpArgs false
set_option linter.unusedSectionVars false
attribute [local simp] til_getE til_length til_get til_drop til_take til_snoc til_fold take_snoc til_set
end Go.Proofs.Ytanlmanifpknoaa.Ev

namespace Go.Proofs.Ytanlmanifpknoaa.Ev
open Go
set_option linter.unusedVariables false
set_option linter.unusedSimpArgs false
set_option linter.unusedSectionVars false

end Go.Proofs.Ytanlmanifpknoaa.Ev

namespace Go.Proofs.Ytanlmanifpknoaa.Ev
open Go
set_option linter.unusedVariables false
set_option linter.unusedSimpArgs false
set_option linter.unusedSectionVars false
attribute [local simp] til_getE til_length til_get til_snoc take_snoc til_take tlv_getE tlv_length tlv_take
variable {C : T} {bs : List Int}
end Go.Proofs.Ytanlmanifpknoaa.Ev

namespace Go.Proofs.Ytanlmanifpknoaa.Ev
open Go
set_option linter.unusedVariables false
set_option linter.unusedSimpArgs false
set_option linter.unusedSectionVars false
attribute [local simp] til_getE til_length til_get til_snoc take_snoc til_take tlv_getE tlv_length tlv_take til_set
variable {C : T} {bs : List Int}
end Go.Proofs.Ytanlmanifpknoaa.Ev

namespace Go.Proofs.Ytanlmanifpknoaa.Ev
open Go
set_option linter.unusedVariables false
set_option linter.unusedSimpArgs false
set_option linter.unusedSectionVars false
attribute [local simp] til_getE til_length til_get til_snoc take_snoc til_take tlv_getE tlv_length tlv_take til_set
variable {C : T} {bs : List Int}
end Go.Proofs.Ytanlmanifpknoaa.Ev

namespace Go.Proofs.Ytanlmanifpknoaa.Ev
open Go
set_option linter.unusedVariables false
set_option linter.unusedSimpArgs false
set_option linter.unusedSectionVars false
attribute [local simp] til_getE til_length til_get til_snoc take_snoc til_take tlv_getE tlv_length tlv_take til_set
variable {C : T} {bs : List Int}
end Go.Proofs.Ytanlmanifpknoaa.Ev

namespace Go.Proofs.Ytanlmanifpknoaa.Ev
open Go
set_option linter.unusedVariables false
set_option linter.unusedSimpArgs false
set_option linter.unusedSectionVars false
attribute [local simp] til_getE til_length til_get til_drop til_take til_snoc til_fold take_snoc til_set
def rst : Nat → C → C
  | 0, c => c
  | k + 1, .seq _ b => rst k b
  | _ + 1, c => c
def nth (k : Nat) (c : C) : C := match rst k c with | .seq a _ => a | c => c
variable {a1 b1 c1001 a2 b2 c1002 a3 b3 c1003 : Int} {X1 G1 X2 Z : T} {p1001 t1001 p1002 : Int} {fr : Fr} {H : Heap}
end Go.Proofs.Ytanlmanifpknoaa.Ev

namespace Go.Proofs.Ytanlmanifpknoaa.Ev
open Go
set_option linter.unusedVariables false
set_option linter.unusedSimpArgs false
set_option linter.unusedSectionVars false
attribute [local simp] til_getE til_length til_get til_drop til_take til_snoc til_fold take_snoc til_set
variable {a1 b1 c1001 a2 b2 c1002 a3 b3 c1003 : Int} {X1 G1 X2 Z : T} {p1001 t1001 p1002 : Int} {fr : Fr} {H : Heap}
end Go.Proofs.Ytanlmanifpknoaa.Ev

namespace Go.Proofs.Ytanlmanifpknoaa.Ev
open Go
set_option linter.unusedVariables false
set_option linter.unusedSimpArgs false
set_option linter.unusedSectionVars false
attribute [local simp] til_getE til_length til_get til_drop til_take til_snoc til_fold take_snoc til_set
variable {a1 b1 c1001 a2 b2 c1002 a3 b3 c1003 : Int} {X1 G1 X2 Z : T} {p1001 t1001 p1002 : Int} {fr : Fr} {H : Heap}
end Go.Proofs.Ytanlmanifpknoaa.Ev

namespace Go.Proofs.Ytanlmanifpknoaa.Ev
open Go
set_option linter.unusedVariables false
set_option linter.unusedSimpArgs false
set_option linter.unusedSectionVars false

variable {a1 b1 c1001 a2 b2 c1002 a3 b3 c1003 : Int} {X1 G1 X2 Z : T} {p1001 t1001 p1002 : Int}
end Go.Proofs.Ytanlmanifpknoaa.Ev

namespace Go.Proofs.Ytanlmanifpknoaa.Ev
open Go
set_option linter.unusedVariables false
set_option linter.unusedSimpArgs false
set_option linter.unusedSectionVars false
attribute [local simp] til_getE til_length til_get til_snoc take_snoc til_take tlv_getE tlv_length tlv_take til_set
variable {C : T} {bs : List Int}
end Go.Proofs.Ytanlmanifpknoaa.Ev

namespace Go.Proofs.Ytanlmanifpknoaa.Ev
open Go
set_option linter.unusedVariables false
set_option linter.unusedSimpArgs false
set_option linter.unusedSectionVars false
attribute [local simp] til_getE til_length til_get til_snoc take_snoc til_take tlv_getE tlv_length tlv_take til_set
variable {C : T} {bs : List Int}
theorem cur0 (C : T) : CurX C 0 (.box 3 [.t C, .t (ti 0), .t (.int .u64 0)]) := ⟨0, 0, rfl, by omega, by omega⟩
theorem BL.one (hC : BL C bs) : T.one C = true := by
  have := hC.len []
  cases C <;> first | rfl | (simp [evLen] at this)
theorem BL.cells (hC : BL C bs) : V.cells (.t C) = some [.t C] := by
  have := hC.len []
  cases C <;> first | rfl | (simp [evLen] at this)
end Go.Proofs.Ytanlmanifpknoaa.Ev

namespace Go.Proofs.Ytanlmanifpknoaa.Ev
open Go
set_option linter.unusedVariables false
set_option linter.unusedSimpArgs false
set_option linter.unusedSectionVars false
attribute [local simp] til_getE til_length til_get til_snoc take_snoc til_take tlv_getE tlv_length tlv_take til_set
variable {C : T} {bs : List Int}
end Go.Proofs.Ytanlmanifpknoaa.Ev

namespace Go.Proofs.Ytanlmanifpknoaa.Ev
open Go
set_option linter.unusedVariables false
set_option linter.unusedSimpArgs false
set_option linter.unusedSectionVars false
attribute [local simp] til_getE til_length til_get til_snoc take_snoc til_take tlv_getE tlv_length tlv_take til_set
variable {C : T} {bs : List Int}
end Go.Proofs.Ytanlmanifpknoaa.Ev

namespace Go.Proofs.Ytanlmanifpknoaa.Ev
open Go
set_option linter.unusedVariables false
set_option linter.unusedSimpArgs false
set_option linter.unusedSectionVars false

variable {a1 b1 c1001 a2 b2 c1002 a3 b3 c1003 : Int} {X1 G1 X2 Z : T} {p1001 t1001 p1002 : Int} {fr : Fr} {H : Heap}
end Go.Proofs.Ytanlmanifpknoaa.Ev

namespace Go.Proofs.Ytanlmanifpknoaa.Ev
open Go
set_option linter.unusedVariables false
set_option linter.unusedSimpArgs false
set_option linter.unusedSectionVars false
attribute [local simp] til_getE til_length til_get til_drop til_take til_snoc til_fold take_snoc til_set
variable {C : T} {bs : List Int} {fr : Fr} {H : Heap}
end Go.Proofs.Ytanlmanifpknoaa.Ev

namespace Go.Proofs.Ytanlmanifpknoaa.Ev
open Go
set_option linter.unusedVariables false
set_option linter.unusedSimpArgs false
set_option linter.unusedSectionVars false
attribute [local simp] til_getE til_length til_get til_drop til_take til_snoc til_fold take_snoc til_set
variable {a1 b1 c1001 : Int} {X1 G1 Z : T} {p1001 t1001 : Int} {fr : Fr} {H : Heap}
end Go.Proofs.Ytanlmanifpknoaa.Ev

namespace Go.Proofs.Ytanlmanifpknoaa.Ev
open Go
set_option linter.unusedVariables false
set_option linter.unusedSimpArgs false
set_option linter.unusedSectionVars false
attribute [local simp] til_getE til_length til_get til_drop til_take til_snoc til_fold take_snoc til_set
variable {a1 b1 c1001 a2 b2 c1002 a3 b3 c1003 : Int} {X1 G1 X2 Z : T} {p1001 t1001 p1002 : Int} {fr : Fr} {H : Heap}
end Go.Proofs.Ytanlmanifpknoaa.Ev

namespace Go.Proofs.Ytanlmanifpknoaa.Ev
open Go
set_option linter.unusedVariables false
set_option linter.unusedSimpArgs false
set_option linter.unusedSectionVars false
attribute [local simp] til_getE til_length til_get til_drop til_take til_snoc til_fold take_snoc til_set
variable {a1 b1 c1001 a2 b2 c1002 a3 b3 c1003 : Int} {X1 G1 X2 Z : T} {p1001 t1001 p1002 : Int} {fr : Fr} {H : Heap}
end Go.Proofs.Ytanlmanifpknoaa.Ev

namespace Go.Proofs.Ytanlmanifpknoaa.Ev
open Go
set_option linter.unusedVariables false
set_option linter.unusedSimpArgs false
set_option linter.unusedSectionVars false

variable {a1 b1 c1001 a2 b2 c1002 a3 b3 c1003 : Int} {X1 G1 X2 Z : T} {p1001 t1001 p1002 : Int} {fr : Fr} {H : Heap}
variable {C : T} {bs : List Int}
end Go.Proofs.Ytanlmanifpknoaa.Ev

namespace Go.Proofs.Ytanlmanifpknoaa.Ev
open Go
set_option linter.unusedVariables false
set_option linter.unusedSimpArgs false
set_option linter.unusedSectionVars false
attribute [local simp] til_getE til_length til_get til_snoc take_snoc til_take tlv_getE tlv_length tlv_take til_set
variable {C : T} {bs : List Int}
theorem r5 {C1 C2 : T} {n1 n2 : Nat} (h1 : ∀ H, evLen H 1 (.t C1) = some (n1 : Int)) (h2 : ∀ H, evLen H 1 (.t C2) = some (n2 : Int)) :
    ownR env 5 [C1, C2] = some (.t (tb (decide (1048576 < n1 + n2))), []) := by
  rw [own_ir e5 _ rfl]
  by_cases h : (1048576 : Int) < n1
  · have : 1048576 < n1 + n2 := by omega
    simp [ir5, ir5_c, h1, h, this]
  · have hw : IntKind.i64.wrap (1048576 - (n1 : Int)) = 1048576 - n1 := w96 (by omega)
    by_cases h3 : (1048576 : Int) - n1 < n2
    · have : 1048576 < n1 + n2 := by omega
      simp [ir5, ir5_c, h1, h2, h, hw, h3, this]
    · have : ¬ 1048576 < n1 + n2 := by omega
      simp [ir5, ir5_c, h1, h2, h, hw, h3, this]
end Go.Proofs.Ytanlmanifpknoaa.Ev

namespace Go.Proofs.Ytanlmanifpknoaa.Ev
open Go
set_option linter.unusedVariables false
set_option linter.unusedSimpArgs false
set_option linter.unusedSectionVars false
attribute [local simp] til_getE til_length til_get til_drop til_take til_snoc til_fold take_snoc til_set tlv_getE tlv_length tlv_take
end Go.Proofs.Ytanlmanifpknoaa.Ev

namespace Go.Proofs.Ytanlmanifpknoaa.Ev
open Go
set_option linter.unusedVariables false
set_option linter.unusedSimpArgs false
set_option linter.unusedSectionVars false
attribute [local simp] til_getE til_length til_get til_drop til_take til_snoc til_fold take_snoc til_set tlv_getE tlv_length tlv_take
variable {C1 C2 : T} {bs1 bs2 : List Int}
end Go.Proofs.Ytanlmanifpknoaa.Ev

namespace Go.Proofs.Ytanlmanifpknoaa.Ev
open Go
set_option linter.unusedVariables false
set_option linter.unusedSimpArgs false
set_option linter.unusedSectionVars false
attribute [local simp] til_getE til_length til_get til_drop til_take til_snoc til_fold take_snoc til_set tlv_getE tlv_length tlv_take
end Go.Proofs.Ytanlmanifpknoaa.Ev

namespace Go.Proofs.Ytanlmanifpknoaa.Ev
open Go
set_option linter.unusedVariables false
set_option linter.unusedSimpArgs false
set_option linter.unusedSectionVars false
attribute [local simp] til_getE til_length til_get til_drop til_take til_snoc til_fold take_snoc til_set tlv_getE tlv_length tlv_take
variable {C1 C2 : T} {bs1 bs2 : List Int}
end Go.Proofs.Ytanlmanifpknoaa.Ev

namespace Go.Proofs.Ytanlmanifpknoaa.Ev
open Go
set_option linter.unusedVariables false
set_option linter.unusedSimpArgs false
def wfB (ts : List T) : Prop := ∃ n, ts = [.int .u8 n] ∧ (Lit.int .u8 n).wf = true
def wfBs (ts : List T) : Prop := ts = [.nil] ∨ ∃ els : List (List T), ts = [.lst 1 (els.map fun x => x.headD .nil)] ∧ ∀ x ∈ els, wfB x
theorem bytes_of : ∀ (els : List (List T)), (∀ x ∈ els, wfB x) → ∃ bs : List Int, (els.map fun x => x.headD .nil) = bs.map (T.int .u8) ∧ ∀ b ∈ bs, 0 ≤ b ∧ b < 256
  | [], _ => ⟨[], rfl, by simp⟩
  | x :: els, h => by
    obtain ⟨n, rfl, hn⟩ := h x (List.mem_cons_self ..)
    obtain ⟨bs, h1, h2⟩ := bytes_of els fun x hx => h x (List.mem_cons_of_mem _ hx)
    refine ⟨n :: bs, by rw [List.map_cons, h1]; rfl, fun b hb => ?_⟩
    rcases List.mem_cons.1 hb with rfl | hb
    · simp only [Lit.wf, Bool.and_eq_true, decide_eq_true_eq] at hn
      have e1001 : IntKind.u8.min = 0 := by decide
      have e1002 : IntKind.u8.max = 255 := by decide
      omega
    · exact h2 b hb
theorem bl_of {ts : List T} (h : wfBs ts) : ∃ C bs, ts = [C] ∧ (∀ H, evLen H 1 (.t C) = some (bs.length : Int)) ∧ (bs.length ≤ 2 ^ 30 → BL C bs) := by
  rcases h with rfl | ⟨els, rfl, h⟩
  · exact ⟨.nil, [], rfl, fun H => rfl, fun _ => ⟨fun H => rfl, fun H i h => by simp at h, by simp, by simp⟩⟩
  · obtain ⟨bs, h1, h2⟩ := bytes_of els h
    rw [h1]
    exact ⟨_, bs, rfl, fun H => by simp, fun hs => ⟨fun H => by simp, fun H i h => by simp [h], h2, hs⟩⟩
end Go.Proofs.Ytanlmanifpknoaa.Ev

namespace Go.Proofs.Ytanlmanifpknoaa.Ev
open Go
set_option linter.unusedVariables false
set_option linter.unusedSimpArgs false
set_option linter.unusedSectionVars false
variable {C : T} {bs : List Int}
theorem r34 (hC : BL C bs) : ∃ g c s : Int, ownR env 34 [C] = some (.tup [.t (ti g), .t (ti c), .t (ti s)], []) := by
  obtain ⟨b, X1, e1001, c1001⟩ := r42 hC [] [] (by omega) (cur0 C) 10 (by omega)
  have hce := hC.cells
  cases b with
  | true =>
    obtain ⟨n1, X2, e1002, c1002, _⟩ := r70 hC [] [.froz 1 (til [-1, 0, 8, 9, 4611686018427387904])] (by omega) c1001 [-1, 0, 8, 9, 4611686018427387904] (by decide) (by decide)
    obtain ⟨n2, X3, e1003, c1003, _⟩ := r70 hC [] [.froz 1 (til [-1, 0, 8, 9, 4611686018427387904]), .froz 1 (til [-1, 0, 8, 9])] (by omega) c1002 [-1, 0, 8, 9] (by decide) (by decide)
    obtain ⟨n3, X4, e1004, c1004, _⟩ := r70 hC [] [.froz 1 (til [-1, 0, 8, 9, 4611686018427387904]), .froz 1 (til [-1, 0, 8, 9]), .froz 1 (til [0, 1, 4, 5])] (by omega) c1003 [0, 1, 4, 5] (by decide) (by decide)
    refine ⟨n1, n2, n3, ?_⟩
    rw [own_ir e34 _ rfl]
    simp [tl, til] at e1001 e1002 e1003 e1004
    simp [ir34, ir34_c, hce, e1001, e1002, e1003, e1004]
  | false =>
    obtain ⟨n1, X2, e1002, c1002, a1, b1⟩ := r43 hC [] [] (by omega) c1001 6 (by omega)
    obtain ⟨n2, X3, e1003, c1003, a2, b2⟩ := r43 hC [] [] (by omega) c1002 2 (by omega)
    obtain ⟨n3, X4, e1004, c1004, a3, b3⟩ := r43 hC [] [] (by omega) c1003 4 (by omega)
    have w1001 : IntKind.i64.wrap (1 + n1) = 1 + n1 := w96 (by omega)
    have w1002 : IntKind.i64.wrap (1 + n1 - n2) = 1 + n1 - n2 := w96 (by omega)
    have w1003 : IntKind.i64.wrap (1 + n3) = 1 + n3 := w96 (by omega)
    refine ⟨1 + n1, max 0 (1 + n1 - n2), 1 + n3, ?_⟩
    rw [own_ir e34 _ rfl]
    simp at e1001 e1002 e1003 e1004
    simp [ir34, ir34_c, hce, e1001, e1002, e1003, e1004, w1001, w1002, w1003, r73]
theorem r6 (hC : BL C bs) : ∃ g c s : Int, ownR env 6 [C] = some (.tup [.t (ti g), .t (ti c), .t (ti s)], []) := by
  obtain ⟨g, c, s, e⟩ := r34 hC
  refine ⟨g, c, s, ?_⟩
  rw [own_ir e6 _ rfl]
  simp [ir6, ir6_c, e]
theorem r13 (hC : BL C bs) : ∃ g c : Int, ownR env 13 [C] = some (.tup [.t (ti g), .t (ti c)], []) := by
  obtain ⟨b, X1, e1001, c1001⟩ := r42 hC [] [] (by omega) (cur0 C) 6 (by omega)
  obtain ⟨g, c, s, e⟩ := r34 hC
  have hce := hC.cells
  cases b with
  | true =>
    obtain ⟨n1, X2, e1002, c1002, a1, b1⟩ := r43 hC [] [] (by omega) c1001 4 (by omega)
    obtain ⟨n2, X3, e1003, c1003, a2, b2⟩ := r43 hC [] [] (by omega) c1002 6 (by omega)
    refine ⟨n1, n2, ?_⟩
    rw [own_ir e13 _ rfl]
    simp at e1001 e1002 e1003
    simp [ir13, ir13_c, hce, e, e1001, e1002, e1003]
  | false =>
    refine ⟨g, c, ?_⟩
    rw [own_ir e13 _ rfl]
    simp at e1001
    simp [ir13, ir13_c, hce, e, e1001]
def tm (l : List (Nat × Nat)) : T := .lst 1 (ptl l)
theorem l11 (L : List (Nat × Nat)) (hL : L.length ≤ 2 ^ 40) : ∀ (d k : Nat), k + d = L.length →
    ∃ fr, loopF env true [0, 1, 12, 13] ir11_b0 ([(0, .t (tm L)), (1, .t (tm L)), (12, .t (ti L.length)), (13, .t (ti k))], []) = some (.exit 0, fr, []) := by
  intro d
  induction d with
  | zero =>
    intro k hk
    have : k = L.length := by omega
    subst this
    rw [x11_0]
    exact ⟨_, by simp [ir11_d0]; exact rfl⟩
  | succ d ihd =>
    intro k hk
    obtain ⟨fr, ih⟩ := ihd (k + 1) (by omega)
    refine ⟨fr, ?_⟩
    rw [x11_0]
    have hlt : k < L.length := by omega
    have hw : IntKind.i64.wrap ((k : Int) + 1) = (k : Int) + 1 := w96 (by omega)
    have hp : (ptl L)[k]? = some (.lst 1 [ti L[k].1, ti L[k].2]) := by simp [ptl, hlt]
    have hpl : (ptl L).length = L.length := ptl_len L
    have hpk : (ptl L)[k]'(by omega) = .lst 1 [ti L[k].1, ti L[k].2] := by simp [ptl]
    have hln : LN (.lst 1 [ti L[k].1, ti L[k].2]) [(L[k].1 : Int), (L[k].2 : Int)] := LN.of [(L[k].1 : Int), (L[k].2 : Int)]
    have q := r32 _ _ _ _ hln hln (by simp)
    simp at ih q
    simp [ir11_d0, tm, hlt, hw, hp, hpl, hpk, q] at ih ⊢
    simp [ih]
end Go.Proofs.Ytanlmanifpknoaa.Ev

namespace Go.Proofs.Ytanlmanifpknoaa.Ev
open Go
set_option linter.unusedVariables false
set_option linter.unusedSimpArgs false
set_option linter.unusedSectionVars false
theorem keep_put (live : List Nat) (t : Nat) (v : V) : ∀ fr : Fr, keep live (fr.put t v) = if live.contains t then (keep live fr).put t v else keep live fr
  | [] => by
    unfold Fr.put
    cases h : live.contains t <;> simp only [keep, h, Fr.put, if_true, if_false, Bool.false_eq_true]
  | (s, u) :: fr => by
    have ih := keep_put live t v fr
    unfold Fr.put
    by_cases hst : s = t
    · subst hst
      cases h : live.contains s <;> simp only [keep, h, Fr.put, if_true, if_false, Bool.false_eq_true]
    · simp only [hst, if_false]
      cases h : live.contains s <;> cases h2 : live.contains t <;> rw [h2] at ih <;> simp only [if_true, if_false, Bool.false_eq_true] at ih <;> first | (simp only [keep, h, h2, hst, ih, if_true, if_false, Bool.false_eq_true]; done) | simp only [keep, h, h2, Fr.put, hst, ih, if_true, if_false, Bool.false_eq_true] <;> (try (cases keep live fr <;> rfl))
theorem l252i (G C : Nat) (hG : G ≤ 8) (hC : C ≤ 8) (N : Int) (a : Nat) (ha : a ≤ G) : ∀ (d j n : Nat), j + d = C + 1 → n ≤ 1000 + j →
    loopF env true [26, 27, 32, 40, 41, 42] ir3_b0 ([(26, .t (ti G)), (27, .t (ti C)), (32, .t (ti N)), (40, .t (ti n)), (41, .t (ti a)), (42, .t (ti j))], []) =
      some (.exit 4, [(26, .t (ti G)), (27, .t (ti C)), (32, .t (ti N)), (40, .t (ti (n + cntRow G C a j d : Nat))), (41, .t (ti a)), (42, .t (ti (C + 1 : Nat))), (337, .t (ti (C + 1 : Nat))), (338, .t (ti C)), (339, .t (tb false))], []) := by
  intro d
  induction d with
  | zero =>
    intro j n hj hn
    have : j = C + 1 := by omega
    subst this
    rw [x3_0]
    have w1002 : ¬ ((C : Int) + 1 ≤ C) := by omega
    simp [ir3_d0, cntRow, w1002]
  | succ d ihd =>
    intro j n hj hn
    rw [x3_0]
    have w1002 : (j : Int) ≤ C := by omega
    have a5 : IntKind.i64.wrap ((j : Int) + 1) = (j : Int) + 1 := w96 (by omega)
    have a6 : IntKind.i64.wrap ((n : Int) + 1) = (n : Int) + 1 := w96 (by omega)
    have a7 : IntKind.i64.wrap ((G : Int) - a) = ((G - a : Nat) : Int) := by rw [w96 (by omega)]; omega
    have a8 : IntKind.i64.wrap ((C : Int) - j) = ((C - j : Nat) : Int) := by rw [w96 (by omega)]; omega
    have hq : bothB G C a j = ((decide (a = 0) || decide (j ≤ a)) && (decide (G - a = 0) || decide (C - j ≤ G - a))) := by
      unfold bothB fine
      rw [Bool.eq_iff_iff]
      simp only [Bool.and_eq_true, Bool.or_eq_true, decide_eq_true_eq]
      omega
    rw [cntRow_cons, hq]
    have ih1 := ihd (j + 1) (n + 1) (by omega) (by omega)
    have ih0 := ihd (j + 1) n (by omega) (by omega)
    rw [show n + 1 + cntRow G C a (j + 1) d = n + (1 + cntRow G C a (j + 1) d) by omega] at ih1
    generalize cntRow G C a (j + 1) d = Y at *
    rcases Nat.eq_zero_or_pos a with rfl | hpos
    · have u0 : IntKind.i64.wrap 0 = 0 := by decide
      have a9 : IntKind.i64.wrap (G : Int) = (G : Int) := w96 (by omega)
      simp only [Nat.sub_zero] at ih1 ih0 ⊢
      generalize C - j = cj at *
      by_cases c1003 : G = 0 <;> by_cases c1004 : cj ≤ G
      all_goals
        simp [c1003, c1004] at ih1 ih0 ⊢
        simp [ir3_d0, w1002, a5, a6, a8, a9, u0, c1003, c1004, ih1, ih0]
        done
    · have c1001 : ¬ a = 0 := by omega
      generalize G - a = ga at *
      generalize C - j = cj at *
      by_cases c1002 : j ≤ a <;> by_cases c1003 : ga = 0 <;> by_cases c1004 : cj ≤ ga
      all_goals
        simp [c1001, c1002, c1003, c1004] at ih1 ih0 ⊢
        simp [ir3_d0, w1002, a5, a6, a7, a8, c1001, c1002, c1003, c1004, ih1, ih0]
        done
theorem l252o (G C : Nat) (hG : G ≤ 8) (hC : C ≤ 8) (N : Int) : ∀ (d i n : Nat), i + d = G + 1 → n ≤ 20 * i →
    loopF env true [26, 27, 32, 40, 41] ir3_b1 ([(26, .t (ti G)), (27, .t (ti C)), (32, .t (ti N)), (40, .t (ti n)), (41, .t (ti i))], []) =
      some (.exit 2, [(26, .t (ti G)), (27, .t (ti C)), (32, .t (ti N)), (40, .t (ti (n + cntAll G C i d : Nat))), (41, .t (ti (G + 1 : Nat))), (332, .t (ti (G + 1 : Nat))), (333, .t (ti G)), (334, .t (tb false))], []) := by
  intro d
  induction d with
  | zero =>
    intro i n hi hn
    have : i = G + 1 := by omega
    subst this
    rw [x3_1]
    have w1002 : ¬ ((G : Int) + 1 ≤ G) := by omega
    simp [ir3_d1, cntAll, w1002]
  | succ d ihd =>
    intro i n hi hn
    rw [x3_1]
    have w1002 : (i : Int) ≤ G := by omega
    have a5 : IntKind.i64.wrap ((i : Int) + 1) = (i : Int) + 1 := w96 (by omega)
    have hin := l252i G C hG hC N i (by omega) (C + 1) 0 n (by omega) (by omega)
    have hle := cntRow_le G C i 0 (C + 1)
    have ih := ihd (i + 1) (n + cntRow G C i 0 (C + 1)) (by omega) (by omega)
    rw [Nat.add_assoc] at ih
    unfold cntAll
    generalize cntRow G C i 0 (C + 1) = Y at *
    generalize cntAll G C (i + 1) d = Z at *
    simp at hin ih
    simp [ir3_d1, w1002, a5, hin, ih]
end Go.Proofs.Ytanlmanifpknoaa.Ev

namespace Go.Proofs.Ytanlmanifpknoaa.Ev
open Go
set_option linter.unusedVariables false
set_option linter.unusedSimpArgs false
set_option linter.unusedSectionVars false
theorem few_side {g c s : Int} {d : Nat} (h : fewG g c s = some d) : sidesB g c s = true := by
  have := (fewG_inv h).1
  rw [Bool.and_eq_true] at this
  exact this.1
theorem side_one {g c s : Int} (h : sidesB g c s = true) : sidesB g c 1 = true := by
  simp only [sidesB, Bool.and_eq_true, inB_iff, decide_eq_true_eq] at h ⊢
  omega
theorem few_zero (g c : Int) : fewG g c 0 = none := by
  cases h : fewG g c 0 with
  | none => rfl
  | some d =>
    have := few_side h
    simp [sidesB, inB] at this
theorem seats_some {g c : Int} {n : Nat} (h : seatsR g c = some n) : 1 ≤ n ∧ n ≤ 4 ∧ (∃ d, fewG g c n = some d) ∧ fewG g c ((n : Int) - 1) = none := by
  have key : ∀ s : Int, (fewG g c s).isSome = true → ∃ d, fewG g c s = some d := fun s h => Option.isSome_iff_exists.1 h
  have key2 : ∀ s : Int, ¬ (fewG g c s).isSome = true → fewG g c s = none := fun s h => by simpa using h
  unfold seatsR seatsG at h
  split at h
  · rename_i h1
    cases h
    exact ⟨by omega, by omega, key _ h1, few_zero g c⟩
  · rename_i h1
    unfold seatsG at h
    split at h
    · rename_i h2
      cases h
      exact ⟨by omega, by omega, key _ h2, key2 _ h1⟩
    · rename_i h2
      unfold seatsG at h
      split at h
      · rename_i h3
        cases h
        exact ⟨by omega, by omega, key _ h3, key2 _ h2⟩
      · rename_i h3
        unfold seatsG at h
        split at h
        · rename_i h4
          cases h
          exact ⟨by omega, by omega, key _ h4, key2 _ h3⟩
        · cases h
variable {C : T} {bs : List Int} {fr : Fr} {H : Heap}
set_option maxHeartbeats 4000000 in
set_option maxRecDepth 20000 in
theorem tail252 (hC : BL C bs) (f1 : fr.get 1 = .t C) (hk : keep [26, 27, 32, 40, 41] fr = []) : ∃ fr' H', execD env (rst 9 ir3_c) (fr, H) = some (.ret, fr', H') ∧ fr'.get 4 = .t (tb true) := by
  obtain ⟨g, c, q13⟩ := r13 hC
  have q12 := r12 g c
  have q14 := r14 g c
  have q15 := r15 g c
  have q16 := r16 g c
  have hone := hC.one
  have hcl := hC.cells
  have h1 : ∀ n, seatsR g c = some n → sidesB g c 1 = true := fun n h => by
    obtain ⟨_, _, ⟨d, hd⟩, _⟩ := seats_some h
    exact side_one (few_side hd)
  cases hsd : sidesB g c 1 with
  | false =>
    cases hse : seatsR g c with
    | some n => have := h1 n hse; rw [hsd] at this; cases this
    | none =>
      rw [hsd] at q15 q16
      rw [hse] at q12 q14
      simp [seatsV] at q12 q14 q15 q16
      refine ⟨_, _, by simp [rst, ir3_c, f1, hone, hcl, q13, q12, q14, q15, q16, Fr.get_put]; exact ⟨rfl, rfl⟩, ?_⟩
      simp [Fr.get_put]
  | true =>
    have hsb := hsd
    simp only [sidesB, Bool.and_eq_true, inB_iff, decide_eq_true_eq] at hsb
    obtain ⟨G, hG⟩ : ∃ G : Nat, g = G := ⟨g.toNat, by omega⟩
    obtain ⟨D, hD⟩ : ∃ D : Nat, c = D := ⟨c.toNat, by omega⟩
    subst hG
    subst hD
    have hl := l252o G D (by omega) (by omega) (cntAll G D 0 (G + 1) : Nat) (G + 1) 0 0 (by omega) (by omega)
    rw [hsd] at q15 q16
    simp only [Int.toNat_natCast, if_true] at q15 q16
    generalize cntAll G D 0 (G + 1) = N at *
    cases hse : seatsR G D with
    | none =>
      rw [hse] at q12 q14
      simp [seatsV] at q12 q14 q15 q16 hl
      refine ⟨_, _, by simp [rst, ir3_c, f1, hone, hcl, q13, q12, q14, q15, q16, Fr.get_put, keep_put, hk, hl]; exact ⟨rfl, rfl⟩, ?_⟩
      simp [Fr.get_put]
    | some n =>
      obtain ⟨n1, n2, ⟨d, hd⟩, n4⟩ := seats_some hse
      have p1001 := r9 G D n
      have p1002 := r9 G D ((n : Int) - 1)
      rw [hd] at p1001
      rw [n4] at p1002
      have w1001 : IntKind.i64.wrap ((n : Int) - 1) = (n : Int) - 1 := w96 (by omega)
      rw [hse] at q12 q14
      simp [seatsV] at q12 q14 q15 q16 hl p1001 p1002
      refine ⟨_, _, by simp [rst, ir3_c, f1, hone, hcl, q13, q12, q14, q15, q16, p1001, p1002, w1001, Fr.get_put, keep_put, hk, hl]; exact ⟨rfl, rfl⟩, ?_⟩
      simp [Fr.get_put]
end Go.Proofs.Ytanlmanifpknoaa.Ev

namespace Go.Proofs.Ytanlmanifpknoaa.Ev
open Go
set_option linter.unusedVariables false
set_option linter.unusedSimpArgs false
set_option linter.unusedSectionVars false
attribute [local simp] ptl_len
theorem r11 (L : List (Nat × Nat)) (hL : L.length ≤ 2 ^ 40) : ownR env 11 [tm L, tm L] = some (.t (tb true), []) := by
  obtain ⟨fr, h⟩ := l11 L hL L.length 0 (by omega)
  rw [own_ir e11 _ rfl]
  simp [tm] at h
  simp [ir11, ir11_c, tm, h, Fr.get_put]
theorem r11n : ownR env 11 [.nil, .nil] = some (.t (tb true), []) := by
  have h : ∃ fr, loopF env true [0, 1, 12, 13] ir11_b0 ([(0, .t .nil), (1, .t .nil), (12, .t (ti 0)), (13, .t (ti 0))], []) = some (.exit 0, fr, []) := by
    rw [x11_0]
    exact ⟨_, by simp [ir11_d0]; exact rfl⟩
  obtain ⟨fr, h⟩ := h
  rw [own_ir e11 _ rfl]
  simp [ir11, ir11_c, h, Fr.get_put]
def ft (M : T) (n : Nat) (G C S g k : Int) (i : Nat) : Fr := [(1, .t M), (5, .t (ti G)), (6, .t (ti C)), (7, .t (ti S)), (8, .ref 0 0 n), (12, .t (ti n)), (16, .t (ti g)), (17, .t (ti k)), (105, .ref 0 0 n), (106, .t (ti n)), (107, .t (ti i))]
set_option maxRecDepth 20000 in
set_option maxHeartbeats 4000000 in
theorem x252t (M : T) (L : List T) (i : Nat) (hi : i < L.length) (hn : L.length ≤ 2 ^ 30) (G C S A B g k ng nk : Int) (hLi : L[i] = .lst 1 [ti A, ti B]) (hG : 0 ≤ G ∧ G ≤ 8) (hC : 0 ≤ C ∧ C ≤ 8) (hS : S ≤ 4) (hA : 0 ≤ A) (hB : 0 ≤ B) (h1 : 1 ≤ A + B) (h2 : A + B ≤ S) (h3 : A ≤ 0 ∨ B ≤ A) (hng : 0 ≤ ng ∧ ng ≤ G) (hnk : 0 ≤ nk ∧ nk ≤ C) (h4 : ng ≤ 0 ∨ nk ≤ ng) (h5 : G - ng ≤ 0 ∨ C - nk ≤ G - ng) (hp : (i % 2 = 0 ∧ ng = g + A ∧ nk = k + B) ∨ (i % 2 = 1 ∧ ng = g - A ∧ nk = k - B)) :
    loopF env true [1, 5, 6, 7, 8, 12, 16, 17, 105, 106, 107] ir3_b2 (ft M L.length G C S g k i, [.pure 1 L]) = loopF env true [1, 5, 6, 7, 8, 12, 16, 17, 105, 106, 107] ir3_b2 (ft M L.length G C S ng nk (i + 1), [.pure 1 L]) := by
  rw [x3_2]
  have a1 : ¬ (A < 0) := by omega
  have a2 : ¬ (B < 0) := by omega
  have a3 : ¬ (A + B < 1) := by omega
  have a4 : ¬ (S < A + B) := by omega
  have a5 : ¬ (ng < 0) := by omega
  have a6 : ¬ (G < ng) := by omega
  have a7 : ¬ (nk < 0) := by omega
  have a8 : ¬ (C < nk) := by omega
  have w1001 : IntKind.i64.wrap (A + B) = A + B := w96 (by omega)
  have w1002 : IntKind.i64.wrap (G - ng) = G - ng := w96 (by omega)
  have w1003 : IntKind.i64.wrap (C - nk) = C - nk := w96 (by omega)
  have w1004 : IntKind.i64.wrap ((i : Int) + 1) = (i : Int) + 1 := w96 (by omega)
  have w1005 : IntKind.i64.wrap ng = ng := w96 (by omega)
  have w1006 : IntKind.i64.wrap nk = nk := w96 (by omega)
  have q1004 : (¬ (0 < A) ∧ True) ∨ (0 < A ∧ ¬ (A < B)) := by
    by_cases hh : 0 < A
    · right; omega
    · left; exact ⟨hh, trivial⟩
  have q1005 : (¬ (0 < ng) ∧ True) ∨ (0 < ng ∧ ¬ (ng < nk)) := by
    by_cases hh : 0 < ng
    · right; omega
    · left; exact ⟨hh, trivial⟩
  have q1006 : (¬ (ng < G) ∧ True) ∨ (ng < G ∧ ¬ (G - ng < C - nk)) := by
    by_cases hh : ng < G
    · right; omega
    · left; exact ⟨hh, trivial⟩
  have par : i % 2 = 0 ∨ i % 2 = 1 := by omega
  have t1002 : ((i : Int).tmod 2) = ((i % 2 : Nat) : Int) := by rw [Int.tmod_eq_emod_of_nonneg (by omega)]; omega
  simp [ft]
  rcases hp with ⟨p1000, p1001, p1002⟩ | ⟨p1000, p1001, p1002⟩ <;> replace p1001 := p1001.symm <;> replace p1002 := p1002.symm <;> rw [p1000] at t1002 <;> rcases q1004 with ⟨q1004, q1004'⟩ | ⟨q1004, q1004'⟩ <;> rcases q1005 with ⟨q1005, q1005'⟩ | ⟨q1005, q1005'⟩ <;> rcases q1006 with ⟨q1006, q1006'⟩ | ⟨q1006, q1006'⟩ <;>
    simp [ir3_d2, ft, hi, hLi, a1, a2, a3, a4, a5, a6, a7, a8, w1001, w1002, w1003, w1004, w1005, w1006, p1001, p1002, q1004, q1005, q1006, q1004', q1005', q1006', t1002, p1000, evBin, evInt]
theorem l252t (M : T) (W : List (Nat × Nat)) (hn : W.length ≤ 2 ^ 29) (G C S : Nat) (hG : G ≤ 8) (hC : C ≤ 8) (hS : S ≤ 4) : ∀ (ms : List (Nat × Nat)) (i : Nat) (x : Nd), W.drop i = ms → i ≤ W.length → x.2.2 = i % 2 → StepsOk G C S x ms →
    loopF env true [1, 5, 6, 7, 8, 12, 16, 17, 105, 106, 107] ir3_b2 (ft M W.length G C S x.1 x.2.1 i, [.pure 1 (ptl W)]) = some (.exit 0, ft M W.length G C S (goG x ms).1 (goG x ms).2.1 W.length ++ [(108, .t (tb false))], [.pure 1 (ptl W)]) := by
  intro ms
  induction ms with
  | nil =>
    intro i x hd hi hp hs
    have : i = W.length := by
      have := congrArg List.length hd
      simp at this; omega
    subst this
    rw [x3_2]
    simp [ir3_d2, ft, goG]
  | cons m ms ih =>
    intro i x hd hi hp hs
    have hlt : i < W.length := by
      have := congrArg List.length hd
      simp at this; omega
    have hWi : W[i] = m := by
      have := List.drop_eq_getElem_cons hlt
      rw [hd] at this
      exact (List.cons.inj this).1.symm
    have hd2 : W.drop (i + 1) = ms := by
      have := List.drop_eq_getElem_cons hlt
      rw [hd] at this
      exact (List.cons.inj this).2.symm
    obtain ⟨⟨s1, s2⟩, s3⟩ := hs
    have hstep := mvStep_ok (by omega) s2
    obtain ⟨m1001, m1002, m1003, m1004, m1005, m1006⟩ := mvOk_iff.1 s2
    have hx3 : (stepTo x m).2.2 = 1 - x.2.2 := rfl
    have ih := ih (i + 1) (stepTo x m) hd2 (by omega) (by omega) s3
    have hgo : goG x (m :: ms) = goG (stepTo x m) ms := rfl
    rw [hgo, ← ih]
    have hLi : (ptl W)[i]'(by rw [ptl_len]; exact hlt) = .lst 1 [ti m.1, ti m.2] := by simp [ptl, hWi]
    have hb : (x.2.2 = 0 ∧ i % 2 = 0) ∨ (x.2.2 = 1 ∧ i % 2 = 1) := by omega
    have e1001 := hstep.2.2.1
    have e1002 := hstep.2.2.2
    rw [← e1001, ← e1002] at m1005 m1006
    simp only [fine, Bool.or_eq_true, decide_eq_true_eq] at m1004 m1005 m1006
    obtain ⟨o1, o2, o3⟩ := hstep.1
    have h := x252t M (ptl W) i (by rw [ptl_len]; exact hlt) (by rw [ptl_len]; omega) G C S m.1 m.2 x.1 x.2.1 (stepTo x m).1 (stepTo x m).2.1 hLi (by omega) (by omega) (by omega) (by omega) (by omega) (by omega) (by omega) (by omega) (by omega) (by omega) (by omega) (by omega) (by
      rcases hb with ⟨hb, hi2⟩ | ⟨hb, hi2⟩
      · left
        rw [e1001, e1002]
        refine ⟨hi2, ?_, ?_⟩ <;> simp [tgt, hb]
      · right
        rw [e1001, e1002]
        refine ⟨hi2, ?_, ?_⟩ <;> simp [tgt, hb])
    rw [ptl_len] at h
    exact h
end Go.Proofs.Ytanlmanifpknoaa.Ev

namespace Go.Proofs.Ytanlmanifpknoaa.Ev
open Go
set_option linter.unusedVariables false
set_option linter.unusedSimpArgs false
set_option linter.unusedSectionVars false
attribute [local simp] ptl_len
theorem seats_of {g c s : Int} {d : Nat} (h : fewG g c s = some d) : ∃ n, seatsR g c = some n ∧ (n : Int) ≤ s := by
  have hs := few_side h
  simp only [sidesB, Bool.and_eq_true, inB_iff, decide_eq_true_eq] at hs
  have hi : (fewG g c s).isSome = true := by rw [h]; rfl
  unfold seatsR seatsG
  split
  · exact ⟨1, rfl, by omega⟩
  · rename_i h1
    unfold seatsG
    split
    · exact ⟨2, rfl, by
        by_cases e : s = 1
        · subst e; exact absurd hi h1
        · omega⟩
    · rename_i h2
      unfold seatsG
      split
      · exact ⟨3, rfl, by
          by_cases e : s = 1
          · subst e; exact absurd hi h1
          · by_cases e : s = 2
            · subst e; exact absurd hi h2
            · omega⟩
      · rename_i h3
        unfold seatsG
        split
        · exact ⟨4, rfl, by
            by_cases e : s = 1
            · subst e; exact absurd hi h1
            · by_cases e : s = 2
              · subst e; exact absurd hi h2
              · by_cases e : s = 3
                · subst e; exact absurd hi h3
                · omega⟩
        · rename_i h4
          by_cases e : s = 1
          · subst e; exact absurd hi h1
          · by_cases e : s = 2
            · subst e; exact absurd hi h2
            · by_cases e : s = 3
              · subst e; exact absurd hi h3
              · by_cases e : s = 4
                · subst e; exact absurd hi h4
                · omega
theorem way_facts {g c s : Int} {d : Nat} (h : fewG g c s = some d) : ∃ G C S : Nat, g = G ∧ c = C ∧ s = S ∧ G ≤ 8 ∧ C ≤ 8 ∧ S ≤ 4 ∧ d < 162 ∧ (wayG g c s d).length = d ∧ StepsOk G C S node0 (wayG g c s d) ∧ goG node0 (wayG g c s d) = lastG G C := by
  obtain ⟨hb, hd⟩ := fewG_inv h
  obtain ⟨G, C, S, rfl, rfl, rfl, hG, hC, hS, hf⟩ := sides_nat hb
  obtain ⟨r, h1, h2, h3⟩ := r39 G C S hG hC hS hf
  have hT := tab_DG h3
  simp only [Int.toNat_natCast] at hd
  have hB := bfsG9 (s := S) hG hC
  have hd162 := dist_lt hB (lastG_ok hf).1 hd
  exact ⟨G, C, S, rfl, rfl, rfl, hG, hC, hS, by omega, pathG_len hf hT d node0 node0_ok hd, pathG_ok hf hT d node0 node0_ok hd, pathG_end hf hT d node0 node0_ok hd⟩
variable {C1 C2 : T} {bs1 bs2 : List Int}
set_option maxHeartbeats 4000000 in
set_option maxRecDepth 20000 in
theorem r252b (hC1 : BL C1 bs1) (hC2 : BL C2 bs2) (hb : bs1.length + bs2.length ≤ 1048576) : ownR env 3 [C1, C2] = some (.t (tb true), []) := by
  have hT : ∀ (fr : Fr) (H : Heap), fr.get 1 = .t C2 → keep [26, 27, 32, 40, 41] fr = [] → ∃ fr' H', execD env (rst 9 ir3_c) (fr, H) = some (.ret, fr', H') ∧ fr'.get 4 = .t (tb true) := fun fr H h hk => tail252 hC2 h hk
  rw [own_ir e3 _ rfl]
  have e : ir3.body = .seq (nth 0 ir3_c) (.seq (nth 1 ir3_c) (.seq (nth 2 ir3_c) (.seq (nth 3 ir3_c) (.seq (nth 4 ir3_c) (.seq (nth 5 ir3_c) (.seq (nth 6 ir3_c) (.seq (nth 7 ir3_c) (.seq (nth 8 ir3_c) (rst 9 ir3_c))))))))) := rfl
  rw [e]
  generalize rst 9 ir3_c = TL at *
  have q5 := r5 hC1.len hC2.len
  have hbn : ¬ 1048576 < bs1.length + bs2.length := by omega
  simp only [hbn, decide_false] at q5
  obtain ⟨g, c, s, q6⟩ := r6 hC1
  have q7 := r7 g c s
  have q8 := r8 g c s
  have q9 := r9 g c s
  have q10 := r10 g c s
  have hfin : ∀ (fr : Fr) (H : Heap), fr.get 1 = .t C2 → keep [26, 27, 32, 40, 41] fr = [] → andO (endO ir3.res (execD env TL (fr, H))) ownEnd = some (.t (tb true), []) := fun fr H hS hk => by
    obtain ⟨fr', H', h1, h2⟩ := hT fr H hS hk
    simp [ir3, h1, h2]
  have hone1 := hC1.one
  have hcl1 := hC1.cells
  have hone2 := hC2.one
  have hcl2 := hC2.cells
  cases hfe : fewG g c s with
  | none =>
    rw [hfe] at q7 q8 q9 q10
    simp [firstV] at q7 q8 q9 q10
    simp [nth, rst, ir3, ir3_c, q5, q6, q7, q8, q9, q10, r11n]
    exact hfin _ _ (by simp) (by simp [keep])
  | some d =>
    have hodd := fewG_odd hfe
    obtain ⟨n, hse, hns⟩ := seats_of hfe
    have hmono := fun h4 => fewG_mono (g := g) (c := c) (s := s) (t := s + 1) (by omega) h4 hfe
    obtain ⟨G, D, S, rfl, rfl, rfl, hG, hD, hS, hd162, hlen, hok, hend⟩ := way_facts hfe
    have q12 := r12 G D
    rw [hse] at q12
    rw [hfe] at q7 q8 q9 q10
    have q11 := r11 (wayG G D S d) (by omega)
    have hl := l252t C2 (wayG G D S d) (by omega) G D S hG hD hS (wayG G D S d) 0 node0 rfl (by omega) rfl hok
    rw [hend, hlen] at hl
    have t1002 : (d : Int).tmod 2 = 1 := by rw [Int.tmod_eq_emod_of_nonneg (by omega)]; omega
    have hrem : evBin .rem .none (.t (ti d)) (.t (ti 2)) = some (ti 1) := by simp [evBin, evInt, t1002]
    have hnS : ¬ ((S : Int) < n) := by omega
    simp [firstV] at q7 q8 q9 q10
    generalize wayG G D S d = W at *
    simp [ft, node0, lastG] at hl
    have htk : (ptl W).take d = ptl W := List.take_of_length_le (by rw [ptl_len]; omega)
    simp [seatsV] at q12
    simp [tm] at q11
    by_cases hS4 : S < 4
    · have hS4i : (S : Int) < 4 := by omega
      obtain ⟨x, hx1, hx2⟩ := hmono (by omega)
      have p1001 := r9 G D ((S : Int) + 1)
      rw [hx1] at p1001
      have w1001 : IntKind.i64.wrap ((S : Int) + 1) = (S : Int) + 1 := w96 (by omega)
      have hxd : ¬ ((d : Int) < x) := by omega
      simp at p1001
      simp [nth, rst, ir3, ir3_c, q5, q6, q7, q8, q9, q10, q11, q12, hl, hlen, htk, hrem, hnS, hS4, hS4i, p1001, w1001, hxd, hx2]
      exact hfin _ _ (by simp) (by simp [keep])
    · have hS4i : ¬ ((S : Int) < 4) := by omega
      simp [nth, rst, ir3, ir3_c, q5, q6, q7, q8, q9, q10, q11, q12, hl, hlen, htk, hrem, hnS, hS4, hS4i]
      exact hfin _ _ (by simp) (by simp [keep])
end Go.Proofs.Ytanlmanifpknoaa.Ev

namespace Go.Proofs.Ytanlmanifpknoaa.Ev
open Go
set_option linter.unusedVariables false
set_option linter.unusedSimpArgs false
theorem big252 {C1 C2 : T} {n1 n2 : Nat} (h1 : ∀ H, evLen H 1 (.t C1) = some (n1 : Int)) (h2 : ∀ H, evLen H 1 (.t C2) = some (n2 : Int)) (hb : 1048576 < n1 + n2) : ownR env 3 [C1, C2] = some (.t (tb true), []) := by
  have q5 := r5 h1 h2
  simp only [hb, decide_true] at q5
  rw [own_ir e3 _ rfl]
  have e : ir3.body = .seq (nth 0 ir3_c) (.seq (nth 1 ir3_c) (rst 2 ir3_c)) := rfl
  rw [e]
  generalize rst 2 ir3_c = TL
  simp [nth, rst, ir3, ir3_c, q5]
theorem r3_top {t1000 t1001 : List T} (h0 : wfBs t1000) (h1 : wfBs t1001) : ∃ C1 C2, t1000 = [C1] ∧ t1001 = [C2] ∧ ownR env 3 [C1, C2] = some (.t (tb true), []) := by
  obtain ⟨C1, bs1, rfl, l1001, k1001⟩ := bl_of h0
  obtain ⟨C2, bs2, rfl, l1002, k1002⟩ := bl_of h1
  refine ⟨C1, C2, rfl, rfl, ?_⟩
  by_cases hb : 1048576 < bs1.length + bs2.length
  · exact big252 l1001 l1002 hb
  · exact r252b (k1001 (by omega)) (k1002 (by omega)) (by omega)
end Go.Proofs.Ytanlmanifpknoaa.Ev

