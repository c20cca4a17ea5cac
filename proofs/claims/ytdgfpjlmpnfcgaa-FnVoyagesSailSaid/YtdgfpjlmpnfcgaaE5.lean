/- The evaluator and what it gives of the functions, part 5. No conditions of ours: a law's row is in YtdgfpjlmpnfcgaaLFnVoyagesSail. -/
import Derived.Test.YtdgfpjlmpnfcgaaE4
namespace Go.Proofs.Ytdgfpjlmpnfcgaa.Ev
open Go
set_option linter.unusedVariables false
set_option linter.unusedSimpArgs false
set_option linter.unusedSectionVars false
attribute [local simp] til_getE til_length til_get til_drop til_take til_snoc til_fold take_snoc til_set
def playM (n : Nat) (r : (List Int × Int) × Option Nat) : Int := match r.2 with | none => (n : Int) | some k => k
theorem r48 (a : Nat) (b c : Int) (hgd : good a b c = true) (l : List Int) (hl : l.length = 2 * a) (p : Int) (X : T) (vs : List (Int × List Int)) (hX : LW X vs) (hn : vs.length ≤ 2 ^ 40) :
    ownR env 48 [.agg [ti a, ti b, ti c], .agg [tl l, ti p], X] = some (.tup [.agg [.ref 0 0 (2 * a), .t (ti (play a b c vs (l, p) 0).1.2)], .t (ti (playM vs.length (play a b c vs (l, p) 0)))], [.pure 1 (til (play a b c vs (l, p) 0).1.1)]) := by
  have hgo := good_of hgd
  rw [own_ir e48 _ rfl]
  have hlen := hX.len
  have h54 := r75 l (by omega)
  have h := w48 a b c hgd X vs hX hn vs.length 0 (l, p) (by omega) hl
  rw [List.drop_zero] at h
  have hpl := play_len a b c vs (l, p) 0
  simp only at hpl h
  generalize play a b c vs (l, p) 0 = R at *
  unfold playM
  cases hR : R.2 with
  | none =>
    rw [hR] at h
    simp [hl] at h
    simp [ir48, ir48_c, hlen, h54, h, hpl, hl, til_flat]
  | some k =>
    rw [hR] at h
    obtain ⟨fr, H, h2, h3, h4, B, rfl⟩ := h
    simp [hl] at h2
    simp [ir48, ir48_c, hlen, h54, h2, h3, h4, hpl, hl, til_flat]
def allB (a b c : Int) (l : List Int) (p : Int) (vs : List (Int × List Int)) : Bool := askB a b c l p && (decide (vs.length ≤ 40) && (play a.toNat b c vs (l, p) 0).2.isNone)
theorem r18 (a b c : Int) (Y : T) (l : List Int) (hY : LN Y l) (p : Int) (X : T) (vs : List (Int × List Int)) (hX : LW X vs) (hn : vs.length ≤ 2 ^ 40) :
    ownR env 18 [.agg [ti a, ti b, ti c], .agg [Y, ti p], X] = sailR (allB a b c l p vs) l.length (play a.toNat b c vs (l, p) 0).1.1 (play a.toNat b c vs (l, p) 0).1.2 := by
  rw [own_ir e18 _ rfl]
  have h227 := r31 a b c Y l hY p
  have hlen := hX.len
  unfold allB
  cases ha : askB a b c l p with
  | false => rw [ha] at h227; simp [ir18, ir18_c, h227, sailR]
  | true =>
    rw [ha] at h227
    have hpl : plB a b c l p = true := by unfold askB at ha; rw [Bool.and_eq_true] at ha; exact ha.1
    obtain ⟨rfl, hgd, hl⟩ := plB_list hY hpl
    have hgo := good_of hgd
    obtain ⟨k, rfl⟩ : ∃ k : Nat, a = k := ⟨a.toNat, by omega⟩
    have hl2 : l.length = 2 * k := by omega
    rw [Int.toNat_natCast, Bool.true_and]
    by_cases h40 : vs.length ≤ 40
    · have h40' : ¬ ((40 : Int) < vs.length) := by omega
      obtain ⟨v, H, h1, h2, h3⟩ := r47 k b c hgd l hl2 p X vs hX hn
      have hpl2 := play_len k b c vs (l, p) 0
      simp only at hpl2
      generalize play k b c vs (l, p) 0 = R at *
      have htk : R.1.1.take (2 * k) = R.1.1 := List.take_of_length_le (by omega)
      cases hR : R.2 with
      | none =>
        obtain ⟨rfl, rfl⟩ := h2 hR
        have hk : playK R = -1 := by unfold playK; rw [hR]
        rw [hk] at h1
        simp [ir18, ir18_c, h227, hlen, h40, h40', h1, sailR, til_flat, hl2]
      | some j =>
        have hk : playK R = (j : Int) := by unfold playK; rw [hR]
        rw [hk] at h1
        rcases h3 with ⟨rfl, rfl⟩ | ⟨rfl, rfl⟩ <;> simp [ir18, ir18_c, h227, hlen, h40, h40', h1, sailR]
    · have h40' : (40 : Int) < vs.length := by omega
      simp [ir18, ir18_c, h227, hlen, h40, h40', sailR]
theorem r19 (a b c : Int) (Y : T) (l : List Int) (hY : LN Y l) (p : Int) (X : T) (vs : List (Int × List Int)) (hX : LW X vs) (hn : vs.length ≤ 2 ^ 40) :
    ownR env 19 [.agg [ti a, ti b, ti c], .agg [Y, ti p], X] = sailR (allB a b c l p vs) l.length (play a.toNat b c vs (l, p) 0).1.1 (play a.toNat b c vs (l, p) 0).1.2 := by
  rw [own_ir e19 _ rfl]
  have h228 := r33 a b c Y l hY p
  have hlen := hX.len
  unfold allB
  cases ha : askB a b c l p with
  | false => rw [ha] at h228; simp [ir19, ir19_c, h228, sailR]
  | true =>
    rw [ha] at h228
    have hpl : plB a b c l p = true := by unfold askB at ha; rw [Bool.and_eq_true] at ha; exact ha.1
    obtain ⟨rfl, hgd, hl⟩ := plB_list hY hpl
    have hgo := good_of hgd
    obtain ⟨k, rfl⟩ : ∃ k : Nat, a = k := ⟨a.toNat, by omega⟩
    have hl2 : l.length = 2 * k := by omega
    rw [Int.toNat_natCast, Bool.true_and]
    by_cases h40 : vs.length ≤ 40
    · have h40' : ¬ ((40 : Int) < vs.length) := by omega
      have h1 := r48 k b c hgd l hl2 p X vs hX hn
      have hk : (playM vs.length (play k b c vs (l, p) 0) < vs.length) ↔ (play k b c vs (l, p) 0).2.isNone = false := by
        unfold playM
        cases hR : (play k b c vs (l, p) 0).2 with
        | none => simp
        | some j =>
          have : j < vs.length := by
            have key : ∀ (vs : List (Int × List Int)) (x : List Int × Int) (i : Nat), (play k b c vs x i).2 = some j → j < i + vs.length := by
              intro vs
              induction vs with
              | nil => intro x i h; cases h
              | cons v vs ih =>
                intro x i h
                rw [play] at h
                split at h
                · have := ih _ _ h; simp; omega
                · cases h; simp
            have := key vs (l, p) 0 hR
            omega
          simp; omega
      generalize play k b c vs (l, p) 0 = R at *
      cases hR : R.2.isNone with
      | true =>
        have hk' : ¬ (playM vs.length R < vs.length) := fun h => by rw [hk.1 h] at hR; cases hR
        simp [ir19, ir19_c, h228, hlen, h40, h40', h1, hk', sailR, til_flat, hl2, hR]
      | false =>
        have hk' := hk.2 hR
        simp [ir19, ir19_c, h228, hlen, h40, h40', h1, hk', sailR, hR]
    · have h40' : (40 : Int) < vs.length := by omega
      simp [ir19, ir19_c, h228, hlen, h40, h40', sailR]
end Go.Proofs.Ytdgfpjlmpnfcgaa.Ev

namespace Go.Proofs.Ytdgfpjlmpnfcgaa.Ev
open Go
set_option linter.unusedVariables false
set_option linter.unusedSimpArgs false
set_option linter.unusedSectionVars false
attribute [local simp] til_getE til_length til_get til_drop til_take til_snoc til_fold take_snoc til_set
theorem play_lt (a : Nat) (b c : Int) : ∀ (vs : List (Int × List Int)) (x : List Int × Int) (i j : Nat), (play a b c vs x i).2 = some j → i ≤ j ∧ j < i + vs.length
  | [], x, i, j, h => by cases h
  | v :: vs, x, i, j, h => by
    rw [play] at h
    split at h
    · have := play_lt a b c vs _ _ _ h; simp; omega
    · cases h; simp
def failR (a b c : Int) (l : List Int) (p : Int) (vs : List (Int × List Int)) : Int × Bool :=
  if askB a b c l p && (decide (vs.length ≤ 40)) then (match (play a.toNat b c vs (l, p) 0).2 with | none => (0, false) | some k => ((k : Int), true)) else (0, false)
theorem r20 (a b c : Int) (Y : T) (l : List Int) (hY : LN Y l) (p : Int) (X : T) (vs : List (Int × List Int)) (hX : LW X vs) (hn : vs.length ≤ 2 ^ 40) :
    ownR env 20 [.agg [ti a, ti b, ti c], .agg [Y, ti p], X] = some (.tup [.t (ti (failR a b c l p vs).1), .t (tb (failR a b c l p vs).2)], []) := by
  rw [own_ir e20 _ rfl]
  have h227 := r31 a b c Y l hY p
  have hlen := hX.len
  unfold failR
  cases ha : askB a b c l p with
  | false => rw [ha] at h227; simp [ir20, ir20_c, h227]
  | true =>
    rw [ha] at h227
    have hpl : plB a b c l p = true := by unfold askB at ha; rw [Bool.and_eq_true] at ha; exact ha.1
    obtain ⟨rfl, hgd, hl⟩ := plB_list hY hpl
    have hgo := good_of hgd
    obtain ⟨k, rfl⟩ : ∃ k : Nat, a = k := ⟨a.toNat, by omega⟩
    have hl2 : l.length = 2 * k := by omega
    rw [Int.toNat_natCast, Bool.true_and]
    by_cases h40 : vs.length ≤ 40
    · have h40' : ¬ ((40 : Int) < vs.length) := by omega
      obtain ⟨v, H, h1, h2, h3⟩ := r47 k b c hgd l hl2 p X vs hX hn
      generalize play k b c vs (l, p) 0 = R at *
      cases hR : R.2 with
      | none =>
        obtain ⟨rfl, rfl⟩ := h2 hR
        have hk : playK R = -1 := by unfold playK; rw [hR]
        rw [hk] at h1
        simp [ir20, ir20_c, h227, hlen, h40, h40', h1]
      | some j =>
        have hk : playK R = (j : Int) := by unfold playK; rw [hR]
        rw [hk] at h1
        have hj0 : ¬ ((j : Int) < 0) := by omega
        rcases h3 with ⟨rfl, rfl⟩ | ⟨rfl, rfl⟩ <;> simp [ir20, ir20_c, h227, hlen, h40, h40', h1, hj0]
    · have h40' : (40 : Int) < vs.length := by omega
      simp [ir20, ir20_c, h227, hlen, h40, h40']
theorem r21 (a b c : Int) (Y : T) (l : List Int) (hY : LN Y l) (p : Int) (X : T) (vs : List (Int × List Int)) (hX : LW X vs) (hn : vs.length ≤ 2 ^ 40) :
    ownR env 21 [.agg [ti a, ti b, ti c], .agg [Y, ti p], X] = some (.tup [.t (ti (failR a b c l p vs).1), .t (tb (failR a b c l p vs).2)], []) := by
  rw [own_ir e21 _ rfl]
  have h228 := r33 a b c Y l hY p
  have hlen := hX.len
  unfold failR
  cases ha : askB a b c l p with
  | false => rw [ha] at h228; simp [ir21, ir21_c, h228]
  | true =>
    rw [ha] at h228
    have hpl : plB a b c l p = true := by unfold askB at ha; rw [Bool.and_eq_true] at ha; exact ha.1
    obtain ⟨rfl, hgd, hl⟩ := plB_list hY hpl
    have hgo := good_of hgd
    obtain ⟨k, rfl⟩ : ∃ k : Nat, a = k := ⟨a.toNat, by omega⟩
    have hl2 : l.length = 2 * k := by omega
    rw [Int.toNat_natCast, Bool.true_and]
    by_cases h40 : vs.length ≤ 40
    · have h40' : ¬ ((40 : Int) < vs.length) := by omega
      have h1 := r48 k b c hgd l hl2 p X vs hX hn
      have hlt := play_lt k b c vs (l, p) 0
      generalize play k b c vs (l, p) 0 = R at *
      cases hR : R.2 with
      | none =>
        have hk : playM vs.length R = vs.length := by unfold playM; rw [hR]
        rw [hk] at h1
        simp [ir21, ir21_c, h228, hlen, h40, h40', h1]
      | some j =>
        have hk : playM vs.length R = (j : Int) := by unfold playM; rw [hR]
        rw [hk] at h1
        have := hlt j hR
        have hne : ¬ ((j : Int) = vs.length) := by omega
        have hne2 : ¬ (j = vs.length) := by omega
        simp [ir21, ir21_c, h228, hlen, h40, h40', h1, hne, hne2]
    · have h40' : (40 : Int) < vs.length := by omega
      simp [ir21, ir21_c, h228, hlen, h40, h40']
end Go.Proofs.Ytdgfpjlmpnfcgaa.Ev

namespace Go.Proofs.Ytdgfpjlmpnfcgaa.Ev
open Go
set_option linter.unusedVariables false
set_option linter.unusedSimpArgs false
set_option linter.unusedSectionVars false
attribute [local simp] til_getE til_length til_get til_drop til_take til_snoc til_fold take_snoc til_set
def allR (g : Bool) (a : Nat) (n : Int) : Option (V × Heap) := if g then some (.tup [.agg [.ref 0 0 (2 * a), .t (ti n)], .t (tb true)], [.pure 1 (til (List.replicate (2 * a) n))]) else some (.tup [.agg [.t .nil, .t (ti 0)], .t (tb false)], [])
theorem r22 (a b c : Int) : ownR env 22 [.agg [ti a, ti b, ti c]] = allR (good a b c) a.toNat 0 := by
  rw [own_ir e22 _ rfl]
  unfold allR
  cases hg : good a b c with
  | false => simp [ir22, ir22_c, hg]
  | true =>
    have hgo := good_of hg
    obtain ⟨k, rfl⟩ : ∃ k : Nat, a = k := ⟨a.toNat, by omega⟩
    have h48 := r49 k b c 0 (by omega)
    rw [show (2 * (k : Int)).toNat = 2 * k by omega] at h48
    simp [ir22, ir22_c, hg, h48, til_flat]
theorem r23 (a b c : Int) : ownR env 23 [.agg [ti a, ti b, ti c]] = allR (good a b c) a.toNat 0 := by
  rw [own_ir e23 _ rfl]
  unfold allR
  cases hg : good a b c with
  | false => simp [ir23, ir23_c, hg]
  | true =>
    have hgo := good_of hg
    obtain ⟨k, rfl⟩ : ∃ k : Nat, a = k := ⟨a.toNat, by omega⟩
    have h24 := r50 k b c 0 (by omega)
    rw [show (2 * (k : Int)).toNat = 2 * k by omega] at h24
    simp [ir23, ir23_c, hg, h24, til_flat]
theorem r24 (a b c : Int) : ownR env 24 [.agg [ti a, ti b, ti c]] = allR (good a b c) a.toNat (c + 1) := by
  rw [own_ir e24 _ rfl]
  unfold allR
  cases hg : good a b c with
  | false => simp [ir24, ir24_c, hg]
  | true =>
    have hgo := good_of hg
    obtain ⟨k, rfl⟩ : ∃ k : Nat, a = k := ⟨a.toNat, by omega⟩
    have h48 := r49 k b c (c + 1) (by omega)
    have h49 := r51 k b c (by omega)
    rw [show (2 * (k : Int)).toNat = 2 * k by omega] at h48
    simp [ir24, ir24_c, hg, h48, h49, til_flat]
theorem r25 (a b c : Int) : ownR env 25 [.agg [ti a, ti b, ti c]] = allR (good a b c) a.toNat (c + 1) := by
  rw [own_ir e25 _ rfl]
  unfold allR
  cases hg : good a b c with
  | false => simp [ir25, ir25_c, hg]
  | true =>
    have hgo := good_of hg
    obtain ⟨k, rfl⟩ : ∃ k : Nat, a = k := ⟨a.toNat, by omega⟩
    have h24 := r50 k b c (c + 1) (by omega)
    have hw : IntKind.i64.wrap (c + 1) = c + 1 := w76 (by omega)
    rw [show (2 * (k : Int)).toNat = 2 * k by omega] at h24
    simp [ir25, ir25_c, hg, h24, hw, til_flat]
def befB : List Int → List Int → Bool
  | x :: xs, y :: ys => if x = y then befB xs ys else decide (x < y)
  | [], _ :: _ => true
  | _, [] => false
theorem w16 (l m : List Int) (hl : l.length ≤ 1000000) : ∀ (d i : Nat), i + d = min l.length m.length →
    (∃ fr, loopF env true [0, 1, 5] ir16_b0 ([(0, .t (tl l)), (1, .t (tl m)), (5, .t (ti i))], []) = some (.exit 0, fr, []) ∧ fr.get 0 = .t (tl l) ∧ fr.get 1 = .t (tl m) ∧ befB (l.drop i) (m.drop i) = decide (l.length < m.length)) ∨
    (∃ fr, loopF env true [0, 1, 5] ir16_b0 ([(0, .t (tl l)), (1, .t (tl m)), (5, .t (ti i))], []) = some (.ret, fr, []) ∧ fr.get 4 = .t (tb (befB (l.drop i) (m.drop i))))
  | 0, i, hi => by
    left
    rw [x16_0]
    have h1 : ¬ (i < l.length ∧ i < m.length) := by omega
    by_cases hl1 : i < l.length
    · have hm1 : ¬ i < m.length := by omega
      refine ⟨_, by simp [ir16_d0, hl1, hm1]; rfl, rfl, rfl, ?_⟩
      rw [List.drop_eq_nil_of_le (show m.length ≤ i by omega), List.drop_eq_getElem_cons hl1]
      have : ¬ l.length < m.length := by omega
      simp [befB, this]
    · refine ⟨_, by simp [ir16_d0, hl1]; rfl, rfl, rfl, ?_⟩
      rw [List.drop_eq_nil_of_le (show l.length ≤ i by omega)]
      by_cases hm1 : i < m.length
      · rw [List.drop_eq_getElem_cons hm1]
        have : l.length < m.length := by omega
        simp [befB, this]
      · rw [List.drop_eq_nil_of_le (show m.length ≤ i by omega)]
        have : ¬ l.length < m.length := by omega
        simp [befB, this]
  | d + 1, i, hi => by
    have hl1 : i < l.length := by omega
    have hm1 : i < m.length := by omega
    have hw : IntKind.i64.wrap ((i : Int) + 1) = (i : Int) + 1 := w76 (by omega)
    have ih := w16 l m hl d (i + 1) (by omega)
    rw [List.drop_eq_getElem_cons hl1, List.drop_eq_getElem_cons hm1, befB]
    rw [x16_0]
    by_cases he : l[i] = m[i]
    · rw [if_pos he]
      rcases ih with ⟨fr, h1, h2⟩ | ⟨fr, h1, h2⟩
      · left
        refine ⟨fr, ?_, h2⟩
        simp at h1
        simp [ir16_d0, hl1, hm1, he, hw, h1]
      · right
        refine ⟨fr, ?_, h2⟩
        simp at h1
        simp [ir16_d0, hl1, hm1, he, hw, h1]
    · right
      rw [if_neg he]
      refine ⟨_, by simp [ir16_d0, hl1, hm1, he, hw]; rfl, ?_⟩
      simp
theorem r16 (l m : List Int) (hl : l.length ≤ 1000000) : ownR env 16 [tl l, tl m] = some (.t (tb (befB l m)), []) := by
  rw [own_ir e16 _ rfl]
  rcases w16 l m hl (min l.length m.length) 0 (by omega) with ⟨fr, h1, h2, h3, h4⟩ | ⟨fr, h1, h2⟩
  · simp at h1 h4
    simp [ir16, ir16_c, h1, h2, h3, h4, Fr.get_put]
  · simp at h1 h2
    simp [ir16, ir16_c, h1, h2, Fr.get_put]
end Go.Proofs.Ytdgfpjlmpnfcgaa.Ev

namespace Go.Proofs.Ytdgfpjlmpnfcgaa.Ev
open Go
set_option linter.unusedVariables false
set_option linter.unusedSimpArgs false
set_option linter.unusedSectionVars false

theorem befB_app (l s s' : List Int) : befB (l ++ s) (l ++ s') = befB s s' := by
  induction l with
  | nil => rfl
  | cons x l ih => rw [List.cons_append, List.cons_append, befB, if_pos rfl, ih]
theorem grps_mem2 (most : Int) : ∀ (rest l g : List Int), g ∈ grps most rest l → ∃ s, g = l ++ s ∧ s ≠ [] ∧ s.Sublist rest
  | [], l, g, h => by simp [grps] at h
  | x :: rest, l, g, h => by
    rw [grps] at h
    split at h
    · rcases List.mem_cons.1 h with h | h
      · exact ⟨[x], h, by simp, List.cons_sublist_cons.2 (List.nil_sublist _)⟩
      · rcases List.mem_append.1 h with h | h
        · obtain ⟨s, h1, h2, h3⟩ := grps_mem2 most rest _ g h
          exact ⟨x :: s, by rw [h1]; simp, by simp, List.cons_sublist_cons.2 h3⟩
        · obtain ⟨s, h1, h2, h3⟩ := grps_mem2 most rest _ g h
          exact ⟨s, h1, h2, h3.cons _⟩
    · simp at h
theorem grps_pair (most : Int) : ∀ (rest l : List Int), rest.Pairwise (· < ·) → (grps most rest l).Pairwise (fun g h => befB g h = true)
  | [], l, _ => by simp [grps]
  | x :: rest, l, hp => by
    rw [List.pairwise_cons] at hp
    rw [grps]
    split
    · have key : ∀ h ∈ grps most rest l, ∀ s : List Int, befB (l ++ x :: s) h = true := fun h hh s => by
        obtain ⟨s', h1, h2, h3⟩ := grps_mem2 most rest l h hh
        rw [h1, befB_app]
        cases s' with
        | nil => exact absurd rfl h2
        | cons y s' =>
          have := hp.1 y (h3.subset (List.mem_cons_self ..))
          rw [befB, if_neg (by omega)]
          simpa using this
      rw [List.pairwise_cons, List.pairwise_append]
      refine ⟨fun h hh => ?_, grps_pair most rest _ hp.2, grps_pair most rest _ hp.2, fun g hg h hh => ?_⟩
      · rcases List.mem_append.1 hh with hh | hh
        · obtain ⟨s', h1, h2, h3⟩ := grps_mem2 most rest _ h hh
          rw [h1]
          have := befB_app (l ++ [x]) [] s'
          rw [List.append_nil] at this
          rw [this]
          cases s' with
          | nil => exact absurd rfl h2
          | cons y s' => rfl
        · exact key h hh []
      · obtain ⟨s', h1, h2, h3⟩ := grps_mem2 most rest _ g hg
        rw [h1, List.append_assoc]
        exact key h hh s'
    · exact List.Pairwise.nil
def befV (v u : Int × List Int) : Prop := v.1 < u.1 ∨ v.1 = u.1 ∧ befB v.2 u.2 = true
theorem voys_pair (a : Nat) (b c : Int) (x : List Int × Int) : (voysAll a b c x).Pairwise befV := by
  unfold voysAll voysS
  rw [List.pairwise_flatMap]
  refine ⟨fun t _ => ?_, ?_⟩
  · unfold cans
    rw [List.pairwise_map]
    refine List.Pairwise.imp (fun {g h} hgh => ?_) ((grps_pair b _ [] (stand_pair _ _ _)).filter _)
    exact .inr ⟨rfl, hgh⟩
  · refine List.Pairwise.imp (fun {t t'} htt => ?_) (List.pairwise_lt_range' (s := 0) (n := (c + 2).toNat) (step := 1))
    intro v hv u hu
    unfold cans at hv hu
    obtain ⟨g, _, rfl⟩ := List.mem_map.1 hv
    obtain ⟨g', _, rfl⟩ := List.mem_map.1 hu
    left
    show (t : Int) < t'
    omega
theorem voys_can {a : Nat} {b c : Int} {x : List Int × Int} {v : Int × List Int} (h : v ∈ voysAll a b c x) : canB a b c x.1 x.2 v.1 v.2 = true := by
  unfold voysAll voysS cans at h
  simp only [List.mem_map, List.mem_flatMap, List.mem_filter] at h
  obtain ⟨n, _, g, ⟨_, hc⟩, rfl⟩ := h
  exact hc
theorem can_back {a : Nat} {b c : Int} (hgd : good a b c = true) {l : List Int} {p t : Int} {g : List Int} (hx : okP a c (l, p)) (hcm : calmS a c l = true) (hc : canB a b c l p t g = true) :
    askB a b c (setAll t g l) t = true ∧ plB a b c (setAll t g l) t = true ∧ canB a b c (setAll t g l) t p g = true ∧ setAll p g (setAll t g l) = l := by
  have hgo := good_of hgd
  obtain ⟨h1, h2, h3, h4, h5, h6, h7⟩ := can_parts hc
  have hin := risesB_in h4
  have hgi : ∀ k ∈ g, 0 ≤ k ∧ k < l.length := fun k hk => by have := hin k hk; omega
  have hback := setAll_back l p t g hgi h5
  have hat : atB (setAll t g l) t g = true := by
    unfold atB
    rw [List.all_eq_true]
    intro k hk
    have hki := hgi k hk
    rw [setAll_get t g l k.toNat (by omega) (fun k hk => (hgi k hk).1), if_pos (by rw [show ((k.toNat : Nat) : Int) = k by omega]; exact hk)]
    simp
  have hok : okP a c (setAll t g l, t) := by
    have hsl : (setAll t g l).length = l.length := setAll_length t g l
    refine ⟨by show (setAll t g l).length = 2 * a; rw [hsl]; exact hx.1, ?_, ?_⟩
    · obtain ⟨k, g', rfl⟩ : ∃ k g', g = k :: g' := by cases g with
        | nil => simp at h3
        | cons k g' => exact ⟨k, g', rfl⟩
      have hk := hgi k (List.mem_cons_self ..)
      have := setAll_get t (k :: g') l k.toNat (by omega) (fun k hk => (hgi k hk).1)
      rw [if_pos (by rw [show ((k.toNat : Nat) : Int) = k by omega]; exact List.mem_cons_self ..)] at this
      exact List.mem_of_getElem? this
    · intro y hy
      obtain ⟨m, hm, rfl⟩ := List.getElem_of_mem hy
      have hm' : m < l.length := by rw [← hsl]; exact hm
      have := setAll_get t g l m hm' (fun k hk => (hgi k hk).1)
      rw [List.getElem?_eq_getElem hm] at this
      split at this
      · rw [Option.some.inj this]; exact h1
      · rw [List.getElem?_eq_getElem hm'] at this
        rw [Option.some.inj this]
        exact hx.2.2 _ (List.getElem_mem hm')
  have hpl := ok_plB hgd hok
  have hp : 0 ≤ p ∧ p ≤ c + 1 := hx.2.2 p hx.2.1
  refine ⟨?_, hpl, ?_, hback⟩
  · unfold askB
    rw [hpl, Int.toNat_natCast, h7]; rfl
  · unfold canB
    rw [(inB_iff _ _ _).2 hp, (inB_iff _ _ _).2 h3, setAll_length, h4, hat, h6, hback, hcm]
    simp [Ne.symm h2]
end Go.Proofs.Ytdgfpjlmpnfcgaa.Ev

namespace Go.Proofs.Ytdgfpjlmpnfcgaa.Ev
open Go
set_option linter.unusedVariables false
set_option linter.unusedSimpArgs false
set_option linter.unusedSectionVars false
attribute [local simp] til_getE til_length til_get til_drop til_take til_snoc til_fold take_snoc til_set
def rst : Nat → C → C
  | 0, c => c
  | k + 1, .seq _ b => rst k b
  | _ + 1, c => c
def nth (k : Nat) (c : C) : C := match rst k c with | .seq a _ => a | c => c
def PBx (H : Heap) (v : V) (X : T) (q : Int) : Prop := ∃ j bv lf, v = .ptr j 0 0 ∧ (∀ E, (H ++ E)[j]? = some (.box 2 [bv, .t (ti q)])) ∧ ∀ E, rd (H ++ E) 5 bv = some (X, lf)
theorem PBx.mono {H : Heap} {v : V} {X : T} {q : Int} (h : PBx H v X q) (E : Heap) : PBx (H ++ E) v X q := by
  obtain ⟨j, bv, lf, h1, h2, h3⟩ := h
  exact ⟨j, bv, lf, h1, fun E' => by rw [List.append_assoc]; exact h2 _, fun E' => by rw [List.append_assoc]; exact h3 _⟩
def sX (ok : Bool) (L : List Int) : T := if ok then .lst 1 (til L) else .nil
def sq (ok : Bool) (t : Int) : Int := if ok then t else 0
theorem sX_LN (ok : Bool) (L : List Int) : LN (sX ok L) (if ok then L else []) := by
  cases ok
  · exact .inl ⟨rfl, rfl⟩
  · exact .inr rfl
variable {a1 b1 c1001 a2 b2 c1002 a3 b3 c1003 : Int} {X1 G1 X2 Z : T} {p1001 t1001 p1002 : Int} {fr : Fr} {H : Heap}
end Go.Proofs.Ytdgfpjlmpnfcgaa.Ev

namespace Go.Proofs.Ytdgfpjlmpnfcgaa.Ev
open Go
set_option linter.unusedVariables false
set_option linter.unusedSimpArgs false
set_option linter.unusedSectionVars false
attribute [local simp] til_getE til_length til_get til_drop til_take til_snoc til_fold take_snoc til_set
theorem PBx.all {H : Heap} {v : V} {X : T} {q : Int} (h : PBx H v X q) : ∃ j bv lf, v = .ptr j 0 0 ∧ H[j]? = some (.box 2 [bv, .t (ti q)]) ∧ rd H 5 bv = some (X, lf) ∧ (∀ E, (H ++ E)[j]? = some (.box 2 [bv, .t (ti q)])) ∧ ∀ E, rd (H ++ E) 5 bv = some (X, lf) := by
  obtain ⟨j, bv, lf, h1, h2, h3⟩ := h
  have h2' := h2 []
  have h3' := h3 []
  rw [List.append_nil] at h2' h3'
  exact ⟨j, bv, lf, h1, h2', h3', h2, h3⟩
theorem same211 (ok : Bool) (L : List Int) (q : Int) (h : L.length ≤ 2 ^ 40) : ownR env 15 [.agg [sX ok L, ti q], .agg [sX ok L, ti q]] = some (.t (tb true), []) := by
  have h1 := r15 _ _ _ _ (sX_LN ok L) (sX_LN ok L) (by split; exact h; simp) q q
  simpa using h1
variable {a1 b1 c1001 a2 b2 c1002 a3 b3 c1003 : Int} {X1 G1 X2 Z : T} {p1001 t1001 p1002 : Int} {fr : Fr} {H : Heap}
end Go.Proofs.Ytdgfpjlmpnfcgaa.Ev

namespace Go.Proofs.Ytdgfpjlmpnfcgaa.Ev
open Go
set_option linter.unusedVariables false
set_option linter.unusedSimpArgs false
set_option linter.unusedSectionVars false
attribute [local simp] til_getE til_length til_get til_drop til_take til_snoc til_fold take_snoc til_set
variable {a1 b1 c1001 a2 b2 c1002 a3 b3 c1003 : Int} {X1 G1 X2 Z : T} {p1001 t1001 p1002 : Int} {fr : Fr} {H : Heap}
end Go.Proofs.Ytdgfpjlmpnfcgaa.Ev

namespace Go.Proofs.Ytdgfpjlmpnfcgaa.Ev
open Go
set_option linter.unusedVariables false
set_option linter.unusedSimpArgs false
set_option linter.unusedSectionVars false

theorem play_idx (a : Nat) (b c : Int) : ∀ (vs : List (Int × List Int)) (x : List Int × Int) (i j : Nat), (play a b c vs x i).1 = (play a b c vs x j).1 ∧ (play a b c vs x i).2.isNone = (play a b c vs x j).2.isNone
  | [], x, i, j => ⟨rfl, rfl⟩
  | v :: vs, x, i, j => by
    rw [play, play]
    split
    · exact play_idx a b c vs _ _ _
    · exact ⟨rfl, rfl⟩
theorem play_some (a : Nat) (b c : Int) : ∀ (vs : List (Int × List Int)) (x : List Int × Int) (i j : Nat), (play a b c vs x i).2 = some j → ∃ (m : Nat) (h : m < vs.length), j = i + m ∧ play a b c (vs.take m) x i = ((play a b c vs x i).1, none) ∧ canB a b c (play a b c vs x i).1.1 (play a b c vs x i).1.2 vs[m].1 vs[m].2 = false
  | [], x, i, j, h => by cases h
  | v :: vs, x, i, j, h => by
    by_cases hc : canB a b c x.1 x.2 v.1 v.2 = true
    · rw [play, if_pos hc] at h
      obtain ⟨m, h1, h2, h3, h4⟩ := play_some a b c vs _ _ _ h
      refine ⟨m + 1, by simpa using h1, by omega, ?_, ?_⟩
      · rw [List.take_succ_cons, play, if_pos hc, h3, play, if_pos hc]
      · rw [play, if_pos hc]; simpa using h4
    · rw [play, if_neg hc] at h
      cases h
      refine ⟨0, by simp, rfl, ?_, ?_⟩
      · rw [play, if_neg hc]; rfl
      · rw [play, if_neg hc]; simpa using hc
theorem askB_parts {a b c : Int} {l : List Int} {p : Int} (h : askB a b c l p = true) : ∃ k : Nat, a = k ∧ good k b c = true ∧ l.length = 2 * k ∧ okP k c (l, p) ∧ calmS k c l = true := by
  unfold askB at h
  rw [Bool.and_eq_true] at h
  have h1 := h.1
  have hg : good a b c = true := by unfold plB at h1; rw [Bool.and_eq_true] at h1; exact h1.1
  have hgo := good_of hg
  obtain ⟨k, rfl⟩ : ∃ k : Nat, a = k := ⟨a.toNat, by omega⟩
  have := plB_ok h1
  exact ⟨k, rfl, hg, this.2.1, this.2, by simpa using h.2⟩
theorem sail_eq (ok : Bool) (n : Nat) (L : List Int) (q : Int) (h : L.length = n) : sailR ok n L q = sailR ok (if ok then L else []).length (if ok then L else []) q := by
  cases ok
  · rfl
  · simp only [if_true, h]
theorem LW.cases {Z : T} {vs : List (Int × List Int)} (h : LW Z vs) : (vs = [] ∧ (Z = .nil ∨ Z = .lst 2 [])) ∨ ∃ v vs' G0 ts, vs = v :: vs' ∧ Z = .lst 2 (.agg [ti v.1, G0] :: ts) ∧ LN G0 v.2 ∧ LW (.lst 2 ts) vs' ∧ ts.length = vs'.length := by
  rcases h with ⟨rfl, rfl⟩ | ⟨ts, rfl, hl, hg⟩
  · exact .inl ⟨rfl, .inl rfl⟩
  · cases vs with
    | nil =>
      have e : ts = [] := List.length_eq_zero_iff.1 (by simpa using hl)
      exact .inl ⟨rfl, .inr (by rw [e])⟩
    | cons v vs =>
      cases ts with
      | nil => simp at hl
      | cons t ts =>
        right
        obtain ⟨G0, h1, h2⟩ := hg 0 (by simp)
        simp at h1 h2
        refine ⟨v, vs, G0, ts, rfl, by rw [h1], h2, .inr ⟨ts, rfl, by simpa using hl, fun i hi => ?_⟩, by simpa using hl⟩
        obtain ⟨G, h3, h4⟩ := hg (i + 1) (by simpa using hi)
        exact ⟨G, by simpa using h3, by simpa using h4⟩
theorem LW.take {Z : T} {vs : List (Int × List Int)} (h : LW Z vs) {i : Nat} (hi : i < vs.length) : ∃ ts G0, Z = .lst 2 ts ∧ ts.length = vs.length ∧ (∃ h : i < ts.length, ts[i] = .agg [ti vs[i].1, G0]) ∧ LN G0 vs[i].2 ∧ LW (.lst 2 (ts.take i)) (vs.take i) := by
  rcases h with ⟨rfl, rfl⟩ | ⟨ts, rfl, hl, hg⟩
  · simp at hi
  · obtain ⟨G0, h1, h2⟩ := hg i hi
    have hi' : i < ts.length := by omega
    rw [List.getElem?_eq_getElem hi'] at h1
    refine ⟨ts, G0, rfl, hl, ⟨hi', Option.some.inj h1⟩, h2, .inr ⟨_, rfl, by simp [hl], fun j hj => ?_⟩⟩
    have hj' : j < i ∧ j < vs.length := by simp at hj; omega
    obtain ⟨G, h3, h4⟩ := hg j hj'.2
    refine ⟨G, ?_, by simpa using h4⟩
    rw [List.getElem?_take_of_lt hj'.1, h3]
    simp
variable {a1 b1 c1001 a2 b2 c1002 a3 b3 c1003 : Int} {X1 G1 X2 Z : T} {p1001 t1001 p1002 : Int}
theorem law20 {l1002 : List Int} (hX2 : LN X2 l1002) {vs : List (Int × List Int)} (hZ : LW Z vs) (hn : vs.length ≤ 10000) :
    allB a2 b2 c1002 l1002 p1002 vs = false ∨ Z = .nil ∨ Z = .lst 2 [] ∨ ∃ (v : Int) (G0 : T) (ts : List T) (L : List Int), Z = .lst 2 (.agg [ti v, G0] :: ts) ∧ L.length ≤ 1000 ∧ ts.length ≤ 2 ^ 30 ∧ ownR env 14 [.agg [ti a2, ti b2, ti c1002], .agg [X2, ti p1002], .agg [ti v, G0]] = sailR true L.length L v ∧
      ownR env 18 [.agg [ti a2, ti b2, ti c1002], .agg [.lst 1 (til L), ti v], .lst 2 ts] = sailR true (play a2.toNat b2 c1002 vs (l1002, p1002) 0).1.1.length (play a2.toNat b2 c1002 vs (l1002, p1002) 0).1.1 (play a2.toNat b2 c1002 vs (l1002, p1002) 0).1.2 := by
  cases hall : allB a2 b2 c1002 l1002 p1002 vs with
  | false => exact .inl rfl
  | true =>
    right
    rcases hZ.cases with ⟨_, rfl | rfl⟩ | ⟨v, vs', G0, ts, rfl, rfl, hG0, hW, hts⟩
    · exact .inl rfl
    · exact .inr (.inl rfl)
    · right; right
      unfold allB at hall
      rw [Bool.and_eq_true, Bool.and_eq_true, decide_eq_true_eq] at hall
      obtain ⟨hask, h40, hno⟩ := hall
      obtain ⟨k, rfl, hgd, hl2, hok, hcm⟩ := askB_parts hask
      have hgo := good_of hgd
      rw [Int.toNat_natCast] at hno ⊢
      rw [play] at hno ⊢
      simp only [List.length_cons] at hn h40
      by_cases hc : canB k b2 c1002 l1002 p1002 v.1 v.2 = true
      · rw [if_pos hc] at hno ⊢
        obtain ⟨k1001, k1002, k1003, k1004⟩ := can_back hgd hok hcm hc
        have hsl := setAll_length v.1 v.2 l1002
        have hpi := play_idx k b2 c1002 vs' (setAll v.1 v.2 l1002, v.1) (0 + 1) 0
        refine ⟨v.1, G0, ts, setAll v.1 v.2 l1002, rfl, by omega, by omega, ?_, ?_⟩
        · have := r14 k b2 c1002 X2 l1002 hX2 p1002 v.1 G0 v.2 hG0
          rw [hask, Int.toNat_natCast, hc, ← hsl] at this
          exact this
        · have := r18 k b2 c1002 _ _ (LN.of (setAll v.1 v.2 l1002)) v.1 _ vs' hW (by omega)
          rw [this]
          have hal : allB k b2 c1002 (setAll v.1 v.2 l1002) v.1 vs' = true := by
            unfold allB
            rw [k1001, Int.toNat_natCast, ← hpi.2, hno]
            simp; omega
          rw [hal, Int.toNat_natCast, ← hpi.1, play_len]
      · rw [if_neg hc] at hno; cases hno
theorem law21 {l1002 : List Int} (hX2 : LN X2 l1002) {vs : List (Int × List Int)} (hZ : LW Z vs) (hn : vs.length ≤ 10000) :
    (failR a2 b2 c1002 l1002 p1002 vs).2 = false ∨ ∃ (v : Int) (G0 : T) (ts : List T) (L : List Int) (q : Int) (i : Nat), (failR a2 b2 c1002 l1002 p1002 vs).1 = i ∧ Z = .lst 2 ts ∧ ts.length ≤ 2 ^ 30 ∧ ∃ hi : i < ts.length, ts[i] = .agg [ti v, G0] ∧ ownR env 18 [.agg [ti a2, ti b2, ti c1002], .agg [X2, ti p1002], .lst 2 (ts.take i)] = sailR true L.length L q ∧
      ownR env 14 [.agg [ti a2, ti b2, ti c1002], .agg [.lst 1 (til L), ti q], .agg [ti v, G0]] = some (.tup [.agg [.t .nil, .t (ti 0)], .t (tb false)], []) := by
  cases hf : (failR a2 b2 c1002 l1002 p1002 vs).2 with
  | false => exact .inl rfl
  | true =>
    right
    unfold failR at hf ⊢
    cases hask : (askB a2 b2 c1002 l1002 p1002 && decide (vs.length ≤ 40)) with
    | false => rw [hask] at hf; simp at hf
    | true =>
      rw [hask] at hf
      rw [Bool.and_eq_true, decide_eq_true_eq] at hask
      obtain ⟨hask, h40⟩ := hask
      obtain ⟨k, rfl, hgd, hl2, hok, hcm⟩ := askB_parts hask
      have hgo := good_of hgd
      rw [Int.toNat_natCast] at hf ⊢
      cases hR : (play k b2 c1002 vs (l1002, p1002) 0).2 with
      | none => rw [hR] at hf; simp at hf
      | some j =>
        obtain ⟨m, hm, hj, hp, hcn⟩ := play_some k b2 c1002 vs (l1002, p1002) 0 j hR
        have hj' : j = m := by omega
        subst hj'
        obtain ⟨ts, G0, rfl, htl, ⟨hi, he⟩, hG0, hW⟩ := hZ.take hm
        have hpl := play_len k b2 c1002 vs (l1002, p1002) 0
        simp only at hpl
        refine ⟨vs[j].1, G0, ts, (play k b2 c1002 vs (l1002, p1002) 0).1.1, (play k b2 c1002 vs (l1002, p1002) 0).1.2, j, by simp, rfl, by omega, hi, he, ?_, ?_⟩
        · rw [r18 k b2 c1002 X2 l1002 hX2 p1002 _ (vs.take j) hW (by simp; omega)]
          have hal : allB k b2 c1002 l1002 p1002 (vs.take j) = true := by
            unfold allB
            rw [hask, Int.toNat_natCast, hp]
            simp; omega
          rw [hal, Int.toNat_natCast, hp, hpl]
        · rw [r14 k b2 c1002 _ _ (LN.of _) _ _ G0 vs[j].2 hG0, Int.toNat_natCast, hcn, Bool.and_false]
          rfl
theorem law57 {l1002 : List Int} {vs : List (Int × List Int)} : (allB a2 b2 c1002 l1002 p1002 vs && (failR a2 b2 c1002 l1002 p1002 vs).2) = false := by
  unfold allB failR
  cases askB a2 b2 c1002 l1002 p1002 <;> cases decide (vs.length ≤ 40) <;> simp
  cases (play a2.toNat b2 c1002 vs (l1002, p1002) 0).2 <;> simp
theorem law19 (n : Nat) (hn : (n : Int) ≤ c1003 + 1) (hg : good a3 b3 c1003 = true) : ownR env 7 [.agg [ti a3, ti b3, ti c1003], .agg [.lst 1 (til (List.replicate (2 * a3.toNat) (n : Int))), ti n]] = some (.tup [.t (tb true), .t (tb true)], []) := by
  have hgo := good_of hg
  obtain ⟨k, rfl⟩ : ∃ k : Nat, a3 = k := ⟨a3.toNat, by omega⟩
  rw [Int.toNat_natCast]
  obtain ⟨h1, h2⟩ := allAt_ok k (by omega) c1003 n hn
  have hpl := ok_plB hg h1
  unfold allAt at h2 
  simp only at h2
  rw [r7 k b3 c1003 _ _ (LN.of _) n]
  unfold askB
  rw [hpl, Int.toNat_natCast, h2]
  rfl
end Go.Proofs.Ytdgfpjlmpnfcgaa.Ev

namespace Go.Proofs.Ytdgfpjlmpnfcgaa.Ev
open Go
set_option linter.unusedVariables false
set_option linter.unusedSimpArgs false
set_option linter.unusedSectionVars false

variable {a1 b1 c1001 a2 b2 c1002 a3 b3 c1003 : Int} {X1 G1 X2 Z : T} {p1001 t1001 p1002 : Int} {fr : Fr} {H : Heap}
end Go.Proofs.Ytdgfpjlmpnfcgaa.Ev

namespace Go.Proofs.Ytdgfpjlmpnfcgaa.Ev
open Go
set_option linter.unusedVariables false
set_option linter.unusedSimpArgs false
set_option linter.unusedSectionVars false

@[simp] theorem gp0 {α : Type} (P R : List α) : (P ++ R)[P.length]? = R[0]? := by rw [List.getElem?_append_right (Nat.le_refl _), Nat.sub_self]
@[simp] theorem gpk {α : Type} (P R : List α) (k : Nat) : (P ++ R)[P.length + k]? = R[k]? := by rw [List.getElem?_append_right (by omega), Nat.add_sub_cancel_left]
@[simp] theorem spk {α : Type} (P R : List α) (k : Nat) (x : α) : (P ++ R).set (P.length + k) x = P ++ R.set k x := by rw [List.set_append_right _ _ (by omega), Nat.add_sub_cancel_left]
@[simp] theorem gpa {α : Type} (P R : List α) (a k : Nat) : (P ++ R)[P.length + a + k]? = R[a + k]? := by rw [Nat.add_assoc, gpk]
structure BL (C : T) (bs : List Int) : Prop where
  len : ∀ H, evLen H 1 (.t C) = some (bs.length : Int)
  ix : ∀ H (i : Nat) (h : i < bs.length), evIxa H 1 (.t C) (.t (.int .i64 i)) = some (.rptr (.int .u8 bs[i]) 0)
  rng : ∀ b ∈ bs, 0 ≤ b ∧ b < 256
  small : bs.length ≤ 2 ^ 30
def CurX (C : T) (K : Nat) (X : Blk) : Prop := ∃ a s : Int, X = .box 3 [.t C, .t (ti a), .t (.int .u64 s)] ∧ 0 ≤ a ∧ a ≤ K
theorem CurX.mono {C : T} {K K' : Nat} {X : Blk} (h : CurX C K X) (hk : K ≤ K') : CurX C K' X := by
  obtain ⟨a, s, h1, h2, h3⟩ := h
  exact ⟨a, s, h1, h2, by omega⟩
theorem w1008_and (a : Int) : 0 ≤ ((BitVec.ofInt IntKind.u64.bits a &&& BitVec.ofInt IntKind.u64.bits 255).toNat : Int) ∧ ((BitVec.ofInt IntKind.u64.bits a &&& BitVec.ofInt IntKind.u64.bits 255).toNat : Int) < 256 := by
  refine ⟨Int.natCast_nonneg _, ?_⟩
  have h : (BitVec.ofInt IntKind.u64.bits 255).toNat = 255 := by decide
  rw [BitVec.toNat_and, h]
  have := @Nat.and_le_right (BitVec.ofInt IntKind.u64.bits a).toNat 255
  omega
theorem wu8 {n : Int} (h : 0 ≤ n ∧ n < 256) : IntKind.u64.wrap n = n := by
  unfold IntKind.wrap
  simp only [IntKind.signed, IntKind.bits]
  simp
  omega
variable {C : T} {bs : List Int}
theorem r79 (hC : BL C bs) (P Q : Heap) (K : Nat) (hK : K ≤ 2 ^ 40) (X : Blk) (hX : CurX C K X) :
    ∃ n X', den env 79 [.ptr P.length 0 0] (P ++ X :: Q) = some (.t (ti n), P ++ X' :: Q) ∧ CurX C (K + 1) X' ∧ 0 ≤ n ∧ n < 256 := by
  obtain ⟨a, s, rfl, h0, hk⟩ := hX
  have hlen := hC.len
  have hsm := hC.small
  have hw : IntKind.i64.wrap (a + 1) = a + 1 := w76 (by omega)
  suffices h : ∃ n s', den env 79 [.ptr P.length 0 0] (P ++ .box 3 [.t C, .t (ti a), .t (.int .u64 s)] :: Q) = some (.t (ti n), P ++ .box 3 [.t C, .t (ti (a + 1)), .t (.int .u64 s')] :: Q) ∧ 0 ≤ n ∧ n < 256 by
    obtain ⟨n, s', h1, h2⟩ := h
    exact ⟨n, _, h1, ⟨a + 1, s', rfl, by omega, by omega⟩, h2⟩
  by_cases h1 : a < bs.length
  · have hix := fun H => hC.ix H a.toNat (by omega)
    rw [show ((a.toNat : Nat) : Int) = a by omega] at hix
    have hr := hC.rng (bs[a.toNat]'(by omega)) (List.getElem_mem _)
    have hw2 : IntKind.i64.wrap (bs[a.toNat]'(by omega)) = bs[a.toNat]'(by omega) := w76 (by omega)
    have h2 : a + 1 ≤ bs.length := by omega
    have e : ∃ n s', den env 79 [.ptr P.length 0 0] (P ++ .box 3 [.t C, .t (ti a), .t (.int .u64 s)] :: Q) = some (.t (ti n), P ++ .box 3 [.t C, .t (ti (a + 1)), .t (.int .u64 s')] :: Q) ∧ n = bs[a.toNat]'(by omega) := by
      rw [den_ir e79 _ _ rfl (.inl rfl)]
      simp [ir79, ir79_c, hlen, h1, hix, hw, hw2, h2]
    obtain ⟨n, s', e1001, rfl⟩ := e
    exact ⟨_, s', e1001, hr⟩
  · have h2 : ¬ a + 1 ≤ bs.length := by omega
    have e : ∃ n s', den env 79 [.ptr P.length 0 0] (P ++ .box 3 [.t C, .t (ti a), .t (.int .u64 s)] :: Q) = some (.t (ti n), P ++ .box 3 [.t C, .t (ti (a + 1)), .t (.int .u64 s')] :: Q) ∧ ∃ x : Int, n = IntKind.i64.wrap (IntKind.u64.wrap ((BitVec.ofInt IntKind.u64.bits x &&& BitVec.ofInt IntKind.u64.bits 255).toNat : Int)) := by
      rw [den_ir e79 _ _ rfl (.inl rfl)]
      simp [ir79, ir79_c, hlen, h1, hw, h2, evBin, evInt]
      exact ⟨_, rfl⟩
    obtain ⟨n, s', e1001, x, rfl⟩ := e
    have h3 := w1008_and x
    refine ⟨_, s', e1001, ?_⟩
    rw [wu8 h3, w76 (by omega)]
    exact h3
end Go.Proofs.Ytdgfpjlmpnfcgaa.Ev

namespace Go.Proofs.Ytdgfpjlmpnfcgaa.Ev
open Go
set_option linter.unusedVariables false
set_option linter.unusedSimpArgs false
set_option linter.unusedSectionVars false
attribute [local simp] til_getE til_length til_get
variable {C : T} {bs : List Int}
def Dn (C : T) (K : Nat) (P Q : Heap) (lo hi : Int) (r : Option (V × Heap)) : Prop := ∃ n X', r = some (.t (ti n), P ++ X' :: Q) ∧ CurX C K X' ∧ lo ≤ n ∧ n < hi
theorem r54 (hC : BL C bs) (P Q : Heap) {K : Nat} (hK : K ≤ 2 ^ 39) {X : Blk} (hX : CurX C K X) (m : Int) (hm : m ≤ 2 ^ 40) :
    Dn C (K + 2) P Q 0 (max m 1) (den env 54 [.ptr P.length 0 0, .t (ti m)] (P ++ X :: Q)) := by
  by_cases h1 : m ≤ 1
  · refine ⟨0, X, ?_, hX.mono (by omega), by omega, by omega⟩
    rw [den_ir e54 _ _ rfl (.inl rfl)]
    simp [ir54, ir54_c, h1]
  · obtain ⟨n, X1, e1001, hX1, a1, b1⟩ := r79 hC P Q K (by omega) X hX
    have hmx : max m 1 = m := by omega
    rw [hmx]
    by_cases h2 : 200 < m
    · obtain ⟨n2, X2, e1002, hX2, a2, b2⟩ := r79 hC P Q (K + 1) (by omega) X1 hX1
      have w1001 : IntKind.i64.wrap (n * 256) = n * 256 := w76 (by omega)
      have w1002 : IntKind.i64.wrap (n * 256 + n2) = n * 256 + n2 := w76 (by omega)
      have hm0 : ¬ m = 0 := by omega
      refine ⟨(n * 256 + n2).tmod m, X2, ?_, hX2, Int.tmod_nonneg _ (by omega), Int.tmod_lt_of_pos _ (by omega)⟩
      rw [den_ir e54 _ _ rfl (.inl rfl)]
      simp [ir54, ir54_c, h1, h2, e1001, e1002, w1001, w1002, evBin, evInt, hm0]
    · have hm0 : ¬ m = 0 := by omega
      refine ⟨n.tmod m, X1, ?_, hX1.mono (by omega), Int.tmod_nonneg _ (by omega), Int.tmod_lt_of_pos _ (by omega)⟩
      rw [den_ir e54 _ _ rfl (.inl rfl)]
      simp [ir54, ir54_c, h1, h2, e1001, evBin, evInt, hm0]
theorem r78 (hC : BL C bs) (P Q : Heap) {K : Nat} (hK : K ≤ 2 ^ 39) {X : Blk} (hX : CurX C K X) (m : Int) (hm : m ≤ 2 ^ 40) :
    ∃ b X', den env 78 [.ptr P.length 0 0, .t (ti m)] (P ++ X :: Q) = some (.t (tb b), P ++ X' :: Q) ∧ CurX C (K + 2) X' := by
  obtain ⟨n, X1, e1001, hX1, a1, b1⟩ := r54 hC P Q hK hX m hm
  refine ⟨decide (n = 0), X1, ?_, hX1⟩
  rw [den_ir e78 _ _ rfl (.inl rfl)]
  simp [ir78, ir78_c, e1001]
theorem r80 (hC : BL C bs) (P Q : Heap) {K : Nat} (hK : K ≤ 2 ^ 39) {X : Blk} (hX : CurX C K X) (l : List Int) (h0 : 0 < l.length) (hl : l.length ≤ 1000) :
    ∃ n X', den env 80 [.ptr P.length 0 0, .t (tl l)] (P ++ X :: Q) = some (.t (ti n), P ++ X' :: Q) ∧ CurX C (K + 2) X' ∧ n ∈ l := by
  obtain ⟨n, X1, e1001, hX1, a1, b1⟩ := r54 hC P Q hK hX l.length (by omega)
  have hlt : n.toNat < l.length := by omega
  refine ⟨l[n.toNat], X1, ?_, hX1, List.getElem_mem _⟩
  rw [den_ir e80 _ _ rfl (.inl rfl)]
  simp [ir80, ir80_c, e1001, til_length, a1, til_get, hlt]
end Go.Proofs.Ytdgfpjlmpnfcgaa.Ev

namespace Go.Proofs.Ytdgfpjlmpnfcgaa.Ev
open Go
set_option linter.unusedVariables false
set_option linter.unusedSimpArgs false
set_option linter.unusedSectionVars false
attribute [local simp] til_getE til_length til_get
variable {C : T} {bs : List Int}
theorem r56 (hC : BL C bs) (P Q : Heap) {K : Nat} (hK : K ≤ 2 ^ 38) {X : Blk} (hX : CurX C K X) :
    ∃ a b c X' E, den env 56 [.ptr P.length 0 0] (P ++ X :: Q) = some (.agg [.t (ti a), .t (ti b), .t (ti c)], P ++ X' :: (Q ++ E)) ∧ CurX C (K + 20) X' := by
  obtain ⟨n1, X1, e1001, hX1, a1, b1⟩ := r54 hC P (Q ++ [.box 3 [.t (ti 0), .t (ti 0), .t (ti 0)]]) (by omega) hX 2 (by omega)
  obtain ⟨n2, X2, e1002, hX2, a2, b2⟩ := r54 hC P (Q ++ [.box 3 [.t (ti 0), .t (ti 0), .t (ti 0)]]) (by omega) hX1 3 (by omega)
  obtain ⟨n3, X3, e1003, hX3, a3, b3⟩ := r54 hC P (Q ++ [.box 3 [.t (ti 0), .t (ti 0), .t (ti 0)]]) (by omega) hX2 3 (by omega)
  have w1001 : IntKind.i64.wrap (1 + n1) = 1 + n1 := w76 (by omega)
  have w1002 : IntKind.i64.wrap (1 + n2) = 1 + n2 := w76 (by omega)
  have w1003 : IntKind.i64.wrap (1 + n3) = 1 + n3 := w76 (by omega)
  obtain ⟨n4, X4, e1004, hX4, a4, b4⟩ := r54 hC P (Q ++ [.box 3 [.t (ti 0), .t (ti 0), .t (ti 0)], .box 3 [.t (ti (1 + n1)), .t (ti (1 + n2)), .t (ti n3)]]) (by omega) hX3 20 (by omega)
  obtain ⟨n5, X5, e1005, hX5, _⟩ := r80 hC P (Q ++ [.box 3 [.t (ti 0), .t (ti 0), .t (ti 0)], .box 3 [.t (ti (1 + n1)), .t (ti (1 + n2)), .t (ti n3)], .froz 1 (til [-1, 0, 4, 4611686018427387904])]) (by omega) hX4 [-1, 0, 4, 4611686018427387904] (by simp) (by simp)
  obtain ⟨n6, X6, e1006, hX6, _⟩ := r80 hC P (Q ++ [.box 3 [.t (ti 0), .t (ti 0), .t (ti 0)], .box 3 [.t (ti (1 + n1)), .t (ti (1 + n2)), .t (ti n3)], .froz 1 (til [-1, 0, 4])]) (by omega) hX4 [-1, 0, 4] (by simp) (by simp)
  obtain ⟨n7, X7, e1007, hX7, _⟩ := r80 hC P (Q ++ [.box 3 [.t (ti 0), .t (ti 0), .t (ti 0)], .box 3 [.t (ti (1 + n1)), .t (ti (1 + n2)), .t (ti n3)], .froz 1 (til [-1, 3, 4611686018427387904])]) (by omega) hX4 [-1, 3, 4611686018427387904] (by simp) (by simp)
  obtain ⟨n8, X8, e1008, hX8, _, _⟩ := r54 hC P (Q ++ [.box 3 [.t (ti 0), .t (ti 0), .t (ti 0)], .box 3 [.t (ti 3), .t (ti (1 + n2)), .t (ti n3)]]) (by omega) hX4 2 (by omega)
  simp [til, tl] at e1001 e1002 e1003 e1004 e1005 e1006 e1007 e1008
  have c1004 := hX4.mono (K' := K + 20) (by omega)
  have c1005 := hX5.mono (K' := K + 20) (by omega)
  have c1006 := hX6.mono (K' := K + 20) (by omega)
  have c1007 := hX7.mono (K' := K + 20) (by omega)
  have c1008 := hX8.mono (K' := K + 20) (by omega)
  rw [den_ir e56 _ _ rfl (.inl rfl)]
  by_cases h0 : n4 = 0
  · subst h0
    simp [ir56, ir56_c, e1001, e1002, e1003, e1004, e1005, w1001, w1002, c1005]
    exact ⟨_, _, _, _, ⟨⟨rfl, rfl, rfl⟩, rfl⟩, by assumption⟩
  by_cases h1 : n4 = 1
  · subst h1
    simp [ir56, ir56_c, e1001, e1002, e1003, e1004, e1006, w1001, w1002, c1006]
    exact ⟨_, _, _, _, ⟨⟨rfl, rfl, rfl⟩, rfl⟩, by assumption⟩
  by_cases h2 : n4 = 2
  · subst h2
    simp [ir56, ir56_c, e1001, e1002, e1003, e1004, e1007, w1001, w1002, c1007]
    exact ⟨_, _, _, _, ⟨⟨rfl, rfl, rfl⟩, rfl⟩, by assumption⟩
  by_cases h3 : n4 = 3
  · subst h3
    simp [ir56, ir56_c, e1001, e1002, e1003, e1004, e1008, w1001, w1002, c1008]
    exact ⟨_, _, _, _, ⟨⟨rfl, rfl, rfl⟩, rfl⟩, by assumption⟩
  by_cases h4 : n4 = 4
  · subst h4
    simp [ir56, ir56_c, e1001, e1002, e1003, e1004, e1008, w1001, w1002, c1008]
    exact ⟨_, _, _, _, ⟨⟨rfl, rfl, rfl⟩, rfl⟩, by assumption⟩
  · simp [ir56, ir56_c, e1001, e1002, e1003, e1004, h0, h1, h2, h3, h4, w1001, w1002, c1004]
    exact ⟨_, _, _, _, ⟨⟨rfl, rfl, rfl⟩, rfl⟩, by assumption⟩
end Go.Proofs.Ytdgfpjlmpnfcgaa.Ev

namespace Go.Proofs.Ytdgfpjlmpnfcgaa.Ev
open Go
set_option linter.unusedVariables false
set_option linter.unusedSimpArgs false
set_option linter.unusedSectionVars false
attribute [local simp] til_getE til_length til_get til_snoc take_snoc til_take
variable {C : T} {bs : List Int}
def GL (P Q E : Heap) (v : V) (l : List Int) : Prop := (v = .t .nil ∧ l = []) ∨ ∃ k, v = .ref (P.length + (Q.length + k + 1)) 0 l.length ∧ E[k]? = some (.pure 1 (til l))
theorem GL.app {P Q E : Heap} {v : V} {l : List Int} (h : GL P Q E v l) (hl : l.length ≤ 1000) (X : Blk) (x : Int) :
    ∃ v' E', evApp (P ++ X :: (Q ++ (E ++ [Blk.pure 1 [.int .i64 x]]))) 1 v (.ref (P.length + (Q.length + E.length + 1)) 0 1) = some (v', P ++ X :: (Q ++ E')) ∧ GL P Q E' v' (l ++ [x]) := by
  rcases h with ⟨rfl, rfl⟩ | ⟨k, rfl, hk⟩
  · refine ⟨.ref (P.length + (Q.length + (E.length + 1) + 1)) 0 1, E ++ [.pure 1 [.int .i64 x], .pure 1 [.int .i64 x]], ?_, .inr ⟨E.length + 1, by simp, by simp [til]⟩⟩
    simp
  · have hkl := (List.getElem?_eq_some_iff.1 hk).1
    refine ⟨.ref (P.length + (Q.length + (E.length + 1) + 1)) 0 (l.length + 1), (E ++ [Blk.pure 1 [.int .i64 x]]).set k .dead ++ [.pure 1 (til (l ++ [x]))], ?_, .inr ⟨E.length + 1, by simp, ?_⟩⟩
    · have h1 : (E ++ [Blk.pure 1 [.int .i64 x]])[k]? = some (.pure 1 (til l)) := by rw [List.getElem?_append_left hkl]; exact hk
      have h2 : l.length + 1 ≤ 68719476736 := by omega
      simp [h1, h2]
    · rw [List.getElem?_append_right (by simp)]
      simp
theorem GL.ext {P Q E : Heap} {v : V} {l : List Int} (h : GL P Q E v l) (F : Heap) : GL P Q (E ++ F) v l := by
  rcases h with h | ⟨k, rfl, hk⟩
  · exact .inl h
  · exact .inr ⟨k, rfl, by rw [List.getElem?_append_left (List.getElem?_eq_some_iff.1 hk).1]; exact hk⟩
theorem l55 (hC : BL C bs) (P Q : Heap) (n : Nat) (hn : n ≤ 100) {K : Nat} (hK : K ≤ 2 ^ 38) : ∀ (d i : Nat) (X : Blk) (E : Heap) (v : V) (l : List Int), i + d = n → CurX C (K + 2 * i) X → GL P Q E v l → l.length ≤ i →
    ∃ X' E' v' l', loopF env false [0, 1, 5, 6] ir55_b0 ([(0, .ptr P.length 0 0), (1, .t (ti n)), (5, v), (6, .t (ti i))], P ++ X :: (Q ++ E)) =
      some (.exit 0, [(0, .ptr P.length 0 0), (1, .t (ti n)), (5, v'), (6, .t (ti n)), (7, .t (ti n)), (8, .t (ti n)), (9, .t (tb false))], P ++ X' :: (Q ++ E')) ∧ CurX C (K + 2 * n) X' ∧ GL P Q E' v' l' ∧ l'.length ≤ n
  | 0, i, X, E, v, l, hi, hX, hg, hl => by
    have : i = n := by omega
    subst this
    refine ⟨X, E, v, l, ?_, hX, hg, hl⟩
    rw [x55_0]
    simp [ir55_d0]
  | d + 1, i, X, E, v, l, hi, hX, hg, hl => by
    have hlt : (i : Int) < n := by omega
    have hw : IntKind.i64.wrap ((i : Int) + 1) = (i : Int) + 1 := w76 (by omega)
    obtain ⟨b, X1, e1001, hX1⟩ := r78 hC P (Q ++ E) (by omega) hX 3 (by omega)
    cases b with
    | false =>
      obtain ⟨X', E', v', l', h1, h2, h3, h4⟩ := l55 hC P Q n hn hK d (i + 1) X1 E v l (by omega) (hX1.mono (by omega)) hg (by omega)
      refine ⟨X', E', v', l', ?_, h2, h3, h4⟩
      rw [x55_0]
      simp at h1
      simp [ir55_d0, hlt, e1001, hw, h1]
    | true =>
      obtain ⟨v1, E1, a1, g1⟩ := hg.app (by omega) X1 (i : Int)
      obtain ⟨X', E', v', l', h1, h2, h3, h4⟩ := l55 hC P Q n hn hK d (i + 1) X1 E1 v1 (l ++ [(i : Int)]) (by omega) (hX1.mono (by omega)) g1 (by simp; omega)
      refine ⟨X', E', v', l', ?_, h2, h3, h4⟩
      rw [x55_0]
      simp at h1 a1
      simp [ir55_d0, hlt, e1001, hw, h1, a1]
theorem r55 (hC : BL C bs) (P Q : Heap) (n : Nat) (hn : n ≤ 100) {K : Nat} (hK : K ≤ 2 ^ 37) {X : Blk} (hX : CurX C K X) :
    ∃ X' E' v' l', den env 55 [.ptr P.length 0 0, .t (ti n)] (P ++ X :: Q) = some (v', P ++ X' :: (Q ++ E')) ∧ CurX C (K + 300) X' ∧ GL P Q E' v' l' ∧ l'.length ≤ n + 1 := by
  obtain ⟨X1, E1, v1, l1001, h1, c1001, g1, b1⟩ := l55 hC P Q n hn (K := K) (by omega) n 0 X [] (.t .nil) [] (by omega) (by simpa using hX) (.inl ⟨rfl, rfl⟩) (by simp)
  obtain ⟨b, X2, e1002, c1002⟩ := r78 hC P (Q ++ E1) (by omega) c1001 14 (by omega)
  simp at h1
  rw [den_ir e55 _ _ rfl (.inl rfl)]
  cases b with
  | false =>
    have c1002' := c1002.mono (K' := K + 300) (by omega)
    simp [ir55, ir55_c, h1, e1002]
    exact ⟨_, _, _, ⟨rfl, rfl, rfl⟩, c1002', l1001, g1, by omega⟩
  | true =>
    obtain ⟨x, X3, e1003, c1003, _⟩ := r80 hC P (Q ++ (E1 ++ [.froz 1 (til [-1, 0, n, 4611686018427387904])])) (by omega) c1002 [-1, 0, n, 4611686018427387904] (by simp) (by simp)
    obtain ⟨v4, E4, a4, g4⟩ := (g1.ext [.froz 1 (til [-1, 0, n, 4611686018427387904])]).app (by omega) X3 x
    have c1003' := c1003.mono (K' := K + 300) (by omega)
    simp [til, tl] at e1003 a4
    simp [ir55, ir55_c, h1, e1002, e1003, a4]
    exact ⟨_, _, _, ⟨rfl, rfl, rfl⟩, c1003', _, g4, by simp; omega⟩
end Go.Proofs.Ytdgfpjlmpnfcgaa.Ev

namespace Go.Proofs.Ytdgfpjlmpnfcgaa.Ev
open Go
set_option linter.unusedVariables false
set_option linter.unusedSimpArgs false
set_option linter.unusedSectionVars false
attribute [local simp] til_getE til_length til_get til_snoc take_snoc til_take tlv_getE tlv_length tlv_take
variable {C : T} {bs : List Int}
theorem okC_start {a : Nat} {b c : Int} (hgd : good a b c = true) : okC a c (List.replicate (2 * a) 0, 0) ∧ voysAll a b c (List.replicate (2 * a) 0, 0) ≠ [] := by
  have hgo := good_of hgd
  have key : ∀ (a : Fin 4) (b : Fin 4) (c : Fin 3), 1 ≤ a.val → 1 ≤ b.val → calmS a.val (c.val : Int) (List.replicate (2 * a.val) 0) = true ∧ voysAll a.val (b.val : Int) (c.val : Int) (List.replicate (2 * a.val) 0, 0) ≠ [] := by decide +kernel
  obtain ⟨b', rfl⟩ : ∃ b' : Nat, b = b' := ⟨b.toNat, by omega⟩
  obtain ⟨c', rfl⟩ : ∃ c' : Nat, c = c' := ⟨c.toNat, by omega⟩
  have h := key ⟨a, by omega⟩ ⟨b', by omega⟩ ⟨c', by omega⟩ (by simp; omega) (by simp; omega)
  refine ⟨⟨⟨by simp, by simp; omega, fun y hy => by rw [List.mem_replicate] at hy; omega⟩, h.1⟩, h.2⟩
theorem okC_next {a : Nat} {b c : Int} (hgd : good a b c = true) {l : List Int} {p : Int} (hx : okC a c (l, p)) {v : Int × List Int} (hv : v ∈ voysAll a b c (l, p)) : okC a c (setAll v.1 v.2 l, v.1) ∧ voysAll a b c (setAll v.1 v.2 l, v.1) ≠ [] := by
  have hy : (setAll v.1 v.2 l, v.1) ∈ succs a b c (l, p) := List.mem_map.2 ⟨v, hv, rfl⟩
  refine ⟨succs_ok hgd hx.1 hy, fun h => ?_⟩
  have h2 := succs_symm hgd hx hy
  unfold succs at h2
  rw [h] at h2
  cases h2
structure SB (P Q E : Heap) (j k : Nat) (l : List Int) (p : Int) : Prop where
  b : E[j]? = some (.box 2 [.ref (P.length + (Q.length + k + 1)) 0 l.length, .t (ti p)])
  a : E[k]? = some (.pure 1 (til l))
theorem SB.ne {P Q E : Heap} {j k : Nat} {l : List Int} {p : Int} (h : SB P Q E j k l p) : j ≠ k := fun e => by
  have := h.b; rw [e, h.a] at this; cases this
theorem l77 (hC : BL C bs) (P Q : Heap) (a : Nat) (b c : Int) (hgd : good a b c = true) {K : Nat} (hK : K ≤ 2 ^ 38) (jw j : Nat) (hj1 : 1 < j) (hjw : jw ≠ j) (hjw1 : 1 < jw) (z0 z1 : Blk) : ∀ (d : Nat) (X : Blk) (E : Heap) (k : Nat) (l : List Int) (p : Int), CurX C (K + 2 * (100 - d)) X → d ≤ 100 → 1 < k → SB P Q E j k l p → E[jw]? = some (.box 3 [.t (ti a), .t (ti b), .t (ti c)]) → E[0]? = some z0 → E[1]? = some z1 → okC a c (l, p) → voysAll a b c (l, p) ≠ [] →
    ∃ X' E' k' l' p', loopF env false [0, 2, 3, 4, 5, 6] ir77_b0 ([(0, .ptr P.length 0 0), (2, .ptr (P.length + (Q.length + 1)) 0 0), (3, .ptr (P.length + (Q.length + 1 + 1)) 0 0), (4, .ptr (P.length + (Q.length + jw + 1)) 0 0), (5, .ptr (P.length + (Q.length + j + 1)) 0 0), (6, .t (ti d))], P ++ X :: (Q ++ E)) =
      some (.exit 0, (0, .ptr P.length 0 0) :: (2, .ptr (P.length + (Q.length + 1)) 0 0) :: (3, .ptr (P.length + (Q.length + 1 + 1)) 0 0) :: (4, .ptr (P.length + (Q.length + jw + 1)) 0 0) :: (5, .ptr (P.length + (Q.length + j + 1)) 0 0) :: (6, .t (ti 0)) :: [(32, .t (ti 0)), (33, .t (tb false))], P ++ X' :: (Q ++ E')) ∧ CurX C (K + 200) X' ∧ 1 < k' ∧ SB P Q E' j k' l' p' ∧ E'[jw]? = some (.box 3 [.t (ti a), .t (ti b), .t (ti c)]) ∧ E'[0]? = some z0 ∧ E'[1]? = some z1 ∧ l'.length = 2 * a
  | 0, X, E, k, l, p, hX, hd, hk1, hs, hw, h0, h1, hok, hne => by
    refine ⟨X, E, k, l, p, ?_, hX.mono (by omega), hk1, hs, hw, h0, h1, hok.1.1⟩
    rw [x77_0]
    simp [ir77_d0]
  | d + 1, X, E, k, l, p, hX, hd, hk1, hs, hw, h0, h1, hok, hne => by
    have hgo := good_of hgd
    have hn := hs.ne
    have hkl := (List.getElem?_eq_some_iff.1 hs.a).1
    have hlen := hok.1.1
    simp only at hlen
    obtain ⟨vs, hvs⟩ : ∃ vs, vs = voysAll a b c (l, p) := ⟨_, rfl⟩
    have h32 : IsVs (ownFR env 34 [.agg [ti a, ti b, ti c], .agg [tl l, ti p]]) vs := hvs ▸ r34 a b c hgd l hlen p hok.1.2.1
    have hvl : vs.length ≤ 2 ^ 10 := hvs ▸ voysAll_len hgd hok.1
    have hpos : 0 < vs.length := List.length_pos_iff.2 (hvs ▸ hne)
    have h32 := h32.resolve_left (fun h => hne (hvs ▸ h.2))
    obtain ⟨n, X1, e1001, hX1, a1, b1⟩ := r54 hC P (Q ++ (E.set k (.froz 1 (til l)) ++ [.pure 2 (tlv vs)])) (by omega) hX vs.length (by omega)
    have hlt : n.toNat < vs.length := by omega
    have hmem : vs[n.toNat] ∈ voysAll a b c (l, p) := hvs ▸ List.getElem_mem hlt
    obtain ⟨q1001, q1002⟩ := okC_next hgd hok hmem
    obtain ⟨c1001, c1002, c1003⟩ := can_in (by omega) (voys_can hmem)
    have h33 := r46 l vs[n.toNat].2 p vs[n.toNat].1 (by omega) (by omega) c1003
    have hsl := setAll_length vs[n.toNat].1 vs[n.toNat].2 l
    have hn2 : n < vs.length := by omega
    obtain ⟨v, hv⟩ : ∃ v, vs[n.toNat] = v := ⟨_, rfl⟩
    rw [hv] at hmem q1001 q1002 c1001 c1002 c1003 h33 hsl
    have hwd : IntKind.i64.wrap (d : Int) = d := w76 (by omega)
    have hjl := (List.getElem?_eq_some_iff.1 hs.b).1
    have hwl := (List.getElem?_eq_some_iff.1 hw).1
    have hkw : jw ≠ k := fun e => by have := hw; rw [e, hs.a] at this; cases this
    have g0 : ∀ (b : Blk) Y, (E.set k b ++ Y)[j]? = some (.box 2 [.ref (P.length + (Q.length + k + 1)) 0 l.length, .t (ti p)]) := fun b Y => by rw [List.getElem?_append_left (by simpa using hjl), List.getElem?_set_ne (Ne.symm hn)]; exact hs.b
    have g1 : ∀ (x : Blk) Y, (E.set k x ++ Y)[jw]? = some (.box 3 [.t (ti a), .t (ti b), .t (ti c)]) := fun x Y => by rw [List.getElem?_append_left (by simpa using hwl), List.getElem?_set_ne (Ne.symm hkw)]; exact hw
    have g2 : ∀ (b : Blk) Y, (E.set k b ++ Y)[k]? = some b := fun b Y => by rw [List.getElem?_append_left (by simpa using hkl)]; simp [hkl]
    have g3 : ∀ (b : Blk) Y i, (E.set k b ++ Y)[E.length + i]? = Y[i]? := fun b Y i => by rw [List.getElem?_append_right (by simp)]; simp
    have g4 : ∀ (b : Blk) Y, (E.set k b ++ Y)[E.length]? = Y[0]? := fun b Y => g3 b Y 0
    obtain ⟨X', E', k', l', p', f1, f2, f3⟩ := l77 hC P Q a b c hgd hK jw j hj1 hjw hjw1 z0 z1 d X1 ((E.set k (.froz 1 (til l)) ++ [Blk.pure 2 (tlv vs), Blk.pure 1 (til (setAll v.1 v.2 l))]).set j (.box 2 [.ref (P.length + (Q.length + (E.length + 1) + 1)) 0 l.length, .t (ti v.1)])) (E.length + 1) (setAll v.1 v.2 l) v.1 (hX1.mono (by omega)) (by omega) (by omega) ⟨by rw [List.getElem?_set_self (by simp; omega), hsl], by rw [List.getElem?_set_ne (by omega), g3]; rfl⟩ (by rw [List.getElem?_set_ne (Ne.symm hjw), g1]) (by rw [List.getElem?_set_ne (by omega), List.getElem?_append_left (by simp; omega), List.getElem?_set_ne (by omega)]; exact h0) (by rw [List.getElem?_set_ne (by omega), List.getElem?_append_left (by simp; omega), List.getElem?_set_ne (by omega)]; exact h1) q1001 q1002
    refine ⟨X', E', k', l', p', ?_, f2, f3⟩
    rw [x77_0]
    have hd1 : (0 : Int) < ((d + 1 : Nat) : Int) := by omega
    simp [ir77_d0, hs.a, hs.b, hw, h32, hpos, e1001, g0, g1, g2, g3, g4, hlt, h33, hwd, hd1, hsl, a1, hn2, hv, voyT, f1]
end Go.Proofs.Ytdgfpjlmpnfcgaa.Ev

namespace Go.Proofs.Ytdgfpjlmpnfcgaa.Ev
open Go
set_option linter.unusedVariables false
set_option linter.unusedSimpArgs false
set_option linter.unusedSectionVars false
attribute [local simp] til_getE til_length til_get til_snoc take_snoc til_take tlv_getE tlv_length tlv_take til_set
variable {C : T} {bs : List Int}
def z3 : Blk := .box 3 [.t (ti 0), .t (ti 0), .t (ti 0)]
def z2 : Blk := .box 2 [.t .nil, .t (ti 0)]
def AL (P Q E : Heap) (v : V) (l : List Int) : Prop := v = .t (tl l) ∨ ∃ k, v = .ref (P.length + (Q.length + k + 1)) 0 l.length ∧ E[k]? = some (.pure 1 (til l))
theorem r77 (hC : BL C bs) (P Q : Heap) {K : Nat} (hK : K ≤ 2 ^ 36) {X : Blk} (hX : CurX C K X) :
    ∃ a b c l p v X' E', den env 77 [.ptr P.length 0 0] (P ++ X :: Q) = some (.tup [.agg [.t (ti a), .t (ti b), .t (ti c)], .agg [v, .t (ti p)]], P ++ X' :: (Q ++ E')) ∧ CurX C (K + 1000) X' ∧ AL P Q E' v l ∧ l.length ≤ 1000 := by
  obtain ⟨a, b, c, X1, E0, e1001, hX1⟩ := r56 hC P (Q ++ [z3, z2]) (by omega) hX
  obtain ⟨W, hW⟩ : ∃ W, W = Blk.box 3 [.t (ti a), .t (ti b), .t (ti c)] := ⟨_, rfl⟩
  have hbad : ∀ {X2 : Blk} {K2 : Nat}, CurX C K2 X2 → K2 ≤ K + 500 → ∃ n1 X3 n2 X4 n3 X5, den env 54 [.ptr P.length 0 0, .t (ti 3)] (P ++ X2 :: (Q ++ z3 :: z2 :: (E0 ++ [W]))) = some (.t (ti n1), P ++ X3 :: (Q ++ z3 :: z2 :: (E0 ++ [W]))) ∧
      den env 54 [.ptr P.length 0 0, .t (ti 9)] (P ++ X3 :: (Q ++ z3 :: z2 :: (E0 ++ [W]))) = some (.t (ti n2), P ++ X4 :: (Q ++ z3 :: z2 :: (E0 ++ [W]))) ∧
      den env 54 [.ptr P.length 0 0, .t (ti 4)] (P ++ X4 :: (Q ++ z3 :: z2 :: (E0 ++ [W]))) = some (.t (ti n3), P ++ X5 :: (Q ++ z3 :: z2 :: (E0 ++ [W]))) ∧ CurX C (K + 1000) X5 ∧ IntKind.i64.wrap (n2.tdiv 8) = n2.tdiv 8 ∧ IntKind.i64.wrap (n1 - n2.tdiv 8) = n1 - n2.tdiv 8 := by
    intro X2 K2 h2 hk2
    obtain ⟨n1, X3, h3, c1003, _, _⟩ := r54 hC P (Q ++ z3 :: z2 :: (E0 ++ [W])) (by omega) h2 3 (by omega)
    obtain ⟨n2, X4, h4, c1004, _, _⟩ := r54 hC P (Q ++ z3 :: z2 :: (E0 ++ [W])) (by omega) c1003 9 (by omega)
    obtain ⟨n3, X5, h5, c1005, _, _⟩ := r54 hC P (Q ++ z3 :: z2 :: (E0 ++ [W])) (by omega) c1004 4 (by omega)
    have hq : n2.tdiv 8 = n2 / 8 := Int.tdiv_eq_ediv_of_nonneg (by omega)
    exact ⟨n1, X3, n2, X4, n3, X5, h3, h4, h5, c1005.mono (by omega), w76 (by omega), w76 (by omega)⟩
  obtain ⟨b0, X2, e1002, hX2⟩ := r78 hC P (Q ++ z3 :: z2 :: (E0 ++ [W])) (by omega) hX1 10 (by omega)
  simp at e1001
  rw [den_ir e77 _ _ rfl (.inl rfl)]
  cases hgd : good a b c with
  | false =>
    obtain ⟨n1, X3, n2, X4, n3, X5, h3, h4, h5, c1005, w1001, w1002⟩ := hbad hX1 (by omega)
    simp [z3, z2] at e1001 h3 h4 h5
    subst hW
    simp [ir77, ir77_c, e1001, hgd, h3, h4, h5, w1001, w1002, evBin, evInt]
    exact ⟨_, _, _, [n1 - n2.tdiv 8, 0], _, _, _, _, ⟨⟨⟨rfl, rfl, rfl⟩, rfl, rfl⟩, rfl, rfl⟩, c1005, .inl rfl, by simp⟩
  | true =>
    cases b0 with
    | true =>
      obtain ⟨n1, X3, n2, X4, n3, X5, h3, h4, h5, c1005, w1001, w1002⟩ := hbad hX2 (by omega)
      simp [z3, z2] at e1001 e1002 h3 h4 h5
      subst hW
      simp [ir77, ir77_c, e1001, e1002, hgd, h3, h4, h5, w1001, w1002, evBin, evInt]
      exact ⟨_, _, _, [n1 - n2.tdiv 8, 0], _, _, _, _, ⟨⟨⟨rfl, rfl, rfl⟩, rfl, rfl⟩, rfl, rfl⟩, c1005, .inl rfl, by simp⟩
    | false =>
      have hgo := good_of hgd
      obtain ⟨m, rfl⟩ : ∃ m : Nat, a = m := ⟨a.toNat, by omega⟩
      have h24 := r50 m b c 0 (by omega)
      have hm : (2 * (m : Int)).toNat = 2 * m := by omega
      rw [hm] at h24
      obtain ⟨hok, hne⟩ := okC_start hgd
      obtain ⟨n, X3, e1003, hX3, a3, b3⟩ := r54 hC P (Q ++ z3 :: z2 :: (E0 ++ [W, .pure 1 (til (List.replicate (2 * m) 0)), .box 2 [.ref (P.length + (Q.length + (E0.length + 3) + 1)) 0 (2 * m), .t (ti 0)]])) (by omega) hX2 7 (by omega)
      obtain ⟨X4, E4, k1004, l1004, p1004, h4, hX4, hk4, hs4, hw4, h04, h14, hl4⟩ := l77 hC P Q m b c hgd (K := K + 100) (by omega) (E0.length + 2) (E0.length + 4) (by omega) (by omega) (by omega) z3 z2 n.toNat X3 (z3 :: z2 :: (E0 ++ [W, .pure 1 (til (List.replicate (2 * m) 0)), .box 2 [.ref (P.length + (Q.length + (E0.length + 3) + 1)) 0 (2 * m), .t (ti 0)]])) (E0.length + 3) (List.replicate (2 * m) 0) 0 (hX3.mono (by omega)) (by omega) (by omega) ⟨by simp, by simp⟩ (by simp [hW]) rfl rfl hok hne
      obtain ⟨b5, X5, e1005, hX5⟩ := r78 hC P (Q ++ E4) (by omega) hX4 6 (by omega)
      have hnn : ((n.toNat : Nat) : Int) = n := by omega
      rw [hnn] at h4
      simp [z3, z2] at e1001 e1002 e1003 h4
      subst hW
      have hj := hs4.b
      have ha := hs4.a
      have hkl := (List.getElem?_eq_some_iff.1 ha).1
      have hne4 := hs4.ne
      have hkw : E0.length + 2 ≠ k1004 := fun e => by rw [e, ha] at hw4; cases hw4
      have hl0 : 0 < E4.length := by omega
      have hl1 : 1 < E4.length := by omega
      cases b5 with
      | false =>
        have c1005 := hX5.mono (K' := K + 1000) (by omega)
        have g0 : ∀ x y, ((E4.set 0 x).set 1 y)[0]? = some x := fun x y => by rw [List.getElem?_set_ne (by omega), List.getElem?_set_self hl0]
        have g1 : ∀ x y, ((E4.set 0 x).set 1 y)[1]? = some y := fun x y => by rw [List.getElem?_set_self (by simpa using hl1)]
        have g2 : ∀ x y, ((E4.set 0 x).set 1 y)[k1004]? = some (.pure 1 (til l1004)) := fun x y => by rw [List.getElem?_set_ne (by omega), List.getElem?_set_ne (by omega), ha]
        simp [ir77, ir77_c, e1001, e1002, hgd, h24, e1003, h4, e1005, hj, ha, hw4, h04, h14, z3, z2, g0, g1]
        exact ⟨_, _, _, l1004, _, _, _, _, ⟨⟨⟨rfl, rfl, rfl⟩, rfl, rfl⟩, rfl, rfl⟩, c1005, .inr ⟨k1004, rfl, g2 _ _⟩, by omega⟩
      | true =>
        obtain ⟨n6, X6, e1006, hX6, a6, b6⟩ := r54 hC P (Q ++ E4) (by omega) hX5 l1004.length (by omega)
        obtain ⟨n7, X7, e1007, hX7, a7, b7⟩ := r54 hC P (Q ++ E4) (by omega) hX6 (c + 2) (by omega)
        have c1007 := hX7.mono (K' := K + 1000) (by omega)
        have hw1 : IntKind.i64.wrap (c + 2) = c + 2 := w76 (by omega)
        have hlt6 : n6 < l1004.length := by omega
        have hlt6' : n6.toNat < l1004.length := by omega
        have g0 : ∀ z x y, (((E4.set k1004 z).set 0 x).set 1 y)[0]? = some x := fun z x y => by rw [List.getElem?_set_ne (by omega), List.getElem?_set_self (by simpa using hl0)]
        have g1 : ∀ z x y, (((E4.set k1004 z).set 0 x).set 1 y)[1]? = some y := fun z x y => by rw [List.getElem?_set_self (by simpa using hl1)]
        have g2 : ∀ z x y, (((E4.set k1004 z).set 0 x).set 1 y)[k1004]? = some z := fun z x y => by rw [List.getElem?_set_ne (by omega), List.getElem?_set_ne (by omega), List.getElem?_set_self hkl]
        have g3 : ∀ z, (E4.set k1004 z)[E0.length + 4]? = some (.box 2 [.ref (P.length + (Q.length + k1004 + 1)) 0 l1004.length, .t (ti p1004)]) := fun z => by rw [List.getElem?_set_ne (Ne.symm hne4)]; exact hj
        have g4 : ∀ z, (E4.set k1004 z)[E0.length + 2]? = some (.box 3 [.t (ti m), .t (ti b), .t (ti c)]) := fun z => by rw [List.getElem?_set_ne (Ne.symm hkw)]; exact hw4
        have g5 : ∀ z, (E4.set k1004 z)[0]? = E4[0]? := fun z => by rw [List.getElem?_set_ne (by omega)]
        have g6 : ∀ z x, ((E4.set k1004 z).set 0 x)[1]? = E4[1]? := fun z x => by rw [List.getElem?_set_ne (by omega), List.getElem?_set_ne (by omega)]
        simp [ir77, ir77_c, e1001, e1002, hgd, h24, e1003, h4, e1005, hj, ha, hw4, h04, h14, z3, z2, g0, g1, g3, g4, g5, g6, e1006, e1007, hw1, a6, hlt6, hlt6']
        exact ⟨_, _, _, l1004.set n6.toNat n7, _, _, _, _, ⟨⟨⟨rfl, rfl, rfl⟩, rfl, rfl⟩, rfl, rfl⟩, c1007, .inr ⟨k1004, by simp, g2 _ _ _⟩, by simp; omega⟩
end Go.Proofs.Ytdgfpjlmpnfcgaa.Ev

namespace Go.Proofs.Ytdgfpjlmpnfcgaa.Ev
open Go
set_option linter.unusedVariables false
set_option linter.unusedSimpArgs false
set_option linter.unusedSectionVars false
attribute [local simp] til_getE til_length til_get til_snoc take_snoc til_take tlv_getE tlv_length tlv_take til_set
variable {C : T} {bs : List Int}
structure Kp (s : Nat) (E E' : Heap) : Prop where
  len : E.length ≤ E'.length
  at' : ∀ (i : Nat) (b : Blk), E[i]? = some b → (∀ xs, b ≠ .pure s xs) → E'[i]? = some b
theorem Kp.refl (s : Nat) (E : Heap) : Kp s E E := ⟨Nat.le_refl _, fun _ _ h _ => h⟩
theorem Kp.app {s : Nat} {E E' : Heap} (h : Kp s E E') (F : Heap) : Kp s E (E' ++ F) := ⟨by have := h.len; simp; omega, fun i b hb hn => by
  rw [List.getElem?_append_left (List.getElem?_eq_some_iff.1 (h.at' i b hb hn)).1]; exact h.at' i b hb hn⟩
def AF (P Q E : Heap) (v : V) (l : List Int) : Prop := v = .t (tl l) ∨ ∃ k, v = .ref (P.length + (Q.length + k + 1)) 0 l.length ∧ (E[k]? = some (.pure 1 (til l)) ∨ E[k]? = some (.froz 1 (til l)))
theorem AF.kp {P Q E E' : Heap} {v : V} {l : List Int} (h : AF P Q E v l) (hk : Kp 2 E E') : AF P Q E' v l := by
  rcases h with h | ⟨k, h1, h2⟩
  · exact .inl h
  · exact .inr ⟨k, h1, h2.imp (fun h => hk.at' k _ h (fun xs e => by cases e)) (fun h => hk.at' k _ h (fun xs e => by cases e))⟩
theorem AF.app {P Q E : Heap} {v : V} {l : List Int} (h : AF P Q E v l) (F : Heap) : AF P Q (E ++ F) v l := h.kp ((Kp.refl 2 E).app F)
theorem AF.rd {P Q E : Heap} {v : V} {l : List Int} (h : AF P Q E v l) (X : Blk) : ∃ L E1, rd (P ++ X :: (Q ++ E)) 5 v = some (tl l, L) ∧ frz (P ++ X :: (Q ++ E)) L = P ++ X :: (Q ++ E1) ∧ E1.length = E.length ∧ Kp 1 E E1 ∧ ∀ v' l', AF P Q E v' l' → AF P Q E1 v' l' := by
  rcases h with rfl | ⟨k, rfl, h | h⟩
  · exact ⟨[], E, by simp, rfl, rfl, Kp.refl _ _, fun _ _ h => h⟩
  · have hkl := (List.getElem?_eq_some_iff.1 h).1
    refine ⟨_, E.set k (.froz 1 (til l)), by simp [h]; rfl, by simp, by simp, ⟨by simp, fun i b hb hn => ?_⟩, fun v' l' h' => ?_⟩
    · have : i ≠ k := fun e => by subst e; rw [h] at hb; cases hb; exact hn _ rfl
      rw [List.getElem?_set_ne (Ne.symm this)]; exact hb
    · rcases h' with h' | ⟨k', h1, h2⟩
      · exact .inl h'
      · refine .inr ⟨k', h1, ?_⟩
        by_cases e : k = k'
        · subst e
          right
          rw [List.getElem?_set_self hkl]
          rcases h2 with h2 | h2
          · rw [h] at h2
            injection h2 with h2
            injection h2 with _ h2
            rw [h2]
          · rw [h] at h2
            injection h2 with h2
            injection h2
        · rw [List.getElem?_set_ne e]; exact h2
  · exact ⟨[], E, by simp [h], rfl, rfl, Kp.refl _ _, fun _ _ h => h⟩
def ZR (P Q E : Heap) (v : V) (ts : List T) : Prop := (v = .t .nil ∧ ts = []) ∨ ∃ k, v = .ref (P.length + (Q.length + k + 1)) 0 ts.length ∧ E[k]? = some (.pure 2 ts)
theorem ZR.kp {P Q E E' : Heap} {v : V} {ts : List T} (h : ZR P Q E v ts) (hk : Kp 1 E E') : ZR P Q E' v ts := by
  rcases h with h | ⟨k, h1, h2⟩
  · exact .inl h
  · exact .inr ⟨k, h1, hk.at' k _ h2 (fun xs e => by cases e)⟩
theorem ZR.ext {P Q E : Heap} {v : V} {ts : List T} (h : ZR P Q E v ts) (F : Heap) : ZR P Q (E ++ F) v ts := h.kp ((Kp.refl 1 E).app F)
theorem ZR.app {P Q E : Heap} {v : V} {ts : List T} (h : ZR P Q E v ts) (hl : ts.length ≤ 1000) (X : Blk) (y : T) :
    ∃ v' E', evApp (P ++ X :: (Q ++ (E ++ [Blk.pure 2 [y]]))) 2 v (.ref (P.length + (Q.length + E.length + 1)) 0 1) = some (v', P ++ X :: (Q ++ E')) ∧ ZR P Q E' v' (ts ++ [y]) ∧ Kp 2 E E' := by
  rcases h with ⟨rfl, rfl⟩ | ⟨k, rfl, hk⟩
  · refine ⟨.ref (P.length + (Q.length + (E.length + 1) + 1)) 0 1, E ++ [Blk.pure 2 [y], Blk.pure 2 [y]], ?_, .inr ⟨E.length + 1, by simp, by simp⟩, (Kp.refl 2 E).app _⟩
    simp
  · have hkl := (List.getElem?_eq_some_iff.1 hk).1
    refine ⟨.ref (P.length + (Q.length + (E.length + 1) + 1)) 0 (ts.length + 1), (E ++ [Blk.pure 2 [y]]).set k .dead ++ [Blk.pure 2 (ts ++ [y])], ?_, .inr ⟨E.length + 1, by simp, ?_⟩, ⟨by simp; omega, fun i b hb hn => ?_⟩⟩
    · have h1 : (E ++ [Blk.pure 2 [y]])[k]? = some (.pure 2 ts) := by rw [List.getElem?_append_left hkl]; exact hk
      have h2 : ts.length + 1 ≤ 68719476736 := by omega
      simp [h1, h2]
    · rw [List.getElem?_append_right (by simp)]
      simp
    · have hil := (List.getElem?_eq_some_iff.1 hb).1
      have : i ≠ k := fun e => by subst e; rw [hk] at hb; cases hb; exact hn _ rfl
      rw [List.getElem?_append_left (by simp; omega), List.getElem?_set_ne (Ne.symm this), List.getElem?_append_left hil]; exact hb
end Go.Proofs.Ytdgfpjlmpnfcgaa.Ev

namespace Go.Proofs.Ytdgfpjlmpnfcgaa.Ev
open Go
set_option linter.unusedVariables false
set_option linter.unusedSimpArgs false
set_option linter.unusedSectionVars false
attribute [local simp] til_getE til_length til_get til_snoc take_snoc til_take tlv_getE tlv_length tlv_take til_set
variable {C : T} {bs : List Int}
def VT (y : T) : Prop := ∃ t g G, y = .agg [ti t, G] ∧ LN G g ∧ g.length ≤ 1000
structure LS (E : Heap) (i5 i6 : Nat) (a b c : Int) (v : V) (p : Int) : Prop where
  b0 : E[0]? = some z3
  b1 : E[1]? = some z2
  b5 : E[i5]? = some (.box 3 [.t (ti a), .t (ti b), .t (ti c)])
  b6 : E[i6]? = some (.box 2 [v, .t (ti p)])
theorem LS.kp {s : Nat} {E E' : Heap} {i5 i6 : Nat} {a b c : Int} {v : V} {p : Int} (h : LS E i5 i6 a b c v p) (hk : Kp s E E') : LS E' i5 i6 a b c v p :=
  ⟨hk.at' _ _ h.b0 nofun, hk.at' _ _ h.b1 nofun, hk.at' _ _ h.b5 nofun, hk.at' _ _ h.b6 nofun⟩
theorem LS.set {E : Heap} {i5 i6 : Nat} {a b c : Int} {v : V} {p : Int} (h : LS E i5 i6 a b c v p) {i : Nat} (x : Blk) (h0 : 1 < i) (h5 : i ≠ i5) (h6 : i ≠ i6) : LS (E.set i x) i5 i6 a b c v p :=
  ⟨by rw [List.getElem?_set_ne (by omega)]; exact h.b0, by rw [List.getElem?_set_ne (by omega)]; exact h.b1, by rw [List.getElem?_set_ne h5]; exact h.b5, by rw [List.getElem?_set_ne h6]; exact h.b6⟩
theorem AF.set {P Q E : Heap} {v : V} {l : List Int} (h : AF P Q E v l) {i n : Nat} {vs : List V} (hi : E[i]? = some (.box n vs)) (x : Blk) : AF P Q (E.set i x) v l := by
  rcases h with h | ⟨k, h1, h2⟩
  · exact .inl h
  · refine .inr ⟨k, h1, ?_⟩
    have : i ≠ k := fun e => by subst e; rw [hi] at h2; rcases h2 with h2 | h2 <;> cases h2
    rw [List.getElem?_set_ne this]; exact h2
theorem ZR.set {P Q E : Heap} {v : V} {ts : List T} (h : ZR P Q E v ts) {i n : Nat} {vs : List V} (hi : E[i]? = some (.box n vs)) (x : Blk) : ZR P Q (E.set i x) v ts := by
  rcases h with h | ⟨k, h1, h2⟩
  · exact .inl h
  · refine .inr ⟨k, h1, ?_⟩
    have : i ≠ k := fun e => by subst e; rw [hi] at h2; cases h2
    rw [List.getElem?_set_ne this]; exact h2
theorem l53 (hC : BL C bs) (P Q : Heap) (a : Nat) (b c : Int) (hgd : good a b c = true) {K : Nat} (hK : K ≤ 2 ^ 37) (i5 i6 i8 : Nat) (h8 : 1 < i8) (h85 : i8 ≠ i5) (h86 : i8 ≠ i6) (v : V) (p : Int) (l1000 : List Int) : ∀ (d : Nat) (X : Blk) (E : Heap) (lv vn : V) (ts : List T) (ln : List Int) (pn : Int), CurX C (K + 4 * (100 - d)) X → d ≤ 100 → LS E i5 i6 a b c v p → AF P Q E v l1000 → E[i8]? = some (.box 2 [vn, .t (ti pn)]) → AF P Q E vn ln → okP a c (ln, pn) → ZR P Q E lv ts → ts.length ≤ 100 - d → (∀ y ∈ ts, VT y) →
    ∃ X' E' lv' ts' fr, loopF env false [0, 2, 3, 5, 6, 7, 8, 9] ir53_b0 ([(0, .ptr P.length 0 0), (2, .ptr (P.length + (Q.length + 1)) 0 0), (3, .ptr (P.length + (Q.length + 1 + 1)) 0 0), (5, .ptr (P.length + (Q.length + i5 + 1)) 0 0), (6, .ptr (P.length + (Q.length + i6 + 1)) 0 0), (7, lv), (8, .ptr (P.length + (Q.length + i8 + 1)) 0 0), (9, .t (ti d))], P ++ X :: (Q ++ E)) =
      some (.exit 0, fr, P ++ X' :: (Q ++ E')) ∧ (fr.get 0 = .ptr P.length 0 0 ∧ fr.get 2 = .ptr (P.length + (Q.length + 1)) 0 0 ∧ fr.get 3 = .ptr (P.length + (Q.length + 1 + 1)) 0 0 ∧ fr.get 5 = .ptr (P.length + (Q.length + i5 + 1)) 0 0 ∧ fr.get 6 = .ptr (P.length + (Q.length + i6 + 1)) 0 0 ∧ fr.get 7 = lv') ∧ CurX C (K + 1000) X' ∧ LS E' i5 i6 a b c v p ∧ AF P Q E' v l1000 ∧ ZR P Q E' lv' ts' ∧ ts'.length ≤ 100 ∧ ∀ y ∈ ts', VT y
  | 0, X, E, lv, vn, ts, ln, pn, hX, hd, hs, hv, h8b, hvn, hok, hz, hts, hvt => by
    refine ⟨X, E, lv, ts, [(0, .ptr P.length 0 0), (2, .ptr (P.length + (Q.length + 1)) 0 0), (3, .ptr (P.length + (Q.length + 1 + 1)) 0 0), (5, .ptr (P.length + (Q.length + i5 + 1)) 0 0), (6, .ptr (P.length + (Q.length + i6 + 1)) 0 0), (7, lv), (8, .ptr (P.length + (Q.length + i8 + 1)) 0 0), (9, .t (ti 0)), (29, .t (ti 0)), (30, .t (tb false))], ?_, by simp, hX.mono (by omega), hs, hv, hz, by omega, hvt⟩
    rw [x53_0]
    simp [ir53_d0]
  | d + 1, X, E, lv, vn, ts, ln, pn, hX, hd, hs, hv, h8b, hvn, hok, hz, hts, hvt => by
    have hgo := good_of hgd
    have hlen := hok.1
    simp only at hlen
    obtain ⟨L, E1, q1001, q1002, q1003, q1004, q1005⟩ := hvn.rd X
    obtain ⟨vs, hvs⟩ : ∃ vs, vs = voysAll a b c (ln, pn) := ⟨_, rfl⟩
    have h32 : IsVs (ownFR env 34 [.agg [ti a, ti b, ti c], .agg [tl ln, ti pn]]) vs := hvs ▸ r34 a b c hgd ln hlen pn hok.2.1
    have hvl : vs.length ≤ 2 ^ 10 := hvs ▸ voysAll_len hgd hok
    have hd1 : (0 : Int) < ((d + 1 : Nat) : Int) := by omega
    have hd1' : (0 : Int) < (d : Int) + 1 := by omega
    have hwd : IntKind.i64.wrap (d : Int) = d := w76 (by omega)
    have hsE1 := hs.kp q1004
    have hstop : vs = [] → ∃ F fr, loopF env false [0, 2, 3, 5, 6, 7, 8, 9] ir53_b0 ([(0, .ptr P.length 0 0), (2, .ptr (P.length + (Q.length + 1)) 0 0), (3, .ptr (P.length + (Q.length + 1 + 1)) 0 0), (5, .ptr (P.length + (Q.length + i5 + 1)) 0 0), (6, .ptr (P.length + (Q.length + i6 + 1)) 0 0), (7, lv), (8, .ptr (P.length + (Q.length + i8 + 1)) 0 0), (9, .t (ti (d + 1 : Nat)))], P ++ X :: (Q ++ E)) =
      some (.exit 0, fr, P ++ X :: (Q ++ (E1 ++ F))) ∧ (fr.get 0 = .ptr P.length 0 0 ∧ fr.get 2 = .ptr (P.length + (Q.length + 1)) 0 0 ∧ fr.get 3 = .ptr (P.length + (Q.length + 1 + 1)) 0 0 ∧ fr.get 5 = .ptr (P.length + (Q.length + i5 + 1)) 0 0 ∧ fr.get 6 = .ptr (P.length + (Q.length + i6 + 1)) 0 0 ∧ fr.get 7 = lv) := fun e => by
      subst e
      rw [x53_0]
      rcases h32 with ⟨h32, _⟩ | h32
      · simp [ir53_d0, hs.b5, h8b, q1001, q1002, h32, hd1']
        exact ⟨_, _, ⟨rfl, rfl⟩, by simp⟩
      · simp [ir53_d0, hs.b5, h8b, q1001, q1002, h32, hd1']
        exact ⟨_, _, ⟨rfl, rfl⟩, by simp⟩
    by_cases hv0 : vs = []
    · obtain ⟨F, fr, r1001, r1002⟩ := hstop hv0
      exact ⟨X, E1 ++ F, lv, ts, fr, r1001, r1002, hX.mono (by omega), hsE1.kp ((Kp.refl 1 E1).app F), (q1005 _ _ hv).app F, (hz.kp q1004).ext F, by omega, hvt⟩
    have hpos : 0 < vs.length := List.length_pos_iff.2 hv0
    replace h32 := h32.resolve_left (fun h => hv0 h.2)
    obtain ⟨n, X1, e1001, hX1, a1, b1⟩ := r54 hC P (Q ++ (E1 ++ [Blk.pure 2 (tlv vs)])) (by omega) hX vs.length (by omega)
    have hlt : n.toNat < vs.length := by omega
    have hn2 : n < vs.length := by omega
    have hmem : vs[n.toNat] ∈ voysAll a b c (ln, pn) := hvs ▸ List.getElem_mem hlt
    obtain ⟨w, hw⟩ : ∃ w, vs[n.toNat] = w := ⟨_, rfl⟩
    rw [hw] at hmem
    have hok2 := (voys_ok hgd hok w hmem).2.2
    obtain ⟨c1001, c1002, c1003⟩ := can_in (by omega) (voys_can hmem)
    have h33 := r46 ln w.2 pn w.1 (by omega) (by omega) c1003
    have hsl := setAll_length w.1 w.2 ln
    have hB : Kp 1 E1 (E1 ++ [Blk.pure 2 (tlv vs), Blk.box 2 [.t (ti w.1), .t (tl w.2)]]) := (Kp.refl 1 E1).app _
    obtain ⟨lv2, E2, f1, f2, f3⟩ := ((hz.kp q1004).kp hB).app (by omega) X1 (voyT w)
    have hvn2 : AF P Q E2 vn ln := ((q1005 _ _ hvn).app _).kp f3
    obtain ⟨L2, _, u1, _⟩ := hvn2.rd X1
    have h8E1 := q1004.at' _ _ h8b nofun
    have h8E2 : E2[i8]? = some (.box 2 [vn, .t (ti pn)]) := f3.at' _ _ (hB.at' _ _ h8E1 nofun) nofun
    have h8l := (List.getElem?_eq_some_iff.1 h8E2).1
    have hvt2 : ∀ y ∈ ts ++ [voyT w], VT y := fun y hy => by
      rw [List.mem_append, List.mem_singleton] at hy
      rcases hy with hy | rfl
      · exact hvt y hy
      · exact ⟨w.1, w.2, _, rfl, .inr rfl, by omega⟩
    have hnew : E2[E2.length]? = none := by simp
    obtain ⟨X', E', lv', ts', fr, g1, g2⟩ := l53 hC P Q a b c hgd hK i5 i6 i8 h8 h85 h86 v p l1000 d X1 ((E2 ++ [Blk.pure 1 (til (setAll w.1 w.2 ln))]).set i8 (.box 2 [.ref (P.length + (Q.length + E2.length + 1)) 0 ln.length, .t (ti w.1)])) lv2 (.ref (P.length + (Q.length + E2.length + 1)) 0 ln.length) (ts ++ [voyT w]) (setAll w.1 w.2 ln) w.1 (hX1.mono (by omega)) (by omega)
      ((((hsE1.kp hB).kp f3).kp ((Kp.refl 1 E2).app _)).set _ h8 h85 h86) (((((q1005 _ _ hv).app _).kp f3).app _).set (by rw [List.getElem?_append_left h8l]; exact h8E2) _)
      (by rw [List.getElem?_set_self (by simp; omega)])
      (.inr ⟨E2.length, by rw [hsl], .inl (by rw [List.getElem?_set_ne (by omega), List.getElem?_append_right (Nat.le_refl _)]; simp)⟩)
      hok2 ((f2.ext _).set (by rw [List.getElem?_append_left h8l]; exact h8E2) _) (by simp; omega) hvt2
    refine ⟨X', E', lv', ts', fr, ?_, g2⟩
    rw [x53_0]
    have hb8 : ∀ F, (E1 ++ F)[i8]? = some (.box 2 [vn, .t (ti pn)]) := fun F => by rw [List.getElem?_append_left (List.getElem?_eq_some_iff.1 h8E1).1]; exact h8E1
    have hb8' : ∀ F, (E2 ++ F)[i8]? = some (.box 2 [vn, .t (ti pn)]) := fun F => by rw [List.getElem?_append_left h8l]; exact h8E2
    have hb11 : E2[E.length + 1]? = some (.box 2 [.t (ti w.1), .t (tl w.2)]) := f3.at' _ _ (by rw [← q1003, List.getElem?_append_right (by omega)]; simp) nofun
    simp [voyT] at f1
    simp [ir53_d0, hs.b5, h8b, q1001, q1002, q1003, h32, hd1', hv0, hpos, e1001, a1, hn2, hlt, hw, voyT, f1, h8E2, hb11, hb8, hb8', u1, h33, hsl, hwd, g1]
end Go.Proofs.Ytdgfpjlmpnfcgaa.Ev

namespace Go.Proofs.Ytdgfpjlmpnfcgaa.Ev
open Go
set_option linter.unusedVariables false
set_option linter.unusedSimpArgs false
set_option linter.unusedSectionVars false
attribute [local simp] til_getE til_length til_get til_snoc take_snoc til_take tlv_getE tlv_length tlv_take til_set
variable {C : T} {bs : List Int}
theorem AL.shift {P Q E : Heap} {x y : Blk} {v : V} {l : List Int} (h : AL P (Q ++ [x, y]) E v l) (x' y' : Blk) : AF P Q (x' :: y' :: E) v l := by
  rcases h with h | ⟨k, h1, h2⟩
  · exact .inl h
  · exact .inr ⟨k + 2, by rw [h1]; simp; omega, .inl (by simpa using h2)⟩
theorem one_t (x : T) : V.one (.t x) = x.one := rfl
theorem one_ref (i j k : Nat) : V.one (.ref i j k) = true := rfl
theorem one_ptr (i j k : Nat) : V.one (.ptr i j k) = true := rfl
theorem AF.one {P Q E : Heap} {v : V} {l : List Int} (h : AF P Q E v l) : V.one v = true := by
  rcases h with rfl | ⟨k, rfl, _⟩ <;> rfl
def ZF (P Q E : Heap) (v : V) (ts : List T) : Prop := (v = .t .nil ∧ ts = []) ∨ v = .t (.lst 2 ts) ∨ ∃ k, v = .ref (P.length + (Q.length + k + 1)) 0 ts.length ∧ E[k]? = some (.pure 2 ts)
theorem ZR.zf {P Q E : Heap} {v : V} {ts : List T} (h : ZR P Q E v ts) : ZF P Q E v ts := h.imp id .inr
theorem GL.cells {P Q E : Heap} {v : V} {l : List Int} (h : GL P Q E v l) : v.cells = some [v] := by
  rcases h with ⟨rfl, rfl⟩ | ⟨k, rfl, h⟩ <;> rfl
theorem GL.ln {P Q E : Heap} {v : V} {l : List Int} (h : GL P Q E v l) (X : Blk) : ∃ G L E1, rd (P ++ X :: (Q ++ E)) 5 v = some (G, L) ∧ LN G l ∧ frz (P ++ X :: (Q ++ E)) L = P ++ X :: (Q ++ E1) ∧ E1.length = E.length ∧ Kp 1 E E1 ∧ ∀ v' l', AF P Q E v' l' → AF P Q E1 v' l' := by
  rcases h with ⟨rfl, rfl⟩ | ⟨k, rfl, h⟩
  · exact ⟨.nil, [], E, by simp, .inl ⟨rfl, rfl⟩, rfl, rfl, Kp.refl _ _, fun _ _ h => h⟩
  · obtain ⟨L, E1, h1, h2, h3, h4, h5⟩ := (show AF P Q E (.ref (P.length + (Q.length + k + 1)) 0 l.length) l from .inr ⟨k, rfl, .inl h⟩).rd X
    exact ⟨_, L, E1, h1, .inr rfl, h2, h3, h4, h5⟩
theorem r53 (hC : BL C bs) (P Q : Heap) {K : Nat} (hK : K ≤ 2 ^ 35) {X : Blk} (hX : CurX C K X) :
    ∃ a b c l p v lv ts X' E', den env 53 [.ptr P.length 0 0] (P ++ X :: Q) = some (.tup [.agg [.t (ti a), .t (ti b), .t (ti c)], .agg [v, .t (ti p)], lv], P ++ X' :: (Q ++ E')) ∧ CurX C (K + 5000) X' ∧ AF P Q E' v l ∧ l.length ≤ 1000 ∧ ZF P Q E' lv ts ∧ ts.length ≤ 200 ∧ ∀ y ∈ ts, VT y := by
  obtain ⟨a, b, c, l, p, v, X1, E0, e1001, hX1, hv0, hl⟩ := r77 hC P (Q ++ [z3, z2]) (by omega) hX
  have hv := hv0.shift z3 z2
  obtain ⟨W, hW⟩ : ∃ W, W = Blk.box 3 [.t (ti a), .t (ti b), .t (ti c)] := ⟨_, rfl⟩
  have hva := hv.app [W, .box 2 [v, .t (ti p)]]
  obtain ⟨L, E1, q1001, q1002, q1003, q1004, q1005⟩ := hva.rd X1
  have hv1 := hv.one
  have h228 := r33 a b c (tl l) l (.inr rfl) p
  simp at e1001
  rw [den_ir e53 _ _ rfl (.inl rfl)]
  cases hask : askB a b c l p with
  | false =>
    rw [hask] at h228
    have c1001 := hX1.mono (K' := K + 5000) (by omega)
    simp [z3, z2] at e1001 q1001
    subst hW
    simp [ir53, ir53_c, e1001, q1001, h228, hv1, one_t, one_ref, one_ptr, -V.one]
    refine ⟨_, _, _, l, _, _, _, [.agg [ti 1, .lst 1 [ti 0]]], _, _, ⟨⟨⟨rfl, rfl, rfl⟩, ⟨rfl, rfl⟩, rfl⟩, rfl, rfl⟩, c1001, ?_, hl, .inr (.inl rfl), by simp, ?_⟩
    · exact (hv0.shift _ _).app _
    · intro y hy
      rw [List.mem_singleton] at hy
      exact ⟨1, [0], _, hy, .inr rfl, by simp⟩
  | true =>
    rw [hask] at h228
    obtain ⟨m, rfl, hgd, hl2, hok, hcm⟩ := askB_parts hask
    obtain ⟨n1, X2, e1002, hX2, a2, b2⟩ := r54 hC P (Q ++ z3 :: z2 :: (E0 ++ [W, .box 2 [v, .t (ti p)], .box 2 [v, .t (ti p)]])) (by omega) hX1 8 (by omega)
    obtain ⟨X3, E3, lv3, ts3, fr, h3, ⟨f0, f2, f3, f5, f6, f7⟩, hX3, hs3, hv3, hz3, hts3, hvt3⟩ := l53 hC P Q m b c hgd (K := K + 2000) (by omega) (E0.length + 2) (E0.length + 3) (E0.length + 4) (by omega) (by omega) (by omega) v p l n1.toNat X2 (z3 :: z2 :: (E0 ++ [W, .box 2 [v, .t (ti p)], .box 2 [v, .t (ti p)]])) (.t .nil) v [] l p (hX2.mono (by omega)) (by omega) ⟨rfl, rfl, by simp [hW], by simp⟩ (hv.app _) (by simp) (hv.app _) hok (.inl ⟨rfl, rfl⟩) (by simp) (by simp)
    have hnn : ((n1.toNat : Nat) : Int) = n1 := by omega
    rw [hnn] at h3
    obtain ⟨n4, X4, e1004, hX4, a4, b4⟩ := r54 hC P (Q ++ E3) (by omega) hX3 6 (by omega)
    simp [z3, z2] at e1001 e1002 h3 q1001
    have g0 := hs3.b0
    have g1 := hs3.b1
    have g5 := hs3.b5
    have g6 := hs3.b6
    have hE0 : 0 < E3.length := (List.getElem?_eq_some_iff.1 g0).1
    have hE1 : 1 < E3.length := (List.getElem?_eq_some_iff.1 g1).1
    subst hW
    have AFset : ∀ {E : Heap} {n0 n1 : Nat} {v0 v1 : List V}, AF P Q E v l → E[0]? = some (.box n0 v0) → E[1]? = some (.box n1 v1) → ∀ x y, AF P Q ((E.set 0 x).set 1 y) v l := fun h h0 h1 x y => (h.set h0 x).set (by rw [List.getElem?_set_ne (by omega)]; exact h1) y
    have ZFset : ∀ {E : Heap} {lv : V} {ts : List T} {n0 n1 : Nat} {v0 v1 : List V}, ZR P Q E lv ts → E[0]? = some (.box n0 v0) → E[1]? = some (.box n1 v1) → ∀ x y, ZF P Q ((E.set 0 x).set 1 y) lv ts := fun h h0 h1 x y => ((h.set h0 x).set (by rw [List.getElem?_set_ne (by omega)]; exact h1) y).zf
    have plain : ∀ {X5 : Blk} {K5 : Nat}, CurX C K5 X5 → K5 ≤ K + 5000 → ∃ a b_1 c_1 l p_1 v_1 lv ts X' E', ((((m : Int) = a ∧ b = b_1 ∧ c = c_1) ∧ (v = v_1 ∧ p = p_1) ∧ lv3 = lv) ∧ X5 = X' ∧ (List.set E3 0 (Blk.box 3 [V.t (ti (m : Int)), V.t (ti b), V.t (ti c)])).set 1 (Blk.box 2 [v, V.t (ti p)]) = E') ∧
      CurX C (K + 5000) X' ∧ AF P Q E' v_1 l ∧ l.length ≤ 1000 ∧ ZF P Q E' lv ts ∧ ts.length ≤ 200 ∧ ∀ (y : T), y ∈ ts → VT y := fun hX5 hK5 =>
      ⟨_, _, _, l, _, _, _, ts3, _, _, ⟨⟨⟨rfl, rfl, rfl⟩, ⟨rfl, rfl⟩, rfl⟩, rfl, rfl⟩, hX5.mono hK5, AFset hv3 g0 g1 _ _, hl, ZFset hz3 g0 g1 _ _, by omega, hvt3⟩
    have g0' : ∀ x y, ((E3.set 0 x).set 1 y)[0]? = some x := fun x y => by rw [List.getElem?_set_ne (by omega), List.getElem?_set_self hE0]
    have g1' : ∀ x y, ((E3.set 0 x).set 1 y)[1]? = some y := fun x y => by rw [List.getElem?_set_self (by simpa using hE1)]
    by_cases h0 : n4 = 0
    · subst h0
      obtain ⟨n5, X5, e1005, hX5, a5, b5⟩ := r54 hC P (Q ++ E3) (by omega) hX4 5 (by omega)
      obtain ⟨X6, Eg, vg, lg, e1006, hX6, hg, hlg⟩ := r55 hC P (Q ++ E3) 6 (by omega) (by omega) hX5
      obtain ⟨G, L6, Eg1, u1, u2, u3, u4, u5, _⟩ := hg.ln X6
      obtain ⟨y, hy⟩ : ∃ y, y = T.agg [ti (n5 - 1), G] := ⟨_, rfl⟩
      obtain ⟨lv7, E7, w1001, w1002, w1003⟩ := (hz3.ext Eg1).app (by omega) X6 y
      have hw : IntKind.i64.wrap (n5 - 1) = n5 - 1 := w76 (by omega)
      have hk7 : Kp 2 E3 (E3 ++ Eg1) := (Kp.refl 2 E3).app _
      have hs7 := (hs3.kp hk7).kp w1003
      have hv7 := (hv3.kp hk7).kp w1003
      have hl7 := w1003.len
      have c1006 := hX6.mono (K' := K + 5000) (by omega)
      obtain ⟨j0, j1, j5, j6⟩ := hs7
      have hv6 := AFset hv7 j0 j1
      have hz6 := ZFset w1002 j0 j1
      have hvt7 : ∀ x ∈ ts3 ++ [y], VT x := fun x hx => by
        rw [List.mem_append, List.mem_singleton] at hx
        rcases hx with hx | hx
        · exact hvt3 x hx
        · exact ⟨_, _, _, hx.trans hy, u2, by omega⟩
      have hl7' : E3.length + Eg1.length ≤ E7.length := by simpa using hl7
      have g0'' : ∀ x y, ((E7.set 0 x).set 1 y)[0]? = some x := fun x y => by rw [List.getElem?_set_ne (by omega), List.getElem?_set_self (by omega)]
      have g1'' : ∀ x y, ((E7.set 0 x).set 1 y)[1]? = some y := fun x y => by rw [List.getElem?_set_self (by simp; omega)]
      clear hv7 hvt3
      simp [z3, z2] at j0 j1
      subst hy
      simp only [List.append_assoc, List.length_append] at e1006 u1 u3 w1001
      have hgc := hg.cells
      rw [u4] at w1001
      have h6 : ((6 : Nat) : Int) = 6 := rfl
      rw [h6] at e1006
      rcases u2 with ⟨rfl, rfl⟩ | rfl
      · simp [ir53, ir53_c, e1001, q1001, h228, hv1, one_t, one_ref, one_ptr, -V.one, -app_eq, e1002, h3, Fr.get_put, f0, f2, f3, f5, f6, f7, e1004, e1005, e1006, hw, hgc, u1, u3, w1001, j0, j1, j5, j6, g0, g1, g5, g6, z3, z2, g0'', g1'']
        exact ⟨_, _, _, l, _, _, _, _, _, _, ⟨⟨⟨rfl, rfl, rfl⟩, ⟨rfl, rfl⟩, rfl⟩, rfl, rfl⟩, c1006, hv6 _ _, hl, hz6 _ _, by simp; omega, hvt7⟩
      · simp [ir53, ir53_c, e1001, q1001, h228, hv1, one_t, one_ref, one_ptr, -V.one, -app_eq, e1002, h3, Fr.get_put, f0, f2, f3, f5, f6, f7, e1004, e1005, e1006, hw, hgc, u1, u3, w1001, j0, j1, j5, j6, g0, g1, g5, g6, z3, z2, g0'', g1'']
        exact ⟨_, _, _, l, _, _, _, _, _, _, ⟨⟨⟨rfl, rfl, rfl⟩, ⟨rfl, rfl⟩, rfl⟩, rfl, rfl⟩, c1006, hv6 _ _, hl, hz6 _ _, by simp; omega, hvt7⟩
    by_cases h1 : n4 = 1
    · subst h1
      obtain ⟨b5, X5, e1005, hX5⟩ := r78 hC P (Q ++ E3) (by omega) hX4 4 (by omega)
      cases b5 with
      | false =>
        simp [ir53, ir53_c, e1001, q1001, h228, hv1, one_t, one_ref, one_ptr, -V.one, e1002, h3, Fr.get_put, f0, f2, f3, f5, f6, f7, e1004, e1005, g0, g1, g5, g6, z3, z2, g0', g1']
        exact plain hX5 (by omega)
      | true =>
        obtain ⟨n6, X6, e1006, hX6, a6, b6⟩ := r54 hC P (Q ++ E3) (by omega) hX5 2 (by omega)
        have hw : IntKind.i64.wrap (40 + n6) = 40 + n6 := w76 (by omega)
        have k1001 : 0 ≤ 40 + n6 := by omega
        have k1002 : 40 + n6 ≤ 68719476736 := by omega
        obtain ⟨E5, hE5⟩ : ∃ E5, E3 ++ [Blk.pure 2 (List.replicate (40 + n6).toNat (.agg [ti 0, .nil]))] = E5 := ⟨_, rfl⟩
        have hs5 : LS E5 (E0.length + 2) (E0.length + 3) m b c v p := hE5 ▸ hs3.kp ((Kp.refl 2 E3).app _)
        have hz5 : ZR P Q E5 (.ref (P.length + (Q.length + E3.length + 1)) 0 (40 + n6).toNat) (List.replicate (40 + n6).toNat (.agg [ti 0, .nil])) := hE5 ▸ .inr ⟨E3.length, by simp, by simp⟩
        have hv5 : AF P Q E5 v l := hE5 ▸ hv3.app _
        obtain ⟨j0, j1, j5, j6⟩ := hs5
        have hl5 : E5.length = E3.length + 1 := by rw [← hE5]; simp
        have g0'' : ∀ x y, ((E5.set 0 x).set 1 y)[0]? = some x := fun x y => by rw [List.getElem?_set_ne (by omega), List.getElem?_set_self (by omega)]
        have g1'' : ∀ x y, ((E5.set 0 x).set 1 y)[1]? = some y := fun x y => by rw [List.getElem?_set_self (by simp; omega)]
        have c1006 := hX6.mono (K' := K + 5000) (by omega)
        have hz6 := ZFset hz5 j0 j1
        have hv6 := AFset hv5 j0 j1
        clear hz5 hv5
        simp [z3, z2] at j0 j1
        simp [ir53, ir53_c, e1001, q1001, h228, hv1, one_t, one_ref, one_ptr, -V.one, e1002, h3, Fr.get_put, f0, f2, f3, f5, f6, f7, e1004, e1005, e1006, hw, k1001, k1002, hE5, j0, j1, j5, j6, g0, g1, g5, g6, z3, z2, g0'', g1'']
        refine ⟨_, _, _, l, _, _, _, List.replicate (40 + n6).toNat (.agg [ti 0, .nil]), _, _, ⟨⟨⟨rfl, rfl, rfl⟩, ⟨rfl, rfl⟩, rfl⟩, rfl, rfl⟩, c1006, hv6 _ _, hl, hz6 _ _, by simp; omega, fun y hy => ?_⟩
        rw [List.mem_replicate] at hy
        exact ⟨0, [], _, hy.2, .inl ⟨rfl, rfl⟩, by simp⟩
    · simp [ir53, ir53_c, e1001, q1001, h228, hv1, one_t, one_ref, one_ptr, -V.one, e1002, h3, Fr.get_put, f0, f2, f3, f5, f6, f7, e1004, h0, h1, g0, g1, g5, g6, z3, z2, g0', g1']
      exact plain hX4 (by omega)
end Go.Proofs.Ytdgfpjlmpnfcgaa.Ev

namespace Go.Proofs.Ytdgfpjlmpnfcgaa.Ev
open Go
set_option linter.unusedVariables false
set_option linter.unusedSimpArgs false
set_option linter.unusedSectionVars false
attribute [local simp] til_getE til_length til_get til_snoc take_snoc til_take tlv_getE tlv_length tlv_take til_set
variable {C : T} {bs : List Int}
theorem cur0 (C : T) : CurX C 0 (.box 3 [.t C, .t (ti 0), .t (.int .u64 0)]) := ⟨0, 0, rfl, by omega, by omega⟩
theorem BL.cells (hC : BL C bs) : V.cells (.t C) = some [.t C] := by
  have := hC.len []
  cases C <;> first | rfl | (simp [evLen] at this)
theorem r30 (hC : BL C bs) : ∃ a b c, ownR env 30 [C] = some (.agg [.t (ti a), .t (ti b), .t (ti c)], []) := by
  obtain ⟨a, b, c, X', E, e, _⟩ := r56 hC [z3] [] (by omega) (cur0 C)
  have h1 := hC.cells
  refine ⟨a, b, c, ?_⟩
  rw [own_ir e30 _ rfl]
  simp [z3] at e
  simp [ir30, ir30_c, e, h1]
def RW (H : Heap) (v : V) (l : List Int) : Prop := v = .t (tl l) ∨ ∃ i, v = .ref i 0 l.length ∧ (H[i]? = some (.pure 1 (til l)) ∨ H[i]? = some (.froz 1 (til l)))
def RZ (H : Heap) (v : V) (ts : List T) : Prop := (v = .t .nil ∧ ts = []) ∨ v = .t (.lst 2 ts) ∨ ∃ i, v = .ref i 0 ts.length ∧ H[i]? = some (.pure 2 ts)
end Go.Proofs.Ytdgfpjlmpnfcgaa.Ev

namespace Go.Proofs.Ytdgfpjlmpnfcgaa.Ev
open Go
set_option linter.unusedVariables false
set_option linter.unusedSimpArgs false
set_option linter.unusedSectionVars false
attribute [local simp] til_getE til_length til_get til_snoc take_snoc til_take tlv_getE tlv_length tlv_take til_set
variable {C : T} {bs : List Int}
theorem r29 (hC : BL C bs) : ∃ a b c l p v lv ts H, ownFR env 29 [C] = some (.tup [.agg [.t (ti a), .t (ti b), .t (ti c)], .agg [v, .t (ti p)], lv], H) ∧ RW H v l ∧ l.length ≤ 1000 ∧ RZ H lv ts ∧ ts.length ≤ 200 ∧ ∀ y ∈ ts, VT y := by
  obtain ⟨a, b, c, l, p, v, lv, ts, X', E, e, _, hv, hl, hz, hts, hvt⟩ := r53 hC [z3, z2] [] (by omega) (cur0 C)
  have h1 := hC.cells
  have gen : ∀ {k : Nat} {b : Blk}, E[k]? = some b → ∀ x y z : Blk, (x :: y :: z :: E)[2 + (k + 1)]? = some b := fun {k b} hk x y z => by rw [show 2 + (k + 1) = k + 3 by omega]; simpa using hk
  rw [ownF_ir e29 _ rfl]
  simp [z3, z2] at e
  rcases hv with rfl | ⟨k, rfl, hk⟩
  · rcases hz with ⟨rfl, rfl⟩ | rfl | ⟨k1002, rfl, hk2⟩
    · simp [ir29, ir29_c, e, h1]
      exact ⟨_, _, _, l, _, _, _, [], _, ⟨⟨⟨rfl, rfl, rfl⟩, ⟨rfl, rfl⟩, rfl⟩, rfl⟩, .inl rfl, hl, .inl ⟨rfl, rfl⟩, by simp, by simp⟩
    · simp [ir29, ir29_c, e, h1]
      exact ⟨_, _, _, l, _, _, _, ts, _, ⟨⟨⟨rfl, rfl, rfl⟩, ⟨rfl, rfl⟩, rfl⟩, rfl⟩, .inl rfl, hl, .inr (.inl rfl), hts, hvt⟩
    · simp at e
      simp [ir29, ir29_c, e, h1, gen hk2]
      exact ⟨_, _, _, l, _, _, _, ts, _, ⟨⟨⟨rfl, rfl, rfl⟩, ⟨rfl, rfl⟩, rfl⟩, rfl⟩, .inl rfl, hl, .inr (.inr ⟨0, rfl, rfl⟩), hts, hvt⟩
  · rcases hz with ⟨rfl, rfl⟩ | rfl | ⟨k1002, rfl, hk2⟩
    · rcases hk with hk | hk
      · simp at e
        simp [ir29, ir29_c, e, h1, gen hk]
        exact ⟨_, _, _, l, _, _, _, [], _, ⟨⟨⟨rfl, rfl, rfl⟩, ⟨rfl, rfl⟩, rfl⟩, rfl⟩, .inr ⟨0, rfl, .inl rfl⟩, hl, .inl ⟨rfl, rfl⟩, by simp, by simp⟩
      · simp at e
        simp [ir29, ir29_c, e, h1, gen hk]
        exact ⟨_, _, _, l, _, _, _, [], _, ⟨⟨⟨rfl, rfl, rfl⟩, ⟨rfl, rfl⟩, rfl⟩, rfl⟩, .inr ⟨0, rfl, .inr rfl⟩, hl, .inl ⟨rfl, rfl⟩, by simp, by simp⟩
    · rcases hk with hk | hk
      · simp at e
        simp [ir29, ir29_c, e, h1, gen hk]
        exact ⟨_, _, _, l, _, _, _, ts, _, ⟨⟨⟨rfl, rfl, rfl⟩, ⟨rfl, rfl⟩, rfl⟩, rfl⟩, .inr ⟨0, rfl, .inl rfl⟩, hl, .inr (.inl rfl), hts, hvt⟩
      · simp at e
        simp [ir29, ir29_c, e, h1, gen hk]
        exact ⟨_, _, _, l, _, _, _, ts, _, ⟨⟨⟨rfl, rfl, rfl⟩, ⟨rfl, rfl⟩, rfl⟩, rfl⟩, .inr ⟨0, rfl, .inr rfl⟩, hl, .inr (.inl rfl), hts, hvt⟩
    · have hne : ¬ k1002 = k := fun e => by subst e; rw [hk2] at hk; rcases hk with hk | hk <;> cases hk
      have hne' : ¬ k = k1002 := fun e => hne e.symm
      rcases hk with hk | hk
      · simp at e
        simp [ir29, ir29_c, e, h1, gen hk, gen hk2, hne, hne']
        exact ⟨_, _, _, l, _, _, _, ts, _, ⟨⟨⟨rfl, rfl, rfl⟩, ⟨rfl, rfl⟩, rfl⟩, rfl⟩, .inr ⟨0, rfl, .inl rfl⟩, hl, .inr (.inr ⟨1, rfl, rfl⟩), hts, hvt⟩
      · simp at e
        simp [ir29, ir29_c, e, h1, gen hk, gen hk2, hne, hne']
        exact ⟨_, _, _, l, _, _, _, ts, _, ⟨⟨⟨rfl, rfl, rfl⟩, ⟨rfl, rfl⟩, rfl⟩, rfl⟩, .inr ⟨0, rfl, .inr rfl⟩, hl, .inr (.inr ⟨1, rfl, rfl⟩), hts, hvt⟩
end Go.Proofs.Ytdgfpjlmpnfcgaa.Ev

namespace Go.Proofs.Ytdgfpjlmpnfcgaa.Ev
open Go
set_option linter.unusedVariables false
set_option linter.unusedSimpArgs false
set_option linter.unusedSectionVars false
attribute [local simp] til_getE til_length til_get til_snoc take_snoc til_take tlv_getE tlv_length tlv_take til_set
variable {C : T} {bs : List Int}
def zv : Blk := .box 2 [.t (ti 0), .t .nil]
def RG (H : Heap) (v : V) (g : List Int) : Prop := (∃ G, v = .t G ∧ LN G g) ∨ ∃ i, v = .ref i 0 g.length ∧ H[i]? = some (.pure 1 (til g))
theorem r28 (hC : BL C bs) : ∃ a b c l p v t gv g H, ownFR env 28 [C] = some (.tup [.agg [.t (ti a), .t (ti b), .t (ti c)], .agg [v, .t (ti p)], .agg [.t (ti t), gv]], H) ∧ RW H v l ∧ l.length ≤ 1000 ∧ RG H gv g ∧ g.length ≤ 1000 := by
  obtain ⟨a, b, c, l, p, v, lv, ts, X', E, e, hX, hv, hl, hz, hts, hvt⟩ := r53 hC [z3, z2, zv] [] (by omega) (cur0 C)
  have h1 := hC.cells
  have hv1 := hv.one
  have gen : ∀ {k : Nat} {b : Blk}, E[k]? = some b → ∀ (x y z u : Blk) F, (x :: y :: z :: u :: (E ++ F))[3 + (k + 1)]? = some b := fun {k b} hk x y z u F => by
    rw [show 3 + (k + 1) = k + 4 by omega]
    simp only [List.getElem?_cons_succ]
    rw [List.getElem?_append_left (List.getElem?_eq_some_iff.1 hk).1]; exact hk
  have gen2 : ∀ (x y z u a b : Blk) (E3 : Heap) (k1002 : Nat), (x :: y :: z :: u :: (E ++ a :: b :: E3))[3 + (E.length + 2 + k1002 + 1)]? = E3[k1002]? := fun x y z u a b E3 k1002 => by
    rw [show 3 + (E.length + 2 + k1002 + 1) = E.length + (k1002 + 2) + 4 by omega]
    simp
  rw [ownF_ir e28 _ rfl]
  simp [z3, z2, zv] at e
  cases ts with
  | nil =>
    have hnil : evLen [] 1 lv = some 0 := by rcases hz with ⟨rfl, _⟩ | rfl | ⟨k, rfl, _⟩ <;> simp
    have hnil' : ∀ H, evLen H 1 lv = some 0 := fun H => by rcases hz with ⟨rfl, _⟩ | rfl | ⟨k, rfl, _⟩ <;> simp
    obtain ⟨n1, X1, e1001, c1001, a1, b1⟩ := r54 hC [z3, z2, zv] (E ++ [.box 3 [.t (ti a), .t (ti b), .t (ti c)], .box 2 [v, .t (ti p)]]) (by omega) hX 4 (by omega)
    obtain ⟨n2, X2, e1002, c1002, a2, b2⟩ := r54 hC [z3, z2, zv] (E ++ [.box 3 [.t (ti a), .t (ti b), .t (ti c)], .box 2 [v, .t (ti p)]]) (by omega) c1001 9 (by omega)
    obtain ⟨X3, E3, vg, lg, e1003, c1003, hg, hlg⟩ := r55 hC [z3, z2, zv] (E ++ [.box 3 [.t (ti a), .t (ti b), .t (ti c)], .box 2 [v, .t (ti p)]]) 6 (by omega) (by omega) c1002
    have hq : n2.tdiv 8 = n2 / 8 := Int.tdiv_eq_ediv_of_nonneg (by omega)
    have w1001 : IntKind.i64.wrap (n2.tdiv 8) = n2.tdiv 8 := w76 (by omega)
    have w1002 : IntKind.i64.wrap (n1 - n2.tdiv 8) = n1 - n2.tdiv 8 := w76 (by omega)
    have hgc := hg.cells
    simp [z3, z2, zv] at e1001 e1002 e1003
    rcases hv with rfl | ⟨k, rfl, hk⟩
    · rcases hg with ⟨rfl, rfl⟩ | ⟨k1002, rfl, hk2⟩
      · simp [ir28, ir28_c, e, h1, hnil', e1001, e1002, e1003, w1001, w1002, evBin, evInt]
        exact ⟨_, _, _, l, _, _, _, _, [], _, ⟨⟨⟨rfl, rfl, rfl⟩, ⟨rfl, rfl⟩, rfl, rfl⟩, rfl⟩, .inl rfl, hl, .inl ⟨_, rfl, .inl ⟨rfl, rfl⟩⟩, by simp⟩
      · simp at e1003
        simp [ir28, ir28_c, e, h1, hnil', e1001, e1002, e1003, w1001, w1002, evBin, evInt, gen2, hk2]
        exact ⟨_, _, _, l, _, _, _, _, lg, _, ⟨⟨⟨rfl, rfl, rfl⟩, ⟨rfl, rfl⟩, rfl, rfl⟩, rfl⟩, .inl rfl, hl, .inr ⟨0, rfl, rfl⟩, by omega⟩
    · have hkl : k < E.length := by rcases hk with hk | hk <;> exact (List.getElem?_eq_some_iff.1 hk).1
      rcases hg with ⟨rfl, rfl⟩ | ⟨k1002, rfl, hk2⟩
      · rcases hk with hk | hk
        · simp at e e1001 e1002 e1003
          simp [ir28, ir28_c, e, h1, hnil', e1001, e1002, e1003, w1001, w1002, evBin, evInt, gen hk]
          exact ⟨_, _, _, l, _, _, _, _, [], _, ⟨⟨⟨rfl, rfl, rfl⟩, ⟨rfl, rfl⟩, rfl, rfl⟩, rfl⟩, .inr ⟨0, rfl, .inl rfl⟩, hl, .inl ⟨_, rfl, .inl ⟨rfl, rfl⟩⟩, by simp⟩
        · simp at e e1001 e1002 e1003
          simp [ir28, ir28_c, e, h1, hnil', e1001, e1002, e1003, w1001, w1002, evBin, evInt, gen hk]
          exact ⟨_, _, _, l, _, _, _, _, [], _, ⟨⟨⟨rfl, rfl, rfl⟩, ⟨rfl, rfl⟩, rfl, rfl⟩, rfl⟩, .inr ⟨0, rfl, .inr rfl⟩, hl, .inl ⟨_, rfl, .inl ⟨rfl, rfl⟩⟩, by simp⟩
      · have hne : ¬ E.length + 2 + k1002 = k := by omega
        have hne' : ¬ k = E.length + 2 + k1002 := by omega
        rcases hk with hk | hk
        · simp at e e1001 e1002 e1003
          simp [ir28, ir28_c, e, h1, hnil', e1001, e1002, e1003, w1001, w1002, evBin, evInt, gen hk, gen2, hk2, hne, hne']
          exact ⟨_, _, _, l, _, _, _, _, lg, _, ⟨⟨⟨rfl, rfl, rfl⟩, ⟨rfl, rfl⟩, rfl, rfl⟩, rfl⟩, .inr ⟨0, rfl, .inl rfl⟩, hl, .inr ⟨1, rfl, rfl⟩, by omega⟩
        · simp at e e1001 e1002 e1003
          simp [ir28, ir28_c, e, h1, hnil', e1001, e1002, e1003, w1001, w1002, evBin, evInt, gen hk, gen2, hk2, hne, hne']
          exact ⟨_, _, _, l, _, _, _, _, lg, _, ⟨⟨⟨rfl, rfl, rfl⟩, ⟨rfl, rfl⟩, rfl, rfl⟩, rfl⟩, .inr ⟨0, rfl, .inr rfl⟩, hl, .inr ⟨1, rfl, rfl⟩, by omega⟩
  | cons y ts =>
    obtain ⟨t, g, G, rfl, hG, hg⟩ := hvt _ (List.mem_cons_self ..)
    have hone : T.one G = true := by rcases hG with ⟨rfl, _⟩ | rfl <;> rfl
    rcases hz with ⟨rfl, hz⟩ | rfl | ⟨k1002, rfl, hk2⟩
    · cases hz
    · rcases hv with rfl | ⟨k, rfl, hk⟩
      · rcases hG with ⟨rfl, rfl⟩ | rfl
        · simp [ir28, ir28_c, e, h1]
          exact ⟨_, _, _, l, _, _, _, _, [], _, ⟨⟨⟨rfl, rfl, rfl⟩, ⟨rfl, rfl⟩, rfl, rfl⟩, rfl⟩, .inl rfl, hl, .inl ⟨_, rfl, .inl ⟨rfl, rfl⟩⟩, by simp⟩
        · simp [ir28, ir28_c, e, h1]
          exact ⟨_, _, _, l, _, _, _, _, g, _, ⟨⟨⟨rfl, rfl, rfl⟩, ⟨rfl, rfl⟩, rfl, rfl⟩, rfl⟩, .inl rfl, hl, .inl ⟨_, rfl, .inr rfl⟩, hg⟩
      · rcases hk with hk | hk <;> rcases hG with ⟨rfl, rfl⟩ | rfl <;> simp at e <;> simp [ir28, ir28_c, e, h1, gen hk]
        · exact ⟨_, _, _, l, _, _, _, _, [], _, ⟨⟨⟨rfl, rfl, rfl⟩, ⟨rfl, rfl⟩, rfl, rfl⟩, rfl⟩, .inr ⟨0, rfl, .inl rfl⟩, hl, .inl ⟨_, rfl, .inl ⟨rfl, rfl⟩⟩, by simp⟩
        · exact ⟨_, _, _, l, _, _, _, _, g, _, ⟨⟨⟨rfl, rfl, rfl⟩, ⟨rfl, rfl⟩, rfl, rfl⟩, rfl⟩, .inr ⟨0, rfl, .inl rfl⟩, hl, .inl ⟨_, rfl, .inr rfl⟩, hg⟩
        · exact ⟨_, _, _, l, _, _, _, _, [], _, ⟨⟨⟨rfl, rfl, rfl⟩, ⟨rfl, rfl⟩, rfl, rfl⟩, rfl⟩, .inr ⟨0, rfl, .inr rfl⟩, hl, .inl ⟨_, rfl, .inl ⟨rfl, rfl⟩⟩, by simp⟩
        · exact ⟨_, _, _, l, _, _, _, _, g, _, ⟨⟨⟨rfl, rfl, rfl⟩, ⟨rfl, rfl⟩, rfl, rfl⟩, rfl⟩, .inr ⟨0, rfl, .inr rfl⟩, hl, .inl ⟨_, rfl, .inr rfl⟩, hg⟩
    · have g2 := gen hk2
      have d1000 : ¬ 3 + (k1002 + 1) = 0 := by omega
      have d1001 : ¬ 3 + (k1002 + 1) = 1 := by omega
      have d1002 : ¬ 3 + (k1002 + 1) = 2 := by omega
      rcases hv with rfl | ⟨k, rfl, hk⟩
      · rcases hG with ⟨rfl, rfl⟩ | rfl <;> simp at e <;> simp [ir28, ir28_c, e, h1, d1000, d1001, d1002, g2]
        · exact ⟨_, _, _, l, _, _, _, _, [], _, ⟨⟨⟨rfl, rfl, rfl⟩, ⟨rfl, rfl⟩, rfl, rfl⟩, rfl⟩, .inl rfl, hl, .inl ⟨_, rfl, .inl ⟨rfl, rfl⟩⟩, by simp⟩
        · exact ⟨_, _, _, l, _, _, _, _, g, _, ⟨⟨⟨rfl, rfl, rfl⟩, ⟨rfl, rfl⟩, rfl, rfl⟩, rfl⟩, .inl rfl, hl, .inl ⟨_, rfl, .inr rfl⟩, hg⟩
      · rcases hk with hk | hk <;> rcases hG with ⟨rfl, rfl⟩ | rfl <;> simp at e <;> simp [ir28, ir28_c, e, h1, d1000, d1001, d1002, g2, gen hk]
        · exact ⟨_, _, _, l, _, _, _, _, [], _, ⟨⟨⟨rfl, rfl, rfl⟩, ⟨rfl, rfl⟩, rfl, rfl⟩, rfl⟩, .inr ⟨0, rfl, .inl rfl⟩, hl, .inl ⟨_, rfl, .inl ⟨rfl, rfl⟩⟩, by simp⟩
        · exact ⟨_, _, _, l, _, _, _, _, g, _, ⟨⟨⟨rfl, rfl, rfl⟩, ⟨rfl, rfl⟩, rfl, rfl⟩, rfl⟩, .inr ⟨0, rfl, .inl rfl⟩, hl, .inl ⟨_, rfl, .inr rfl⟩, hg⟩
        · exact ⟨_, _, _, l, _, _, _, _, [], _, ⟨⟨⟨rfl, rfl, rfl⟩, ⟨rfl, rfl⟩, rfl, rfl⟩, rfl⟩, .inr ⟨0, rfl, .inr rfl⟩, hl, .inl ⟨_, rfl, .inl ⟨rfl, rfl⟩⟩, by simp⟩
        · exact ⟨_, _, _, l, _, _, _, _, g, _, ⟨⟨⟨rfl, rfl, rfl⟩, ⟨rfl, rfl⟩, rfl, rfl⟩, rfl⟩, .inr ⟨0, rfl, .inr rfl⟩, hl, .inl ⟨_, rfl, .inr rfl⟩, hg⟩
end Go.Proofs.Ytdgfpjlmpnfcgaa.Ev

namespace Go.Proofs.Ytdgfpjlmpnfcgaa.Ev
open Go
set_option linter.unusedVariables false
set_option linter.unusedSimpArgs false
set_option linter.unusedSectionVars false
attribute [local simp] til_getE til_length til_get til_drop til_take til_snoc til_fold take_snoc til_set
structure Mq (ds : List Nat) (fr : Fr) (H : Heap) (fr' : Fr) (H' : Heap) : Prop where
  f : ∀ t, t < 62 → t ∉ ds → fr'.get t = fr.get t
  h : ∃ E, H' = H ++ E
theorem Mq.get {ds : List Nat} {fr fr' : Fr} {H H' : Heap} (m : Mq ds fr H fr' H') {t : Nat} {v : V} (h : fr.get t = v) (ht : t < 62) (hn : t ∉ ds) : fr'.get t = v := (m.f t ht hn).trans h
theorem PBx.mq {ds : List Nat} {fr fr' : Fr} {H H' : Heap} {t : Nat} {X : T} {q : Int} (h : PBx H (fr.get t) X q) (m : Mq ds fr H fr' H') (ht : t < 62) (hn : t ∉ ds) : PBx H' (fr'.get t) X q := by
  obtain ⟨E, rfl⟩ := m.h
  rw [m.f t ht hn]
  exact h.mono E
def PIx (H : Heap) (v : V) (a b c : Int) : Prop := ∃ j, v = .ptr j 0 0 ∧ ∀ E, (H ++ E)[j]? = some (.box 3 [.t (ti a), .t (ti b), .t (ti c)])
def PGx (H : Heap) (v : V) (t : Int) (G : T) : Prop := ∃ j bv lf, v = .ptr j 0 0 ∧ (∀ E, (H ++ E)[j]? = some (.box 2 [.t (ti t), bv])) ∧ ∀ E, rd (H ++ E) 5 bv = some (G, lf)
def LVx (H : Heap) (v : V) (Z : T) : Prop := v = .t Z ∨ ∃ i ts, v = .ref i 0 ts.length ∧ Z = .lst 2 ts ∧ ∀ E, (H ++ E)[i]? = some (.pure 2 ts)
theorem PIx.mq {ds : List Nat} {fr fr' : Fr} {H H' : Heap} {t : Nat} {a b c : Int} (h : PIx H (fr.get t) a b c) (m : Mq ds fr H fr' H') (ht : t < 62) (hn : t ∉ ds) : PIx H' (fr'.get t) a b c := by
  obtain ⟨E, rfl⟩ := m.h
  rw [m.f t ht hn]
  obtain ⟨j, h1, h2⟩ := h
  exact ⟨j, h1, fun E' => by rw [List.append_assoc]; exact h2 _⟩
theorem PGx.mq {ds : List Nat} {fr fr' : Fr} {H H' : Heap} {t : Nat} {p : Int} {G : T} (h : PGx H (fr.get t) p G) (m : Mq ds fr H fr' H') (ht : t < 62) (hn : t ∉ ds) : PGx H' (fr'.get t) p G := by
  obtain ⟨E, rfl⟩ := m.h
  rw [m.f t ht hn]
  obtain ⟨j, bv, lf, h1, h2, h3⟩ := h
  exact ⟨j, bv, lf, h1, fun E' => by rw [List.append_assoc]; exact h2 _, fun E' => by rw [List.append_assoc]; exact h3 _⟩
theorem LVx.mq {ds : List Nat} {fr fr' : Fr} {H H' : Heap} {t : Nat} {Z : T} (h : LVx H (fr.get t) Z) (m : Mq ds fr H fr' H') (ht : t < 62) (hn : t ∉ ds) : LVx H' (fr'.get t) Z := by
  obtain ⟨E, rfl⟩ := m.h
  rw [m.f t ht hn]
  rcases h with h | ⟨i, ts, h1, h2, h3⟩
  · exact .inl h
  · exact .inr ⟨i, ts, h1, h2, fun E' => by rw [List.append_assoc]; exact h3 _⟩
theorem LVx.rd {H : Heap} {v : V} {Z : T} (h : LVx H v Z) : ∃ lf, ∀ E, rd (H ++ E) 6 v = some (Z, lf) := by
  rcases h with rfl | ⟨i, ts, rfl, rfl, h⟩
  · exact ⟨[], fun E => rfl⟩
  · exact ⟨[(i, .froz 2 ts)], fun E => by simp [h]⟩
theorem RW.rd {H2 : Heap} {v : V} {l : List Int} (h : RW H2 v l) (H F : Heap) : ∃ X lf, LN X l ∧ ∀ E, rd (H ++ (H2.map (Blk.ren fun i => some (H.length + i)) ++ (F ++ E))) 5 (v.ren fun i => some (H.length + i)) = some (X, lf) := by
  rcases h with rfl | ⟨i, rfl, h⟩
  · exact ⟨_, [], .inr rfl, fun E => by simp⟩
  · have hl : i < H2.length := by rcases h with h | h <;> exact (List.getElem?_eq_some_iff.1 h).1
    rcases h with h | h
    · refine ⟨_, [(H.length + i, .froz 1 (til l))], .inr rfl, fun E => ?_⟩
      have : (H2.map (Blk.ren fun i => some (H.length + i)) ++ (F ++ E))[i]? = some (.pure 1 (til l)) := by
        rw [List.getElem?_append_left (by simpa using hl), List.getElem?_map, h]; rfl
      simp [this]
    · refine ⟨_, [], .inr rfl, fun E => ?_⟩
      have : (H2.map (Blk.ren fun i => some (H.length + i)) ++ (F ++ E))[i]? = some (.froz 1 (til l)) := by
        rw [List.getElem?_append_left (by simpa using hl), List.getElem?_map, h]; rfl
      simp [this]
theorem RW.one {H : Heap} {v : V} {l : List Int} (h : RW H v l) (k : Nat) : V.one (v.ren fun i => some (k + i)) = true := by
  rcases h with rfl | ⟨i, rfl, _⟩ <;> rfl
theorem RG.one {H : Heap} {v : V} {l : List Int} (h : RG H v l) (k : Nat) : V.one (v.ren fun i => some (k + i)) = true := by
  rcases h with ⟨G, rfl, h | h⟩ | ⟨i, rfl, _⟩
  · obtain ⟨rfl, _⟩ := h; rfl
  · subst h; rfl
  · rfl
theorem RG.rd {H2 : Heap} {v : V} {l : List Int} (h : RG H2 v l) (H F : Heap) : ∃ X lf, LN X l ∧ ∀ E, rd (H ++ (H2.map (Blk.ren fun i => some (H.length + i)) ++ (F ++ E))) 5 (v.ren fun i => some (H.length + i)) = some (X, lf) := by
  rcases h with ⟨G, rfl, h⟩ | ⟨i, rfl, h⟩
  · exact ⟨_, [], h, fun E => by simp⟩
  · have hl : i < H2.length := (List.getElem?_eq_some_iff.1 h).1
    refine ⟨_, [(H.length + i, .froz 1 (til l))], .inr rfl, fun E => ?_⟩
    have : (H2.map (Blk.ren fun i => some (H.length + i)) ++ (F ++ E))[i]? = some (.pure 1 (til l)) := by
      rw [List.getElem?_append_left (by simpa using hl), List.getElem?_map, h]; rfl
    simp [this]
theorem vts_lw : ∀ (ts : List T), (∀ y ∈ ts, VT y) → ∃ vs : List (Int × List Int), ts.length = vs.length ∧ ∀ (i : Nat) (h : i < vs.length), ∃ G, ts[i]? = some (.agg [.int .i64 vs[i].1, G]) ∧ LN G vs[i].2
  | [], _ => ⟨[], rfl, fun i h => by simp at h⟩
  | y :: ts, h => by
    obtain ⟨t, g, G, rfl, hG, _⟩ := h y (List.mem_cons_self ..)
    obtain ⟨vs, h3, h4⟩ := vts_lw ts fun x hx => h x (List.mem_cons_of_mem _ hx)
    refine ⟨(t, g) :: vs, by simp [h3], fun i hi => ?_⟩
    cases i with
    | zero => exact ⟨G, by simp, by simpa using hG⟩
    | succ i =>
      obtain ⟨G, h5, h6⟩ := h4 i (by simpa using hi)
      exact ⟨G, by simpa using h5, by simpa using h6⟩
variable {C : T} {bs : List Int} {fr : Fr} {H : Heap}
theorem s201_9 (hC : BL C bs) (f1 : fr.get 1 = .t C) : ∃ fr' H' a b c p t X G l g, execD env (nth 9 ir4_c) (fr, H) = some (.norm, fr', H') ∧ Mq [23, 24, 25] fr H fr' H' ∧ PIx H' (fr'.get 23) a b c ∧ PBx H' (fr'.get 24) X p ∧ LN X l ∧ PGx H' (fr'.get 25) t G ∧ LN G g := by
  obtain ⟨a, b, c, l, p, v, t, gv, g, H2, e, hv, hl, hg, hgl⟩ := r28 hC
  obtain ⟨F, hF⟩ : ∃ F : Heap, F = [.box 3 [.t (ti a), .t (ti b), .t (ti c)], .box 2 [v.ren fun i => some (H.length + i), .t (ti p)], .box 2 [.t (ti t), gv.ren fun i => some (H.length + i)]] := ⟨_, rfl⟩
  obtain ⟨X, lf, hX, hrX⟩ := hv.rd H F
  obtain ⟨G, lg, hG, hrG⟩ := hg.rd H F
  have o1 := hv.one H.length
  have o2 := hg.one H.length
  refine ⟨_, H ++ (H2.map (Blk.ren fun i => some (H.length + i)) ++ F), a, b, c, p, t, X, G, l, g, (by simp [nth, rst, ir4_c, Fr.get_put, f1, e, o1, o2, one_t, -V.one, hF]; rfl), ⟨fun t ht hn => ?_, ⟨_, rfl⟩⟩, ?_, ?_, hX, ?_, hG⟩
  · simp only [Fr.get_put]
    simp only [List.mem_cons, not_or, List.not_mem_nil, not_false_eq_true, and_true] at hn
    repeat rw [if_neg (by omega)]
  · exact ⟨_, by simp [Fr.get_put]; rfl, fun E => by simp [hF]⟩
  · exact ⟨_, _, _, by simp [Fr.get_put]; rfl, fun E => by simp [hF]; rfl, fun E => by rw [List.append_assoc, List.append_assoc]; exact hrX E⟩
  · exact ⟨_, _, _, by simp [Fr.get_put]; rfl, fun E => by simp [hF]; rfl, fun E => by rw [List.append_assoc, List.append_assoc]; exact hrG E⟩
theorem s201_12 (hC : BL C bs) (f1 : fr.get 1 = .t C) : ∃ fr' H' a b c p X Z l vs, execD env (nth 12 ir4_c) (fr, H) = some (.norm, fr', H') ∧ Mq [30, 31, 32] fr H fr' H' ∧ PIx H' (fr'.get 30) a b c ∧ PBx H' (fr'.get 31) X p ∧ LN X l ∧ LVx H' (fr'.get 32) Z ∧ LW Z vs ∧ vs.length ≤ 200 := by
  obtain ⟨a, b, c, l, p, v, lv, ts, H2, e, hv, hl, hz, hts, hvt⟩ := r29 hC
  obtain ⟨F, hF⟩ : ∃ F : Heap, F = [.box 3 [.t (ti a), .t (ti b), .t (ti c)], .box 2 [v.ren fun i => some (H.length + i), .t (ti p)]] := ⟨_, rfl⟩
  obtain ⟨X, lf, hX, hrX⟩ := hv.rd H F
  obtain ⟨vs, hvl, hvs⟩ := vts_lw ts hvt
  have o1 := hv.one H.length
  have hW : LW (.lst 2 ts) vs := .inr ⟨ts, rfl, hvl, hvs⟩
  have hZ : ∃ Z, LVx (H ++ (H2.map (Blk.ren fun i => some (H.length + i)) ++ F)) (lv.ren fun i => some (H.length + i)) Z ∧ LW Z vs := by
    rcases hz with ⟨rfl, rfl⟩ | rfl | ⟨i, rfl, hi⟩
    · exact ⟨.nil, .inl rfl, .inl ⟨rfl, List.length_eq_zero_iff.1 hvl.symm⟩⟩
    · exact ⟨_, .inl rfl, hW⟩
    · refine ⟨_, .inr ⟨H.length + i, ts, rfl, rfl, fun E => ?_⟩, hW⟩
      have hil := (List.getElem?_eq_some_iff.1 hi).1
      rw [List.append_assoc, List.append_assoc, gpk, List.getElem?_append_left (by simpa using hil), List.getElem?_map, hi]; rfl
  obtain ⟨Z, hZ1, hZ2⟩ := hZ
  refine ⟨_, H ++ (H2.map (Blk.ren fun i => some (H.length + i)) ++ F), a, b, c, p, X, Z, l, vs, (by simp [nth, rst, ir4_c, Fr.get_put, f1, e, o1, one_t, -V.one, hF]; rfl), ⟨fun t ht hn => ?_, ⟨_, rfl⟩⟩, ?_, ?_, hX, ?_, hZ2, by omega⟩
  · simp only [Fr.get_put]
    simp only [List.mem_cons, not_or, List.not_mem_nil, not_false_eq_true, and_true] at hn
    repeat rw [if_neg (by omega)]
  · exact ⟨_, by simp [Fr.get_put]; rfl, fun E => by simp [hF]⟩
  · exact ⟨_, _, _, by simp [Fr.get_put]; rfl, fun E => by simp [hF]; rfl, fun E => by rw [List.append_assoc, List.append_assoc]; exact hrX E⟩
  · simpa [Fr.get_put] using hZ1
theorem s201_17 (hC : BL C bs) (f1 : fr.get 1 = .t C) : ∃ fr' H' a b c, execD env (nth 17 ir4_c) (fr, H) = some (.norm, fr', H') ∧ Mq [41] fr H fr' H' ∧ PIx H' (fr'.get 41) a b c := by
  obtain ⟨a, b, c, e⟩ := r30 hC
  refine ⟨_, _, a, b, c, (by simp [nth, rst, ir4_c, Fr.get_put, f1, e]; exact ⟨rfl, rfl⟩), ⟨fun t ht hn => ?_, ⟨_, rfl⟩⟩, ?_⟩
  · simp only [Fr.get_put]
    simp only [List.mem_cons, not_or, List.not_mem_nil, not_false_eq_true, and_true] at hn
    repeat rw [if_neg (by omega)]
  · exact ⟨_, by simp [Fr.get_put]; rfl, fun E => by simp⟩
end Go.Proofs.Ytdgfpjlmpnfcgaa.Ev

namespace Go.Proofs.Ytdgfpjlmpnfcgaa.Ev
open Go
set_option linter.unusedVariables false
set_option linter.unusedSimpArgs false
set_option linter.unusedSectionVars false
attribute [local simp] til_getE til_length til_get til_drop til_take til_snoc til_fold take_snoc til_set
theorem PIx.all {H : Heap} {v : V} {a b c : Int} (h : PIx H v a b c) : ∃ j, v = .ptr j 0 0 ∧ H[j]? = some (.box 3 [.t (ti a), .t (ti b), .t (ti c)]) ∧ ∀ E, (H ++ E)[j]? = some (.box 3 [.t (ti a), .t (ti b), .t (ti c)]) := by
  obtain ⟨j, h1, h2⟩ := h
  have h2' := h2 []
  rw [List.append_nil] at h2'
  exact ⟨j, h1, h2', h2⟩
theorem PGx.all {H : Heap} {v : V} {t : Int} {G : T} (h : PGx H v t G) : ∃ j bv lf, v = .ptr j 0 0 ∧ H[j]? = some (.box 2 [.t (ti t), bv]) ∧ rd H 5 bv = some (G, lf) := by
  obtain ⟨j, bv, lf, h1, h2, h3⟩ := h
  have h2' := h2 []
  have h3' := h3 []
  rw [List.append_nil] at h2' h3'
  exact ⟨j, bv, lf, h1, h2', h3'⟩
theorem LVx.all {H : Heap} {v : V} {Z : T} (h : LVx H v Z) : ∃ lf, Go.Proofs.Ytdgfpjlmpnfcgaa.Ev.rd H 6 v = some (Z, lf) ∧ True := by
  obtain ⟨lf, h⟩ := h.rd
  have h' := h []
  rw [List.append_nil] at h'
  exact ⟨lf, h', trivial⟩
variable {a1 b1 c1001 : Int} {X1 G1 Z : T} {p1001 t1001 : Int} {fr : Fr} {H : Heap}
theorem s201_10 (hI : PIx H (fr.get 23) a1 b1 c1001) (hP : PBx H (fr.get 24) X1 p1001) (hG : PGx H (fr.get 25) t1001 G1) {ok : Bool} {n : Nat} {L : List Int} {q : Int} (hn : L.length = n) (hr : ownR env 14 [.agg [ti a1, ti b1, ti c1001], .agg [X1, ti p1001], .agg [ti t1001, G1]] = sailR ok n L q) :
    ∃ fr' H', execD env (nth 10 ir4_c) (fr, H) = some (.norm, fr', H') ∧ Mq [26, 27] fr H fr' H' ∧ PBx H' (fr'.get 26) (sX ok L) (sq ok q) ∧ fr'.get 27 = .t (tb ok) := by
  have htk : L.take n = L := List.take_of_length_le (by omega)
  obtain ⟨j1, e1001, n1, -⟩ := hI.all
  obtain ⟨j2, v2, l1002, e1002, n2, d1002, -, -⟩ := hP.all
  obtain ⟨j3, v3, l1003, e1003, n3, d1003⟩ := hG.all
  cases ok with
  | false =>
    simp only [sailR, Bool.false_eq_true, if_false] at hr
    refine ⟨_, _, (by simp [nth, rst, ir4_c, Fr.get_put, e1001, n1, e1002, n2, d1002, e1003, n3, d1003, hr]; exact ⟨rfl, rfl⟩), ⟨fun t ht hn => ?_, ⟨_, rfl⟩⟩, ?_, ?_⟩
    · simp only [Fr.get_put]
      simp only [List.mem_cons, not_or, List.not_mem_nil, not_false_eq_true, and_true] at hn
      repeat rw [if_neg (by omega)]
    · exact ⟨H.length, .t .nil, [], by simp [Fr.get_put], fun E => by simp [sq], fun E => by simp [sX]⟩
    · simp [Fr.get_put]
  | true =>
    simp only [sailR, if_true] at hr
    refine ⟨_, _, (by simp [nth, rst, ir4_c, Fr.get_put, e1001, n1, e1002, n2, d1002, e1003, n3, d1003, hr]; exact ⟨rfl, rfl⟩), ⟨fun t ht hn => ?_, ⟨_, rfl⟩⟩, ?_, ?_⟩
    · simp only [Fr.get_put]
      simp only [List.mem_cons, not_or, List.not_mem_nil, not_false_eq_true, and_true] at hn
      repeat rw [if_neg (by omega)]
    · exact ⟨H.length + 1, .ref H.length 0 n, [(H.length, .froz 1 (til L))], by simp [Fr.get_put], fun E => by simp [sq], fun E => by simp [sX, htk]⟩
    · simp [Fr.get_put]
theorem s201_11 (hI : PIx H (fr.get 23) a1 b1 c1001) (hP : PBx H (fr.get 24) X1 p1001) (hG : PGx H (fr.get 25) t1001 G1) {ok : Bool} {n : Nat} {L : List Int} {q : Int} (hn : L.length = n) (hr : ownR env 17 [.agg [ti a1, ti b1, ti c1001], .agg [X1, ti p1001], .agg [ti t1001, G1]] = sailR ok n L q) :
    ∃ fr' H', execD env (nth 11 ir4_c) (fr, H) = some (.norm, fr', H') ∧ Mq [28, 29] fr H fr' H' ∧ PBx H' (fr'.get 28) (sX ok L) (sq ok q) ∧ fr'.get 29 = .t (tb ok) := by
  have htk : L.take n = L := List.take_of_length_le (by omega)
  obtain ⟨j1, e1001, n1, -⟩ := hI.all
  obtain ⟨j2, v2, l1002, e1002, n2, d1002, -, -⟩ := hP.all
  obtain ⟨j3, v3, l1003, e1003, n3, d1003⟩ := hG.all
  cases ok with
  | false =>
    simp only [sailR, Bool.false_eq_true, if_false] at hr
    refine ⟨_, _, (by simp [nth, rst, ir4_c, Fr.get_put, e1001, n1, e1002, n2, d1002, e1003, n3, d1003, hr]; exact ⟨rfl, rfl⟩), ⟨fun t ht hn => ?_, ⟨_, rfl⟩⟩, ?_, ?_⟩
    · simp only [Fr.get_put]
      simp only [List.mem_cons, not_or, List.not_mem_nil, not_false_eq_true, and_true] at hn
      repeat rw [if_neg (by omega)]
    · exact ⟨H.length, .t .nil, [], by simp [Fr.get_put], fun E => by simp [sq], fun E => by simp [sX]⟩
    · simp [Fr.get_put]
  | true =>
    simp only [sailR, if_true] at hr
    refine ⟨_, _, (by simp [nth, rst, ir4_c, Fr.get_put, e1001, n1, e1002, n2, d1002, e1003, n3, d1003, hr]; exact ⟨rfl, rfl⟩), ⟨fun t ht hn => ?_, ⟨_, rfl⟩⟩, ?_, ?_⟩
    · simp only [Fr.get_put]
      simp only [List.mem_cons, not_or, List.not_mem_nil, not_false_eq_true, and_true] at hn
      repeat rw [if_neg (by omega)]
    · exact ⟨H.length + 1, .ref H.length 0 n, [(H.length, .froz 1 (til L))], by simp [Fr.get_put], fun E => by simp [sq], fun E => by simp [sX, htk]⟩
    · simp [Fr.get_put]
theorem s201_13 (hI : PIx H (fr.get 30) a1 b1 c1001) (hP : PBx H (fr.get 31) X1 p1001) (hZ : LVx H (fr.get 32) Z) {ok : Bool} {n : Nat} {L : List Int} {q : Int} (hn : L.length = n) (hr : ownR env 18 [.agg [ti a1, ti b1, ti c1001], .agg [X1, ti p1001], Z] = sailR ok n L q) :
    ∃ fr' H', execD env (nth 13 ir4_c) (fr, H) = some (.norm, fr', H') ∧ Mq [33, 34] fr H fr' H' ∧ PBx H' (fr'.get 33) (sX ok L) (sq ok q) ∧ fr'.get 34 = .t (tb ok) := by
  have htk : L.take n = L := List.take_of_length_le (by omega)
  obtain ⟨j1, e1001, n1, -⟩ := hI.all
  obtain ⟨j2, v2, l1002, e1002, n2, d1002, -, -⟩ := hP.all
  obtain ⟨l1003, d1003, -⟩ := hZ.all
  generalize hz : fr.get 32 = z at *
  cases ok with
  | false =>
    simp only [sailR, Bool.false_eq_true, if_false] at hr
    refine ⟨_, _, (by simp [nth, rst, ir4_c, Fr.get_put, e1001, n1, e1002, n2, d1002, hz, d1003, hr]; exact ⟨rfl, rfl⟩), ⟨fun t ht hn => ?_, ⟨_, rfl⟩⟩, ?_, ?_⟩
    · simp only [Fr.get_put]
      simp only [List.mem_cons, not_or, List.not_mem_nil, not_false_eq_true, and_true] at hn
      repeat rw [if_neg (by omega)]
    · exact ⟨H.length, .t .nil, [], by simp [Fr.get_put], fun E => by simp [sq], fun E => by simp [sX]⟩
    · simp [Fr.get_put]
  | true =>
    simp only [sailR, if_true] at hr
    refine ⟨_, _, (by simp [nth, rst, ir4_c, Fr.get_put, e1001, n1, e1002, n2, d1002, hz, d1003, hr]; exact ⟨rfl, rfl⟩), ⟨fun t ht hn => ?_, ⟨_, rfl⟩⟩, ?_, ?_⟩
    · simp only [Fr.get_put]
      simp only [List.mem_cons, not_or, List.not_mem_nil, not_false_eq_true, and_true] at hn
      repeat rw [if_neg (by omega)]
    · exact ⟨H.length + 1, .ref H.length 0 n, [(H.length, .froz 1 (til L))], by simp [Fr.get_put], fun E => by simp [sq], fun E => by simp [sX, htk]⟩
    · simp [Fr.get_put]
theorem s201_14 (hI : PIx H (fr.get 30) a1 b1 c1001) (hP : PBx H (fr.get 31) X1 p1001) (hZ : LVx H (fr.get 32) Z) {ok : Bool} {n : Nat} {L : List Int} {q : Int} (hn : L.length = n) (hr : ownR env 19 [.agg [ti a1, ti b1, ti c1001], .agg [X1, ti p1001], Z] = sailR ok n L q) :
    ∃ fr' H', execD env (nth 14 ir4_c) (fr, H) = some (.norm, fr', H') ∧ Mq [35, 36] fr H fr' H' ∧ PBx H' (fr'.get 35) (sX ok L) (sq ok q) ∧ fr'.get 36 = .t (tb ok) := by
  have htk : L.take n = L := List.take_of_length_le (by omega)
  obtain ⟨j1, e1001, n1, -⟩ := hI.all
  obtain ⟨j2, v2, l1002, e1002, n2, d1002, -, -⟩ := hP.all
  obtain ⟨l1003, d1003, -⟩ := hZ.all
  generalize hz : fr.get 32 = z at *
  cases ok with
  | false =>
    simp only [sailR, Bool.false_eq_true, if_false] at hr
    refine ⟨_, _, (by simp [nth, rst, ir4_c, Fr.get_put, e1001, n1, e1002, n2, d1002, hz, d1003, hr]; exact ⟨rfl, rfl⟩), ⟨fun t ht hn => ?_, ⟨_, rfl⟩⟩, ?_, ?_⟩
    · simp only [Fr.get_put]
      simp only [List.mem_cons, not_or, List.not_mem_nil, not_false_eq_true, and_true] at hn
      repeat rw [if_neg (by omega)]
    · exact ⟨H.length, .t .nil, [], by simp [Fr.get_put], fun E => by simp [sq], fun E => by simp [sX]⟩
    · simp [Fr.get_put]
  | true =>
    simp only [sailR, if_true] at hr
    refine ⟨_, _, (by simp [nth, rst, ir4_c, Fr.get_put, e1001, n1, e1002, n2, d1002, hz, d1003, hr]; exact ⟨rfl, rfl⟩), ⟨fun t ht hn => ?_, ⟨_, rfl⟩⟩, ?_, ?_⟩
    · simp only [Fr.get_put]
      simp only [List.mem_cons, not_or, List.not_mem_nil, not_false_eq_true, and_true] at hn
      repeat rw [if_neg (by omega)]
    · exact ⟨H.length + 1, .ref H.length 0 n, [(H.length, .froz 1 (til L))], by simp [Fr.get_put], fun E => by simp [sq], fun E => by simp [sX, htk]⟩
    · simp [Fr.get_put]
theorem s201_15 (hI : PIx H (fr.get 30) a1 b1 c1001) (hP : PBx H (fr.get 31) X1 p1001) (hZ : LVx H (fr.get 32) Z) {r : Int × Bool} (hr : ownR env 20 [.agg [ti a1, ti b1, ti c1001], .agg [X1, ti p1001], Z] = some (.tup [.t (ti r.1), .t (tb r.2)], [])) :
    ∃ fr' H', execD env (nth 15 ir4_c) (fr, H) = some (.norm, fr', H') ∧ Mq [37, 38] fr H fr' H' ∧ fr'.get 37 = .t (ti r.1) ∧ fr'.get 38 = .t (tb r.2) := by
  obtain ⟨j1, e1001, n1, -⟩ := hI.all
  obtain ⟨j2, v2, l1002, e1002, n2, d1002, -, -⟩ := hP.all
  obtain ⟨l1003, d1003, -⟩ := hZ.all
  generalize hz : fr.get 32 = z at *
  refine ⟨_, H, (by simp [nth, rst, ir4_c, Fr.get_put, e1001, n1, e1002, n2, d1002, hz, d1003, hr]; rfl), ⟨fun t ht hn => ?_, ⟨[], (List.append_nil _).symm⟩⟩, ?_, ?_⟩
  · simp only [Fr.get_put]
    simp only [List.mem_cons, not_or, List.not_mem_nil, not_false_eq_true, and_true] at hn
    repeat rw [if_neg (by omega)]
  · simp [Fr.get_put]
  · simp [Fr.get_put]
theorem s201_16 (hI : PIx H (fr.get 30) a1 b1 c1001) (hP : PBx H (fr.get 31) X1 p1001) (hZ : LVx H (fr.get 32) Z) {r : Int × Bool} (hr : ownR env 21 [.agg [ti a1, ti b1, ti c1001], .agg [X1, ti p1001], Z] = some (.tup [.t (ti r.1), .t (tb r.2)], [])) :
    ∃ fr' H', execD env (nth 16 ir4_c) (fr, H) = some (.norm, fr', H') ∧ Mq [39, 40] fr H fr' H' ∧ fr'.get 39 = .t (ti r.1) ∧ fr'.get 40 = .t (tb r.2) := by
  obtain ⟨j1, e1001, n1, -⟩ := hI.all
  obtain ⟨j2, v2, l1002, e1002, n2, d1002, -, -⟩ := hP.all
  obtain ⟨l1003, d1003, -⟩ := hZ.all
  generalize hz : fr.get 32 = z at *
  refine ⟨_, H, (by simp [nth, rst, ir4_c, Fr.get_put, e1001, n1, e1002, n2, d1002, hz, d1003, hr]; rfl), ⟨fun t ht hn => ?_, ⟨[], (List.append_nil _).symm⟩⟩, ?_, ?_⟩
  · simp only [Fr.get_put]
    simp only [List.mem_cons, not_or, List.not_mem_nil, not_false_eq_true, and_true] at hn
    repeat rw [if_neg (by omega)]
  · simp [Fr.get_put]
  · simp [Fr.get_put]
theorem s201_18 (hI : PIx H (fr.get 41) a1 b1 c1001) {ok : Bool} {n : Nat} {L : List Int} {q : Int} (hn : L.length = n) (hr : ownR env 22 [.agg [ti a1, ti b1, ti c1001]] = sailR ok n L q) :
    ∃ fr' H', execD env (nth 18 ir4_c) (fr, H) = some (.norm, fr', H') ∧ Mq [42, 43] fr H fr' H' ∧ PBx H' (fr'.get 42) (sX ok L) (sq ok q) ∧ fr'.get 43 = .t (tb ok) := by
  have htk : L.take n = L := List.take_of_length_le (by omega)
  obtain ⟨j1, e1001, n1, -⟩ := hI.all
  cases ok with
  | false =>
    simp only [sailR, Bool.false_eq_true, if_false] at hr
    refine ⟨_, _, (by simp [nth, rst, ir4_c, Fr.get_put, e1001, n1, hr]; exact ⟨rfl, rfl⟩), ⟨fun t ht hn => ?_, ⟨_, rfl⟩⟩, ?_, ?_⟩
    · simp only [Fr.get_put]
      simp only [List.mem_cons, not_or, List.not_mem_nil, not_false_eq_true, and_true] at hn
      repeat rw [if_neg (by omega)]
    · exact ⟨H.length, .t .nil, [], by simp [Fr.get_put], fun E => by simp [sq], fun E => by simp [sX]⟩
    · simp [Fr.get_put]
  | true =>
    simp only [sailR, if_true] at hr
    refine ⟨_, _, (by simp [nth, rst, ir4_c, Fr.get_put, e1001, n1, hr]; exact ⟨rfl, rfl⟩), ⟨fun t ht hn => ?_, ⟨_, rfl⟩⟩, ?_, ?_⟩
    · simp only [Fr.get_put]
      simp only [List.mem_cons, not_or, List.not_mem_nil, not_false_eq_true, and_true] at hn
      repeat rw [if_neg (by omega)]
    · exact ⟨H.length + 1, .ref H.length 0 n, [(H.length, .froz 1 (til L))], by simp [Fr.get_put], fun E => by simp [sq], fun E => by simp [sX, htk]⟩
    · simp [Fr.get_put]
theorem s201_19 (hI : PIx H (fr.get 41) a1 b1 c1001) {ok : Bool} {n : Nat} {L : List Int} {q : Int} (hn : L.length = n) (hr : ownR env 23 [.agg [ti a1, ti b1, ti c1001]] = sailR ok n L q) :
    ∃ fr' H', execD env (nth 19 ir4_c) (fr, H) = some (.norm, fr', H') ∧ Mq [44, 45] fr H fr' H' ∧ PBx H' (fr'.get 44) (sX ok L) (sq ok q) ∧ fr'.get 45 = .t (tb ok) := by
  have htk : L.take n = L := List.take_of_length_le (by omega)
  obtain ⟨j1, e1001, n1, -⟩ := hI.all
  cases ok with
  | false =>
    simp only [sailR, Bool.false_eq_true, if_false] at hr
    refine ⟨_, _, (by simp [nth, rst, ir4_c, Fr.get_put, e1001, n1, hr]; exact ⟨rfl, rfl⟩), ⟨fun t ht hn => ?_, ⟨_, rfl⟩⟩, ?_, ?_⟩
    · simp only [Fr.get_put]
      simp only [List.mem_cons, not_or, List.not_mem_nil, not_false_eq_true, and_true] at hn
      repeat rw [if_neg (by omega)]
    · exact ⟨H.length, .t .nil, [], by simp [Fr.get_put], fun E => by simp [sq], fun E => by simp [sX]⟩
    · simp [Fr.get_put]
  | true =>
    simp only [sailR, if_true] at hr
    refine ⟨_, _, (by simp [nth, rst, ir4_c, Fr.get_put, e1001, n1, hr]; exact ⟨rfl, rfl⟩), ⟨fun t ht hn => ?_, ⟨_, rfl⟩⟩, ?_, ?_⟩
    · simp only [Fr.get_put]
      simp only [List.mem_cons, not_or, List.not_mem_nil, not_false_eq_true, and_true] at hn
      repeat rw [if_neg (by omega)]
    · exact ⟨H.length + 1, .ref H.length 0 n, [(H.length, .froz 1 (til L))], by simp [Fr.get_put], fun E => by simp [sq], fun E => by simp [sX, htk]⟩
    · simp [Fr.get_put]
theorem s201_20 (hI : PIx H (fr.get 41) a1 b1 c1001) {ok : Bool} {n : Nat} {L : List Int} {q : Int} (hn : L.length = n) (hr : ownR env 24 [.agg [ti a1, ti b1, ti c1001]] = sailR ok n L q) :
    ∃ fr' H', execD env (nth 20 ir4_c) (fr, H) = some (.norm, fr', H') ∧ Mq [46, 47] fr H fr' H' ∧ PBx H' (fr'.get 46) (sX ok L) (sq ok q) ∧ fr'.get 47 = .t (tb ok) := by
  have htk : L.take n = L := List.take_of_length_le (by omega)
  obtain ⟨j1, e1001, n1, -⟩ := hI.all
  cases ok with
  | false =>
    simp only [sailR, Bool.false_eq_true, if_false] at hr
    refine ⟨_, _, (by simp [nth, rst, ir4_c, Fr.get_put, e1001, n1, hr]; exact ⟨rfl, rfl⟩), ⟨fun t ht hn => ?_, ⟨_, rfl⟩⟩, ?_, ?_⟩
    · simp only [Fr.get_put]
      simp only [List.mem_cons, not_or, List.not_mem_nil, not_false_eq_true, and_true] at hn
      repeat rw [if_neg (by omega)]
    · exact ⟨H.length, .t .nil, [], by simp [Fr.get_put], fun E => by simp [sq], fun E => by simp [sX]⟩
    · simp [Fr.get_put]
  | true =>
    simp only [sailR, if_true] at hr
    refine ⟨_, _, (by simp [nth, rst, ir4_c, Fr.get_put, e1001, n1, hr]; exact ⟨rfl, rfl⟩), ⟨fun t ht hn => ?_, ⟨_, rfl⟩⟩, ?_, ?_⟩
    · simp only [Fr.get_put]
      simp only [List.mem_cons, not_or, List.not_mem_nil, not_false_eq_true, and_true] at hn
      repeat rw [if_neg (by omega)]
    · exact ⟨H.length + 1, .ref H.length 0 n, [(H.length, .froz 1 (til L))], by simp [Fr.get_put], fun E => by simp [sq], fun E => by simp [sX, htk]⟩
    · simp [Fr.get_put]
theorem s201_21 (hI : PIx H (fr.get 41) a1 b1 c1001) {ok : Bool} {n : Nat} {L : List Int} {q : Int} (hn : L.length = n) (hr : ownR env 25 [.agg [ti a1, ti b1, ti c1001]] = sailR ok n L q) :
    ∃ fr' H', execD env (nth 21 ir4_c) (fr, H) = some (.norm, fr', H') ∧ Mq [48, 49] fr H fr' H' ∧ PBx H' (fr'.get 48) (sX ok L) (sq ok q) ∧ fr'.get 49 = .t (tb ok) := by
  have htk : L.take n = L := List.take_of_length_le (by omega)
  obtain ⟨j1, e1001, n1, -⟩ := hI.all
  cases ok with
  | false =>
    simp only [sailR, Bool.false_eq_true, if_false] at hr
    refine ⟨_, _, (by simp [nth, rst, ir4_c, Fr.get_put, e1001, n1, hr]; exact ⟨rfl, rfl⟩), ⟨fun t ht hn => ?_, ⟨_, rfl⟩⟩, ?_, ?_⟩
    · simp only [Fr.get_put]
      simp only [List.mem_cons, not_or, List.not_mem_nil, not_false_eq_true, and_true] at hn
      repeat rw [if_neg (by omega)]
    · exact ⟨H.length, .t .nil, [], by simp [Fr.get_put], fun E => by simp [sq], fun E => by simp [sX]⟩
    · simp [Fr.get_put]
  | true =>
    simp only [sailR, if_true] at hr
    refine ⟨_, _, (by simp [nth, rst, ir4_c, Fr.get_put, e1001, n1, hr]; exact ⟨rfl, rfl⟩), ⟨fun t ht hn => ?_, ⟨_, rfl⟩⟩, ?_, ?_⟩
    · simp only [Fr.get_put]
      simp only [List.mem_cons, not_or, List.not_mem_nil, not_false_eq_true, and_true] at hn
      repeat rw [if_neg (by omega)]
    · exact ⟨H.length + 1, .ref H.length 0 n, [(H.length, .froz 1 (til L))], by simp [Fr.get_put], fun E => by simp [sq], fun E => by simp [sX, htk]⟩
    · simp [Fr.get_put]
end Go.Proofs.Ytdgfpjlmpnfcgaa.Ev

namespace Go.Proofs.Ytdgfpjlmpnfcgaa.Ev
open Go
set_option linter.unusedVariables false
set_option linter.unusedSimpArgs false
set_option linter.unusedSectionVars false
attribute [local simp] til_getE til_length til_get til_drop til_take til_snoc til_fold take_snoc til_set
variable {a1 b1 c1001 a2 b2 c1002 a3 b3 c1003 : Int} {X1 G1 X2 Z : T} {p1001 t1001 p1002 : Int} {fr : Fr} {H : Heap}
set_option maxHeartbeats 4000000 in
set_option maxRecDepth 20000 in
theorem s201_22 (hI : PIx H (fr.get 41) a3 b3 c1003) {s1 b5 b7 : Bool} {L1 L5 L9 LA : List Int} {q1001 q1005 q1009 qA k : Int}
    (hl1 : L1.length ≤ 2 ^ 40) (hl5 : L5.length ≤ 2 ^ 40) (hl9 : L9.length ≤ 2 ^ 40) (hlA : LA.length ≤ 2 ^ 40)
    (B35 : PBx H (fr.get 26) (sX s1 L1) (sq s1 q1001)) (f36 : fr.get 27 = .t (tb s1)) (B37 : PBx H (fr.get 28) (sX s1 L1) (sq s1 q1001)) (f38 : fr.get 29 = .t (tb s1))
    (B39 : PBx H (fr.get 33) (sX b5 L5) (sq b5 q1005)) (f40 : fr.get 34 = .t (tb b5)) (B41 : PBx H (fr.get 35) (sX b5 L5) (sq b5 q1005)) (f42 : fr.get 36 = .t (tb b5))
    (f43 : fr.get 37 = .t (ti k)) (f44 : fr.get 38 = .t (tb b7)) (f45 : fr.get 39 = .t (ti k)) (f46 : fr.get 40 = .t (tb b7)) (h57 : (b5 && b7) = false)
    (B47 : PBx H (fr.get 42) (sX (good a3 b3 c1003) L9) (sq (good a3 b3 c1003) q1009)) (f48 : fr.get 43 = .t (tb (good a3 b3 c1003))) (B49 : PBx H (fr.get 44) (sX (good a3 b3 c1003) L9) (sq (good a3 b3 c1003) q1009)) (f50 : fr.get 45 = .t (tb (good a3 b3 c1003)))
    (B51 : PBx H (fr.get 46) (sX (good a3 b3 c1003) LA) (sq (good a3 b3 c1003) qA)) (f52 : fr.get 47 = .t (tb (good a3 b3 c1003))) (B53 : PBx H (fr.get 48) (sX (good a3 b3 c1003) LA) (sq (good a3 b3 c1003) qA)) (f54 : fr.get 49 = .t (tb (good a3 b3 c1003))) :
    ∃ fr' H', execD env (nth 22 ir4_c) (fr, H) = some (.norm, fr', H') ∧ Mq [] fr H fr' H' := by
  obtain ⟨jz, f17, n7, -⟩ := hI.all
  have g1 := same211 s1 L1 (sq s1 q1001) hl1
  have g5 := same211 b5 L5 (sq b5 q1005) hl5
  have g9 := same211 (good a3 b3 c1003) L9 (sq (good a3 b3 c1003) q1009) hl9
  have gA := same211 (good a3 b3 c1003) LA (sq (good a3 b3 c1003) qA) hlA
  obtain ⟨j35, v35, l1035, e1035, h35, d1035, -, -⟩ := B35.all
  obtain ⟨j37, v37, l1037, e1037, h37, d1037, -, -⟩ := B37.all
  obtain ⟨j39, v39, l40, e40, h39, d40, -, -⟩ := B39.all
  obtain ⟨j41, v41, l1041, e1041, h41, d1041, -, -⟩ := B41.all
  obtain ⟨j47, v47, l1047, e1047, h47, d1047, -, -⟩ := B47.all
  obtain ⟨j49, v49, l51, e51, h49, d51, -, -⟩ := B49.all
  obtain ⟨j51, v51, l1051, e1051, h51, d1051, -, -⟩ := B51.all
  obtain ⟨j53, v53, l45, e45, h53, d45, -, -⟩ := B53.all
  cases b5 <;> cases b7 <;> simp at h57
  all_goals
   refine ⟨_, H, (by simp [nth, rst, ir4_c, Fr.get_put, f17, n7, e1035, h35, d1035, e1037, h37, d1037, e40, h39, d40, e1041, h41, d1041, e1047, h47, d1047, e51, h49, d51, e1051, h51, d1051, e45, h53, d45, f36, f38, f40, f42, f43, f44, f45, f46, f48, f50, f52, f54, g1, g5, g9, gA]; rfl), ⟨fun t ht hn => ?_, ⟨[], (List.append_nil _).symm⟩⟩⟩
   simp only [Fr.get_put]
   repeat rw [if_neg (by omega)]
set_option maxHeartbeats 4000000 in
set_option maxRecDepth 20000 in
theorem s201_23 (hI : PIx H (fr.get 41) a3 b3 c1003) {g3 : Bool} {L9 LA : List Int} {q1009 qA : Int}
    (B47 : PBx H (fr.get 42) (sX g3 L9) (sq g3 q1009)) (f48 : fr.get 43 = .t (tb g3)) (B51 : PBx H (fr.get 46) (sX g3 LA) (sq g3 qA))
    (h1 : g3 = true → ownR env 7 [.agg [ti a3, ti b3, ti c1003], .agg [.lst 1 (til L9), ti q1009]] = some (.tup [.t (tb true), .t (tb true)], []))
    (h2 : g3 = true → ownR env 7 [.agg [ti a3, ti b3, ti c1003], .agg [.lst 1 (til LA), ti qA]] = some (.tup [.t (tb true), .t (tb true)], [])) :
    ∃ fr' H', execD env (nth 23 ir4_c) (fr, H) = some (.norm, fr', H') ∧ Mq [50, 51, 52, 53] fr H fr' H' := by
  obtain ⟨jz, f17, n7, -⟩ := hI.all
  obtain ⟨j47, v47, l1047, e1047, h47, d1047, -, -⟩ := B47.all
  obtain ⟨j51, v51, l1051, e1051, h51, d1051, -, -⟩ := B51.all
  cases g3 with
  | false =>
    refine ⟨_, H, (by simp [nth, rst, ir4_c, Fr.get_put, f48]; rfl), ⟨fun t ht hn => ?_, ⟨[], (List.append_nil _).symm⟩⟩⟩
    simp only [Fr.get_put]
    repeat rw [if_neg (by omega)]
  | true =>
    have h1 := h1 rfl
    have h2 := h2 rfl
    simp only [sX, sq, if_true] at d1047 d1051 h47 h51
    refine ⟨_, H, (by simp [nth, rst, ir4_c, Fr.get_put, f48, f17, n7, e1047, h47, d1047, e1051, h51, d1051, h1, h2]; rfl), ⟨fun t ht hn => ?_, ⟨[], (List.append_nil _).symm⟩⟩⟩
    simp only [Fr.get_put]
    simp only [List.mem_cons, not_or, List.not_mem_nil, not_false_eq_true, and_true] at hn
    repeat rw [if_neg (by omega)]
end Go.Proofs.Ytdgfpjlmpnfcgaa.Ev

namespace Go.Proofs.Ytdgfpjlmpnfcgaa.Ev
open Go
set_option linter.unusedVariables false
set_option linter.unusedSimpArgs false
set_option linter.unusedSectionVars false
attribute [local simp] til_getE til_length til_get til_drop til_take til_snoc til_fold take_snoc til_set
variable {a1 b1 c1001 a2 b2 c1002 a3 b3 c1003 : Int} {X1 G1 X2 Z : T} {p1001 t1001 p1002 : Int} {fr : Fr} {H : Heap}
set_option maxHeartbeats 4000000 in
set_option maxRecDepth 20000 in
theorem s201_24 (hI : PIx H (fr.get 30) a2 b2 c1002) (hP : PBx H (fr.get 31) X2 p1002) (hL : LVx H (fr.get 32) Z) {b5 : Bool} {L5 : List Int} {q1005 : Int} (hl5 : L5.length ≤ 2 ^ 40)
    (B39 : PBx H (fr.get 33) (sX b5 L5) (sq b5 q1005)) (f40 : fr.get 34 = .t (tb b5))
    (hZ : b5 = false ∨ Z = .nil ∨ Z = .lst 2 [] ∨ ∃ (v : Int) (G0 : T) (ts : List T) (L : List Int), Z = .lst 2 (.agg [ti v, G0] :: ts) ∧ L.length ≤ 1000 ∧ ts.length ≤ 2 ^ 30 ∧ ownR env 14 [.agg [ti a2, ti b2, ti c1002], .agg [X2, ti p1002], .agg [ti v, G0]] = sailR true L.length L v ∧
      ownR env 18 [.agg [ti a2, ti b2, ti c1002], .agg [.lst 1 (til L), ti v], .lst 2 ts] = sailR true L5.length L5 q1005) :
    ∃ fr' H', execD env (nth 24 ir4_c) (fr, H) = some (.norm, fr', H') ∧ Mq [54, 55, 56, 57] fr H fr' H' := by
  obtain ⟨jy, f14, n5, m1005⟩ := hI.all
  obtain ⟨jp, vp, lp, f15, n6, d1006, m1006, r1006⟩ := hP.all
  obtain ⟨j39, v39, l40, e40, h39, d40, k40, r40⟩ := B39.all
  have fin : ∀ (fr' : Fr) (E : Heap), execD env (nth 24 ir4_c) (fr, H) = some (.norm, fr', H ++ E) → (∀ t, t < 62 → t ∉ [54, 55, 56, 57] → fr'.get t = fr.get t) → ∃ fr' H', execD env (nth 24 ir4_c) (fr, H) = some (.norm, fr', H') ∧ Mq [54, 55, 56, 57] fr H fr' H' := fun fr' E h1 h2 => ⟨fr', H ++ E, h1, h2, E, rfl⟩
  rcases hL with f7 | ⟨i0, ts0, f7, hZ0, u7⟩
  · cases b5 with
    | false =>
      refine fin _ [] (by simp [nth, rst, ir4_c, Fr.get_put, f40]; rfl) fun t ht hn => ?_
      simp only [Fr.get_put]
      repeat rw [if_neg (by omega)]
    | true =>
      rcases hZ with h | rfl | rfl | ⟨v, G0, ts, L, rfl, hL, hts, r1001, r1002⟩
      · cases h
      · refine fin _ [] (by simp [nth, rst, ir4_c, Fr.get_put, f40, f7]; rfl) fun t ht hn => ?_
        simp only [Fr.get_put]
        repeat rw [if_neg (by omega)]
      · refine fin _ [] (by simp [nth, rst, ir4_c, Fr.get_put, f40, f7]; rfl) fun t ht hn => ?_
        simp only [Fr.get_put]
        repeat rw [if_neg (by omega)]
      · have g5 := same211 true L5 q1005 hl5
        have htk : L.take L.length = L := List.take_length
        simp only [sailR, if_true] at r1001 r1002
        simp only [sX, sq, if_true] at d40 h39 k40 r40 g5
        refine fin _ _ (by simp [nth, rst, ir4_c, Fr.get_put, f40, f7, f14, f15, n5, n6, m1005, m1006, d1006, r1006, r1001, r1002, e40, h39, d40, k40, r40, g5, til_flat]; exact ⟨rfl, rfl⟩) fun t ht hn => ?_
        simp only [Fr.get_put]
        simp only [List.mem_cons, not_or, List.not_mem_nil, not_false_eq_true, and_true] at hn
        repeat rw [if_neg (by omega)]
  · have n7 := u7 []
    rw [List.append_nil] at n7
    have hi0 := (List.getElem?_eq_some_iff.1 n7).1
    have ne0 : ¬ i0 = H.length := by omega
    have ne1 : ¬ i0 = H.length + 1 := by omega
    have ne0' : ¬ H.length = i0 := by omega
    have ne1' : ¬ H.length + 1 = i0 := by omega
    cases b5 with
    | false =>
      refine fin _ [] (by simp [nth, rst, ir4_c, Fr.get_put, f40]; rfl) fun t ht hn => ?_
      simp only [Fr.get_put]
      repeat rw [if_neg (by omega)]
    | true =>
      rcases hZ with h | h | h | ⟨v, G0, ts, L, h, hL, hts, r1001, r1002⟩
      · cases h
      · rw [hZ0] at h; cases h
      · rw [hZ0] at h; cases h
        refine fin _ [] (by simp [nth, rst, ir4_c, Fr.get_put, f40, f7]; rfl) fun t ht hn => ?_
        simp only [Fr.get_put]
        repeat rw [if_neg (by omega)]
      · rw [hZ0] at h; cases h
        have g5 := same211 true L5 q1005 hl5
        have htk : L.take L.length = L := List.take_length
        simp only [sailR, if_true] at r1001 r1002
        simp only [sX, sq, if_true] at d40 h39 k40 r40 g5
        refine fin _ _ (by simp [nth, rst, ir4_c, Fr.get_put, f40, f7, n7, u7, ne0, ne1, ne0', ne1', f14, f15, n5, n6, m1005, m1006, d1006, r1006, r1001, r1002, e40, h39, d40, k40, r40, g5, til_flat]; exact ⟨rfl, rfl⟩) fun t ht hn => ?_
        simp only [Fr.get_put]
        simp only [List.mem_cons, not_or, List.not_mem_nil, not_false_eq_true, and_true] at hn
        repeat rw [if_neg (by omega)]
set_option maxHeartbeats 4000000 in
set_option maxRecDepth 20000 in
theorem s201_25 (hI : PIx H (fr.get 30) a2 b2 c1002) (hP : PBx H (fr.get 31) X2 p1002) (hL : LVx H (fr.get 32) Z) {b7 : Bool} {k : Int} (f43 : fr.get 37 = .t (ti k)) (f44 : fr.get 38 = .t (tb b7))
    (hZ : b7 = false ∨ ∃ (v : Int) (G0 : T) (ts : List T) (L : List Int) (q : Int) (i : Nat), k = i ∧ Z = .lst 2 ts ∧ ts.length ≤ 2 ^ 30 ∧ ∃ hi : i < ts.length, ts[i] = .agg [ti v, G0] ∧ ownR env 18 [.agg [ti a2, ti b2, ti c1002], .agg [X2, ti p1002], .lst 2 (ts.take i)] = sailR true L.length L q ∧
      ownR env 14 [.agg [ti a2, ti b2, ti c1002], .agg [.lst 1 (til L), ti q], .agg [ti v, G0]] = some (.tup [.agg [.t .nil, .t (ti 0)], .t (tb false)], [])) :
    ∃ fr' H', execD env (nth 25 ir4_c) (fr, H) = some (.norm, fr', H') ∧ Mq [58, 59, 60, 61] fr H fr' H' := by
  obtain ⟨jy, f14, n5, m1005⟩ := hI.all
  obtain ⟨jp, vp, lp, f15, n6, d1006, m1006, r1006⟩ := hP.all
  have fin : ∀ (fr' : Fr) (E : Heap), execD env (nth 25 ir4_c) (fr, H) = some (.norm, fr', H ++ E) → (∀ t, t < 62 → t ∉ [58, 59, 60, 61] → fr'.get t = fr.get t) → ∃ fr' H', execD env (nth 25 ir4_c) (fr, H) = some (.norm, fr', H') ∧ Mq [58, 59, 60, 61] fr H fr' H' := fun fr' E h1 h2 => ⟨fr', H ++ E, h1, h2, E, rfl⟩
  rcases hL with f7 | ⟨i0, ts0, f7, hZ0, u7⟩
  · cases b7 with
    | false =>
      refine fin _ [] (by simp [nth, rst, ir4_c, Fr.get_put, f44]; rfl) fun t ht hn => ?_
      simp only [Fr.get_put]
      repeat rw [if_neg (by omega)]
    | true =>
      rcases hZ with h | ⟨v, G0, ts, L, q, i, rfl, rfl, hts, hi, he, r1001, r1002⟩
      · cases h
      · have htk : L.take L.length = L := List.take_length
        have hi2 : i ≤ ts.length := by omega
        simp only [sailR, if_true] at r1001
        refine fin _ _ (by simp [nth, rst, ir4_c, Fr.get_put, f44, f43, f7, f14, f15, n5, n6, m1005, m1006, d1006, r1006, hi, hi2, he, r1001, r1002, til_flat]; exact ⟨rfl, rfl⟩) fun t ht hn => ?_
        simp only [Fr.get_put]
        simp only [List.mem_cons, not_or, List.not_mem_nil, not_false_eq_true, and_true] at hn
        repeat rw [if_neg (by omega)]
  · have n7 := u7 []
    rw [List.append_nil] at n7
    have hi0 := (List.getElem?_eq_some_iff.1 n7).1
    have ne0 : ¬ i0 = H.length := by omega
    have ne1 : ¬ i0 = H.length + 1 := by omega
    have ne0' : ¬ H.length = i0 := by omega
    have ne1' : ¬ H.length + 1 = i0 := by omega
    cases b7 with
    | false =>
      refine fin _ [] (by simp [nth, rst, ir4_c, Fr.get_put, f44]; rfl) fun t ht hn => ?_
      simp only [Fr.get_put]
      repeat rw [if_neg (by omega)]
    | true =>
      rcases hZ with h | ⟨v, G0, ts, L, q, i, rfl, h, hts, hi, he, r1001, r1002⟩
      · cases h
      · rw [hZ0] at h; cases h
        have htk : L.take L.length = L := List.take_length
        have hi2 : i ≤ ts0.length := by omega
        simp only [sailR, if_true] at r1001
        refine fin _ _ (by simp [nth, rst, ir4_c, Fr.get_put, f44, f43, f7, n7, u7, ne0, ne1, ne0', ne1', f14, f15, n5, n6, m1005, m1006, d1006, r1006, hi, hi2, he, r1001, r1002, til_flat]; exact ⟨rfl, rfl⟩) fun t ht hn => ?_
        simp only [Fr.get_put]
        simp only [List.mem_cons, not_or, List.not_mem_nil, not_false_eq_true, and_true] at hn
        repeat rw [if_neg (by omega)]
end Go.Proofs.Ytdgfpjlmpnfcgaa.Ev

namespace Go.Proofs.Ytdgfpjlmpnfcgaa.Ev
open Go
set_option linter.unusedVariables false
set_option linter.unusedSimpArgs false
set_option linter.unusedSectionVars false

theorem step_201 {k : Nat} {s s' : Fr × Heap} {r : Option Out} (h : rst k ir4_c = .seq (nth k ir4_c) (rst (k + 1) ir4_c)) (h1 : execD env (nth k ir4_c) s = some (.norm, s')) (h2 : execD env (rst (k + 1) ir4_c) s' = r) : execD env (rst k ir4_c) s = r := by
  rw [h, execD_seq, h1]; exact h2
variable {a1 b1 c1001 a2 b2 c1002 a3 b3 c1003 : Int} {X1 G1 X2 Z : T} {p1001 t1001 p1002 : Int} {fr : Fr} {H : Heap}
theorem factsA {l1001 g1 : List Int} (hX1 : LN X1 l1001) (hG1 : LN G1 g1) : ∃ s1 L1 q1001, ownR env 14 [.agg [ti a1, ti b1, ti c1001], .agg [X1, ti p1001], .agg [ti t1001, G1]] = sailR s1 L1.length L1 q1001 ∧ ownR env 17 [.agg [ti a1, ti b1, ti c1001], .agg [X1, ti p1001], .agg [ti t1001, G1]] = sailR s1 L1.length L1 q1001 ∧ L1.length ≤ 2 ^ 40 := by
  have q1008 := r14 a1 b1 c1001 X1 l1001 hX1 p1001 t1001 G1 g1 hG1
  have q1009 := r17 a1 b1 c1001 X1 l1001 hX1 p1001 t1001 G1 g1 hG1
  rw [sail_eq _ _ _ _ (setAll_length _ _ _)] at q1008 q1009
  refine ⟨_, _, _, q1008, q1009, ?_⟩
  split
  · rename_i h
    rw [Bool.and_eq_true] at h
    obtain ⟨k, rfl, hgd, hl2, _⟩ := askB_parts h.1
    have := good_of hgd
    rw [setAll_length]; omega
  · simp
theorem factsB {l1002 : List Int} {vs : List (Int × List Int)} (hX2 : LN X2 l1002) (hZ : LW Z vs) (hn : vs.length ≤ 10000) : ∃ (b5 : Bool) (L5 : List Int) (q1005 : Int) (r : Int × Bool),
    ownR env 18 [.agg [ti a2, ti b2, ti c1002], .agg [X2, ti p1002], Z] = sailR b5 L5.length L5 q1005 ∧ ownR env 19 [.agg [ti a2, ti b2, ti c1002], .agg [X2, ti p1002], Z] = sailR b5 L5.length L5 q1005 ∧
    ownR env 20 [.agg [ti a2, ti b2, ti c1002], .agg [X2, ti p1002], Z] = some (.tup [.t (ti r.1), .t (tb r.2)], []) ∧ ownR env 21 [.agg [ti a2, ti b2, ti c1002], .agg [X2, ti p1002], Z] = some (.tup [.t (ti r.1), .t (tb r.2)], []) ∧ (b5 && r.2) = false ∧ L5.length ≤ 2 ^ 40 ∧
    (b5 = false ∨ Z = .nil ∨ Z = .lst 2 [] ∨ ∃ (v : Int) (G0 : T) (ts : List T) (L : List Int), Z = .lst 2 (.agg [ti v, G0] :: ts) ∧ L.length ≤ 1000 ∧ ts.length ≤ 2 ^ 30 ∧ ownR env 14 [.agg [ti a2, ti b2, ti c1002], .agg [X2, ti p1002], .agg [ti v, G0]] = sailR true L.length L v ∧
      ownR env 18 [.agg [ti a2, ti b2, ti c1002], .agg [.lst 1 (til L), ti v], .lst 2 ts] = sailR true L5.length L5 q1005) ∧
    (r.2 = false ∨ ∃ (v : Int) (G0 : T) (ts : List T) (L : List Int) (q : Int) (i : Nat), r.1 = i ∧ Z = .lst 2 ts ∧ ts.length ≤ 2 ^ 30 ∧ ∃ hi : i < ts.length, ts[i] = .agg [ti v, G0] ∧ ownR env 18 [.agg [ti a2, ti b2, ti c1002], .agg [X2, ti p1002], .lst 2 (ts.take i)] = sailR true L.length L q ∧
      ownR env 14 [.agg [ti a2, ti b2, ti c1002], .agg [.lst 1 (til L), ti q], .agg [ti v, G0]] = some (.tup [.agg [.t .nil, .t (ti 0)], .t (tb false)], [])) := by
  have q1010 := r18 a2 b2 c1002 X2 l1002 hX2 p1002 Z vs hZ (by omega)
  have q1011 := r19 a2 b2 c1002 X2 l1002 hX2 p1002 Z vs hZ (by omega)
  have q1012 := r20 a2 b2 c1002 X2 l1002 hX2 p1002 Z vs hZ (by omega)
  have q1013 := r21 a2 b2 c1002 X2 l1002 hX2 p1002 Z vs hZ (by omega)
  have w1020 := law20 (a2 := a2) (b2 := b2) (c1002 := c1002) (p1002 := p1002) hX2 hZ hn
  have w1021 := law21 (a2 := a2) (b2 := b2) (c1002 := c1002) (p1002 := p1002) hX2 hZ hn
  have w66 := law57 (a2 := a2) (b2 := b2) (c1002 := c1002) (p1002 := p1002) (l1002 := l1002) (vs := vs)
  have hpl := play_len a2.toNat b2 c1002 vs (l1002, p1002) 0
  simp only at hpl
  rw [sail_eq _ _ _ _ hpl] at q1010 q1011
  refine ⟨_, _, _, _, q1010, q1011, q1012, q1013, w66, ?_, ?_, w1021⟩
  · split
    · rename_i h
      unfold allB at h
      rw [Bool.and_eq_true] at h
      obtain ⟨k, rfl, hgd, hl2, _⟩ := askB_parts h.1
      have := good_of hgd
      rw [hpl]; omega
    · simp
  · cases hb : allB a2 b2 c1002 l1002 p1002 vs with
    | false => exact .inl rfl
    | true => rw [hb] at w1020; exact w1020
theorem factsC : ∃ (L9 LA : List Int) (q1009 qA : Int),
    ownR env 22 [.agg [ti a3, ti b3, ti c1003]] = sailR (good a3 b3 c1003) L9.length L9 q1009 ∧ ownR env 23 [.agg [ti a3, ti b3, ti c1003]] = sailR (good a3 b3 c1003) L9.length L9 q1009 ∧
    ownR env 24 [.agg [ti a3, ti b3, ti c1003]] = sailR (good a3 b3 c1003) LA.length LA qA ∧ ownR env 25 [.agg [ti a3, ti b3, ti c1003]] = sailR (good a3 b3 c1003) LA.length LA qA ∧ L9.length ≤ 2 ^ 40 ∧ LA.length ≤ 2 ^ 40 ∧
    (good a3 b3 c1003 = true → ownR env 7 [.agg [ti a3, ti b3, ti c1003], .agg [.lst 1 (til L9), ti q1009]] = some (.tup [.t (tb true), .t (tb true)], [])) ∧
    (good a3 b3 c1003 = true → ownR env 7 [.agg [ti a3, ti b3, ti c1003], .agg [.lst 1 (til LA), ti qA]] = some (.tup [.t (tb true), .t (tb true)], [])) := by
  have q1014 : ownR env 22 [.agg [ti a3, ti b3, ti c1003]] = sailR (good a3 b3 c1003) (2 * a3.toNat) (List.replicate (2 * a3.toNat) ((0 : Nat) : Int)) ((0 : Nat) : Int) := r22 a3 b3 c1003
  have q1015 : ownR env 23 [.agg [ti a3, ti b3, ti c1003]] = sailR (good a3 b3 c1003) (2 * a3.toNat) (List.replicate (2 * a3.toNat) ((0 : Nat) : Int)) ((0 : Nat) : Int) := r23 a3 b3 c1003
  have q1016 : ownR env 24 [.agg [ti a3, ti b3, ti c1003]] = sailR (good a3 b3 c1003) (2 * a3.toNat) (List.replicate (2 * a3.toNat) (c1003 + 1)) (c1003 + 1) := r24 a3 b3 c1003
  have q1017 : ownR env 25 [.agg [ti a3, ti b3, ti c1003]] = sailR (good a3 b3 c1003) (2 * a3.toNat) (List.replicate (2 * a3.toNat) (c1003 + 1)) (c1003 + 1) := r25 a3 b3 c1003
  have w19a : good a3 b3 c1003 = true → _ := fun hg => law19 (a3 := a3) (b3 := b3) (c1003 := c1003) 0 (by have := good_of hg; omega) hg
  have w19b : good a3 b3 c1003 = true → ownR env 7 [.agg [ti a3, ti b3, ti c1003], .agg [.lst 1 (til (List.replicate (2 * a3.toNat) (c1003 + 1))), ti (c1003 + 1)]] = some (.tup [.t (tb true), .t (tb true)], []) := fun hg => by
    have hgo := good_of hg
    have := law19 (a3 := a3) (b3 := b3) (c1003 := c1003) (c1003 + 1).toNat (by omega) hg
    rw [show (((c1003 + 1).toNat : Nat) : Int) = c1003 + 1 by omega] at this
    exact this
  have hl9 : good a3 b3 c1003 = true → 2 * a3.toNat ≤ 1000 := fun h => by have := good_of h; omega
  rw [sail_eq _ _ _ _ List.length_replicate] at q1014 q1015 q1016 q1017
  refine ⟨_, _, _, _, q1014, q1015, q1016, q1017, ?_, ?_, fun h => by rw [if_pos h]; exact w19a h, fun h => by rw [if_pos h]; exact w19b h⟩
  · split
    · rename_i h; have := hl9 h; rw [List.length_replicate]; omega
    · simp
  · split
    · rename_i h; have := hl9 h; rw [List.length_replicate]; omega
    · simp
variable {C : T} {bs : List Int}
theorem tail201 (hC : BL C bs) (f1 : fr.get 1 = .t C) : ∃ fr' H', execD env (rst 9 ir4_c) (fr, H) = some (.ret, fr', H') ∧ fr'.get 4 = .t (tb true) := by
  obtain ⟨fr9, H9, a1, b1, c1001, p1001, t1001, X1, G1, l1001, g1, x1009, m1009, I23, B24, hX1, P25, hG1⟩ := s201_9 (fr := fr) (H := H) hC f1
  replace f1 := m1009.get f1 (by decide) (by simp)
  obtain ⟨s1, L1, q1001, q1010, q1011, hL1⟩ := factsA (a1 := a1) (b1 := b1) (c1001 := c1001) (p1001 := p1001) (t1001 := t1001) hX1 hG1
  obtain ⟨fr10, H10, x1010, m1010, B26, f27⟩ := s201_10 I23 B24 P25 rfl q1010
  replace f1 := m1010.get f1 (by decide) (by simp)
  replace I23 := I23.mq m1010 (by decide) (by simp)
  replace B24 := B24.mq m1010 (by decide) (by simp)
  replace P25 := P25.mq m1010 (by decide) (by simp)
  obtain ⟨fr11, H11, x1011, m1011, B28, f29⟩ := s201_11 I23 B24 P25 rfl q1011
  replace f1 := m1011.get f1 (by decide) (by simp)
  replace I23 := I23.mq m1011 (by decide) (by simp)
  replace B24 := B24.mq m1011 (by decide) (by simp)
  replace P25 := P25.mq m1011 (by decide) (by simp)
  replace B26 := B26.mq m1011 (by decide) (by simp)
  replace f27 := m1011.get f27 (by decide) (by simp)
  obtain ⟨fr12, H12, a2, b2, c1002, p1002, X2, Z, l1002, vs, x1012, m1012, I30, B31, hX2, L32, hZ, hvs⟩ := s201_12 (fr := fr11) (H := H11) hC f1
  replace f1 := m1012.get f1 (by decide) (by simp)
  replace B26 := B26.mq m1012 (by decide) (by simp)
  replace f27 := m1012.get f27 (by decide) (by simp)
  replace B28 := B28.mq m1012 (by decide) (by simp)
  replace f29 := m1012.get f29 (by decide) (by simp)
  obtain ⟨b5, L5, q1005, r, q1013, q1014, q1015, q1016, w66, hL5, w1020, w1021⟩ := factsB (a2 := a2) (b2 := b2) (c1002 := c1002) (p1002 := p1002) hX2 hZ (by omega)
  obtain ⟨fr13, H13, x1013, m1013, B33, f34⟩ := s201_13 I30 B31 L32 rfl q1013
  replace f1 := m1013.get f1 (by decide) (by simp)
  replace B26 := B26.mq m1013 (by decide) (by simp)
  replace f27 := m1013.get f27 (by decide) (by simp)
  replace B28 := B28.mq m1013 (by decide) (by simp)
  replace f29 := m1013.get f29 (by decide) (by simp)
  replace I30 := I30.mq m1013 (by decide) (by simp)
  replace B31 := B31.mq m1013 (by decide) (by simp)
  replace L32 := L32.mq m1013 (by decide) (by simp)
  obtain ⟨fr14, H14, x1014, m1014, B35, f36⟩ := s201_14 I30 B31 L32 rfl q1014
  replace f1 := m1014.get f1 (by decide) (by simp)
  replace B26 := B26.mq m1014 (by decide) (by simp)
  replace f27 := m1014.get f27 (by decide) (by simp)
  replace B28 := B28.mq m1014 (by decide) (by simp)
  replace f29 := m1014.get f29 (by decide) (by simp)
  replace I30 := I30.mq m1014 (by decide) (by simp)
  replace B31 := B31.mq m1014 (by decide) (by simp)
  replace L32 := L32.mq m1014 (by decide) (by simp)
  replace B33 := B33.mq m1014 (by decide) (by simp)
  replace f34 := m1014.get f34 (by decide) (by simp)
  obtain ⟨fr15, H15, x1015, m1015, f37, f38⟩ := s201_15 I30 B31 L32 q1015
  replace f1 := m1015.get f1 (by decide) (by simp)
  replace B26 := B26.mq m1015 (by decide) (by simp)
  replace f27 := m1015.get f27 (by decide) (by simp)
  replace B28 := B28.mq m1015 (by decide) (by simp)
  replace f29 := m1015.get f29 (by decide) (by simp)
  replace I30 := I30.mq m1015 (by decide) (by simp)
  replace B31 := B31.mq m1015 (by decide) (by simp)
  replace L32 := L32.mq m1015 (by decide) (by simp)
  replace B33 := B33.mq m1015 (by decide) (by simp)
  replace f34 := m1015.get f34 (by decide) (by simp)
  replace B35 := B35.mq m1015 (by decide) (by simp)
  replace f36 := m1015.get f36 (by decide) (by simp)
  obtain ⟨fr16, H16, x1016, m1016, f39, f40⟩ := s201_16 I30 B31 L32 q1016
  replace f1 := m1016.get f1 (by decide) (by simp)
  replace B26 := B26.mq m1016 (by decide) (by simp)
  replace f27 := m1016.get f27 (by decide) (by simp)
  replace B28 := B28.mq m1016 (by decide) (by simp)
  replace f29 := m1016.get f29 (by decide) (by simp)
  replace I30 := I30.mq m1016 (by decide) (by simp)
  replace B31 := B31.mq m1016 (by decide) (by simp)
  replace L32 := L32.mq m1016 (by decide) (by simp)
  replace B33 := B33.mq m1016 (by decide) (by simp)
  replace f34 := m1016.get f34 (by decide) (by simp)
  replace B35 := B35.mq m1016 (by decide) (by simp)
  replace f36 := m1016.get f36 (by decide) (by simp)
  replace f37 := m1016.get f37 (by decide) (by simp)
  replace f38 := m1016.get f38 (by decide) (by simp)
  obtain ⟨fr17, H17, a3, b3, c1003, x1017, m1017, I41⟩ := s201_17 (fr := fr16) (H := H16) hC f1
  replace f1 := m1017.get f1 (by decide) (by simp)
  replace B26 := B26.mq m1017 (by decide) (by simp)
  replace f27 := m1017.get f27 (by decide) (by simp)
  replace B28 := B28.mq m1017 (by decide) (by simp)
  replace f29 := m1017.get f29 (by decide) (by simp)
  replace I30 := I30.mq m1017 (by decide) (by simp)
  replace B31 := B31.mq m1017 (by decide) (by simp)
  replace L32 := L32.mq m1017 (by decide) (by simp)
  replace B33 := B33.mq m1017 (by decide) (by simp)
  replace f34 := m1017.get f34 (by decide) (by simp)
  replace B35 := B35.mq m1017 (by decide) (by simp)
  replace f36 := m1017.get f36 (by decide) (by simp)
  replace f37 := m1017.get f37 (by decide) (by simp)
  replace f38 := m1017.get f38 (by decide) (by simp)
  replace f39 := m1017.get f39 (by decide) (by simp)
  replace f40 := m1017.get f40 (by decide) (by simp)
  obtain ⟨L9, LA, q1009, qA, q1018, q1019, q1020, q1021, hL9, hLA, w19a, w19b⟩ := factsC (a3 := a3) (b3 := b3) (c1003 := c1003)
  obtain ⟨fr18, H18, x1018, m1018, B42, f43⟩ := s201_18 I41 rfl q1018
  replace B26 := B26.mq m1018 (by decide) (by simp)
  replace f27 := m1018.get f27 (by decide) (by simp)
  replace B28 := B28.mq m1018 (by decide) (by simp)
  replace f29 := m1018.get f29 (by decide) (by simp)
  replace I30 := I30.mq m1018 (by decide) (by simp)
  replace B31 := B31.mq m1018 (by decide) (by simp)
  replace L32 := L32.mq m1018 (by decide) (by simp)
  replace B33 := B33.mq m1018 (by decide) (by simp)
  replace f34 := m1018.get f34 (by decide) (by simp)
  replace B35 := B35.mq m1018 (by decide) (by simp)
  replace f36 := m1018.get f36 (by decide) (by simp)
  replace f37 := m1018.get f37 (by decide) (by simp)
  replace f38 := m1018.get f38 (by decide) (by simp)
  replace f39 := m1018.get f39 (by decide) (by simp)
  replace f40 := m1018.get f40 (by decide) (by simp)
  replace I41 := I41.mq m1018 (by decide) (by simp)
  obtain ⟨fr19, H19, x1019, m1019, B44, f45⟩ := s201_19 I41 rfl q1019
  replace B26 := B26.mq m1019 (by decide) (by simp)
  replace f27 := m1019.get f27 (by decide) (by simp)
  replace B28 := B28.mq m1019 (by decide) (by simp)
  replace f29 := m1019.get f29 (by decide) (by simp)
  replace I30 := I30.mq m1019 (by decide) (by simp)
  replace B31 := B31.mq m1019 (by decide) (by simp)
  replace L32 := L32.mq m1019 (by decide) (by simp)
  replace B33 := B33.mq m1019 (by decide) (by simp)
  replace f34 := m1019.get f34 (by decide) (by simp)
  replace B35 := B35.mq m1019 (by decide) (by simp)
  replace f36 := m1019.get f36 (by decide) (by simp)
  replace f37 := m1019.get f37 (by decide) (by simp)
  replace f38 := m1019.get f38 (by decide) (by simp)
  replace f39 := m1019.get f39 (by decide) (by simp)
  replace f40 := m1019.get f40 (by decide) (by simp)
  replace I41 := I41.mq m1019 (by decide) (by simp)
  replace B42 := B42.mq m1019 (by decide) (by simp)
  replace f43 := m1019.get f43 (by decide) (by simp)
  obtain ⟨fr20, H20, x1020, m1020, B46, f47⟩ := s201_20 I41 rfl q1020
  replace B26 := B26.mq m1020 (by decide) (by simp)
  replace f27 := m1020.get f27 (by decide) (by simp)
  replace B28 := B28.mq m1020 (by decide) (by simp)
  replace f29 := m1020.get f29 (by decide) (by simp)
  replace I30 := I30.mq m1020 (by decide) (by simp)
  replace B31 := B31.mq m1020 (by decide) (by simp)
  replace L32 := L32.mq m1020 (by decide) (by simp)
  replace B33 := B33.mq m1020 (by decide) (by simp)
  replace f34 := m1020.get f34 (by decide) (by simp)
  replace B35 := B35.mq m1020 (by decide) (by simp)
  replace f36 := m1020.get f36 (by decide) (by simp)
  replace f37 := m1020.get f37 (by decide) (by simp)
  replace f38 := m1020.get f38 (by decide) (by simp)
  replace f39 := m1020.get f39 (by decide) (by simp)
  replace f40 := m1020.get f40 (by decide) (by simp)
  replace I41 := I41.mq m1020 (by decide) (by simp)
  replace B42 := B42.mq m1020 (by decide) (by simp)
  replace f43 := m1020.get f43 (by decide) (by simp)
  replace B44 := B44.mq m1020 (by decide) (by simp)
  replace f45 := m1020.get f45 (by decide) (by simp)
  obtain ⟨fr21, H21, x1021, m1021, B48, f49⟩ := s201_21 I41 rfl q1021
  replace B26 := B26.mq m1021 (by decide) (by simp)
  replace f27 := m1021.get f27 (by decide) (by simp)
  replace B28 := B28.mq m1021 (by decide) (by simp)
  replace f29 := m1021.get f29 (by decide) (by simp)
  replace I30 := I30.mq m1021 (by decide) (by simp)
  replace B31 := B31.mq m1021 (by decide) (by simp)
  replace L32 := L32.mq m1021 (by decide) (by simp)
  replace B33 := B33.mq m1021 (by decide) (by simp)
  replace f34 := m1021.get f34 (by decide) (by simp)
  replace B35 := B35.mq m1021 (by decide) (by simp)
  replace f36 := m1021.get f36 (by decide) (by simp)
  replace f37 := m1021.get f37 (by decide) (by simp)
  replace f38 := m1021.get f38 (by decide) (by simp)
  replace f39 := m1021.get f39 (by decide) (by simp)
  replace f40 := m1021.get f40 (by decide) (by simp)
  replace I41 := I41.mq m1021 (by decide) (by simp)
  replace B42 := B42.mq m1021 (by decide) (by simp)
  replace f43 := m1021.get f43 (by decide) (by simp)
  replace B44 := B44.mq m1021 (by decide) (by simp)
  replace f45 := m1021.get f45 (by decide) (by simp)
  replace B46 := B46.mq m1021 (by decide) (by simp)
  replace f47 := m1021.get f47 (by decide) (by simp)
  obtain ⟨fr22, H22, x41, m41⟩ := s201_22 I41 hL1 hL5 hL9 hLA B26 f27 B28 f29 B33 f34 B35 f36 f37 f38 f39 f40 w66 B42 f43 B44 f45 B46 f47 B48 f49
  replace I30 := I30.mq m41 (by decide) (by simp)
  replace B31 := B31.mq m41 (by decide) (by simp)
  replace L32 := L32.mq m41 (by decide) (by simp)
  replace B33 := B33.mq m41 (by decide) (by simp)
  replace f34 := m41.get f34 (by decide) (by simp)
  replace f37 := m41.get f37 (by decide) (by simp)
  replace f38 := m41.get f38 (by decide) (by simp)
  replace I41 := I41.mq m41 (by decide) (by simp)
  replace B42 := B42.mq m41 (by decide) (by simp)
  replace f43 := m41.get f43 (by decide) (by simp)
  replace B46 := B46.mq m41 (by decide) (by simp)
  obtain ⟨fr23, H23, x1023, m1023⟩ := s201_23 I41 B42 f43 B46 w19a w19b
  replace I30 := I30.mq m1023 (by decide) (by simp)
  replace B31 := B31.mq m1023 (by decide) (by simp)
  replace L32 := L32.mq m1023 (by decide) (by simp)
  replace B33 := B33.mq m1023 (by decide) (by simp)
  replace f34 := m1023.get f34 (by decide) (by simp)
  replace f37 := m1023.get f37 (by decide) (by simp)
  replace f38 := m1023.get f38 (by decide) (by simp)
  obtain ⟨fr24, H24, x50, m50⟩ := s201_24 I30 B31 L32 hL5 B33 f34 w1020
  replace I30 := I30.mq m50 (by decide) (by simp)
  replace B31 := B31.mq m50 (by decide) (by simp)
  replace L32 := L32.mq m50 (by decide) (by simp)
  replace f37 := m50.get f37 (by decide) (by simp)
  replace f38 := m50.get f38 (by decide) (by simp)
  obtain ⟨fr25, H25, x12, m12⟩ := s201_25 I30 B31 L32 f37 f38 w1021
  refine ⟨fr25.put 4 (.t (tb true)), H25, ?_, by simp [Fr.get_put]⟩
  refine step_201 rfl x1009 ?_
  refine step_201 rfl x1010 ?_
  refine step_201 rfl x1011 ?_
  refine step_201 rfl x1012 ?_
  refine step_201 rfl x1013 ?_
  refine step_201 rfl x1014 ?_
  refine step_201 rfl x1015 ?_
  refine step_201 rfl x1016 ?_
  refine step_201 rfl x1017 ?_
  refine step_201 rfl x1018 ?_
  refine step_201 rfl x1019 ?_
  refine step_201 rfl x1020 ?_
  refine step_201 rfl x1021 ?_
  refine step_201 rfl x41 ?_
  refine step_201 rfl x1023 ?_
  refine step_201 rfl x50 ?_
  refine step_201 rfl x12 ?_
  simp [rst, ir4_c]
end Go.Proofs.Ytdgfpjlmpnfcgaa.Ev

namespace Go.Proofs.Ytdgfpjlmpnfcgaa.Ev
open Go
set_option linter.unusedVariables false
set_option linter.unusedSimpArgs false
set_option linter.unusedSectionVars false
attribute [local simp] til_getE til_length til_get til_drop til_take til_snoc til_fold take_snoc til_set tlv_getE tlv_length tlv_take
set_option maxHeartbeats 4000000 in
set_option maxRecDepth 20000 in
theorem w201T (a : Nat) (b c : Int) (hgd : good a b c = true) (l : List Int) (hl : l.length = 2 * a) (p : Int) (hok : okP a c (l, p)) (hcm : calmS a c l = true) (hask : askB a b c l p = true) (L : List (Int × List Int)) (hLn : L.length ≤ 2 ^ 30) (hL : L = voysAll a b c (l, p)) (M : T) :
    ∀ (d i : Nat), i + d = L.length →
    loopF env true [1, 5, 6, 7, 153, 154, 155] ir4_b0 ([(1, .t M), (5, .ptr 0 0 0), (6, .ptr 1 0 0), (7, .ref 2 0 L.length), (153, .ref 2 0 L.length), (154, .t (ti L.length)), (155, .t (ti i))], [.box 3 [.t (ti a), .t (ti b), .t (ti c)], .box 2 [.t (tl l), .t (ti p)], .pure 2 (tlv L)]) =
      some (.exit 0, [(1, .t M), (5, .ptr 0 0 0), (6, .ptr 1 0 0), (7, .ref 2 0 L.length), (153, .ref 2 0 L.length), (154, .t (ti L.length)), (155, .t (ti L.length)), (156, .t (tb false))], [.box 3 [.t (ti a), .t (ti b), .t (ti c)], .box 2 [.t (tl l), .t (ti p)], .pure 2 (tlv L)]) := by
  intro d
  induction d with
  | zero =>
    intro i hi
    have : i = L.length := by omega
    subst this
    rw [x4_0]
    simp [ir4_d0]
  | succ d ihd =>
    intro i hi
    rw [x4_0]
    have hgo := good_of hgd
    have hlt : i < L.length := by omega
    have hw : IntKind.i64.wrap ((i : Int) + 1) = (i : Int) + 1 := w76 (by omega)
    have hw2 : IntKind.i64.wrap ((i : Int) - 1) = (i : Int) - 1 := w76 (by omega)
    have hmem : L[i] ∈ voysAll a b c (l, p) := hL ▸ List.getElem_mem hlt
    have hcan := voys_can hmem
    simp only at hcan
    have hpr : ∀ (h0 : 0 < i), befV (L[i - 1]'(by omega)) L[i] := fun h0 => by
      have := voys_pair a b c (l, p)
      rw [← hL, List.pairwise_iff_getElem] at this
      exact this (i - 1) i (by omega) hlt (by omega)
    obtain ⟨b1, b2, b3, b4⟩ := can_back hgd hok hcm hcan
    have hsl := setAll_length L[i].1 L[i].2 l
    have htk : (setAll L[i].1 L[i].2 l).take l.length = setAll L[i].1 L[i].2 l := List.take_of_length_le (by omega)
    have hA := r14 a b c _ l (LN.of l) p L[i].1 _ L[i].2 (LN.of L[i].2)
    have hB := r7 a b c _ _ (LN.of (setAll L[i].1 L[i].2 l)) L[i].1
    have hC := r14 a b c _ _ (LN.of (setAll L[i].1 L[i].2 l)) L[i].1 p _ L[i].2 (LN.of L[i].2)
    have hD := r15 _ _ l l (LN.of l) (LN.of l) (by omega) p p
    have hib : L[i].2.length ≤ 1000000 := by have := (can_in (by omega) hcan).2.1; omega
    have ih := ihd (i + 1) (by omega)
    rw [b4, hsl, b1, Int.toNat_natCast, b3] at hC
    rw [hask, Int.toNat_natCast, hcan] at hA
    rw [b1, b2] at hB
    simp [sailR] at hA hB hC hD
    by_cases hi0 : 0 < i
    · have hprv := hpr hi0
      have hmem2 : L[i - 1]'(by omega) ∈ voysAll a b c (l, p) := hL ▸ List.getElem_mem (by omega)
      have hcan2 := voys_can hmem2
      have hib2 : (L[i - 1]'(by omega)).2.length ≤ 1000000 := by have := (can_in (by omega) hcan2).2.1; omega
      have hE := r16 (L[i - 1]'(by omega)).2 L[i].2 hib2
      have hi1 : i - 1 < L.length := by omega
      have hci : (i : Int) - 1 = ((i - 1 : Nat) : Int) := by omega
      rw [hci] at hw2
      simp at ih
      rcases hprv with hp1 | ⟨hp1, hp2⟩
      · have hn1 : ¬ (L[i].1 < L[i - 1].1) := by omega
        have hn2 : ¬ (L[i - 1].1 = L[i].1) := by omega
        simp [ir4_d0, hlt, hA, hB, hC, hD, til_flat, hsl, htk, hlt, hw, hi0, hci, hw2, hi1, hn1, hn2, ih]
      · have hn1 : ¬ (L[i].1 < L[i - 1].1) := by omega
        rw [hp2] at hE
        simp [ir4_d0, hlt, hA, hB, hC, hD, til_flat, hsl, htk, hlt, hw, hi0, hci, hw2, hi1, hn1, hp1, hE, ih]
    · have hi0' : i = 0 := by omega
      subst hi0'
      rw [show ((0 : Nat) : Int) + 1 = 1 from rfl] at hw
      simp at ih
      simp [ir4_d0, hlt, hA, hB, hC, hD, til_flat, hsl, htk, hlt, hw, ih]
end Go.Proofs.Ytdgfpjlmpnfcgaa.Ev

namespace Go.Proofs.Ytdgfpjlmpnfcgaa.Ev
open Go
set_option linter.unusedVariables false
set_option linter.unusedSimpArgs false
set_option linter.unusedSectionVars false
attribute [local simp] til_getE til_length til_get til_snoc take_snoc til_take tlv_getE tlv_length tlv_take til_set
variable {C : T} {bs : List Int}
theorem r236c (hC : BL C bs) : ∃ a b c l p v H, ownFR env 52 [C] = some (.tup [.agg [.t (ti a), .t (ti b), .t (ti c)], .agg [v, .t (ti p)]], H) ∧ (v = .t (tl l) ∧ H = [] ∨ v = .ref 0 0 l.length ∧ H = [.pure 1 (til l)]) ∧ l.length ≤ 1000 := by
  obtain ⟨a, b, c, l, p, v, X', E, e, _, hv, hl⟩ := r77 hC [z3, z2] [] (by omega) (cur0 C)
  have h1 := hC.cells
  rw [ownF_ir e52 _ rfl]
  simp [z3, z2] at e
  rcases hv with rfl | ⟨k, rfl, hk⟩
  · simp [ir52, ir52_c, e, h1]
    exact ⟨_, _, _, l, _, _, _, ⟨⟨⟨rfl, rfl, rfl⟩, rfl, rfl⟩, rfl⟩, .inl ⟨rfl, rfl⟩, hl⟩
  · have g : ∀ x y z : Blk, (x :: y :: z :: E)[2 + (k + 1)]? = some (.pure 1 (til l)) := fun x y z => by rw [show 2 + (k + 1) = k + 3 by omega]; simpa using hk
    simp at e
    simp [ir52, ir52_c, e, h1, hk, g]
    exact ⟨_, _, _, l, _, _, _, ⟨⟨⟨rfl, rfl, rfl⟩, rfl, rfl⟩, rfl⟩, .inr ⟨rfl, rfl⟩, hl⟩
theorem r223c (hC : BL C bs) : ∃ a b c l p v H, ownFR env 27 [C] = some (.tup [.agg [.t (ti a), .t (ti b), .t (ti c)], .agg [v, .t (ti p)]], H) ∧ (v = .t (tl l) ∧ H = [] ∨ v = .ref 0 0 l.length ∧ H = [.pure 1 (til l)]) ∧ l.length ≤ 1000 := by
  obtain ⟨a, b, c, l, p, v, H, e, hv, hl⟩ := r236c hC
  rw [ownF_ir e27 _ rfl]
  rcases hv with ⟨rfl, rfl⟩ | ⟨rfl, rfl⟩
  · simp [ir27, ir27_c, e]
    exact ⟨_, _, _, l, _, _, _, ⟨⟨⟨rfl, rfl, rfl⟩, rfl, rfl⟩, rfl⟩, .inl ⟨rfl, rfl⟩, hl⟩
  · simp [ir27, ir27_c, e]
    exact ⟨_, _, _, l, _, _, _, ⟨⟨⟨rfl, rfl, rfl⟩, rfl, rfl⟩, rfl⟩, .inr ⟨rfl, rfl⟩, hl⟩
theorem r26 {C1 C2 : T} {n1 n2 : Nat} (h1 : ∀ H, evLen H 1 (.t C1) = some (n1 : Int)) (h2 : ∀ H, evLen H 1 (.t C2) = some (n2 : Int)) :
    ownR env 26 [C1, C2] = some (.t (tb (decide (1048576 < n1 + n2))), []) := by
  rw [own_ir e26 _ rfl]
  by_cases h : (1048576 : Int) < n1
  · have : 1048576 < n1 + n2 := by omega
    simp [ir26, ir26_c, h1, h, this]
  · have hw : IntKind.i64.wrap (1048576 - (n1 : Int)) = 1048576 - n1 := w76 (by omega)
    by_cases h3 : (1048576 : Int) - n1 < n2
    · have : 1048576 < n1 + n2 := by omega
      simp [ir26, ir26_c, h1, h2, h, hw, h3, this]
    · have : ¬ 1048576 < n1 + n2 := by omega
      simp [ir26, ir26_c, h1, h2, h, hw, h3, this]
end Go.Proofs.Ytdgfpjlmpnfcgaa.Ev

namespace Go.Proofs.Ytdgfpjlmpnfcgaa.Ev
open Go
set_option linter.unusedVariables false
set_option linter.unusedSimpArgs false
set_option linter.unusedSectionVars false
attribute [local simp] til_getE til_length til_get til_drop til_take til_snoc til_fold take_snoc til_set tlv_getE tlv_length tlv_take
set_option maxHeartbeats 4000000 in
set_option maxRecDepth 20000 in
theorem w201R (a : Nat) (b c : Int) (hgd : good a b c = true) (l : List Int) (hl : l.length = 2 * a) (p : Int) (hok : okP a c (l, p)) (hcm : calmS a c l = true) (hask : askB a b c l p = true) (L : List (Int × List Int)) (hLn : L.length ≤ 2 ^ 30) (hL : L = voysAll a b c (l, p)) (M : T) :
    ∀ (d i : Nat), i + d = L.length →
    loopF env true [1, 5, 6, 7, 153, 154, 155] ir4_b0 ([(1, .t M), (5, .ptr 0 0 0), (6, .ptr 1 0 0), (7, .ref 2 0 L.length), (153, .ref 2 0 L.length), (154, .t (ti L.length)), (155, .t (ti i))], [.box 3 [.t (ti a), .t (ti b), .t (ti c)], .box 2 [.ref 3 0 l.length, .t (ti p)], .pure 2 (tlv L), .froz 1 (til l)]) =
      some (.exit 0, [(1, .t M), (5, .ptr 0 0 0), (6, .ptr 1 0 0), (7, .ref 2 0 L.length), (153, .ref 2 0 L.length), (154, .t (ti L.length)), (155, .t (ti L.length)), (156, .t (tb false))], [.box 3 [.t (ti a), .t (ti b), .t (ti c)], .box 2 [.ref 3 0 l.length, .t (ti p)], .pure 2 (tlv L), .froz 1 (til l)]) := by
  intro d
  induction d with
  | zero =>
    intro i hi
    have : i = L.length := by omega
    subst this
    rw [x4_0]
    simp [ir4_d0]
  | succ d ihd =>
    intro i hi
    rw [x4_0]
    have hgo := good_of hgd
    have hlt : i < L.length := by omega
    have hw : IntKind.i64.wrap ((i : Int) + 1) = (i : Int) + 1 := w76 (by omega)
    have hw2 : IntKind.i64.wrap ((i : Int) - 1) = (i : Int) - 1 := w76 (by omega)
    have hmem : L[i] ∈ voysAll a b c (l, p) := hL ▸ List.getElem_mem hlt
    have hcan := voys_can hmem
    simp only at hcan
    have hpr : ∀ (h0 : 0 < i), befV (L[i - 1]'(by omega)) L[i] := fun h0 => by
      have := voys_pair a b c (l, p)
      rw [← hL, List.pairwise_iff_getElem] at this
      exact this (i - 1) i (by omega) hlt (by omega)
    obtain ⟨b1, b2, b3, b4⟩ := can_back hgd hok hcm hcan
    have hsl := setAll_length L[i].1 L[i].2 l
    have htk : (setAll L[i].1 L[i].2 l).take l.length = setAll L[i].1 L[i].2 l := List.take_of_length_le (by omega)
    have hA := r14 a b c _ l (LN.of l) p L[i].1 _ L[i].2 (LN.of L[i].2)
    have hB := r7 a b c _ _ (LN.of (setAll L[i].1 L[i].2 l)) L[i].1
    have hC := r14 a b c _ _ (LN.of (setAll L[i].1 L[i].2 l)) L[i].1 p _ L[i].2 (LN.of L[i].2)
    have hD := r15 _ _ l l (LN.of l) (LN.of l) (by omega) p p
    have hib : L[i].2.length ≤ 1000000 := by have := (can_in (by omega) hcan).2.1; omega
    have ih := ihd (i + 1) (by omega)
    rw [b4, hsl, b1, Int.toNat_natCast, b3] at hC
    rw [hask, Int.toNat_natCast, hcan] at hA
    rw [b1, b2] at hB
    simp [sailR] at hA hB hC hD
    by_cases hi0 : 0 < i
    · have hprv := hpr hi0
      have hmem2 : L[i - 1]'(by omega) ∈ voysAll a b c (l, p) := hL ▸ List.getElem_mem (by omega)
      have hcan2 := voys_can hmem2
      have hib2 : (L[i - 1]'(by omega)).2.length ≤ 1000000 := by have := (can_in (by omega) hcan2).2.1; omega
      have hE := r16 (L[i - 1]'(by omega)).2 L[i].2 hib2
      have hi1 : i - 1 < L.length := by omega
      have hci : (i : Int) - 1 = ((i - 1 : Nat) : Int) := by omega
      rw [hci] at hw2
      simp at ih
      rcases hprv with hp1 | ⟨hp1, hp2⟩
      · have hn1 : ¬ (L[i].1 < L[i - 1].1) := by omega
        have hn2 : ¬ (L[i - 1].1 = L[i].1) := by omega
        simp [ir4_d0, hlt, hA, hB, hC, hD, til_flat, hsl, htk, hlt, hw, hi0, hci, hw2, hi1, hn1, hn2, ih]
      · have hn1 : ¬ (L[i].1 < L[i - 1].1) := by omega
        rw [hp2] at hE
        simp [ir4_d0, hlt, hA, hB, hC, hD, til_flat, hsl, htk, hlt, hw, hi0, hci, hw2, hi1, hn1, hp1, hE, ih]
    · have hi0' : i = 0 := by omega
      subst hi0'
      rw [show ((0 : Nat) : Int) + 1 = 1 from rfl] at hw
      simp at ih
      simp [ir4_d0, hlt, hA, hB, hC, hD, til_flat, hsl, htk, hlt, hw, ih]
end Go.Proofs.Ytdgfpjlmpnfcgaa.Ev

namespace Go.Proofs.Ytdgfpjlmpnfcgaa.Ev
open Go
set_option linter.unusedVariables false
set_option linter.unusedSimpArgs false
set_option linter.unusedSectionVars false
attribute [local simp] til_getE til_length til_get til_drop til_take til_snoc til_fold take_snoc til_set tlv_getE tlv_length tlv_take
variable {C1 C2 : T} {bs1 bs2 : List Int}
set_option maxHeartbeats 4000000 in
set_option maxRecDepth 20000 in
theorem r201T (hC1 : BL C1 bs1) (hC2 : BL C2 bs2) (hb : bs1.length + bs2.length ≤ 1048576) {a b c p : Int} {l : List Int} (q27 : ownFR env 27 [C1] = some (.tup [.agg [.t (ti a), .t (ti b), .t (ti c)], .agg [.t (tl l), .t (ti p)]], [])) (hll : l.length ≤ 1000) :
    ownR env 4 [C1, C2] = some (.t (tb true), []) := by
  have hT : ∀ (fr : Fr) (H : Heap), fr.get 1 = .t C2 → ∃ fr' H', execD env (rst 9 ir4_c) (fr, H) = some (.ret, fr', H') ∧ fr'.get 4 = .t (tb true) := fun fr H h => tail201 hC2 h
  rw [own_ir e4 _ rfl]
  have e : ir4.body = .seq (nth 0 ir4_c) (.seq (nth 1 ir4_c) (.seq (nth 2 ir4_c) (.seq (nth 3 ir4_c) (.seq (nth 4 ir4_c) (.seq (nth 5 ir4_c) (.seq (nth 6 ir4_c) (.seq (nth 7 ir4_c) (.seq (nth 8 ir4_c) (rst 9 ir4_c))))))))) := rfl
  rw [e]
  generalize rst 9 ir4_c = TL at *
  have q26 := r26 hC1.len hC2.len
  have hbn : ¬ 1048576 < bs1.length + bs2.length := by omega
  simp only [hbn, decide_false] at q26
  have hX : LN (tl l) l := .inr rfl
  have q1004 := r7 a b c _ l hX p
  have q1005 := r8 a b c _ l hX p
  have q1007 := r10 a b c _ l hX p
  have q1008 := r11 a b c _ l hX p
  have q1002 := r5 a b c _ l hX p
  obtain ⟨Y, hY, q1003⟩ := r6 a b c _ l hX p
  have hfin : ∀ (fr : Fr) (H : Heap), fr.get 1 = .t C2 → andO (endO ir4.res (execD env TL (fr, H))) ownEnd = some (.t (tb true), []) := fun fr H hS => by
    obtain ⟨fr', H', h1, h2⟩ := hT fr H hS
    simp [ir4, h1, h2]
  cases hask : askB a b c l p with
  | false =>
    rw [hask] at q1002 q1003 q1004 q1005 hY
    simp only [Bool.false_eq_true, if_false] at q1002 q1003 hY
    have q1006 := r9 .nil Y [] [] (.inl ⟨rfl, rfl⟩) hY (by simp) (by simp)
    simp at q1006
    cases hpl : plB a b c l p with
    | false =>
      rw [hpl] at q1004 q1005 q1007 q1008
      rcases q1003 with ⟨q1003, rfl⟩ | ⟨q1003, rfl⟩
      · simp [nth, rst, ir4, ir4_c, q26, q27, q1002, q1003, q1004, q1005, q1006, q1007, q1008, hpl]
        exact hfin _ _ (by simp)
      · simp [nth, rst, ir4, ir4_c, q26, q27, q1002, q1003, q1004, q1005, q1006, q1007, q1008, hpl]
        exact hfin _ _ (by simp)
    | true =>
      have hgd : good a b c = true := by unfold plB at hpl; rw [Bool.and_eq_true] at hpl; exact hpl.1
      rw [hpl] at q1004 q1005 q1007 q1008
      rcases q1003 with ⟨q1003, rfl⟩ | ⟨q1003, rfl⟩
      · simp [nth, rst, ir4, ir4_c, q26, q27, q1002, q1003, q1004, q1005, q1006, q1007, q1008, hgd]
        exact hfin _ _ (by simp)
      · simp [nth, rst, ir4, ir4_c, q26, q27, q1002, q1003, q1004, q1005, q1006, q1007, q1008, hgd]
        exact hfin _ _ (by simp)
  | true =>
    obtain ⟨k, rfl, hgd, hl2, hok, hcm⟩ := askB_parts hask
    have hgo := good_of hgd
    have hpl : plB k b c l p = true := by unfold askB at hask; rw [Bool.and_eq_true] at hask; exact hask.1
    have hvl := voysAll_len hgd hok
    have hvc : ∀ v ∈ voysAll k b c (l, p), v.2.length ≤ 2 ^ 40 := fun v hv => by have := (can_in (by omega) (voys_can hv)).2.1; omega
    have hw := w201T k b c hgd l hl2 p hok hcm hask (voysAll k b c (l, p)) (by omega) rfl C2 (voysAll k b c (l, p)).length 0 (by omega)
    rw [hask] at q1002 q1003 q1004 q1005 hY
    rw [hpl] at q1004 q1005 q1007 q1008
    simp only [if_true, Int.toNat_natCast] at q1002 q1003 hY
    have q1006 := r9 (.lst 2 (tlv (voysAll k b c (l, p)))) Y _ _ (.inr rfl) hY (by omega) hvc
    generalize voysAll k b c (l, p) = L at *
    simp at q1006 hw
    rcases q1003 with ⟨q1003, rfl⟩ | ⟨q1003, rfl⟩
    · simp [nth, rst, ir4, ir4_c, q26, q27, q1002, q1003, q1004, q1005, q1006, q1007, q1008, hgd, hw]
      exact hfin _ _ (by simp)
    · simp [nth, rst, ir4, ir4_c, q26, q27, q1002, q1003, q1004, q1005, q1006, q1007, q1008, hgd, hw]
      exact hfin _ _ (by simp)
end Go.Proofs.Ytdgfpjlmpnfcgaa.Ev

namespace Go.Proofs.Ytdgfpjlmpnfcgaa.Ev
open Go
set_option linter.unusedVariables false
set_option linter.unusedSimpArgs false
set_option linter.unusedSectionVars false
attribute [local simp] til_getE til_length til_get til_drop til_take til_snoc til_fold take_snoc til_set tlv_getE tlv_length tlv_take
variable {C1 C2 : T} {bs1 bs2 : List Int}
set_option maxHeartbeats 4000000 in
set_option maxRecDepth 20000 in
theorem r201R (hC1 : BL C1 bs1) (hC2 : BL C2 bs2) (hb : bs1.length + bs2.length ≤ 1048576) {a b c p : Int} {l : List Int} (q27 : ownFR env 27 [C1] = some (.tup [.agg [.t (ti a), .t (ti b), .t (ti c)], .agg [.ref 0 0 l.length, .t (ti p)]], [.pure 1 (til l)])) (hll : l.length ≤ 1000) :
    ownR env 4 [C1, C2] = some (.t (tb true), []) := by
  have hT : ∀ (fr : Fr) (H : Heap), fr.get 1 = .t C2 → ∃ fr' H', execD env (rst 9 ir4_c) (fr, H) = some (.ret, fr', H') ∧ fr'.get 4 = .t (tb true) := fun fr H h => tail201 hC2 h
  rw [own_ir e4 _ rfl]
  have e : ir4.body = .seq (nth 0 ir4_c) (.seq (nth 1 ir4_c) (.seq (nth 2 ir4_c) (.seq (nth 3 ir4_c) (.seq (nth 4 ir4_c) (.seq (nth 5 ir4_c) (.seq (nth 6 ir4_c) (.seq (nth 7 ir4_c) (.seq (nth 8 ir4_c) (rst 9 ir4_c))))))))) := rfl
  rw [e]
  generalize rst 9 ir4_c = TL at *
  have q26 := r26 hC1.len hC2.len
  have hbn : ¬ 1048576 < bs1.length + bs2.length := by omega
  simp only [hbn, decide_false] at q26
  have hX : LN (tl l) l := .inr rfl
  have q1004 := r7 a b c _ l hX p
  have q1005 := r8 a b c _ l hX p
  have q1007 := r10 a b c _ l hX p
  have q1008 := r11 a b c _ l hX p
  have q1002 := r5 a b c _ l hX p
  obtain ⟨Y, hY, q1003⟩ := r6 a b c _ l hX p
  have hfin : ∀ (fr : Fr) (H : Heap), fr.get 1 = .t C2 → andO (endO ir4.res (execD env TL (fr, H))) ownEnd = some (.t (tb true), []) := fun fr H hS => by
    obtain ⟨fr', H', h1, h2⟩ := hT fr H hS
    simp [ir4, h1, h2]
  cases hask : askB a b c l p with
  | false =>
    rw [hask] at q1002 q1003 q1004 q1005 hY
    simp only [Bool.false_eq_true, if_false] at q1002 q1003 hY
    have q1006 := r9 .nil Y [] [] (.inl ⟨rfl, rfl⟩) hY (by simp) (by simp)
    simp at q1006
    cases hpl : plB a b c l p with
    | false =>
      rw [hpl] at q1004 q1005 q1007 q1008
      rcases q1003 with ⟨q1003, rfl⟩ | ⟨q1003, rfl⟩
      · simp [nth, rst, ir4, ir4_c, q26, q27, q1002, q1003, q1004, q1005, q1006, q1007, q1008, hpl]
        exact hfin _ _ (by simp)
      · simp [nth, rst, ir4, ir4_c, q26, q27, q1002, q1003, q1004, q1005, q1006, q1007, q1008, hpl]
        exact hfin _ _ (by simp)
    | true =>
      have hgd : good a b c = true := by unfold plB at hpl; rw [Bool.and_eq_true] at hpl; exact hpl.1
      rw [hpl] at q1004 q1005 q1007 q1008
      rcases q1003 with ⟨q1003, rfl⟩ | ⟨q1003, rfl⟩
      · simp [nth, rst, ir4, ir4_c, q26, q27, q1002, q1003, q1004, q1005, q1006, q1007, q1008, hgd]
        exact hfin _ _ (by simp)
      · simp [nth, rst, ir4, ir4_c, q26, q27, q1002, q1003, q1004, q1005, q1006, q1007, q1008, hgd]
        exact hfin _ _ (by simp)
  | true =>
    obtain ⟨k, rfl, hgd, hl2, hok, hcm⟩ := askB_parts hask
    have hgo := good_of hgd
    have hpl : plB k b c l p = true := by unfold askB at hask; rw [Bool.and_eq_true] at hask; exact hask.1
    have hvl := voysAll_len hgd hok
    have hvc : ∀ v ∈ voysAll k b c (l, p), v.2.length ≤ 2 ^ 40 := fun v hv => by have := (can_in (by omega) (voys_can hv)).2.1; omega
    have hw := w201R k b c hgd l hl2 p hok hcm hask (voysAll k b c (l, p)) (by omega) rfl C2 (voysAll k b c (l, p)).length 0 (by omega)
    rw [hask] at q1002 q1003 q1004 q1005 hY
    rw [hpl] at q1004 q1005 q1007 q1008
    simp only [if_true, Int.toNat_natCast] at q1002 q1003 hY
    have q1006 := r9 (.lst 2 (tlv (voysAll k b c (l, p)))) Y _ _ (.inr rfl) hY (by omega) hvc
    generalize voysAll k b c (l, p) = L at *
    simp at q1006 hw
    rcases q1003 with ⟨q1003, rfl⟩ | ⟨q1003, rfl⟩
    · simp [nth, rst, ir4, ir4_c, q26, q27, q1002, q1003, q1004, q1005, q1006, q1007, q1008, hgd, hw]
      exact hfin _ _ (by simp)
    · simp [nth, rst, ir4, ir4_c, q26, q27, q1002, q1003, q1004, q1005, q1006, q1007, q1008, hgd, hw]
      exact hfin _ _ (by simp)
end Go.Proofs.Ytdgfpjlmpnfcgaa.Ev

namespace Go.Proofs.Ytdgfpjlmpnfcgaa.Ev
open Go
set_option linter.unusedVariables false
set_option linter.unusedSimpArgs false
def wfB (ts : List T) : Prop := ∃ n, ts = [.int .u8 n] ∧ (Lit.int .u8 n).wf = true
def wfBs (ts : List T) : Prop := ts = [.nil] ∨ ∃ els : List (List T), ts = [.lst 1 (els.map fun x => x.headD .nil)] ∧ ∀ x ∈ els, wfB x
theorem bytes_of : ∀ (els : List (List T)), (∀ x ∈ els, wfB x) → ∃ bs : List Int, (els.map fun x => x.headD .nil) = bs.map (T.int .u8) ∧ ∀ b ∈ bs, 0 ≤ b ∧ b < 256
  | [], _ => ⟨[], rfl, by simp⟩
  | x :: els, h => by
    obtain ⟨n, rfl, hn⟩ := h x (List.mem_cons_self ..)
    obtain ⟨bs, h1, h2⟩ := bytes_of els fun x hx => h x (List.mem_cons_of_mem _ hx)
    refine ⟨n :: bs, by rw [List.map_cons, h1]; rfl, fun b hb => ?_⟩
    rcases List.mem_cons.1 hb with rfl | hb
    · simp only [Lit.wf, Bool.and_eq_true, decide_eq_true_eq] at hn
      have e1001 : IntKind.u8.min = 0 := by decide
      have e1002 : IntKind.u8.max = 255 := by decide
      omega
    · exact h2 b hb
theorem bl_of {ts : List T} (h : wfBs ts) : ∃ C bs, ts = [C] ∧ (∀ H, evLen H 1 (.t C) = some (bs.length : Int)) ∧ (bs.length ≤ 2 ^ 30 → BL C bs) := by
  rcases h with rfl | ⟨els, rfl, h⟩
  · exact ⟨.nil, [], rfl, fun H => rfl, fun _ => ⟨fun H => rfl, fun H i h => by simp at h, by simp, by simp⟩⟩
  · obtain ⟨bs, h1, h2⟩ := bytes_of els h
    rw [h1]
    exact ⟨_, bs, rfl, fun H => by simp, fun hs => ⟨fun H => by simp, fun H i h => by simp [h], h2, hs⟩⟩
theorem big_true {C1 C2 : T} {n1 n2 : Nat} (h1 : ∀ H, evLen H 1 (.t C1) = some (n1 : Int)) (h2 : ∀ H, evLen H 1 (.t C2) = some (n2 : Int)) (hb : 1048576 < n1 + n2) : ownR env 4 [C1, C2] = some (.t (tb true), []) := by
  have q26 := r26 h1 h2
  simp only [hb, decide_true] at q26
  rw [own_ir e4 _ rfl]
  have e : ir4.body = .seq (nth 0 ir4_c) (.seq (nth 1 ir4_c) (rst 2 ir4_c)) := rfl
  rw [e]
  generalize rst 2 ir4_c = TL
  simp [nth, rst, ir4, ir4_c, q26]
theorem r4_top {t1000 t1001 : List T} (h0 : wfBs t1000) (h1 : wfBs t1001) : ∃ C1 C2, t1000 = [C1] ∧ t1001 = [C2] ∧ ownR env 4 [C1, C2] = some (.t (tb true), []) := by
  obtain ⟨C1, bs1, rfl, l1001, k1001⟩ := bl_of h0
  obtain ⟨C2, bs2, rfl, l1002, k1002⟩ := bl_of h1
  refine ⟨C1, C2, rfl, rfl, ?_⟩
  by_cases hb : 1048576 < bs1.length + bs2.length
  · exact big_true l1001 l1002 hb
  · have hC1 := k1001 (by omega)
    have hC2 := k1002 (by omega)
    obtain ⟨a, b, c, l, p, v, H2, q, hv, hl⟩ := r223c hC1
    rcases hv with ⟨rfl, rfl⟩ | ⟨rfl, rfl⟩
    · exact r201T hC1 hC2 (by omega) q hl
    · exact r201R hC1 hC2 (by omega) q hl
end Go.Proofs.Ytdgfpjlmpnfcgaa.Ev

