/- The evaluator and what it gives of the functions, part 3. No conditions of ours: a law's row is in YtgmcjejelpeioaaLFnExactCountVoyages. -/
import Derived.Test.YtgmcjejelpeioaaE2
namespace Go.Proofs.Ytgmcjejelpeioaa.Ev
open Go
set_option linter.unusedVariables false
set_option linter.unusedSimpArgs false
attribute [local simp] til_getE til_length til_get til_drop til_take til_snoc til_fold take_snoc til_set
structure Ext (W W' : Nat → Prop) (H H' : Heap) : Prop where
  len : H.length ≤ H'.length
  own : ∀ id, W' id → W id ∨ H.length ≤ id
  keep : ∀ id, id < H.length → ¬ W id → H'[id]? = H[id]?
theorem Ext.trans {W W' W'' : Nat → Prop} {H H' H'' : Heap} (h : Ext W W' H H') (h' : Ext W' W'' H' H'') : Ext W W'' H H'' := by
  refine ⟨Nat.le_trans h.len h'.len, fun id hid => ?_, fun id hid hn => ?_⟩
  · rcases h'.own id hid with h1 | h1
    · exact h.own id h1
    · exact .inr (Nat.le_trans h.len h1)
  · rw [h'.keep id (Nat.lt_of_lt_of_le hid h.len) (fun hw => by
      rcases h.own id hw with h1 | h1
      · exact hn h1
      · omega)]
    exact h.keep id hid hn
theorem Ext.app {W : Nat → Prop} {H : Heap} (X : Heap) : Ext W W H (H ++ X) := ⟨by simp, fun id h => .inl h, fun id hid _ => get_app hid⟩
theorem Ext.get {W W' : Nat → Prop} {H H' : Heap} (h : Ext W W' H H') {id : Nat} {b : Blk} (hb : H[id]? = some b) (hn : ¬ W id) : H'[id]? = some b := by
  rw [h.keep id (List.getElem?_eq_some_iff.1 hb).1 hn]; exact hb
theorem Ext.not {W W' : Nat → Prop} {H H' : Heap} (h : Ext W W' H H') {id : Nat} (hid : id < H.length) (hn : ¬ W id) : ¬ W' id := fun hw => by
  rcases h.own id hw with h1 | h1
  · exact hn h1
  · omega
@[simp] theorem set_app0 {α : Type} (H : List α) (a b : α) (X : List α) : (H ++ a :: X).set H.length b = H ++ b :: X := by simp
@[simp] theorem set_app1 {α : Type} (H : List α) (a a1 b : α) (X : List α) : (H ++ a :: a1 :: X).set (H.length + 1) b = H ++ a :: b :: X := by simp
@[simp] theorem set_app2 {α : Type} (H : List α) (a a1 a2 b : α) (X : List α) : (H ++ a :: a1 :: a2 :: X).set (H.length + 2) b = H ++ a :: a1 :: b :: X := by simp
def Ends (r : Option Out) (e : Ex) (H : Heap) : Prop := ∃ fr, r = some (e, fr, H)
@[simp] theorem ends_some (e e' : Ex) (fr : Fr) (H H' : Heap) : Ends (some (e, fr, H)) e' H' ↔ e = e' ∧ H = H' := by
  constructor
  · rintro ⟨_, h⟩; cases h; exact ⟨rfl, rfl⟩
  · rintro ⟨rfl, rfl⟩; exact ⟨_, rfl⟩
structure GB (H : Heap) (ip im ie io : Nat) (people : List Int) (most : Int) (f : FuncId) (ps : List V) : Prop where
  p : H[ip]? = some (.box 1 [.t (tl people)])
  m : H[im]? = some (.box 1 [.t (ti most)])
  e : H[ie]? = some (.box 1 [.clo f [] ps])
  o : H[io]? = some (.box 1 [.clo 71 [] [.ptr ip 0 0, .ptr im 0 0, .ptr ie 0 0, .ptr io 0 0]])
theorem GB.ext {H H' : Heap} {ip im ie io : Nat} {people : List Int} {most : Int} {f : FuncId} {ps : List V} (h : GB H ip im ie io people most f ps) {W W' : Nat → Prop} (he : Ext W W' H H') (h1 : ¬ W ip) (h2 : ¬ W im) (h3 : ¬ W ie) (h4 : ¬ W io) : GB H' ip im ie io people most f ps :=
  ⟨he.get h.p h1, he.get h.m h2, he.get h.e h3, he.get h.o h4⟩

section
variable {f : FuncId} {ps : List V} {Inv : List (List Int) → (Nat → Prop) → Heap → Prop} {ok : List Int → Prop} {M : Nat} (hs : Steps f ps Inv ok M) (ip im ie io : Nat) (people : List Int) (most : Int)
def Stp (r : Option (V × Heap)) (gs new : List (List Int)) (W : Nat → Prop) (H : Heap) : Prop := ∃ v H' W', r = some (v, H') ∧ Inv (gs ++ new) W' H' ∧ Ext W W' H H'
include hs in
theorem l71 (hpl : people.length ≤ 20) (hm : most ≤ 100) (l : List Int) (B : T) (hB : B = .nil ∧ l = [] ∨ B = tl l) (hl : (l.length : Int) ≤ 1000) (i0 : Nat)
    (hok : ∀ g ∈ grps most (people.drop i0) l, ok g)
    (ih : (l.length : Int) < most → ∀ (j : Nat), i0 ≤ j → (hj : j < people.length) → (∀ g ∈ grps most (people.drop (j + 1)) (l ++ [people[j]]), ok g) → ∀ gs W H, gs.length + (grps most (people.drop (j + 1)) (l ++ [people[j]])).length ≤ M → GB H ip im ie io people most f ps → ¬ W ip → ¬ W im → ¬ W ie → ¬ W io → Inv gs W H →
      Stp (Inv := Inv) (den env 71 [.t (ti ((j : Int) + 1)), .t (tl (l ++ [people[j]])), .ptr ip 0 0, .ptr im 0 0, .ptr ie 0 0, .ptr io 0 0] H) gs (grps most (people.drop (j + 1)) (l ++ [people[j]])) W H) :
    ∀ (d j : Nat) gs W H, j + d = people.length → i0 ≤ j → (∀ g ∈ grps most (people.drop j) l, ok g) → gs.length + (grps most (people.drop j) l).length ≤ M → GB H ip im ie io people most f ps → ¬ W ip → ¬ W im → ¬ W ie → ¬ W io → Inv gs W H →
    ∃ H' W', Ends (loopF env false [1, 2, 3, 4, 5, 8] ir71_b0 ([(1, .t B), (2, .ptr ip 0 0), (3, .ptr im 0 0), (4, .ptr ie 0 0), (5, .ptr io 0 0), (8, .t (ti j))], H)) (.exit 0) H' ∧ Inv (gs ++ grps most (people.drop j) l) W' H' ∧ Ext W W' H H'
  | 0, j, gs, W, H, hj, hi0, hok2, hM, hG, h1, h2, h3, h4, hI => by
    have : j = people.length := by omega
    subst this
    rw [x71_0]
    refine ⟨H, W, ?_, by simpa [grps] using hI, by simpa using Ext.app (W := W) (H := H) []⟩
    simp [ir71_d0, hG.p, hG.m]
  | d + 1, j, gs, W, H, hj, hi0, hok2, hM, hG, h1, h2, h3, h4, hI => by
    rw [x71_0]
    have hlt : j < people.length := by omega
    have hlen := fun H => lenB H B l hB
    by_cases hlm : (l.length : Int) < most
    · have hw : IntKind.i64.wrap ((j : Int) + 1) = (j : Int) + 1 := w64 (by omega)
      have hcl := cloneB B l hB (by omega)
      have hg : grps most (people.drop j) l = (l ++ [people[j]]) :: (grps most (people.drop (j + 1)) (l ++ [people[j]]) ++ grps most (people.drop (j + 1)) l) := by
        rw [List.drop_eq_getElem_cons hlt]; simp [grps, hlm]
      rw [hg] at hok2 hM ⊢
      simp only [List.length_cons, List.length_append] at hM
      have hsm := hs.small gs W H hI
      have hI1 : Inv gs W (H ++ [.dead, .pure 1 [.int .i64 people[j]], .froz 1 (til (l ++ [people[j]]))]) := hs.stable gs W H _ hI (by simp) (fun id hid => get_app (hsm id hid))
      obtain ⟨v, H2, W2, hc, hlen2, hI2, ho2, hk2⟩ := hs.step gs W _ _ (by omega) (hok2 _ (List.mem_cons_self ..)) hI1
      have hE1 : Ext W W H (H ++ [.dead, .pure 1 [.int .i64 people[j]], .froz 1 (til (l ++ [people[j]]))]) := Ext.app _
      have hE2 : Ext W W2 (H ++ [.dead, .pure 1 [.int .i64 people[j]], .froz 1 (til (l ++ [people[j]]))]) H2 := ⟨hlen2, ho2, hk2⟩
      have hE := hE1.trans hE2
      have hz : H2[H.length + 2]? = some (.froz 1 (til (l ++ [people[j]]))) := hE2.get (by simp) (fun hw => by have := hsm _ hw; omega)
      have hG2 := hG.ext hE h1 h2 h3 h4
      have hip := (List.getElem?_eq_some_iff.1 hG.p).1
      have him := (List.getElem?_eq_some_iff.1 hG.m).1
      have hie := (List.getElem?_eq_some_iff.1 hG.e).1
      have hio := (List.getElem?_eq_some_iff.1 hG.o).1
      obtain ⟨v3, H3, W3, hc3, hI3, hE3⟩ := ih hlm j hi0 hlt (fun g hg => hok2 g (List.mem_cons_of_mem _ (List.mem_append_left _ hg))) _ W2 H2 (by simp only [List.length_append, List.length_singleton]; omega) hG2 (hE.not hip h1) (hE.not him h2) (hE.not hie h3) (hE.not hio h4) hI2
      have hE4 := hE.trans hE3
      have hG3 := hG.ext hE4 h1 h2 h3 h4
      obtain ⟨H4, W4, ⟨fr', hc4⟩, hI4, hE5⟩ := l71 hpl hm l B hB hl i0 hok ih d (j + 1) _ W3 H3 (by omega) (by omega) (fun g hg => hok2 g (List.mem_cons_of_mem _ (List.mem_append_right _ hg))) (by simp only [List.length_append, List.length_singleton]; omega) hG3 (hE4.not hip h1) (hE4.not him h2) (hE4.not hie h3) (hE4.not hio h4) hI3
      refine ⟨H4, W4, ?_, by simpa using hI4, hE4.trans hE5⟩
      have gp := get_app2 (X := [.dead, .pure 1 [.int .i64 people[j]]]) hG.p
      have hpX : ∀ X, (H ++ X)[ip]? = some (.box 1 [.t (tl people)]) := fun X => get_app2 hG.p
      have heX : ∀ X, (H ++ X)[ie]? = some (.box 1 [.clo f [] ps]) := fun X => get_app2 hG.e
      simp at hc hc3 hc4 hz
      simp [ir71_d0, show l.length ≤ 68719476735 by omega, hG.p, hG.m, hlt, hlen, hlm, hcl, hpX, heX, hw, hs.call, hs.ra, hc, hz, hG2.o, hc3, hc4]
    · have hg : grps most (people.drop j) l = [] := grps_full _ _ _ hlm
      rw [hg]
      refine ⟨H, W, ?_, by simpa using hI, by simpa using Ext.app (W := W) (H := H) []⟩
      simp [ir71_d0, hG.p, hG.m, hlt, hlen, hlm]
include hs in
theorem d71 (hpl : people.length ≤ 20) (hm : most ≤ 100) : ∀ (d i : Nat) (l : List Int) (B : T), i + d = people.length → (B = .nil ∧ l = [] ∨ B = tl l) → (l.length : Int) ≤ 1000 - d → (∀ g ∈ grps most (people.drop i) l, ok g) → ∀ gs W H, gs.length + (grps most (people.drop i) l).length ≤ M → GB H ip im ie io people most f ps → ¬ W ip → ¬ W im → ¬ W ie → ¬ W io → Inv gs W H →
    Stp (Inv := Inv) (den env 71 [.t (ti i), .t B, .ptr ip 0 0, .ptr im 0 0, .ptr ie 0 0, .ptr io 0 0] H) gs (grps most (people.drop i) l) W H := by
  intro d
  induction d using Nat.strongRecOn with
  | ind d ih =>
    intro i l B hi hB hl hok gs W H hM hG h1 h2 h3 h4 hI
    obtain ⟨H', W', ⟨fr, hr⟩, hI', hE⟩ := l71 hs ip im ie io people most hpl hm l B hB (by omega) i hok (fun hlm j hij hj hok' gs W H hM hG h1 h2 h3 h4 hI => by
      have := ih (people.length - (j + 1)) (by omega) (j + 1) (l ++ [people[j]]) (tl (l ++ [people[j]])) (by omega) (.inr rfl) (by rw [List.length_append, List.length_singleton]; omega) hok' gs W H hM hG h1 h2 h3 h4 hI
      rw [Int.natCast_add, Int.natCast_one] at this
      exact this) d i gs W H hi (Nat.le_refl _) hok hM hG h1 h2 h3 h4 hI
    refine ⟨.tup [], H', W', ?_, hI', hE⟩
    rw [den_ir e71 _ _ rfl (.inl rfl)]
    simp [ir71, ir71_c, hr]
theorem d59 {f : FuncId} {caps : List V} (people : List Int) (most : Int) (hs : Steps f caps Inv ok M) (hpl : people.length ≤ 20) (hm : most ≤ 100) (hok : ∀ g ∈ grps most people [], ok g) (gs : List (List Int)) (W : Nat → Prop) (H : Heap) (hM : gs.length + (grps most people []).length ≤ M) (hI : Inv gs W H) :
    Stp (Inv := Inv) (den env 59 [.t (tl people), .t (ti most), .clo f [] caps] H) gs (grps most people []) W H := by
  have hsm := hs.small gs W H hI
  have hn : ∀ k, ¬ W (H.length + k) := fun k hw => by have := hsm _ hw; omega
  have hI1 := hs.stable gs W H (H ++ [.box 1 [.t (tl people)], .box 1 [.t (ti most)], .box 1 [.clo f [] caps], .box 1 [.clo 71 [] [.ptr H.length 0 0, .ptr (H.length + 1) 0 0, .ptr (H.length + 2) 0 0, .ptr (H.length + 3) 0 0]]]) hI (by simp) (fun id hid => get_app (hsm id hid))
  obtain ⟨v, H', W', hr, hI', hE⟩ := d71 hs H.length (H.length + 1) (H.length + 2) (H.length + 3) people most hpl hm people.length 0 [] .nil (by omega) (.inl ⟨rfl, rfl⟩) (by simp; omega) hok gs W _ hM ⟨by simp, by simp, by simp, by simp⟩ (hn 0) (hn 1) (hn 2) (hn 3) hI1
  refine ⟨.tup [], H', W', ?_, hI', (Ext.app _).trans hE⟩
  rw [den_ir e59 _ _ rfl (.inl rfl)]
  simp at hr
  simp [ir59, ir59_c, hr]
end
end Go.Proofs.Ytgmcjejelpeioaa.Ev
namespace Go.Proofs.Ytgmcjejelpeioaa.Ev
open Go
set_option linter.unusedVariables false
set_option linter.unusedSimpArgs false
attribute [local simp] til_getE til_length til_get til_drop til_take til_snoc til_fold take_snoc til_set
def cansP (c : Int) (l : List Int) (t : Int) (gl : List (List Int)) : List (Int × List Int) := (gl.filter fun g => calmI g g && calmP c (setAll t g l)).map fun g => (t, g)
theorem cansP_len (c : Int) (l : List Int) (t : Int) (gl : List (List Int)) : (cansP c l t gl).length ≤ gl.length := by simp [cansP]; exact List.length_filter_le _ _
theorem cansP_snoc (c : Int) (l : List Int) (t : Int) (gl : List (List Int)) (g : List Int) (vs : List (Int × List Int)) : vs ++ cansP c l t (gl ++ [g]) = if calmI g g && calmP c (setAll t g l) then (vs ++ cansP c l t gl) ++ [(t, g)] else vs ++ cansP c l t gl := by
  unfold cansP
  rw [List.filter_append, List.map_append]
  split <;> simp_all
def InvV (iw is it io : Nat) (a b c : Int) (l : List Int) (p t : Int) (vs : List (Int × List Int)) (gs : List (List Int)) (W : Nat → Prop) (H : Heap) : Prop :=
  ∃ k, CbIn H iw is it io k a b c l p t (vs ++ cansP c l t gs) ∧ ∀ id, W id ↔ (id = iw ∨ id = is ∨ id = it ∨ id = io ∨ id = k)
theorem CbIn.lt {H : Heap} {iw is it io k : Nat} {a b c : Int} {l : List Int} {p t : Int} {vs : List (Int × List Int)} (h : CbIn H iw is it io k a b c l p t vs) : iw < H.length ∧ is < H.length ∧ it < H.length ∧ io < H.length ∧ k < H.length :=
  ⟨(List.getElem?_eq_some_iff.1 h.w).1, (List.getElem?_eq_some_iff.1 h.s).1, (List.getElem?_eq_some_iff.1 h.t).1, (List.getElem?_eq_some_iff.1 h.o).1, (List.getElem?_eq_some_iff.1 h.v).1⟩
theorem stepsV (iw is it io : Nat) (a b c : Int) (hc : 0 ≤ c ∧ c ≤ 2) (l : List Int) (hl : l.length ≤ 100) (p t : Int) (vs : List (Int × List Int)) (hvs : vs.length ≤ 2 ^ 25) :
    Steps 60 [.ptr iw 0 0, .ptr is 0 0, .ptr it 0 0, .ptr io 0 0] (InvV iw is it io a b c l p t vs) (fun g => g.length ≤ 100 ∧ ∀ x ∈ g, 0 ≤ x ∧ x < l.length) (2 ^ 20) := by
  refine ⟨fun i o n H => by simp, fun H => by simp, ?_, ?_, ?_⟩
  · rintro gs W H g hM ⟨hg, hk⟩ ⟨k, hI, hW⟩
    have := cansP_len c l t gs
    obtain ⟨v, H', k', h1, h2, h3, h4, h5⟩ := d60 H iw is it io k a b c hc l hl p t _ (by rw [List.length_append]; omega) hI g hg hk
    rw [← cansP_snoc] at h4
    refine ⟨v, H', fun id => (id = iw ∨ id = is ∨ id = it ∨ id = io ∨ id = k'), h1, h2, ⟨k', h4, fun id => Iff.rfl⟩, fun id hid => ?_, fun id hid hn => ?_⟩
    · rw [hW]
      rcases hid with h | h | h | h | h
      · simp [h]
      · simp [h]
      · simp [h]
      · simp [h]
      · rcases h3 with h3 | h3
        · left; simp [h, h3]
        · right; omega
    · rw [hW] at hn
      exact h5 id hid (fun e => hn (by simp [e])) (fun e => hn (by simp [e]))
  · rintro gs W H H' ⟨k, hI, hW⟩ hlen hk
    exact ⟨k, ⟨(hk _ ((hW _).2 (by simp))).trans hI.w, (hk _ ((hW _).2 (by simp))).trans hI.s, (hk _ ((hW _).2 (by simp))).trans hI.t, (hk _ ((hW _).2 (by simp))).trans hI.o, (hk _ ((hW _).2 (by simp))).trans hI.v⟩, hW⟩
  · rintro gs W H ⟨k, hI, hW⟩ id hid
    have := hI.lt
    rcases (hW id).1 hid with h | h | h | h | h <;> omega

def voysP (b c : Int) (l : List Int) (p : Int) (i d : Nat) : List (Int × List Int) := (List.range' i d).flatMap fun t : Nat => if (t : Int) = p then [] else cansP c l (t : Int) (grps b (stand p 0 l) [])
theorem stand_in (p : Int) : ∀ (xs : List Int) (i : Nat), ∀ x ∈ stand p i xs, (i : Int) ≤ x ∧ x < ((i + xs.length : Nat) : Int)
  | [], i, x, h => by simp [stand] at h
  | y :: ys, i, x, h => by
    simp only [stand] at h
    have ih := stand_in p ys (i + 1) x
    split at h
    · rcases List.mem_cons.1 h with rfl | h
      · simp; omega
      · have := ih h; simp at this ⊢; omega
    · have := ih h; simp at this ⊢; omega
theorem grps_sub (most : Int) : ∀ (rest l g : List Int), g ∈ grps most rest l → ∀ x ∈ g, x ∈ l ∨ x ∈ rest
  | [], _, g, h => by simp [grps] at h
  | y :: rest, l, g, h => by
    intro x hx
    simp only [grps] at h
    split at h
    · rcases List.mem_cons.1 h with rfl | h
      · rcases List.mem_append.1 hx with h | h
        · exact .inl h
        · right; simp at h; simp [h]
      · rcases List.mem_append.1 h with h | h
        · rcases grps_sub most rest _ g h x hx with h | h
          · rcases List.mem_append.1 h with h | h
            · exact .inl h
            · right; simp at h; simp [h]
          · right; exact List.mem_cons_of_mem _ h
        · rcases grps_sub most rest _ g h x hx with h | h
          · exact .inl h
          · right; exact List.mem_cons_of_mem _ h
    · cases h
theorem stand_len (p : Int) : ∀ (xs : List Int) (i : Nat), (stand p i xs).length ≤ xs.length
  | [], i => by simp [stand]
  | y :: ys, i => by
    simp only [stand]
    have := stand_len p ys (i + 1)
    split <;> simp <;> omega
theorem l43 (a b c : Int) (hb : b ≤ 3) (hc : 0 ≤ c ∧ c ≤ 2) (l : List Int) (hl : l.length ≤ 9) (p : Int) : ∀ (d i : Nat) (out : List (Int × List Int)) (B : Blk) (hB : B = .pure 1 (til (stand p 0 l)) ∨ B = .froz 1 (til (stand p 0 l))), ((i + d : Nat) : Int) = c + 2 → out.length + 1024 * d ≤ 2 ^ 20 →
    ∃ B', loopF env true [2, 3, 5, 6, 15, 16] ir43_b0 ([(2, .ptr 0 0 0), (3, .ptr 1 0 0), (5, .ptr 2 0 0), (6, .ref 3 0 (stand p 0 l).length), (15, .t (ti (c + 2))), (16, .t (ti i))], [.box 3 [.t (ti a), .t (ti b), .t (ti c)], .box 2 [.t (tl l), .t (ti p)], .box 1 [.ref 4 0 out.length], B, .pure 2 (tlv out)]) =
      some (.exit 0, [(2, .ptr 0 0 0), (3, .ptr 1 0 0), (5, .ptr 2 0 0), (6, .ref 3 0 (stand p 0 l).length), (15, .t (ti (c + 2))), (16, .t (ti (c + 2))), (17, .t (tb false))], [.box 3 [.t (ti a), .t (ti b), .t (ti c)], .box 2 [.t (tl l), .t (ti p)], .box 1 [.ref 4 0 (out ++ voysP b c l p i d).length], B', .pure 2 (tlv (out ++ voysP b c l p i d))])
  | 0, i, out, B, hB, hi, ho => by
    rw [x43_0]
    have hlt : (i : Int) = c + 2 := by omega
    refine ⟨B, ?_⟩
    simp [ir43_d0, voysP, hlt]
  | d + 1, i, out, B, hB, hi, ho => by
    rw [x43_0]
    have hlt : (i : Int) < c + 2 := by omega
    have hw : IntKind.i64.wrap ((i : Int) + 1) = (i : Int) + 1 := w64 (by omega)
    have hv : voysP b c l p i (d + 1) = (if (i : Int) = p then [] else cansP c l (i : Int) (grps b (stand p 0 l) [])) ++ voysP b c l p (i + 1) d := by
      simp [voysP, List.range'_succ]
    by_cases hp : (i : Int) = p
    · obtain ⟨B', ih⟩ := l43 a b c hb hc l hl p d (i + 1) out B hB (by omega) (by omega)
      refine ⟨B', ?_⟩
      rw [hv, if_pos hp, List.nil_append]
      generalize voysP b c l p (i + 1) d = V1 at *
      simp at ih
      subst hp
      rcases hB with rfl | rfl <;> simp [ir43_d0, hlt, hw, ih]
    · have hst := stand_len p l 0
      have hsl := stand_in p l 0
      have hgl := grps_len b (stand p 0 l) []
      have hp2 : 2 ^ (stand p 0 l).length ≤ 2 ^ 9 := Nat.pow_le_pow_right (by decide) (by omega)
      have hcl := cansP_len c l i (grps b (stand p 0 l) [])
      obtain ⟨v, H', W', hr, ⟨k, hI, hW⟩, hE⟩ := d59 (stand p 0 l) b (stepsV 0 1 5 2 a b c hc l (by omega) p i out (by omega)) (by omega) (by omega) (fun g hg => by
        have h1 := grps_lens b (stand p 0 l) [] g hg
        refine ⟨by omega, fun x hx => ?_⟩
        rcases grps_sub b (stand p 0 l) [] g hg x hx with h | h
        · cases h
        · have := hsl x h; simp at this; omega) [] (fun id => id = 0 ∨ id = 1 ∨ id = 5 ∨ id = 2 ∨ id = 4)
        [.box 3 [.t (ti a), .t (ti b), .t (ti c)], .box 2 [.t (tl l), .t (ti p)], .box 1 [.ref 4 0 out.length], .froz 1 (til (stand p 0 l)), .pure 2 (tlv out), .box 1 [.t (ti i)]] (by simp; omega) ⟨4, ⟨rfl, rfl, rfl, by simp [cansP], by simp [cansP]⟩, fun id => Iff.rfl⟩
      have h3 : H'[3]? = some (.froz 1 (til (stand p 0 l))) := by rw [hE.keep 3 (by simp) (by simp)]; rfl
      obtain ⟨B', ih⟩ := l43 a b c hb hc l hl p d (i + 1) (out ++ cansP c l i (grps b (stand p 0 l) [])) _ (.inr rfl) (by omega) (by rw [List.length_append]; omega)
      refine ⟨B', ?_⟩
      rw [hv, if_neg hp]
      rw [List.nil_append] at hI
      have hk0 : k ≠ 0 := fun e => by have := hI.w; rw [← e, hI.v] at this; cases this
      have hk1 : k ≠ 1 := fun e => by have := hI.s; rw [← e, hI.v] at this; cases this
      have hk2 : k ≠ 2 := fun e => by have := hI.o; rw [← e, hI.v] at this; cases this
      have hk3 : k ≠ 3 := fun e => by rw [← e, hI.v] at h3; cases h3
      have hIw := hI.w
      have hIs := hI.s
      have hIo := hI.o
      have hIv := hI.v
      rw [← List.append_assoc]
      generalize cansP c l i (grps b (stand p 0 l) []) = G1 at *
      generalize voysP b c l p (i + 1) d = V1 at *
      simp at ih hr hIo hIv
      rcases hB with rfl | rfl <;> simp [ir43_d0, hlt, hp, hw, hr, hIw, hIs, hIo, hIv, h3, hk0, hk1, hk2, hk3, hk0.symm, hk1.symm, hk2.symm, hk3.symm, ih]
theorem r43 (a b c : Int) (hb : b ≤ 3) (hc : 0 ≤ c ∧ c ≤ 2) (l : List Int) (hl : l.length ≤ 9) (p : Int) : ownFR env 43 [.agg [ti a, ti b, ti c], .agg [tl l, ti p]] = some (.ref 0 0 (voysP b c l p 0 (c + 2).toNat).length, [.pure 2 (tlv (voysP b c l p 0 (c + 2).toNat))]) := by
  rw [ownF_ir e43 _ rfl]
  have h58 := r58 l p p (by omega)
  have h49 := r49 a b c (by omega)
  have hw2 : IntKind.i64.wrap (c + 1 + 1) = c + 2 := by rw [w64 (by omega)]; omega
  obtain ⟨B', h⟩ := l43 a b c hb hc l hl p (c + 2).toNat 0 [] _ (.inl rfl) (by omega) (by simp; omega)
  generalize voysP b c l p 0 (c + 2).toNat = V1 at *
  simp [tlv] at h
  simp [ir43, ir43_c, h58, h49, hw2, h, tlv]
end Go.Proofs.Ytgmcjejelpeioaa.Ev
namespace Go.Proofs.Ytgmcjejelpeioaa.Ev
open Go
set_option linter.unusedVariables false
set_option linter.unusedSimpArgs false
attribute [local simp] til_getE til_length til_get til_drop til_take til_snoc til_fold take_snoc til_set
def edT (e : Int × Int × Int × List Int) : T := .agg [.int .i64 e.1, .int .i64 e.2.1, .int .i64 e.2.2.1, .lst 1 (til e.2.2.2)]
def tle (es : List (Int × Int × Int × List Int)) : List T := es.map edT
theorem tle_length (es : List (Int × Int × Int × List Int)) : (tle es).length = es.length := by simp [tle]
theorem tle_snoc (es : List (Int × Int × Int × List Int)) (x y t : Int) (g : List Int) : tle es ++ [.agg [.int .i64 x, .int .i64 y, .int .i64 t, .lst 1 (til g)]] = tle (es ++ [(x, y, t, g)]) := by simp [tle, edT]
theorem tle_take (es : List (Int × Int × Int × List Int)) (n : Nat) : (tle es).take n = tle (es.take n) := by simp [tle, List.map_take]
theorem tle_getE (es : List (Int × Int × Int × List Int)) (i : Nat) (h : i < (tle es).length) : (tle es)[i] = .agg [.int .i64 (es[i]'(by simpa [tle] using h)).1, .int .i64 (es[i]'(by simpa [tle] using h)).2.1, .int .i64 (es[i]'(by simpa [tle] using h)).2.2.1, .lst 1 (til (es[i]'(by simpa [tle] using h)).2.2.2)] := by simp [tle, edT]
def edges (l : List Int) (vs : List (Int × List Int)) : List (Int × Int × Int × List Int) := vs.map fun v => (codeW 4 v.1 (setAll v.1 v.2 l), 1, v.1, v.2)

theorem l41 (l : List Int) (hl : l.length ≤ 100) (p : Int) (vs : List (Int × List Int)) (hvn : vs.length ≤ 2 ^ 20) (hvs : ∀ v ∈ vs, v.2.length ≤ 1000 ∧ (∀ x ∈ v.2, 0 ≤ x ∧ x < l.length)) : ∀ (d j : Nat) (es : List (Int × Int × Int × List Int)), j + d = vs.length → es.length ≤ j →
    loopF env true [4, 5, 14, 15, 16] ir41_b0 ([(4, .ptr 0 0 0), (5, .ref 1 0 es.length), (14, .ref 2 0 vs.length), (15, .t (ti vs.length)), (16, .t (ti j))], [.box 2 [.ref 3 0 l.length, .t (ti p)], .pure 4 (tle es), .pure 2 (tlv vs), .froz 1 (til l)]) =
      some (.exit 0, [(4, .ptr 0 0 0), (5, .ref 1 0 (es ++ edges l (vs.drop j)).length), (14, .ref 2 0 vs.length), (15, .t (ti vs.length)), (16, .t (ti vs.length)), (17, .t (tb false))], [.box 2 [.ref 3 0 l.length, .t (ti p)], .pure 4 (tle (es ++ edges l (vs.drop j))), .pure 2 (tlv vs), .froz 1 (til l)])
  | 0, j, es, hj, he => by
    rw [x41_0]
    have : j = vs.length := by omega
    subst this
    simp [ir41_d0, edges]
  | d + 1, j, es, hj, he => by
    rw [x41_0]
    have hlt : j < vs.length := by omega
    have hw : IntKind.i64.wrap ((j : Int) + 1) = (j : Int) + 1 := w64 (by omega)
    obtain ⟨hv1, hv2⟩ := hvs vs[j] (List.getElem_mem hlt)
    have h44 := r44 l vs[j].2 p vs[j].1 (by omega) hv1 hv2
    have hsl := setAll_length vs[j].1 vs[j].2 l
    have h45 := r45 (setAll vs[j].1 vs[j].2 l) vs[j].1 (by omega)
    have htk : (setAll vs[j].1 vs[j].2 l).take l.length = setAll vs[j].1 vs[j].2 l := List.take_of_length_le (by omega)
    have ih := l41 l hl p vs hvn hvs d (j + 1) (es ++ [(codeW 4 vs[j].1 (setAll vs[j].1 vs[j].2 l), 1, vs[j].1, vs[j].2)]) (by omega) (by simp; omega)
    have hs : edges l (vs.drop j) = (codeW 4 vs[j].1 (setAll vs[j].1 vs[j].2 l), 1, vs[j].1, vs[j].2) :: edges l (vs.drop (j + 1)) := by rw [List.drop_eq_getElem_cons hlt]; rfl
    rw [hs]
    generalize edges l (vs.drop (j + 1)) = Z at *
    generalize setAll vs[j].1 vs[j].2 l = L at *
    generalize hC : codeW 4 vs[j].1 L = C at *
    simp at ih
    simp [ir41_d0, tlv_length, tlv_getE, tle_length, tle_snoc, tle_take, hlt, hw, h44, h45, htk, show es.length ≤ 68719476735 by omega, ih]
theorem r41 (a b c : Int) (ha : 0 ≤ a ∧ a ≤ 4) (hb : b ≤ 3) (hc : 0 ≤ c ∧ c ≤ 2) (code : Nat) (hcode : code ≤ 1000000) (l : List Int) (p : Int) (hl : l = digs (2 * a).toNat code) (hp : p = ((code / 4 ^ (2 * a).toNat : Nat) : Int)) (hll : l.length = (2 * a).toNat) (vs : List (Int × List Int)) (hvq : vs = voysP b c l p 0 (c + 2).toNat)
    (hvn : vs.length ≤ 2 ^ 20) (hvs : ∀ v ∈ vs, v.2.length ≤ 1000 ∧ (∀ x ∈ v.2, 0 ≤ x ∧ x < l.length)) :
    ownFR env 41 [ti code, .ptr (.agg [ti a, ti b, ti c])] = some (.ref 0 0 vs.length, [.pure 4 (tle (edges l vs))]) := by
  rw [ownF_ir e41 _ rfl]
  have h42 := r42 a b c code (by omega) hcode
  rw [← hl, ← hp, ← hll] at h42
  have h43 := r43 a b c hb hc l (by omega) p
  rw [← hvq] at h43
  have h := l41 l (by omega) p vs hvn hvs vs.length 0 [] (by omega) (by simp)
  have hel : (edges l vs).length = vs.length := by simp [edges]
  simp [tle_length, hel, show tle [] = [] from rfl] at h
  simp [ir41, ir41_c, h42, h43, h]
end Go.Proofs.Ytgmcjejelpeioaa.Ev
namespace Go.Proofs.Ytgmcjejelpeioaa.Ev
open Go
set_option linter.unusedVariables false
set_option linter.unusedSimpArgs false
attribute [local simp] til_getE til_length til_get til_drop til_take til_snoc til_fold take_snoc til_set

def tin (l : List Nat) : List T := l.map fun (n : Nat) => T.int .i64 (n : Int)
theorem tin_length (l : List Nat) : (tin l).length = l.length := by simp [tin]
theorem tin_getE (l : List Nat) (i : Nat) (h : i < (tin l).length) : (tin l)[i] = .int .i64 (l[i]'(by simpa [tin] using h) : Nat) := by simp [tin]
theorem tin_take (l : List Nat) (n : Nat) : (tin l).take n = tin (l.take n) := by simp [tin, List.map_take]
theorem tin_snoc (l : List Nat) (x : Nat) : tin l ++ [.int .i64 (x : Int)] = tin (l ++ [x]) := by simp [tin]
theorem tin_one (x : Nat) : [T.int .i64 (x : Int)] = tin [x] := rfl
abbrev Ed := Nat × Nat × Int × List Int
def tleN (es : List Ed) : List T := es.map fun e => .agg [.int .i64 e.1, .int .i64 e.2.1, .int .i64 e.2.2.1, .lst 1 (til e.2.2.2)]
theorem tleN_length (es : List Ed) : (tleN es).length = es.length := by simp [tleN]
theorem tleN_getE (es : List Ed) (i : Nat) (h : i < (tleN es).length) : (tleN es)[i] = .agg [.int .i64 (es[i]'(by simpa [tleN] using h)).1, .int .i64 (es[i]'(by simpa [tleN] using h)).2.1, .int .i64 (es[i]'(by simpa [tleN] using h)).2.2.1, .lst 1 (til (es[i]'(by simpa [tleN] using h)).2.2.2)] := by simp [tleN]
def LayR (H : Heap) (k : Nat) (v : V) (l : List Nat) : Prop := (v = .t .nil ∧ l = []) ∨ (k = 0 ∧ v = .t (.lst 1 (tin l))) ∨ ∃ j, v = .ref j 0 l.length ∧ H[j]? = some (.pure 1 (tin l))
structure WS (H : Heap) (i2 i5 i6 : Nat) (many : Int) (clo : T) (dist : List Int) (ws : List (List Nat)) (Vs : List V) : Prop where
  g : H[i2]? = some (.box 2 [.t (ti many), .t clo])
  d : H[i5]? = some (.pure 1 (til dist))
  w : H[i6]? = some (.box 1 Vs)
  n : Vs.length = ws.length
  l : ∀ (k : Nat) l, ws[k]? = some l → ∃ v, Vs[k]? = some v ∧ LayR H k v l
  s : ∀ (k k' j n n' : Nat), Vs[k]? = some (.ref j 0 n) → Vs[k']? = some (.ref j 0 n') → k = k'
  x : ∀ (k j n : Nat), Vs[k]? = some (.ref j 0 n) → j ≠ i5
def OwnW (i5 i6 : Nat) (Vs : List V) (id : Nat) : Prop := id = i5 ∨ id = i6 ∨ ∃ k n : Nat, Vs[k]? = some (.ref id 0 n)
def padW (ws : List (List Nat)) (k : Nat) : List (List Nat) := ws ++ List.replicate (k + 1 - ws.length) []

variable {i2 i5 i6 : Nat} {many : Int} {clo : T} {dist : List Int} {ws : List (List Nat)} {Vs : List V} {H : Heap}
theorem WS.lt5 (h : WS H i2 i5 i6 many clo dist ws Vs) : i2 < H.length ∧ i5 < H.length ∧ i6 < H.length := ⟨(List.getElem?_eq_some_iff.1 h.g).1, (List.getElem?_eq_some_iff.1 h.d).1, (List.getElem?_eq_some_iff.1 h.w).1⟩
theorem WS.ref (h : WS H i2 i5 i6 many clo dist ws Vs) {k j n : Nat} (hk : Vs[k]? = some (.ref j 0 n)) : ∃ l, ws[k]? = some l ∧ n = l.length ∧ H[j]? = some (.pure 1 (tin l)) := by
  have hlt := (List.getElem?_eq_some_iff.1 hk).1
  have hw : k < ws.length := h.n ▸ hlt
  obtain ⟨v, hv, hr⟩ := h.l k ws[k] (by simp [hw])
  rw [hk] at hv; cases hv
  refine ⟨ws[k], by simp [hw], ?_⟩
  rcases hr with ⟨h1, _⟩ | ⟨_, h1⟩ | ⟨j', h1, h2⟩
  · cases h1
  · cases h1
  · cases h1; exact ⟨rfl, h2⟩
theorem WS.ne6 (h : WS H i2 i5 i6 many clo dist ws Vs) {k j n : Nat} (hk : Vs[k]? = some (.ref j 0 n)) : j ≠ i6 ∧ j ≠ i2 := by
  obtain ⟨l, _, _, h3⟩ := h.ref hk
  exact ⟨fun e => (by have := h.w; rw [← e, h3] at this; cases this), fun e => (by have := h.g; rw [← e, h3] at this; cases this)⟩
theorem WS.own_lt (h : WS H i2 i5 i6 many clo dist ws Vs) {id : Nat} (hi : OwnW i5 i6 Vs id) : id < H.length := by
  rcases hi with rfl | rfl | ⟨k, n, hk⟩
  · exact h.lt5.2.1
  · exact h.lt5.2.2
  · obtain ⟨l, _, _, h3⟩ := h.ref hk; exact (List.getElem?_eq_some_iff.1 h3).1
theorem LayR.mono {H H' : Heap} {k : Nat} {v : V} {l : List Nat} (h : LayR H k v l) (hk : ∀ j n, v = .ref j 0 n → H'[j]? = H[j]?) : LayR H' k v l := by
  rcases h with h | h | ⟨j, h1, h2⟩
  · exact .inl h
  · exact .inr (.inl h)
  · exact .inr (.inr ⟨j, h1, (hk j _ h1).trans h2⟩)
theorem WS.mono {H' : Heap} (h : WS H i2 i5 i6 many clo dist ws Vs) (h2 : H'[i2]? = H[i2]?) (hk : ∀ id, OwnW i5 i6 Vs id → H'[id]? = H[id]?) : WS H' i2 i5 i6 many clo dist ws Vs :=
  ⟨h2.trans h.g, (hk _ (.inl rfl)).trans h.d, (hk _ (.inr (.inl rfl))).trans h.w, h.n, fun k l hl => by
    obtain ⟨v, hv, hr⟩ := h.l k l hl
    exact ⟨v, hv, hr.mono fun j n e => hk j (.inr (.inr ⟨k, n, e ▸ hv⟩))⟩, h.s, h.x⟩
theorem WS.grow (h : WS H i2 i5 i6 many clo dist ws Vs) : WS (H.set i6 .dead ++ [.box 1 (Vs ++ [.t .nil])]) i2 i5 H.length many clo dist (ws ++ [[]]) (Vs ++ [.t .nil]) := by
  have h6 := h.lt5
  have hg : ∀ id, id < H.length → id ≠ i6 → (H.set i6 .dead ++ [.box 1 (Vs ++ [.t .nil])])[id]? = H[id]? := fun id hid hne => by
    rw [List.getElem?_append_left (by simpa using hid), List.getElem?_set_ne (Ne.symm hne)]
  have h26 : i2 ≠ i6 := fun e => by have := h.w; rw [← e, h.g] at this; cases this
  have h56 : i5 ≠ i6 := fun e => by have := h.w; rw [← e, h.d] at this; cases this
  have hV : ∀ (k j n : Nat), (Vs ++ [V.t .nil])[k]? = some (.ref j 0 n) → Vs[k]? = some (.ref j 0 n) := fun k j n hk => by
    rcases Nat.lt_or_ge k Vs.length with hlt | hge
    · rw [List.getElem?_append_left hlt] at hk; exact hk
    · rw [List.getElem?_append_right hge] at hk
      rcases Nat.eq_zero_or_pos (k - Vs.length) with h0 | h0
      · rw [h0] at hk; cases hk
      · rw [List.getElem?_eq_none (by simp; omega)] at hk; cases hk
  refine ⟨(hg _ h6.1 h26).trans h.g, (hg _ h6.2.1 h56).trans h.d, by simp, by simp [h.n], fun k l hl => ?_, fun k k' j n n' hk hk' => h.s k k' j n n' (hV _ _ _ hk) (hV _ _ _ hk'), fun k j n hk => h.x k j n (hV _ _ _ hk)⟩
  rcases Nat.lt_or_ge k ws.length with hlt | hge
  · rw [List.getElem?_append_left hlt] at hl
    obtain ⟨v, hv, hr⟩ := h.l k l hl
    refine ⟨v, by rw [List.getElem?_append_left (h.n ▸ hlt)]; exact hv, hr.mono fun j n e => ?_⟩
    obtain ⟨l', _, _, h3⟩ := h.ref (e ▸ hv)
    exact hg j (List.getElem?_eq_some_iff.1 h3).1 (h.ne6 (e ▸ hv)).1
  · rw [List.getElem?_append_right hge] at hl
    rcases Nat.eq_zero_or_pos (k - ws.length) with h0 | h0
    · rw [h0] at hl; cases hl
      have : k = Vs.length := by have := h.n; omega
      exact ⟨.t .nil, by simp [this], .inl ⟨rfl, rfl⟩⟩
    · rw [List.getElem?_eq_none (by simp; omega)] at hl; cases hl
theorem WS.grow_ext (h : WS H i2 i5 i6 many clo dist ws Vs) (X : Blk) : Ext (OwnW i5 i6 Vs) (OwnW i5 H.length (Vs ++ [.t .nil])) H (H.set i6 .dead ++ [X]) := by
  refine ⟨by simp, fun id hid => ?_, fun id hid hn => ?_⟩
  · rcases hid with h1 | h1 | ⟨k, n, hk⟩
    · exact .inl (.inl h1)
    · exact .inr (by omega)
    · left; right; right
      rcases Nat.lt_or_ge k Vs.length with hlt | hge
      · rw [List.getElem?_append_left hlt] at hk; exact ⟨k, n, hk⟩
      · rw [List.getElem?_append_right hge] at hk
        rcases Nat.eq_zero_or_pos (k - Vs.length) with h0 | h0
        · rw [h0] at hk; cases hk
        · rw [List.getElem?_eq_none (by simp; omega)] at hk; cases hk
  · rw [List.getElem?_append_left (by simpa using hid), List.getElem?_set_ne (fun e => hn (.inr (.inl e.symm)))]
end Go.Proofs.Ytgmcjejelpeioaa.Ev
namespace Go.Proofs.Ytgmcjejelpeioaa.Ev
open Go
set_option linter.unusedVariables false
set_option linter.unusedSimpArgs false
attribute [local simp] til_getE til_length til_get til_drop til_take til_snoc til_fold take_snoc til_set

def elVB (sz off len : Nat) (b : Blk) : Option (List V) := match b with
  | .box s vs => if s = sz then some ((vs.drop (off * sz)).take (len * sz)) else none
  | _ => none
@[simp] theorem elVB_b (sz off len s : Nat) (vs : List V) : elVB sz off len (.box s vs) = if s = sz then some ((vs.drop (off * sz)).take (len * sz)) else none := rfl
@[simp] theorem elV_ref (H : Heap) (sz id off len : Nat) : elemsV H sz (.ref id off len) = andO H[id]? (elVB sz off len) := by
  simp only [elemsV]
  cases H[id]? with
  | none => rfl
  | some b => cases b <;> rfl
def appMB (H : Heap) (sz id len : Nat) (ys : List V) (b : Blk) : Option (V × Heap) := match b with
  | .box s vs => if s = sz ∧ len * sz = vs.length ∧ ys.length % sz = 0 ∧ vs.length + ys.length ≤ lim ∧ ys.all V.one ∧ 0 < ys.length then some (.ref H.length 0 (len + ys.length / sz), H.set id .dead ++ [.box sz (vs ++ ys)]) else none
  | _ => none
@[simp] theorem appMB_b (H : Heap) (sz id len : Nat) (ys : List V) (s : Nat) (vs : List V) : appMB H sz id len ys (.box s vs) = if s = sz ∧ len * sz = vs.length ∧ ys.length % sz = 0 ∧ vs.length + ys.length ≤ lim ∧ ys.all V.one ∧ 0 < ys.length then some (.ref H.length 0 (len + ys.length / sz), H.set id .dead ++ [.box sz (vs ++ ys)]) else none := rfl
def appMV (H : Heap) (sz : Nat) (x : V) (ys : List V) : Option (V × Heap) := match x with
  | .ref id 0 len => andO H[id]? (appMB H sz id len ys)
  | _ => none
@[simp] theorem appMV_r (H : Heap) (sz id len : Nat) (ys : List V) : appMV H sz (.ref id 0 len) ys = andO H[id]? (appMB H sz id len ys) := rfl
@[simp] theorem appM_eq (H : Heap) (sz : Nat) (x y : V) : evAppM H sz x y = andO (elemsV H sz y) (appMV H sz x) := by
  unfold evAppM
  cases elemsV H sz y with
  | none => rfl
  | some ys =>
    simp only [andO_some]
    cases x with
    | ref id off len =>
      cases off with
      | zero =>
        simp only [appMV]
        cases H[id]? with
        | none => rfl
        | some b => cases b <;> rfl
      | succ n => rfl
    | _ => rfl
@[simp] theorem o_appM {E : Env} {rec : Rec} {fr : Fr} {H : Heap} (sz : Nat) (x y : A) : evO E rec fr H (.app true sz x y) = evAppM H sz (x.ev fr) (y.ev fr) := rfl
def bslM (H : Heap) (sz n : Nat) (vs : List V) : Option (V × Heap) := some (.ref H.length 0 n, H ++ [.box sz vs])
@[simp] theorem bslM_eq (H : Heap) (sz n : Nat) (vs : List V) : bslM H sz n vs = some (.ref H.length 0 n, H ++ [.box sz vs]) := rfl
@[simp] theorem o_bslM {E : Env} {rec : Rec} {fr : Fr} {H : Heap} (sz n : Nat) (z : T) (ps : List (Nat × A)) : evO E rec fr H (.bsl true sz n z ps) = andO (fillV (List.replicate n (z.cells.map V.t)).flatten (ps.map fun p => (p.1 * sz, sz, p.2.ev fr))) (bslM H sz n) := by
  simp only [evO]; cases fillV (List.replicate n (z.cells.map V.t)).flatten (ps.map fun p => (p.1 * sz, sz, p.2.ev fr)) <;> rfl

variable {i2 i5 : Nat} {many : Int} {clo : T} {dist : List Int}
theorem padW_done (ws : List (List Nat)) (k : Nat) (h : k < ws.length) : padW ws k = ws := by
  simp [padW, show k + 1 - ws.length = 0 by omega]
theorem padW_step (ws : List (List Nat)) (k : Nat) (h : ¬ k < ws.length) : padW (ws ++ [[]]) k = padW ws k := by
  simp only [padW, List.append_assoc, List.length_append, List.length_singleton]
  obtain ⟨m, hm⟩ : ∃ m, k + 1 - ws.length = m + 1 := ⟨k - ws.length, by omega⟩
  rw [hm, show k + 1 - (ws.length + 1) = m by omega, List.replicate_succ, List.singleton_append]
theorem p46 (N : Nat) (d c : Nat) (hdc : d + c < 2 ^ 30) (to vt : Int) (g : List Int) (i8 i11 : Nat) (v8 v52 v53 v54 : V) : ∀ (m : Nat) (H : Heap) (i6 : Nat) (ws : List (List Nat)) (Vs : List V), WS H i2 i5 i6 many clo dist ws Vs → H[i11]? = some (.box 4 [.t (ti to), .t (ti c), .t (ti vt), .t (tl g)]) → ¬ OwnW i5 i6 Vs i11 → ¬ OwnW i5 i6 Vs i2 → ws.length ≤ 2 ^ 30 → m = d + c + 1 - ws.length →
    ∃ H' i6' Vs', loopF env false [2, 5, 6, 7, 8, 11, 52, 53, 54] ir46_b0 ([(2, .ptr i2 0 0), (5, .ref i5 0 N), (6, .ref i6 0 ws.length), (7, .t (ti d)), (8, v8), (52, v52), (53, v53), (54, v54), (11, .ptr i11 0 0)], H) =
      some (.exit 6, [(2, .ptr i2 0 0), (5, .ref i5 0 N), (6, .ref i6' 0 (padW ws (d + c)).length), (7, .t (ti d)), (8, v8), (52, v52), (53, v53), (54, v54), (11, .ptr i11 0 0), (64, .ref i6' 0 (padW ws (d + c)).length), (65, .t (ti (padW ws (d + c)).length)), (66, .t (ti d)), (67, .ptr i11 0 1), (68, .t (ti c)), (69, .t (ti ((d : Int) + c))), (70, .t (tb false))], H') ∧
      WS H' i2 i5 i6' many clo dist (padW ws (d + c)) Vs' ∧ Ext (OwnW i5 i6 Vs) (OwnW i5 i6' Vs') H H'
  | 0, H, i6, ws, Vs, hW, h11, hn11, hn2, hl, hm => by
    have hlt : d + c < ws.length := by omega
    rw [padW_done _ _ hlt, x46_0]
    refine ⟨H, i6, Vs, ?_, hW, by simpa using Ext.app (W := OwnW i5 i6 Vs) (H := H) []⟩
    have hw : IntKind.i64.wrap ((d : Int) + c) = (d : Int) + c := w64 (by omega)
    simp [ir46_d0, h11, hw, show ¬ ((ws.length : Int) ≤ (d : Int) + c) by omega]
  | m + 1, H, i6, ws, Vs, hW, h11, hn11, hn2, hl, hm => by
    have hlt : ¬ d + c < ws.length := by omega
    rw [← padW_step _ _ hlt, x46_0]
    have hw : IntKind.i64.wrap ((d : Int) + c) = (d : Int) + c := w64 (by omega)
    have h6 := hW.lt5
    have hW1 : WS (H ++ [.box 1 [.t .nil]]) i2 i5 i6 many clo dist ws Vs := hW.mono (get_app h6.1) (fun id hid => get_app (hW.own_lt hid))
    have hE1 : Ext (OwnW i5 i6 Vs) (OwnW i5 i6 Vs) H (H ++ [.box 1 [.t .nil]]) := Ext.app _
    have hE2 := hW1.grow_ext (.box 1 (Vs ++ [.t .nil]))
    have hE := hE1.trans hE2
    have hl11 := (List.getElem?_eq_some_iff.1 h11).1
    obtain ⟨H', i6', Vs', h1, h2, h3⟩ := p46 N d c hdc to vt g i8 i11 v8 v52 v53 v54 m _ _ _ _ hW1.grow (hE.get h11 hn11) (hE.not hl11 hn11) (hE.not h6.1 hn2) (by simp; omega) (by simp; omega)
    refine ⟨H', i6', Vs', ?_, h2, hE.trans h3⟩
    rw [← h1]
    have hl6 : ∀ X, (H ++ X)[i6]? = some (.box 1 Vs) := fun X => get_app2 hW.w
    have hn := hW.n
    simp [ir46_d0, h11, hw, show ((ws.length : Int) ≤ (d : Int) + c) by omega, hl6, hn, show ws.length ≤ 68719476735 by omega]
end Go.Proofs.Ytgmcjejelpeioaa.Ev
namespace Go.Proofs.Ytgmcjejelpeioaa.Ev
open Go
set_option linter.unusedVariables false
set_option linter.unusedSimpArgs false
attribute [local simp] til_getE til_length til_get til_drop til_take til_snoc til_fold take_snoc til_set tin_getE tin_length tin_take

variable {i2 i5 i6 : Nat} {many : Int} {clo : T} {dist : List Int} {ws : List (List Nat)} {Vs : List V} {H : Heap}
theorem splice_one {α : Type} (xs : List α) (k : Nat) (x : α) (h : k < xs.length) : xs.take k ++ x :: xs.drop (k + 1) = xs.set k x := by
  rw [List.set_eq_take_append_cons_drop, if_pos h]
def pushW (dist : List Int) (d : Nat) (ws : List (List Nat)) (e : Ed) : List (List Nat) :=
  if 0 ≤ dist[e.1]?.getD 0 then ws else (padW ws (d + e.2.1)).set (d + e.2.1) ((padW ws (d + e.2.1))[d + e.2.1]?.getD [] ++ [e.1])
theorem WS.push {H2 : Heap} (h : WS H i2 i5 i6 many clo dist ws Vs) (k : Nat) (hk : k < ws.length) (x : Nat) (jn : Nat) (hj : H.length ≤ jn) (h2 : ¬ OwnW i5 i6 Vs i2)
    (h6 : H2[i6]? = some (.box 1 (Vs.set k (.ref jn 0 (ws[k].length + 1))))) (hjn : H2[jn]? = some (.pure 1 (tin (ws[k] ++ [x])))) (hlen : H.length ≤ H2.length)
    (hkeep : ∀ id, id < H.length → id ≠ i6 → (∀ n : Nat, Vs[k]? ≠ some (.ref id 0 n)) → H2[id]? = H[id]?) :
    WS H2 i2 i5 i6 many clo dist (ws.set k (ws[k] ++ [x])) (Vs.set k (.ref jn 0 (ws[k].length + 1))) ∧ Ext (OwnW i5 i6 Vs) (OwnW i5 i6 (Vs.set k (.ref jn 0 (ws[k].length + 1)))) H H2 := by
  have hn := h.n
  have hlt := h.lt5
  have h56 : i5 ≠ i6 := fun e => (by have := h.w; rw [← e, h.d] at this; cases this)
  have hV : ∀ (m j n : Nat), (Vs.set k (V.ref jn 0 (ws[k].length + 1)))[m]? = some (.ref j 0 n) → (m = k ∧ j = jn) ∨ (m ≠ k ∧ Vs[m]? = some (.ref j 0 n)) := fun m j n hm => by
    by_cases hmk : m = k
    · subst hmk
      rw [List.getElem?_set_self (by omega)] at hm
      cases hm; exact .inl ⟨rfl, rfl⟩
    · rw [List.getElem?_set_ne (Ne.symm hmk)] at hm; exact .inr ⟨hmk, hm⟩
  constructor
  · refine ⟨(hkeep _ hlt.1 (fun e => h2 (.inr (.inl e))) (fun n e => h2 (.inr (.inr ⟨k, n, e⟩)))).trans h.g, (hkeep _ hlt.2.1 h56 (fun n e => h.x k i5 n e rfl)).trans h.d, h6, by simp [hn], fun m l hl => ?_, fun m m' j n n' hm hm' => ?_, fun m j n hm => ?_⟩
    · by_cases hmk : m = k
      · subst hmk
        rw [List.getElem?_set_self (by omega)] at hl
        cases hl
        exact ⟨_, List.getElem?_set_self (by omega), .inr (.inr ⟨jn, by simp, hjn⟩)⟩
      · rw [List.getElem?_set_ne (Ne.symm hmk)] at hl
        obtain ⟨v, hv, hr⟩ := h.l m l hl
        refine ⟨v, by rw [List.getElem?_set_ne (Ne.symm hmk)]; exact hv, hr.mono fun j n e => ?_⟩
        subst e
        obtain ⟨l', _, _, h3⟩ := h.ref hv
        exact hkeep j (List.getElem?_eq_some_iff.1 h3).1 (h.ne6 hv).1 (fun n' e => hmk (h.s m k j n n' hv e))
    · rcases hV m j n hm with ⟨a, b⟩ | ⟨a, b⟩
      · rcases hV m' j n' hm' with ⟨a', b'⟩ | ⟨a', b'⟩
        · omega
        · obtain ⟨l', _, _, h3⟩ := h.ref b'
          have := (List.getElem?_eq_some_iff.1 h3).1; omega
      · rcases hV m' j n' hm' with ⟨a', b'⟩ | ⟨a', b'⟩
        · obtain ⟨l', _, _, h3⟩ := h.ref b
          have := (List.getElem?_eq_some_iff.1 h3).1; omega
        · exact h.s m m' j n n' b b'
    · rcases hV m j n hm with ⟨a, b⟩ | ⟨a, b⟩
      · omega
      · exact h.x m j n b
  · refine ⟨hlen, fun id hid => ?_, fun id hid hn => ?_⟩
    · rcases hid with h1 | h1 | ⟨m, n, hm⟩
      · exact .inl (.inl h1)
      · exact .inl (.inr (.inl h1))
      · rcases hV m id n hm with ⟨a, b⟩ | ⟨a, b⟩
        · right; omega
        · exact .inl (.inr (.inr ⟨m, n, b⟩))
    · exact hkeep id hid (fun e => hn (.inr (.inl e))) (fun n e => hn (.inr (.inr ⟨k, n, e⟩)))
end Go.Proofs.Ytgmcjejelpeioaa.Ev
namespace Go.Proofs.Ytgmcjejelpeioaa.Ev
open Go
set_option linter.unusedVariables false
set_option linter.unusedSimpArgs false
attribute [local simp] til_getE til_length til_get til_drop til_take til_snoc til_fold take_snoc til_set tin_getE tin_length tin_take tleN_length tleN_getE

variable {i2 i5 : Nat} {many : Int} {clo : T} {dist : List Int}
theorem padW_length (ws : List (List Nat)) (k : Nat) : (padW ws k).length = max ws.length (k + 1) := by simp [padW]; omega
theorem padW_mem {ws : List (List Nat)} {k : Nat} {l : List Nat} (h : l ∈ padW ws k) : l ∈ ws ∨ l = [] := by
  rcases List.mem_append.1 h with h | h
  · exact .inl h
  · exact .inr (List.eq_of_mem_replicate h)
theorem pushW_length (dist : List Int) (d : Nat) (ws : List (List Nat)) (e : Ed) (M : Nat) (h : ws.length ≤ M) (h2 : d + e.2.1 + 1 ≤ M) : (pushW dist d ws e).length ≤ M := by
  unfold pushW
  split
  · exact h
  · simp [padW_length]; omega
theorem pushW_bound (dist : List Int) (d : Nat) (ws : List (List Nat)) (e : Ed) (B : Nat) (h : ∀ l ∈ ws, l.length ≤ B) : ∀ l ∈ pushW dist d ws e, l.length ≤ B + 1 := by
  intro l hl
  unfold pushW at hl
  split at hl
  · have := h l hl; omega
  · have hk : d + e.2.1 < (padW ws (d + e.2.1)).length := by rw [padW_length]; omega
    rcases List.mem_or_eq_of_mem_set hl with hl | hl
    · rcases padW_mem hl with h1 | h1
      · have := h l h1; omega
      · simp [h1]
    · subst hl
      simp only [hk, List.getElem?_eq_getElem, Option.getD_some, List.length_append, List.length_singleton]
      rcases padW_mem (List.getElem_mem hk) with h1 | h1
      · have := h _ h1; omega
      · rw [h1]; simp
theorem w46 (C d N : Nat) (hC : d + C < 2 ^ 30) (hdl : dist.length = N) (es : List Ed) (hes : ∀ e ∈ es, e.1 < N ∧ 1 ≤ e.2.1 ∧ e.2.1 ≤ C) (hen : es.length ≤ 2 ^ 30) (ie : Nat) (v8 : V) : ∀ (m j : Nat) (H : Heap) (i6 : Nat) (ws : List (List Nat)) (Vs : List V) (B : Nat), j + m = es.length → WS H i2 i5 i6 many clo dist ws Vs → ¬ OwnW i5 i6 Vs i2 → H[ie]? = some (.pure 4 (tleN es)) → ¬ OwnW i5 i6 Vs ie → ws.length ≤ d + C + 1 → (∀ l ∈ ws, l.length ≤ B) → B + m ≤ 2 ^ 30 →
    ∃ H' i6' Vs', loopF env false [2, 5, 6, 7, 8, 52, 53, 54] ir46_b1 ([(2, .ptr i2 0 0), (5, .ref i5 0 N), (6, .ref i6 0 ws.length), (7, .t (ti d)), (8, v8), (52, .ref ie 0 es.length), (53, .t (ti es.length)), (54, .t (ti j))], H) =
      some (.exit 4, [(2, .ptr i2 0 0), (5, .ref i5 0 N), (6, .ref i6' 0 ((es.drop j).foldl (pushW dist d) ws).length), (7, .t (ti d)), (8, v8), (52, .ref ie 0 es.length), (53, .t (ti es.length)), (54, .t (ti es.length)), (55, .t (tb false))], H') ∧
      WS H' i2 i5 i6' many clo dist ((es.drop j).foldl (pushW dist d) ws) Vs' ∧ Ext (OwnW i5 i6 Vs) (OwnW i5 i6' Vs') H H' ∧ ((es.drop j).foldl (pushW dist d) ws).length ≤ d + C + 1 ∧ ∀ l ∈ (es.drop j).foldl (pushW dist d) ws, l.length ≤ B + m
  | 0, j, H, i6, ws, Vs, B, hj, hW, hn2, he, hne, hl, hB, hBm => by
    have : j = es.length := by omega
    subst this
    rw [x46_1]
    simp only [List.drop_length, List.foldl_nil, Nat.add_zero]
    refine ⟨H, i6, Vs, ?_, hW, by simpa using Ext.app (W := OwnW i5 i6 Vs) (H := H) [], hl, hB⟩
    simp [ir46_d1]
  | m + 1, j, H, i6, ws, Vs, B, hj, hW, hn2, he, hne, hl, hB, hBm => by
    have hlt : j < es.length := by omega
    rw [x46_1]
    have hw : IntKind.i64.wrap ((j : Int) + 1) = (j : Int) + 1 := w64 (by omega)
    obtain ⟨he1, he2, he3⟩ := hes es[j] (List.getElem_mem hlt)
    have h6 := hW.lt5
    have hd := hW.d
    have hs : (es.drop j).foldl (pushW dist d) ws = (es.drop (j + 1)).foldl (pushW dist d) (pushW dist d ws es[j]) := by rw [List.drop_eq_getElem_cons hlt]; rfl
    have hl' := pushW_length dist d ws es[j] (d + C + 1) hl (by omega)
    have hB' := pushW_bound dist d ws es[j] B hB
    rw [hs]
    have hie := (List.getElem?_eq_some_iff.1 he).1
    generalize hEd : es[j] = e at *
    obtain ⟨to, c, vt, g⟩ := e
    simp only at he1 he2 he3
    have hto : to < dist.length := by omega
    have hW1 : WS (H ++ [.box 4 [.t (ti to), .t (ti c), .t (ti vt), .t (tl g)]]) i2 i5 i6 many clo dist ws Vs := hW.mono (get_app h6.1) (fun id hid => get_app (hW.own_lt hid))
    have hE1 : Ext (OwnW i5 i6 Vs) (OwnW i5 i6 Vs) H (H ++ [.box 4 [.t (ti to), .t (ti c), .t (ti vt), .t (tl g)]]) := Ext.app _
    have hdX : ∀ X, (H ++ X)[i5]? = some (.pure 1 (til dist)) := fun X => get_app2 hd
    by_cases hdist : 0 ≤ dist[to]
    · have hp : pushW dist d ws (to, c, vt, g) = ws := by simp [pushW, hto, hdist]
      rw [hp] at hl' hB' ⊢
      obtain ⟨H', i6', Vs', h1, h2, h3, h4, h5⟩ := w46 C d N hC hdl es hes hen ie v8 m (j + 1) _ i6 ws Vs B (by omega) hW1 hn2 (get_app2 he) hne hl hB (by omega)
      refine ⟨H', i6', Vs', ?_, h2, hE1.trans h3, h4, fun l hl => by have := h5 l hl; omega⟩
      generalize (es.drop (j + 1)).foldl (pushW dist d) ws = Z at *
      simp at h1
      simp [ir46_d1, hlt, hw, he, hEd, hdX, hto, hdl, he1, hdist, h1]
    · have hp : pushW dist d ws (to, c, vt, g) = (padW ws (d + c)).set (d + c) ((padW ws (d + c))[d + c]?.getD [] ++ [to]) := by simp [pushW, hto, hdist]
      obtain ⟨H2, i62, Vs2, hpl, hW2, hE2⟩ := p46 (many := many) (clo := clo) (dist := dist) N d c (by omega) to vt g j H.length v8 (.ref ie 0 es.length) (.t (ti es.length)) (.t (ti j)) _ _ i6 ws Vs hW1 (by simp) (fun ho => by have := hW.own_lt ho; omega) hn2 (by omega) rfl
      have hk : d + c < (padW ws (d + c)).length := by rw [padW_length]; omega
      have hE12 := hE1.trans hE2
      have hn22 := hE12.not h6.1 hn2
      have h62 := hW2.lt5
      have hlenW : (padW ws (d + c)).length ≤ d + C + 1 := by rw [padW_length]; omega
      rw [hp] at hl' hB' ⊢
      have hLB : (padW ws (d + c))[d + c].length ≤ B := by
        rcases padW_mem (List.getElem_mem hk) with h1 | h1
        · exact hB _ h1
        · rw [h1]; simp
      have hgd : (padW ws (d + c))[d + c]?.getD [] = (padW ws (d + c))[d + c] := by simp [hk]
      rw [hgd] at hl' hB' ⊢
      obtain ⟨v, hv, hr⟩ := hW2.l (d + c) (padW ws (d + c))[d + c] (by simp [hk])
      have hVl : d + c < Vs2.length := (List.getElem?_eq_some_iff.1 hv).1
      have h11 : H2[H.length]? = some (.box 4 [.t (ti to), .t (ti c), .t (ti vt), .t (tl g)]) := hE2.get (by simp) (fun ho => by have := hW.own_lt ho; omega)
      have he2 : H2[ie]? = some (.pure 4 (tleN es)) := hE12.get he hne
      have hd2 := hW2.d
      have hw2 := hW2.w
      have hwdc : IntKind.i64.wrap ((d : Int) + c) = (d : Int) + c := w64 (by omega)
      have hnat : ((d : Int) + (c : Int)).toNat = d + c := by omega
      have hn2' := hW2.n
      have hsp := fun x : V => splice_one Vs2 (d + c) x hVl
      have h6X : ∀ X, (H2 ++ X)[i62]? = some (.box 1 Vs2) := fun X => get_app2 hw2
      have h11X : ∀ X, (H2 ++ X)[H.length]? = some (.box 4 [.t (ti to), .t (ti c), .t (ti vt), .t (tl g)]) := fun X => get_app2 h11
      rcases hr with ⟨rfl, hL⟩ | ⟨h0, _⟩ | ⟨jr, rfl, hjr⟩
      · -- nothing yet
        have hP := hW2.push (H2 := (H2 ++ [Blk.pure 1 (tin [to]), Blk.pure 1 (tin [to])]).set i62 (.box 1 (Vs2.set (d + c) (.ref (H2.length + 1) 0 1)))) (d + c) hk to (H2.length + 1) (by omega) hn22 (by
            rw [hL, List.getElem?_set_self (by simp; omega)]; rfl) (by rw [List.getElem?_set_ne (by omega), hL]; simp) (by simp) (fun id hid hne _ => by rw [List.getElem?_set_ne (Ne.symm hne)]; exact get_app hid)
        obtain ⟨H', i6', Vs', h1, h2, h3, h4, h5⟩ := w46 C d N hC hdl es hes hen ie v8 m (j + 1) _ i62 _ _ (B + 1) (by omega) hP.1 (hP.2.not h62.1 hn22) (hP.2.get he2 (hE12.not hie hne)) (hP.2.not (List.getElem?_eq_some_iff.1 he2).1 (hE12.not hie hne)) hl' hB' (by omega)
        refine ⟨H', i6', Vs', ?_, h2, (hE12.trans hP.2).trans h3, h4, fun l hl => by have := h5 l hl; omega⟩
        generalize (es.drop (j + 1)).foldl (pushW dist d) ((padW ws (d + c)).set (d + c) ((padW ws (d + c))[d + c] ++ [to])) = Z at *
        simp [tin] at h1 hpl
        simp [ir46_d1, hlt, hw, he, hEd, hdX, hto, hdl, he1, hdist, hpl, h11, hwdc, hk, hw2, hnat, hv, h6X, h11X, show (d : Int) + c < ((padW ws (d + c)).length : Int) by omega, show (0 : Int) ≤ (d : Int) + c by omega, show d + c + 1 ≤ Vs2.length by omega, hsp, h1]
      · omega
      · -- a list already
        have hj6 := hW2.ne6 hv
        have hjl := (List.getElem?_eq_some_iff.1 hjr).1
        generalize hLL : (padW ws (d + c))[d + c] = L at *
        have hjX : ∀ X, (H2 ++ X)[jr]? = some (.pure 1 (tin L)) := fun X => get_app2 hjr
        have h6Y : ∀ X Y, ((H2 ++ X).set jr .dead ++ Y)[i62]? = some (.box 1 Vs2) := fun X Y => get_app2 (by rw [List.getElem?_set_ne hj6.1]; exact h6X X)
        have hP := hW2.push (H2 := ((H2 ++ [Blk.pure 1 (tin [to])]).set jr .dead ++ [Blk.pure 1 (tin (L ++ [to]))]).set i62 (.box 1 (Vs2.set (d + c) (.ref (H2.length + 1) 0 (L.length + 1))))) (d + c) hk to (H2.length + 1) (by omega) hn22 (by
            rw [hLL, List.getElem?_set_self (by simp; omega)]) (by rw [List.getElem?_set_ne (by omega), hLL]; simp) (by simp; omega) (fun id hid hne hnr => by
              rw [List.getElem?_set_ne (Ne.symm hne), List.getElem?_append_left (by simp; omega), List.getElem?_set_ne (fun e => hnr _ (e ▸ hv))]; exact get_app hid)
        rw [hLL] at hP
        obtain ⟨H', i6', Vs', h1, h2, h3, h4, h5⟩ := w46 C d N hC hdl es hes hen ie v8 m (j + 1) _ i62 _ _ (B + 1) (by omega) hP.1 (hP.2.not h62.1 hn22) (hP.2.get he2 (hE12.not hie hne)) (hP.2.not (List.getElem?_eq_some_iff.1 he2).1 (hE12.not hie hne)) hl' hB' (by omega)
        refine ⟨H', i6', Vs', ?_, h2, (hE12.trans hP.2).trans h3, h4, fun l hl => by have := h5 l hl; omega⟩
        generalize (es.drop (j + 1)).foldl (pushW dist d) ((padW ws (d + c)).set (d + c) (L ++ [to])) = Z at *
        have hjH : ¬ (H.length = jr) := fun e => by rw [← e, h11] at hjr; cases hjr
        have ht1 : tin [to] = [.int .i64 (to : Int)] := rfl
        simp [ht1] at h1 hpl
        simp [ir46_d1, hlt, hw, he, hEd, hdX, hto, hdl, he1, hdist, hpl, h11, hwdc, hk, hw2, hnat, hv, h6X, h11X, show (d : Int) + c < ((padW ws (d + c)).length : Int) by omega, show (0 : Int) ≤ (d : Int) + c by omega, show d + c + 1 ≤ Vs2.length by omega, hsp, hjX, h6Y, hjH, tin_snoc, show L.length ≤ 68719476735 by omega, h1]
end Go.Proofs.Ytgmcjejelpeioaa.Ev
namespace Go.Proofs.Ytgmcjejelpeioaa.Ev
open Go
set_option linter.unusedVariables false
set_option linter.unusedSimpArgs false
attribute [local simp] til_getE til_length til_get til_drop til_take til_snoc til_fold take_snoc til_set tin_getE tin_length tin_take tleN_length tleN_getE

theorem pushW_layer (dist : List Int) (d : Nat) (ws : List (List Nat)) (e : Ed) (he : 1 ≤ e.2.1) (h : d < ws.length) : (pushW dist d ws e)[d]? = ws[d]? ∧ d < (pushW dist d ws e).length := by
  unfold pushW
  split
  · exact ⟨rfl, h⟩
  · rw [List.getElem?_set_ne (by omega)]
    refine ⟨?_, by rw [List.length_set, padW_length]; omega⟩
    unfold padW
    rw [List.getElem?_append_left h]
theorem pushes_layer (dist : List Int) (d : Nat) : ∀ (es : List Ed) (ws : List (List Nat)), (∀ e ∈ es, 1 ≤ e.2.1) → d < ws.length → (es.foldl (pushW dist d) ws)[d]? = ws[d]?
  | [], ws, _, _ => rfl
  | e :: es, ws, he, h => by
    obtain ⟨h1, h2⟩ := pushW_layer dist d ws e (he e (List.mem_cons_self ..)) h
    rw [List.foldl_cons, pushes_layer dist d es _ (fun x hx => he x (List.mem_cons_of_mem _ hx)) h2, h1]
theorem pushW_P {P : Nat → Prop} (dist : List Int) (d : Nat) (ws : List (List Nat)) (e : Ed) (he : P e.1) (h : ∀ l ∈ ws, ∀ x ∈ l, P x) : ∀ l ∈ pushW dist d ws e, ∀ x ∈ l, P x := by
  intro l hl x hx
  have hp : ∀ l ∈ padW ws (d + e.2.1), ∀ x ∈ l, P x := fun l hl x hx => by
    rcases padW_mem hl with h1 | h1
    · exact h l h1 x hx
    · subst h1; cases hx
  unfold pushW at hl
  split at hl
  · exact h l hl x hx
  · rcases List.mem_or_eq_of_mem_set hl with hl | hl
    · exact hp l hl x hx
    · subst hl
      have hk : d + e.2.1 < (padW ws (d + e.2.1)).length := by rw [padW_length]; omega
      rcases List.mem_append.1 hx with hx | hx
      · simp only [hk, List.getElem?_eq_getElem, Option.getD_some] at hx
        exact hp _ (List.getElem_mem hk) x hx
      · simp at hx; subst hx; exact he
theorem pushes_P {P : Nat → Prop} (dist : List Int) (d : Nat) : ∀ (es : List Ed) (ws : List (List Nat)), (∀ e ∈ es, P e.1) → (∀ l ∈ ws, ∀ x ∈ l, P x) → ∀ l ∈ es.foldl (pushW dist d) ws, ∀ x ∈ l, P x
  | [], ws, _, h => h
  | e :: es, ws, he, h => pushes_P dist d es _ (fun x hx => he x (List.mem_cons_of_mem _ hx)) (pushW_P dist d ws e (he e (List.mem_cons_self ..)) h)
def negs (l : List Int) : Nat := l.countP fun x => decide (x < 0)
theorem negs_set : ∀ (l : List Int) (s : Nat) (d : Nat) (h : s < l.length), l[s] < 0 → negs (l.set s (d : Int)) + 1 = negs l
  | x :: l, 0, d, h, hx => by
    simp only [List.getElem_cons_zero] at hx
    have : ¬ ((d : Int) < 0) := by omega
    simp [negs, List.countP_cons, hx, this]
  | x :: l, s + 1, d, h, hx => by
    simp only [List.getElem_cons_succ] at hx
    have ih := negs_set l s d (by simpa using h) hx
    simp only [negs] at ih
    simp only [negs, List.set_cons_succ, List.countP_cons]
    omega
theorem negs_len (l : List Int) : negs l ≤ l.length := List.countP_le_length
def stepN (out : Nat → List Ed) (d : Nat) (st : List Int × List (List Nat)) (s : Nat) : List Int × List (List Nat) :=
  if 0 ≤ st.1[s]?.getD 0 then st else (st.1.set s d, (out s).foldl (pushW (st.1.set s d) d) st.2)
structure OkD (N C D d : Nat) (P : Nat → Prop) (st : List Int × List (List Nat)) : Prop where
  n : st.1.length = N
  w : st.2.length ≤ d + C + 1
  b : ∀ l ∈ st.2, l.length + D * negs st.1 ≤ 2 ^ 30
  p : ∀ l ∈ st.2, ∀ x ∈ l, P x
  t : D * negs st.1 ≤ 2 ^ 30
structure OkG (N C D : Nat) (P : Nat → Prop) (out : Nat → List Ed) : Prop where
  lt : ∀ s, P s → s < N
  deg : ∀ s, P s → (out s).length ≤ D
  ed : ∀ s, P s → ∀ e ∈ out s, P e.1 ∧ 1 ≤ e.2.1 ∧ e.2.1 ≤ C
theorem pushes_bound (dist : List Int) (d : Nat) : ∀ (es : List Ed) (ws : List (List Nat)) (B : Nat), (∀ l ∈ ws, l.length ≤ B) → ∀ l ∈ es.foldl (pushW dist d) ws, l.length ≤ B + es.length
  | [], ws, B, h => h
  | e :: es, ws, B, h => fun l hl => by
    have := pushes_bound dist d es _ (B + 1) (pushW_bound dist d ws e B h) l hl
    simp; omega
theorem pushes_length (dist : List Int) (d M : Nat) : ∀ (es : List Ed) (ws : List (List Nat)), (∀ e ∈ es, d + e.2.1 + 1 ≤ M) → ws.length ≤ M → (es.foldl (pushW dist d) ws).length ≤ M
  | [], ws, _, h => h
  | e :: es, ws, he, h => pushes_length dist d M es _ (fun x hx => he x (List.mem_cons_of_mem _ hx)) (pushW_length dist d ws e M h (he e (List.mem_cons_self ..)))
theorem OkD.step {N C D d : Nat} {P : Nat → Prop} {out : Nat → List Ed} (hG : OkG N C D P out) {st : List Int × List (List Nat)} (h : OkD N C D d P st) (s : Nat) (hs : P s) : OkD N C D d P (stepN out d st s) := by
  unfold stepN
  split
  · exact h
  · rename_i hn
    have hlt := hG.lt s hs
    have hlt' : s < st.1.length := by rw [h.n]; exact hlt
    have hng := negs_set st.1 s d hlt' (by simp [hlt'] at hn; omega)
    have hdeg := hG.deg s hs
    refine ⟨by simpa using h.n, pushes_length _ _ _ _ _ (fun e he => by have := (hG.ed s hs e he).2.2; omega) h.w, fun l hl => ?_, pushes_P _ _ _ _ (fun e he => (hG.ed s hs e he).1) h.p, ?_⟩
    rotate_left
    · have := h.t
      rw [← hng, Nat.mul_add, Nat.mul_one] at this
      show D * negs (st.1.set s d) ≤ 2 ^ 30
      omega
    have h1 : ∀ l ∈ st.2, l.length ≤ 2 ^ 30 - D * negs st.1 := fun l hl => by have := h.b l hl; omega
    have h2 := pushes_bound _ _ _ _ _ h1 l hl
    rw [← hng, Nat.mul_add, Nat.mul_one] at h2
    have := h.t
    rw [← hng, Nat.mul_add, Nat.mul_one] at this
    show l.length + D * negs (st.1.set s d) ≤ 2 ^ 30
    omega
theorem stepN_layer {N C D d : Nat} {P : Nat → Prop} {out : Nat → List Ed} (hG : OkG N C D P out) (st : List Int × List (List Nat)) (s : Nat) (hs : P s) (h : d < st.2.length) : (stepN out d st s).2[d]? = st.2[d]? := by
  unfold stepN
  split
  · rfl
  · exact pushes_layer _ _ _ _ (fun e he => (hG.ed s hs e he).2.1) h
variable {i2 i5 i6 : Nat} {many : Int} {clo : T} {dist : List Int} {ws : List (List Nat)} {Vs : List V} {H : Heap}
theorem WS.setd (h : WS H i2 i5 i6 many clo dist ws Vs) (h2 : ¬ OwnW i5 i6 Vs i2) (dist' : List Int) : WS (H.set i5 (.pure 1 (til dist'))) i2 i5 i6 many clo dist' ws Vs ∧ Ext (OwnW i5 i6 Vs) (OwnW i5 i6 Vs) H (H.set i5 (.pure 1 (til dist'))) := by
  have hlt := h.lt5
  have h56 : i5 ≠ i6 := fun e => (by have := h.w; rw [← e, h.d] at this; cases this)
  have h52 : i5 ≠ i2 := fun e => h2 (.inl e.symm)
  refine ⟨⟨by rw [List.getElem?_set_ne h52]; exact h.g, by rw [List.getElem?_set_self hlt.2.1], by rw [List.getElem?_set_ne h56]; exact h.w, h.n, fun k l hl => ?_, h.s, h.x⟩, by simp, fun id hid => .inl hid, fun id hid hn => ?_⟩
  · obtain ⟨v, hv, hr⟩ := h.l k l hl
    refine ⟨v, hv, hr.mono fun j n e => ?_⟩
    rw [List.getElem?_set_ne (fun e' => h.x k j n (e ▸ hv) e'.symm)]
  · rw [List.getElem?_set_ne (fun e => hn (.inl e.symm))]
end Go.Proofs.Ytgmcjejelpeioaa.Ev
namespace Go.Proofs.Ytgmcjejelpeioaa.Ev
open Go
set_option linter.unusedVariables false
set_option linter.unusedSimpArgs false
attribute [local simp] til_getE til_length til_get til_drop til_take til_snoc til_fold take_snoc til_set tin_getE tin_length tin_take tleN_length tleN_getE

theorem LayR.len {H : Heap} {k : Nat} {v : V} {l : List Nat} (h : LayR H k v l) : evLen H 1 v = some (l.length : Int) := by
  rcases h with ⟨rfl, rfl⟩ | ⟨_, rfl⟩ | ⟨j, rfl, hj⟩ <;> simp
theorem LayR.ix {H : Heap} {k : Nat} {v : V} {l : List Nat} (h : LayR H k v l) (i : Nat) (hi : i < l.length) : ∃ p, evIxa H 1 v (.t (ti i)) = some p ∧ evLd H false 1 p = some (.t (ti l[i])) := by
  rcases h with ⟨rfl, rfl⟩ | ⟨_, rfl⟩ | ⟨j, rfl, hj⟩
  · simp at hi
  · exact ⟨.rptr (ti l[i]) 0, by simp [hi], by simp⟩
  · exact ⟨.ptr j i 0, by simp [hj, hi], by simp [hj, hi]⟩
variable {i2 i5 : Nat} {many : Int}
theorem w46_2 {f : FuncId} {caps : List T} {N C D : Nat} {P : Nat → Prop} {out : Nat → List Ed} (hG : OkG N C D P out)
    (hcall : ∀ s, P s → ∀ H, evCall env (den env) f (.t (ti s) :: caps.map .t) H = some (.ref H.length 0 (out s).length, H ++ [.pure 4 (tleN (out s))])) (d : Nat) (hC : d + C < 2 ^ 30) (hD : D ≤ 2 ^ 30) (cur : List Nat) (hcl : cur.length ≤ 2 ^ 30) :
    ∀ (m i : Nat) (H : Heap) (i6 : Nat) (ws : List (List Nat)) (Vs : List V) (dist : List Int), i + m = cur.length → WS H i2 i5 i6 many (.clo f [] caps) dist ws Vs → ¬ OwnW i5 i6 Vs i2 → OkD N C D d P (dist, ws) → ws[d]? = some cur →
    ∃ H' i6' Vs' v, loopF env false [2, 5, 6, 7, 8] ir46_b2 ([(2, .ptr i2 0 0), (5, .ref i5 0 N), (6, .ref i6 0 ws.length), (7, .t (ti d)), (8, .t (ti i))], H) =
      some (.exit 2, [(2, .ptr i2 0 0), (5, .ref i5 0 N), (6, .ref i6' 0 ((cur.drop i).foldl (stepN out d) (dist, ws)).2.length), (7, .t (ti d)), (8, .t (ti cur.length)), (24, .t (ti cur.length)), (25, .ref i6' 0 ((cur.drop i).foldl (stepN out d) (dist, ws)).2.length), (26, .t (ti d)), (27, .ptr i6' d 0), (28, v), (29, .t (ti cur.length)), (30, .t (tb false))], H') ∧
      WS H' i2 i5 i6' many (.clo f [] caps) ((cur.drop i).foldl (stepN out d) (dist, ws)).1 ((cur.drop i).foldl (stepN out d) (dist, ws)).2 Vs' ∧ Ext (OwnW i5 i6 Vs) (OwnW i5 i6' Vs') H H' ∧ OkD N C D d P ((cur.drop i).foldl (stepN out d) (dist, ws))
  | 0, i, H, i6, ws, Vs, dist, hi, hW, hn2, hO, hcur => by
    have : i = cur.length := by omega
    subst this
    rw [x46_2]
    simp only [List.drop_length, List.foldl_nil]
    obtain ⟨v, hv, hr⟩ := hW.l d cur hcur
    refine ⟨H, i6, Vs, v, ?_, hW, by simpa using Ext.app (W := OwnW i5 i6 Vs) (H := H) [], hO⟩
    have hlen := hr.len
    have hdl : d < ws.length := (List.getElem?_eq_some_iff.1 hcur).1
    have hw := hW.w
    simp [ir46_d2, hw, hdl, hv, hlen]
  | m + 1, i, H, i6, ws, Vs, dist, hi, hW, hn2, hO, hcur => by
    have hlt : i < cur.length := by omega
    rw [x46_2]
    obtain ⟨v, hv, hr⟩ := hW.l d cur hcur
    have hlen := hr.len
    obtain ⟨pv, hix, hld⟩ := hr.ix i hlt
    have hdl : d < ws.length := (List.getElem?_eq_some_iff.1 hcur).1
    have hw := hW.w
    have hd5 := hW.d
    have hg2 := hW.g
    have hwi : IntKind.i64.wrap ((i : Int) + 1) = (i : Int) + 1 := w64 (by omega)
    have hPs : P cur[i] := hO.p cur (List.mem_iff_getElem?.2 ⟨d, hcur⟩) _ (List.getElem_mem hlt)
    have hsN := hG.lt _ hPs
    have hsl : cur[i] < dist.length := by have := hO.n; simp only at this; omega
    have hNd : N = dist.length := hO.n.symm
    have hs : (cur.drop i).foldl (stepN out d) (dist, ws) = (cur.drop (i + 1)).foldl (stepN out d) (stepN out d (dist, ws) cur[i]) := by rw [List.drop_eq_getElem_cons hlt]; rfl
    rw [hs]
    by_cases hge : 0 ≤ dist[cur[i]]
    · have hst : stepN out d (dist, ws) cur[i] = (dist, ws) := by simp [stepN, hsl, hge]
      rw [hst]
      obtain ⟨H', i6', Vs', v', h1, h2, h3, h4⟩ := w46_2 hG hcall d hC hD cur hcl m (i + 1) H i6 ws Vs dist (by omega) hW hn2 hO hcur
      refine ⟨H', i6', Vs', v', ?_, h2, h3, h4⟩
      generalize (cur.drop (i + 1)).foldl (stepN out d) (dist, ws) = Z at *
      simp at h1
      simp [ir46_d2, hw, hdl, hv, hlen, hlt, hix, hld, hd5, hsN, hsl, ← hNd, hge, hwi, h1]
    · have hst : stepN out d (dist, ws) cur[i] = (dist.set cur[i] d, (out cur[i]).foldl (pushW (dist.set cur[i] d) d) ws) := by simp [stepN, hsl, hge]
      have hO1 := hO.step hG cur[i] hPs
      have hl1 := stepN_layer hG (dist, ws) cur[i] hPs hdl
      rw [hst] at hO1 hl1 ⊢
      simp only at hl1
      obtain ⟨hW1, hE1⟩ := hW.setd hn2 (dist.set cur[i] d)
      have h61 := hW1.lt5
      have hW2 : WS (H.set i5 (.pure 1 (til (dist.set cur[i] d))) ++ [.pure 4 (tleN (out cur[i]))]) i2 i5 i6 many (.clo f [] caps) (dist.set cur[i] d) ws Vs := hW1.mono (get_app h61.1) (fun id hid => get_app (hW1.own_lt hid))
      have hE2 : Ext (OwnW i5 i6 Vs) (OwnW i5 i6 Vs) H (H.set i5 (.pure 1 (til (dist.set cur[i] d))) ++ [.pure 4 (tleN (out cur[i]))]) := hE1.trans (Ext.app _)
      have hB : ∀ l ∈ ws, l.length ≤ 2 ^ 30 - D * negs dist := fun l hl => by have := hO.b l hl; simp only at this; omega
      have hng := negs_set dist cur[i] d hsl (by omega)
      have hbt := hO.t
      simp only at hbt
      rw [← hng, Nat.mul_add, Nat.mul_one] at hbt
      have hdeg := hG.deg _ hPs
      obtain ⟨H2, i62, Vs2, g1, g2, g3, g4, g5⟩ := w46 (many := many) (clo := .clo f [] caps) C d N hC (by simp [hNd]) (out cur[i]) (fun e he => ⟨hG.lt _ (hG.ed _ hPs e he).1, (hG.ed _ hPs e he).2.1, (hG.ed _ hPs e he).2.2⟩) (by omega) H.length (.t (ti i)) (out cur[i]).length 0 _ i6 ws Vs _ (by omega) hW2 hn2 (by simp) (fun ho => by have := hW.own_lt ho; omega) hO.w hB (by
        rw [← hng, Nat.mul_add, Nat.mul_one]; omega)
      rw [List.drop_zero] at g1 g2 g4 g5
      have hE3 := hE2.trans g3
      obtain ⟨H', i6', Vs', v', h1, h2, h3, h4⟩ := w46_2 hG hcall d hC hD cur hcl m (i + 1) H2 i62 _ Vs2 _ (by omega) g2 (hE3.not hW.lt5.1 hn2) hO1 (hl1.trans hcur)
      refine ⟨H', i6', Vs', v', ?_, h2, hE3.trans h3, h4⟩
      have hc := hcall _ hPs
      have hlen5 : (H.set i5 (.pure 1 (til (dist.set cur[i] d)))).length = H.length := by simp
      generalize (cur.drop (i + 1)).foldl (stepN out d) (dist.set cur[i] d, (out cur[i]).foldl (pushW (dist.set cur[i] d) d) ws) = Z at *
      simp at h1 g1
      simp [ir46_d2, hw, hdl, hv, hlen, hlt, hix, hld, hd5, hsN, hsl, ← hNd, hge, hwi, hW1.g, hc, g1, h1]
end Go.Proofs.Ytgmcjejelpeioaa.Ev
namespace Go.Proofs.Ytgmcjejelpeioaa.Ev
open Go
set_option linter.unusedVariables false
set_option linter.unusedSimpArgs false
attribute [local simp] til_getE til_length til_get til_drop til_take til_snoc til_fold take_snoc til_set tin_getE tin_length tin_take tleN_length tleN_getE
def fromL (out : Nat → List Ed) : Nat → Nat → List Int × List (List Nat) → Option (List Int × List (List Nat))
  | 0, _, _ => none
  | n + 1, d, st => match st.2[d]? with
    | none => some st
    | some cur => fromL out n (d + 1) (cur.foldl (stepN out d) st)
theorem OkD.mono {N C D d : Nat} {P : Nat → Prop} {st : List Int × List (List Nat)} (h : OkD N C D d P st) : OkD N C D (d + 1) P st := ⟨h.n, by have := h.w; omega, h.b, h.p, h.t⟩
variable {i2 i5 : Nat} {many : Int}
theorem w46_3 {f : FuncId} {caps : List T} {N C D : Nat} {P : Nat → Prop} {out : Nat → List Ed} (hG : OkG N C D P out)
    (hcall : ∀ s, P s → ∀ H, evCall env (den env) f (.t (ti s) :: caps.map .t) H = some (.ref H.length 0 (out s).length, H ++ [.pure 4 (tleN (out s))])) (hC : C < 2 ^ 20) (hD : D ≤ 2 ^ 30) (r : List Int × List (List Nat)) :
    ∀ (n d : Nat) (H : Heap) (i6 : Nat) (ws : List (List Nat)) (Vs : List V) (dist : List Int), d + n < 2 ^ 29 → WS H i2 i5 i6 many (.clo f [] caps) dist ws Vs → ¬ OwnW i5 i6 Vs i2 → OkD N C D d P (dist, ws) → fromL out n d (dist, ws) = some r →
    ∃ H' i6' Vs' d', loopF env false [2, 5, 6, 7] ir46_b3 ([(2, .ptr i2 0 0), (5, .ref i5 0 N), (6, .ref i6 0 ws.length), (7, .t (ti d))], H) =
      some (.exit 0, [(2, .ptr i2 0 0), (5, .ref i5 0 N), (6, .ref i6' 0 r.2.length), (7, .t (ti d')), (18, .t (ti d')), (19, .ref i6' 0 r.2.length), (20, .t (ti r.2.length)), (21, .t (tb false))], H') ∧
      WS H' i2 i5 i6' many (.clo f [] caps) r.1 r.2 Vs' ∧ Ext (OwnW i5 i6 Vs) (OwnW i5 i6' Vs') H H'
  | 0, d, H, i6, ws, Vs, dist, hdn, hW, hn2, hO, hr => by cases hr
  | n + 1, d, H, i6, ws, Vs, dist, hdn, hW, hn2, hO, hr => by
    rw [x46_3]
    unfold fromL at hr
    simp only at hr
    rcases Nat.lt_or_ge d ws.length with hlt | hge
    · have hcur : ws[d]? = some ws[d] := by simp [hlt]
      rw [hcur] at hr
      simp only at hr
      have hcl : ws[d].length ≤ 2 ^ 30 := by have := hO.b ws[d] (List.getElem_mem hlt); simp only at this; omega
      obtain ⟨H2, i62, Vs2, v, g1, g2, g3, g4⟩ := w46_2 hG hcall d (by omega) hD ws[d] hcl ws[d].length 0 H i6 ws Vs dist (by omega) hW hn2 hO hcur
      rw [List.drop_zero] at g1 g2 g4
      generalize hZ : ws[d].foldl (stepN out d) (dist, ws) = Z at *
      have hw : IntKind.i64.wrap ((d : Int) + 1) = (d : Int) + 1 := w64 (by omega)
      obtain ⟨H', i6', Vs', d', h1, h2, h3⟩ := w46_3 hG hcall hC hD r n (d + 1) H2 i62 Z.2 Vs2 Z.1 (by omega) g2 (g3.not hW.lt5.1 hn2) g4.mono hr
      refine ⟨H', i6', Vs', d', ?_, h2, g3.trans h3⟩
      simp at h1 g1
      simp [ir46_d3, hlt, g1, hw, h1]
    · rw [List.getElem?_eq_none hge] at hr
      simp only [Option.some.injEq] at hr
      subst hr
      refine ⟨H, i6, Vs, d, ?_, hW, by simpa using Ext.app (W := OwnW i5 i6 Vs) (H := H) []⟩
      simp [ir46_d3, show ¬ d < ws.length by omega]
theorem d46 {f : FuncId} {caps : List T} {N C D : Nat} {P : Nat → Prop} {out : Nat → List Ed} (hG : OkG N C D P out)
    (hcall : ∀ s, P s → ∀ H, evCall env (den env) f (.t (ti s) :: caps.map .t) H = some (.ref H.length 0 (out s).length, H ++ [.pure 4 (tleN (out s))])) (hC : C < 2 ^ 20) (hN : 0 < N ∧ N ≤ 2 ^ 20) (starts : List Nat) (hs : starts.length + D * N ≤ 2 ^ 30) (hsP : ∀ x ∈ starts, P x)
    (n : Nat) (hn : n < 2 ^ 29) (r : List Int × List (List Nat)) (hr : fromL out n 0 (List.replicate N (-1), [starts]) = some r) (H : Heap) :
    ∃ H' i, den env 46 [.t (.agg [ti N, .clo f [] caps]), .t (.lst 1 (tin starts))] H = some (.ref i 0 N, H') ∧ H'[i]? = some (.pure 1 (til r.1)) ∧ H.length ≤ i ∧ H.length ≤ H'.length ∧ ∀ id, id < H.length → H'[id]? = H[id]? := by
  rw [den_ir e46 _ _ rfl (.inl rfl)]
  have h64 : ownR env 64 [.lst 1 [.int .i64 (-1)], ti N] = _ := r64 (-1) N hN.1 hN.2
  have hng : negs (List.replicate N (-1)) ≤ N := by have := negs_len (List.replicate N (-1)); simpa using this
  have hDN : D * negs (List.replicate N (-1)) ≤ D * N := Nat.mul_le_mul_left _ hng
  have hD : D ≤ D * N := Nat.le_mul_of_pos_right _ hN.1
  have hW : WS (H ++ [Blk.box 2 [.t (ti N), .t (.clo f [] caps)], .pure 1 [.int .i64 (-1)], .pure 1 (til (List.replicate N (-1))), .box 1 [.t (.lst 1 (tin starts))]]) H.length (H.length + 2) (H.length + 3) N (.clo f [] caps) (List.replicate N (-1)) [starts] [.t (.lst 1 (tin starts))] := by
    refine ⟨by simp, by simp, by simp, by simp, fun k l hl => ?_, fun k k' j a b hk => ?_, fun k j a hk => ?_⟩
    · rcases k with _ | k
      · simp at hl; subst hl; exact ⟨_, rfl, .inr (.inl ⟨rfl, rfl⟩)⟩
      · simp at hl
    · rcases k with _ | k <;> simp at hk
    · rcases k with _ | k <;> simp at hk
  have hO : OkD N C D 0 P (List.replicate N (-1), [starts]) := ⟨by simp, by simp, fun l hl => by simp at hl; subst hl; show l.length + D * negs (List.replicate N (-1)) ≤ 2 ^ 30; omega, fun l hl => by simp at hl; subst hl; exact hsP, by show D * negs (List.replicate N (-1)) ≤ 2 ^ 30; omega⟩
  have hown : ∀ id, id < H.length + 2 → ¬ OwnW (H.length + 2) (H.length + 3) [V.t (.lst 1 (tin starts))] id := fun id hid ho => by
    rcases ho with h | h | ⟨k, a, h⟩
    · omega
    · omega
    · rcases k with _ | k <;> simp at h
  obtain ⟨H', i6', Vs', d', h1, h2, h3⟩ := w46_3 (many := N) hG hcall hC (by omega) r n 0 _ _ _ _ _ (by omega) hW (hown _ (by omega)) hO hr
  have hl := h3.len
  simp only [List.length_append, List.length_cons, List.length_nil] at hl
  refine ⟨H', H.length + 2, ?_, h2.d, by omega, by omega, fun id hid => (h3.keep id (by simp; omega) (hown id (by omega))).trans (get_app hid)⟩
  simp at h1
  simp [ir46, ir46_c, h64, h1]
end Go.Proofs.Ytgmcjejelpeioaa.Ev
namespace Go.Proofs.Ytgmcjejelpeioaa.Ev
open Go
set_option linter.unusedVariables false
set_option linter.unusedSimpArgs false
attribute [local simp] til_getE til_length til_get til_drop til_take til_snoc til_fold take_snoc til_set tin_getE tin_length tin_take tleN_length tleN_getE

theorem stepN_n (out : Nat → List Ed) (d : Nat) (st : List Int × List (List Nat)) (s : Nat) : (stepN out d st s).1.length = st.1.length := by
  unfold stepN; split <;> simp
theorem fromL_n (out : Nat → List Ed) : ∀ (n d : Nat) (st r : List Int × List (List Nat)), fromL out n d st = some r → r.1.length = st.1.length
  | 0, _, _, _, h => by cases h
  | n + 1, d, st, r, h => by
    unfold fromL at h
    split at h
    · cases h; rfl
    · rw [fromL_n out n _ _ _ h]
      have : ∀ (l : List Nat) (st : List Int × List (List Nat)), (l.foldl (stepN out d) st).1.length = st.1.length := fun l => by
        induction l with
        | nil => intro st; rfl
        | cons x l ih => intro st; rw [List.foldl_cons, ih, stepN_n]
      exact this _ _
theorem r27 {f : FuncId} {caps : List T} {N C D : Nat} {P : Nat → Prop} {out : Nat → List Ed} (hG : OkG N C D P out)
    (hcall : ∀ s, P s → ∀ H, evCall env (den env) f (.t (ti s) :: caps.map .t) H = some (.ref H.length 0 (out s).length, H ++ [.pure 4 (tleN (out s))])) (hC : C < 2 ^ 20) (hN : 0 < N ∧ N ≤ 1000000) (start : Nat) (hs : 1 + D * N ≤ 2 ^ 30) (hsP : P start)
    (n : Nat) (hn : n < 2 ^ 29) (r : List Int × List (List Nat)) (hr : fromL out n 0 (List.replicate N (-1), [[start]]) = some r) :
    ownR env 27 [.agg [ti N, .clo f [] caps], ti start] = some (.t (ti (cntR r.1)), []) := by
  rw [own_ir e27 _ rfl]
  obtain ⟨H', i, h1, h2, h3, h4, h5⟩ := d46 hG hcall hC (by omega) [start] (by simpa using hs) (by simpa using hsP) n hn r hr [.box 2 [.t (ti N), .t (.clo f [] caps)], .froz 1 [.int .i64 start]]
  have hrl : r.1.length = N := by simpa using fromL_n _ _ _ _ _ hr
  have hl := l27 r.1 (by omega) r.1.length 0 0 (by omega) (by omega)
  simp [hrl] at hl
  have h1' : den env 46 [.t (.agg [ti N, .clo f [] caps]), .t (.lst 1 [.int .i64 start])] _ = _ := h1
  simp [ir27, ir27_c, h1', h2, hl]
end Go.Proofs.Ytgmcjejelpeioaa.Ev
namespace Go.Proofs.Ytgmcjejelpeioaa.Ev
open Go
set_option linter.unusedVariables false
set_option linter.unusedSimpArgs false
def Calm (a : Nat) (t : Nat → Prop) : Prop := ¬ ((∃ i, i < a ∧ t (2 * i + 1) ∧ ¬ t (2 * i)) ∧ ∃ j, j < a ∧ t (2 * j))
theorem Calm_congr {a : Nat} {t u : Nat → Prop} (h : ∀ j, j < 2 * a → (t j ↔ u j)) : Calm a t ↔ Calm a u := by
  unfold Calm
  constructor
  · rintro h1 ⟨⟨i, hi, h2, h3⟩, j, hj, h4⟩
    exact h1 ⟨⟨i, hi, (h _ (by omega)).2 h2, fun h5 => h3 ((h _ (by omega)).1 h5)⟩, j, hj, (h _ (by omega)).2 h4⟩
  · rintro h1 ⟨⟨i, hi, h2, h3⟩, j, hj, h4⟩
    exact h1 ⟨⟨i, hi, (h _ (by omega)).1 h2, fun h5 => h3 ((h _ (by omega)).2 h5)⟩, j, hj, (h _ (by omega)).1 h4⟩
theorem calmI_iff (a : Nat) (ha : a ≤ 1000000) (g : List Int) (hp : ∀ x ∈ g, 0 ≤ x ∧ x < 2 * (a : Int)) : calmI g g = true ↔ Calm a fun j => (j : Int) ∈ g := by
  unfold calmI Calm
  rw [List.all_eq_true]
  have e : ∀ x ∈ g, ((decide (x.tmod 2 = 0) || decide (IntKind.i64.wrap (x - 1) ∈ g) || !decide (∃ y ∈ g, y.tmod 2 = 0)) = true ↔ (x % 2 = 0 ∨ x - 1 ∈ g ∨ ¬ ∃ y ∈ g, y % 2 = 0)) := fun x hx => by
    have hx2 := hp x hx
    rw [w64 (n := x - 1) (by omega), Int.tmod_eq_emod_of_nonneg hx2.1]
    have : (∃ y ∈ g, y.tmod 2 = 0) ↔ (∃ y ∈ g, y % 2 = 0) := by
      constructor <;> rintro ⟨y, hy, h⟩ <;> refine ⟨y, hy, ?_⟩
      · rwa [Int.tmod_eq_emod_of_nonneg (hp y hy).1] at h
      · rwa [Int.tmod_eq_emod_of_nonneg (hp y hy).1]
    simp only [this, Bool.or_eq_true, decide_eq_true_eq, Bool.not_eq_true', decide_eq_false_iff_not]
    rw [or_assoc]
  constructor
  · rintro h ⟨⟨i, hi, h3, h4⟩, j, hj, h5⟩
    rcases (e _ h3).1 (h _ h3) with h | h | h
    · omega
    · exact h4 (show ((2 * i : Nat) : Int) ∈ g by rw [show ((2 * i : Nat) : Int) = ((2 * i + 1 : Nat) : Int) - 1 by omega]; exact h)
    · exact h ⟨_, h5, by omega⟩
  · intro h x hx
    rw [e x hx]
    by_cases h6 : x % 2 = 0
    · exact .inl h6
    · by_cases h7 : x - 1 ∈ g
      · exact .inr (.inl h7)
      · refine .inr (.inr ?_)
        rintro ⟨y, hy, h8⟩
        have hx2 := hp x hx
        have hy2 := hp y hy
        refine h ⟨⟨(x / 2).toNat, by omega, ?_, ?_⟩, (y / 2).toNat, by omega, ?_⟩
        · show ((2 * (x / 2).toNat + 1 : Nat) : Int) ∈ g
          rw [show ((2 * (x / 2).toNat + 1 : Nat) : Int) = x by omega]; exact hx
        · show ¬ ((2 * (x / 2).toNat : Nat) : Int) ∈ g
          rw [show ((2 * (x / 2).toNat : Nat) : Int) = x - 1 by omega]; exact h7
        · show ((2 * (y / 2).toNat : Nat) : Int) ∈ g
          rw [show ((2 * (y / 2).toNat : Nat) : Int) = y by omega]; exact hy
theorem cuB_iff (a N : Nat) : cuB a N = true ↔ Calm a fun j => N.testBit j = true := by
  have b4 : ∀ i, (N / 2 ^ (2 * i) % 4 = 2) ↔ (N.testBit (2 * i + 1) = true ∧ ¬ N.testBit (2 * i) = true) := fun i => by
    rw [Nat.testBit_eq_decide_div_mod_eq, Nat.testBit_eq_decide_div_mod_eq, Nat.pow_succ, ← Nat.div_div_eq_div_mul]
    generalize N / 2 ^ (2 * i) = q
    simp only [decide_eq_true_eq]
    omega
  have b2 : ∀ i, (N / 2 ^ (2 * i) % 2 = 1) ↔ N.testBit (2 * i) = true := fun i => by
    rw [Nat.testBit_eq_decide_div_mod_eq, decide_eq_true_eq]
  have hX : (List.range' 0 a).any (fun i => decide (N / 2 ^ (2 * i) % 4 = 2)) = true ↔ ∃ i, i < a ∧ N.testBit (2 * i + 1) = true ∧ ¬ N.testBit (2 * i) = true := by
    rw [List.any_eq_true]
    constructor
    · rintro ⟨i, hi, h⟩
      rw [List.mem_range'_1] at hi
      exact ⟨i, by omega, (b4 i).1 (by simpa using h)⟩
    · rintro ⟨i, hi, h⟩
      exact ⟨i, by rw [List.mem_range'_1]; omega, by simpa using (b4 i).2 h⟩
  have hY : (List.range' 0 a).any (fun j => decide (N / 2 ^ (2 * j) % 2 = 1)) = true ↔ ∃ j, j < a ∧ N.testBit (2 * j) = true := by
    rw [List.any_eq_true]
    constructor
    · rintro ⟨i, hi, h⟩
      rw [List.mem_range'_1] at hi
      exact ⟨i, by omega, (b2 i).1 (by simpa using h)⟩
    · rintro ⟨i, hi, h⟩
      exact ⟨i, by rw [List.mem_range'_1]; omega, by simpa using (b2 i).2 h⟩
  unfold cuB Calm
  rw [← hX, ← hY, ← Bool.and_eq_true, Bool.not_eq_true', Bool.not_eq_true]
theorem bitsI_test (j : Nat) : ∀ (g : List Int) (N : Nat), (bitsI g N).testBit j = true ↔ N.testBit j = true ∨ ∃ k ∈ g, k.toNat = j
  | [], N => by simp [bitsI]
  | k :: g, N => by
    rw [bitsI, bitsI_test j g]
    rw [Nat.testBit_or, Nat.testBit_two_pow, Bool.or_eq_true, decide_eq_true_eq, or_assoc]
    simp only [List.mem_cons, exists_eq_or_imp]
theorem bitsAt_test (p : Int) (j : Nat) : ∀ (xs : List Int) (i N : Nat), (bitsAt p i xs N).testBit j = true ↔ N.testBit j = true ∨ ∃ m, xs[m]? = some p ∧ i + m = j
  | [], i, N => by simp [bitsAt]
  | x :: xs, i, N => by
    rw [bitsAt]
    have key : (∃ m, (x :: xs)[m]? = some p ∧ i + m = j) ↔ (x = p ∧ i = j) ∨ ∃ m, xs[m]? = some p ∧ i + 1 + m = j := by
      constructor
      · rintro ⟨m, h1, h2⟩
        rcases m with _ | m
        · left; simpa using ⟨by simpa using h1, h2⟩
        · right; exact ⟨m, by simpa using h1, by omega⟩
      · rintro (⟨h1, h2⟩ | ⟨m, h1, h2⟩)
        · exact ⟨0, by simpa using h1, h2⟩
        · exact ⟨m + 1, by simpa using h1, by omega⟩
    rw [key]
    split
    · rename_i h
      rw [bitsAt_test p j xs]
      rw [Nat.testBit_or, Nat.testBit_two_pow, Bool.or_eq_true, decide_eq_true_eq, or_assoc]
      simp only [h, true_and]
    · rename_i h
      rw [bitsAt_test p j xs]
      simp [h]
theorem stand_mem (p : Int) (y : Int) : ∀ (xs : List Int) (i : Nat), y ∈ stand p i xs ↔ ∃ m : Nat, xs[m]? = some p ∧ y = ((i + m : Nat) : Int)
  | [], i => by simp [stand]
  | x :: xs, i => by
    rw [stand]
    have key : (∃ m : Nat, (x :: xs)[m]? = some p ∧ y = ((i + m : Nat) : Int)) ↔ (x = p ∧ y = (i : Int)) ∨ ∃ m : Nat, xs[m]? = some p ∧ y = ((i + 1 + m : Nat) : Int) := by
      constructor
      · rintro ⟨m, h1, h2⟩
        rcases m with _ | m
        · left; exact ⟨by simpa using h1, by simpa using h2⟩
        · right; exact ⟨m, by simpa using h1, by rw [h2]; congr 1; omega⟩
      · rintro (⟨h1, h2⟩ | ⟨m, h1, h2⟩)
        · exact ⟨0, by simpa using h1, by simpa using h2⟩
        · exact ⟨m + 1, by simpa using h1, by rw [h2]; congr 1; omega⟩
    rw [key]
    split
    · rename_i h
      rw [List.mem_cons, stand_mem p y xs]; simp [h]
    · rename_i h
      rw [stand_mem p y xs]; simp [h]
theorem calm_eq (a : Nat) (ha : a ≤ 1000) (c : Int) (L : List Int) (hL : L.length = 2 * a) : calmP c L = calmS a c L := by
  unfold calmP calmS
  congr 1
  funext i
  rw [Bool.eq_iff_iff, calmI_iff a (by omega) _ (fun x hx => by have := stand_in i L 0 x hx; omega), cuB_iff]
  refine Calm_congr fun j hj => ?_
  rw [stand_mem, bitsAt_test]
  constructor
  · rintro ⟨m, h1, h2⟩; exact .inr ⟨m, h1, by omega⟩
  · rintro (h | ⟨m, h1, h2⟩)
    · simp at h
    · exact ⟨m, h1, by omega⟩
theorem group_calm (a : Nat) (ha : a ≤ 1000) (g : List Int) (hg : ∀ x ∈ g, 0 ≤ x ∧ x < 2 * (a : Int)) : calmI g g = cuB a (bitsI g 0) := by
  rw [Bool.eq_iff_iff, calmI_iff a (by omega) g hg, cuB_iff]
  refine Calm_congr fun j hj => ?_
  rw [bitsI_test]
  constructor
  · intro h; exact .inr ⟨_, h, by simp⟩
  · rintro (h | ⟨k, h1, h2⟩)
    · simp at h
    · have := hg k h1
      rw [show (j : Int) = k by omega]; exact h1
end Go.Proofs.Ytgmcjejelpeioaa.Ev
namespace Go.Proofs.Ytgmcjejelpeioaa.Ev
open Go
set_option linter.unusedVariables false
set_option linter.unusedSimpArgs false

theorem grps_form (most : Int) : ∀ (rest l g : List Int), g ∈ grps most rest l → ∃ s, g = l ++ s ∧ s ≠ [] ∧ List.Sublist s rest
  | [], _, g, h => by simp [grps] at h
  | x :: rest, l, g, h => by
    simp only [grps] at h
    split at h
    · simp only [List.mem_cons, List.mem_append] at h
      rcases h with rfl | h | h
      · exact ⟨[x], rfl, by simp, List.cons_sublist_cons.2 (List.nil_sublist _)⟩
      · obtain ⟨s, h1, h2, h3⟩ := grps_form most rest (l ++ [x]) g h
        exact ⟨x :: s, by simpa using h1, by simp, List.cons_sublist_cons.2 h3⟩
      · obtain ⟨s, h1, h2, h3⟩ := grps_form most rest l g h
        exact ⟨s, h1, h2, h3.cons x⟩
    · cases h
theorem stand_pair (p : Int) : ∀ (xs : List Int) (i : Nat), (stand p i xs).Pairwise (· < ·)
  | [], i => by simp [stand]
  | x :: xs, i => by
    rw [stand]
    split
    · refine List.pairwise_cons.2 ⟨fun y hy => ?_, stand_pair p xs (i + 1)⟩
      have := stand_in p xs (i + 1) y hy
      omega
    · exact stand_pair p xs (i + 1)
theorem rises_of {a b : Int} {g : List Int} (h : g.Pairwise (· < ·)) (hb : ∀ x ∈ g, a ≤ x ∧ x ≤ b) : risesB a b g = true := by
  unfold risesB
  rw [Bool.and_eq_true, List.all_eq_true, List.all_eq_true]
  refine ⟨fun x hx => (inB_iff _ _ _).2 (hb x hx), fun j hj => ?_⟩
  rw [List.mem_range'_1] at hj
  rcases Nat.eq_zero_or_pos j with h0 | h0
  · simp [h0]
  · have h1 : j < g.length := by omega
    have h2 : j - 1 < g.length := by omega
    rw [List.pairwise_iff_getElem] at h
    have := h (j - 1) j h2 h1 (by omega)
    simp [h1, h2, this]
theorem can_eq (a : Nat) (b c : Int) (hgd : good a b c = true) (l : List Int) (hl : l.length = 2 * a) (p t : Int) (ht : 0 ≤ t ∧ t ≤ c + 1) (htp : t ≠ p) (g : List Int) (hg : g ∈ grps b (stand p 0 l) []) : canB a b c l p t g = (calmI g g && calmP c (setAll t g l)) := by
  have hgo := good_of hgd
  obtain ⟨s, h1, h2, h3⟩ := grps_form b _ _ _ hg
  rw [List.nil_append] at h1
  subst h1
  have hgl := grps_lens b _ _ _ hg
  have hgi : ∀ x ∈ g, 0 ≤ x ∧ x < l.length := fun x hx => by
    have := stand_in p l 0 x (h3.subset hx); simp at this; omega
  have hg0 : 0 < g.length := List.length_pos_iff.2 h2
  have e1 : inB t 0 (c + 1) = true := (inB_iff _ _ _).2 ht
  have e2 : inB g.length 1 b = true := (inB_iff _ _ _).2 ⟨by omega, hgl⟩
  have e3 : risesB 0 (l.length - 1) g = true := rises_of ((stand_pair p l 0).sublist h3) (fun x hx => by have := hgi x hx; omega)
  have e4 : atB l p g = true := by
    unfold atB
    rw [List.all_eq_true]
    intro k hk
    obtain ⟨m, h4, h5⟩ := (stand_mem p k l 0).1 (h3.subset hk)
    rw [h5, show ((0 + m : Nat) : Int).toNat = m by omega, h4]
    simp
  unfold canB
  rw [e1, e2, e3, e4, group_calm a (by omega) g (fun x hx => by have := hgi x hx; omega), calm_eq a (by omega) c _ (by rw [setAll_length]; exact hl)]
  simp [htp]
theorem flatMap_eq {α β : Type} {f g : α → List β} : ∀ (l : List α), (∀ x ∈ l, f x = g x) → l.flatMap f = l.flatMap g
  | [], _ => rfl
  | x :: l, h => by rw [List.flatMap_cons, List.flatMap_cons, h x (List.mem_cons_self ..), flatMap_eq l (fun y hy => h y (List.mem_cons_of_mem _ hy))]
theorem voys_eq (a : Nat) (b c : Int) (hgd : good a b c = true) (x : List Int × Int) (hx : okP a c x) : voysP b c x.1 x.2 0 (c + 2).toNat = voysAll a b c x := by
  have hgo := good_of hgd
  unfold voysP voysAll voysS
  refine flatMap_eq _ fun t ht => ?_
  rw [List.mem_range'_1] at ht
  unfold cansP cans
  split
  · rename_i h
    rw [List.filter_eq_nil_iff.2 (fun g hg => by simp [canB, h]), List.map_nil]
  · rename_i h
    rw [List.filter_congr (fun g hg => (can_eq a b c hgd x.1 hx.1 x.2 t (by omega) h g hg).symm)]
end Go.Proofs.Ytgmcjejelpeioaa.Ev
namespace Go.Proofs.Ytgmcjejelpeioaa.Ev
open Go
set_option linter.unusedVariables false
set_option linter.unusedSimpArgs false
inductive Rch (out : Nat → List Ed) (starts : List Nat) : Nat → Nat → Prop
  | start (s : Nat) : s ∈ starts → Rch out starts 0 s
  | step (k u : Nat) (e : Ed) : Rch out starts k u → e ∈ out u → Rch out starts (k + e.2.1) e.1
def At (ws : List (List Nat)) (k x : Nat) : Prop := ∃ l, ws[k]? = some l ∧ x ∈ l
theorem at_pad (ws : List (List Nat)) (m k x : Nat) : At (padW ws m) k x ↔ At ws k x := by
  unfold At padW
  constructor
  · rintro ⟨l, h1, h2⟩
    rcases Nat.lt_or_ge k ws.length with hk | hk
    · rw [List.getElem?_append_left hk] at h1; exact ⟨l, h1, h2⟩
    · rw [List.getElem?_append_right hk] at h1
      have := List.mem_of_getElem? h1
      rw [List.eq_of_mem_replicate this] at h2; cases h2
  · rintro ⟨l, h1, h2⟩
    exact ⟨l, by rw [List.getElem?_append_left (List.getElem?_eq_some_iff.1 h1).1]; exact h1, h2⟩
theorem at_push (dist : List Int) (d : Nat) (ws : List (List Nat)) (e : Ed) (k x : Nat) : At (pushW dist d ws e) k x ↔ At ws k x ∨ (¬ 0 ≤ dist[e.1]?.getD 0 ∧ k = d + e.2.1 ∧ x = e.1) := by
  unfold pushW
  split
  · rename_i h; simp [h]
  · rename_i h
    have hk : d + e.2.1 < (padW ws (d + e.2.1)).length := by rw [padW_length]; omega
    rw [← at_pad ws (d + e.2.1) k x]
    by_cases hkd : k = d + e.2.1
    · subst hkd
      unfold At
      rw [List.getElem?_set_self hk, List.getElem?_eq_getElem hk]
      simp [h]
    · unfold At
      rw [List.getElem?_set_ne (Ne.symm hkd)]
      simp [hkd]
theorem at_pushes (dist : List Int) (d k x : Nat) : ∀ (es : List Ed) (ws : List (List Nat)), At (es.foldl (pushW dist d) ws) k x ↔ At ws k x ∨ ∃ e ∈ es, ¬ 0 ≤ dist[e.1]?.getD 0 ∧ k = d + e.2.1 ∧ x = e.1
  | [], ws => by simp
  | e :: es, ws => by
    rw [List.foldl_cons, at_pushes dist d k x es, at_push]
    simp only [List.mem_cons, exists_eq_or_imp, or_assoc]

section
variable {N C D : Nat} {P : Nat → Prop} {out : Nat → List Ed} (hG : OkG N C D P out) {starts : List Nat} (hs : ∀ x ∈ starts, P x)
include hG hs in
theorem Rch.ok : ∀ {k v : Nat}, Rch out starts k v → P v := by
  intro k v h
  induction h with
  | start s h => exact hs s h
  | step k u e _ he ih => exact (hG.ed u ih e he).1
structure InvL (starts : List Nat) (out : Nat → List Ed) (P : Nat → Prop) (N d : Nat) (st : List Int × List (List Nat)) : Prop where
  n : st.1.length = N
  a : ∀ v, v < N → 0 ≤ st.1[v]?.getD 0 → ∃ k : Nat, k ≤ d ∧ st.1[v]?.getD 0 = k ∧ Rch out starts k v ∧ ∀ k' < k, ¬ Rch out starts k' v
  b : ∀ v k, Rch out starts k v → k < d → 0 ≤ st.1[v]?.getD 0
  c : ∀ k v, d ≤ k → At st.2 k v → Rch out starts k v
  e : ∀ u, P u → ∀ k : Nat, st.1[u]?.getD 0 = k → ∀ e ∈ out u, 0 ≤ st.1[e.1]?.getD 0 ∨ At st.2 (k + e.2.1) e.1
  s : ∀ x ∈ starts, 0 ≤ st.1[x]?.getD 0 ∨ (d = 0 ∧ At st.2 0 x)
  neg : ∀ v, v < N → ¬ 0 ≤ st.1[v]?.getD 0 → st.1[v]?.getD 0 = -1
include hG hs in
theorem InvL.step {d : Nat} {st : List Int × List (List Nat)} (h : InvL starts out P N d st) (x : Nat) (hx : At st.2 d x) : InvL starts out P N d (stepN out d st x) ∧ 0 ≤ (stepN out d st x).1[x]?.getD 0 ∧ (∀ v : Nat, 0 ≤ st.1[v]?.getD 0 → 0 ≤ (stepN out d st x).1[v]?.getD 0) ∧ (∀ k v, At st.2 k v → At (stepN out d st x).2 k v) := by
  have hR := h.c d x (Nat.le_refl _) hx
  have hP : P x := hR.ok hG hs
  have hxN := hG.lt x hP
  have hxl : x < st.1.length := by rw [h.n]; exact hxN
  unfold stepN
  split
  · rename_i h0
    exact ⟨h, h0, fun v hv => hv, fun k v hv => hv⟩
  · rename_i h0
    have hset : ∀ v, (st.1.set x (d : Int))[v]?.getD 0 = if v = x then (d : Int) else st.1[v]?.getD 0 := fun v => by
      by_cases hv : v = x
      · subst hv; rw [List.getElem?_set_self hxl, if_pos rfl]; rfl
      · rw [List.getElem?_set_ne (Ne.symm hv), if_neg hv]
    have hmono : ∀ v : Nat, 0 ≤ st.1[v]?.getD 0 → 0 ≤ (st.1.set x (d : Int))[v]?.getD 0 := fun v hv => by
      rw [hset]; split
      · omega
      · exact hv
    refine ⟨⟨by simpa using h.n, fun v hv hge => ?_, fun v k hk hd => hmono v (h.b v k hk hd), fun k v hk hat => ?_, fun u hu k hk e he => ?_, fun y hy => ?_, fun v hv hn => ?_⟩, by rw [hset, if_pos rfl]; omega, hmono, fun k v hat => (at_pushes _ _ _ _ _ _).2 (.inl hat)⟩
    · rw [hset] at hge ⊢
      by_cases hvx : v = x
      · subst hvx
        rw [if_pos rfl]
        exact ⟨d, Nat.le_refl _, rfl, hR, fun k' hk' hr => h0 (h.b v k' hr hk')⟩
      · rw [if_neg hvx] at hge ⊢
        exact h.a v hv hge
    · rcases (at_pushes _ _ _ _ _ _).1 hat with h1 | ⟨e, he, _, h2, h3⟩
      · exact h.c k v hk h1
      · subst h2 h3; exact .step d x e hR he
    · rw [hset] at hk
      by_cases hux : u = x
      · subst hux
        rw [if_pos rfl] at hk
        have hkd : k = d := by omega
        subst hkd
        by_cases hd : 0 ≤ (st.1.set u (k : Int))[e.1]?.getD 0
        · exact .inl hd
        · exact .inr ((at_pushes _ _ _ _ _ _).2 (.inr ⟨e, he, hd, rfl, rfl⟩))
      · rw [if_neg hux] at hk
        rcases h.e u hu k hk e he with h1 | h1
        · exact .inl (hmono _ h1)
        · exact .inr ((at_pushes _ _ _ _ _ _).2 (.inl h1))
    · rcases h.s y hy with h1 | ⟨h1, h2⟩
      · exact .inl (hmono _ h1)
      · exact .inr ⟨h1, (at_pushes _ _ _ _ _ _).2 (.inl h2)⟩
    · rw [hset] at hn ⊢
      split at hn
      · omega
      · rename_i hvx; rw [if_neg hvx]; exact h.neg v hv hn
include hG hs in
theorem InvL.steps {d : Nat} : ∀ (l : List Nat) {st : List Int × List (List Nat)}, InvL starts out P N d st → (∀ x ∈ l, At st.2 d x) → InvL starts out P N d (l.foldl (stepN out d) st) ∧ (∀ x ∈ l, 0 ≤ (l.foldl (stepN out d) st).1[x]?.getD 0) ∧ (∀ v : Nat, 0 ≤ st.1[v]?.getD 0 → 0 ≤ (l.foldl (stepN out d) st).1[v]?.getD 0) ∧ (∀ k v, At st.2 k v → At (l.foldl (stepN out d) st).2 k v)
  | [], st, h, _ => ⟨h, by simp, fun v hv => hv, fun k v hv => hv⟩
  | x :: l, st, h, hx => by
    obtain ⟨h1, h2, h3, h4⟩ := h.step hG hs x (hx x (List.mem_cons_self ..))
    obtain ⟨g1, g2, g3, g4⟩ := InvL.steps l h1 (fun y hy => h4 _ _ (hx y (List.mem_cons_of_mem _ hy)))
    rw [List.foldl_cons]
    refine ⟨g1, fun y hy => ?_, fun v hv => g3 v (h3 v hv), fun k v hv => g4 k v (h4 k v hv)⟩
    rcases List.mem_cons.1 hy with rfl | hy
    · exact g3 _ h2
    · exact g2 y hy
theorem stepN_layer' (hG : OkG N C D P out) (d : Nat) (st : List Int × List (List Nat)) (s : Nat) (hs : P s) (h : d < st.2.length) : (stepN out d st s).2[d]? = st.2[d]? ∧ d < (stepN out d st s).2.length := by
  have := stepN_layer hG st s hs h
  refine ⟨this, ?_⟩
  rcases Nat.lt_or_ge d (stepN out d st s).2.length with h1 | h1
  · exact h1
  · rw [List.getElem?_eq_none h1] at this
    rw [List.getElem?_eq_getElem h] at this; cases this
theorem steps_layer (hG : OkG N C D P out) (d : Nat) : ∀ (l : List Nat) (st : List Int × List (List Nat)), (∀ x ∈ l, P x) → d < st.2.length → (l.foldl (stepN out d) st).2[d]? = st.2[d]?
  | [], st, _, _ => rfl
  | x :: l, st, hl, h => by
    obtain ⟨h1, h2⟩ := stepN_layer' hG d st x (hl x (List.mem_cons_self ..)) h
    rw [List.foldl_cons, steps_layer hG d l _ (fun y hy => hl y (List.mem_cons_of_mem _ hy)) h2, h1]
include hG hs in
theorem InvL.next {d : Nat} {st : List Int × List (List Nat)} (h : InvL starts out P N d st) (hall : ∀ x, At st.2 d x → 0 ≤ st.1[x]?.getD 0) : InvL starts out P N (d + 1) st := by
  refine ⟨h.n, fun v hv hge => ?_, fun v k hk hd => ?_, fun k v hk hat => h.c k v (by omega) hat, h.e, fun x hx => ?_, h.neg⟩
  · obtain ⟨k, h1, h2, h3, h4⟩ := h.a v hv hge
    exact ⟨k, by omega, h2, h3, h4⟩
  · rcases Nat.lt_or_ge k d with hkd | hkd
    · exact h.b v k hk hkd
    · have hkd : k = d := by omega
      cases hk with
      | start s hs =>
        rcases h.s v hs with h1 | ⟨_, h1⟩
        · exact h1
        · exact hall v (hkd ▸ h1)
      | step k0 u e hu he =>
        have hPu := hu.ok hG hs
        have hc := (hG.ed u hPu e he).2.1
        have hset := h.b u k0 hu (by omega)
        obtain ⟨k1, h1, h2, h3, h4⟩ := h.a u (hG.lt u hPu) hset
        rcases h.e u hPu k1 h2 e he with h5 | h5
        · exact h5
        · have hk1 : k1 ≤ k0 := by
            rcases Nat.lt_or_ge k0 k1 with h6 | h6
            · exact absurd hu (h4 k0 h6)
            · exact h6
          rcases Nat.lt_or_ge k1 k0 with h6 | h6
          · exact h.b e.1 (k1 + e.2.1) (.step k1 u e h3 he) (by omega)
          · have : k1 = k0 := by omega
            subst this
            exact hall e.1 (hkd ▸ h5)
  · rcases h.s x hx with h1 | ⟨h1, h2⟩
    · exact .inl h1
    · exact .inl (hall x (h1 ▸ h2))
theorem negs_le (hG : OkG N C D P out) (d : Nat) (x : Nat) (hx : P x) (st : List Int × List (List Nat)) (hn : st.1.length = N) : (negs (stepN out d st x).1 = negs st.1 ∧ stepN out d st x = st ∨ negs (stepN out d st x).1 + 1 = negs st.1) ∧ ((stepN out d st x).1.length = N) := by
  have hxl : x < st.1.length := by rw [hn]; exact hG.lt x hx
  unfold stepN
  split
  · exact ⟨.inl ⟨rfl, rfl⟩, hn⟩
  · rename_i h
    refine ⟨.inr (negs_set st.1 x d hxl ?_), by simpa using hn⟩
    rw [List.getElem?_eq_getElem hxl] at h
    simpa using h
theorem negs_steps (hG : OkG N C D P out) (d : Nat) : ∀ (l : List Nat) (st : List Int × List (List Nat)), (∀ x ∈ l, P x) → st.1.length = N → negs (l.foldl (stepN out d) st).1 = negs st.1 ∧ l.foldl (stepN out d) st = st ∨ negs (l.foldl (stepN out d) st).1 + 1 ≤ negs st.1
  | [], st, _, _ => .inl ⟨rfl, rfl⟩
  | x :: l, st, hl, hn => by
    obtain ⟨h1, h2⟩ := negs_le hG d x (hl x (List.mem_cons_self ..)) st hn
    rw [List.foldl_cons]
    have ih := negs_steps hG d l (stepN out d st x) (fun y hy => hl y (List.mem_cons_of_mem _ hy)) h2
    rcases h1 with ⟨h1, h3⟩ | h1
    · rw [h3] at ih ⊢; exact ih
    · right
      rcases ih with ⟨h4, _⟩ | h4 <;> omega
theorem steps_len (hG : OkG N C D P out) (d : Nat) : ∀ (l : List Nat) (st : List Int × List (List Nat)), (∀ x ∈ l, P x) → st.2.length ≤ d + C + 1 → (l.foldl (stepN out d) st).2.length ≤ d + C + 1
  | [], st, _, h => h
  | x :: l, st, hl, h => by
    rw [List.foldl_cons]
    refine steps_len hG d l _ (fun y hy => hl y (List.mem_cons_of_mem _ hy)) ?_
    unfold stepN
    split
    · exact h
    · exact pushes_length _ _ _ _ _ (fun e he => by have := (hG.ed x (hl x (List.mem_cons_self ..)) e he).2.2; omega) h
include hG hs in
theorem fromL_ok : ∀ (n d : Nat) (st : List Int × List (List Nat)), InvL starts out P N d st → st.2.length ≤ d + C + 1 → (C + 1) * negs st.1 + (st.2.length - d) < n →
    ∃ r d', fromL out n d st = some r ∧ InvL starts out P N d' r ∧ r.2.length ≤ d'
  | 0, d, st, hI, hl, hn => by omega
  | n + 1, d, st, hI, hl, hn => by
    unfold fromL
    rcases Nat.lt_or_ge d st.2.length with hd | hd
    · rw [List.getElem?_eq_getElem hd]
      simp only
      have hat : ∀ x ∈ st.2[d], At st.2 d x := fun x hx => ⟨_, List.getElem?_eq_getElem hd, hx⟩
      have hP : ∀ x ∈ st.2[d], P x := fun x hx => (hI.c d x (Nat.le_refl _) (hat x hx)).ok hG hs
      obtain ⟨h1, h2, h3, h4⟩ := hI.steps hG hs st.2[d] hat
      have hlay := steps_layer hG d st.2[d] st hP hd
      have hng := negs_steps hG d st.2[d] st hP hI.n
      have hlen := steps_len hG d st.2[d] st hP hl
      have hnext := h1.next hG hs (fun x hx => by
        obtain ⟨l, g1, g2⟩ := hx
        rw [hlay, List.getElem?_eq_getElem hd] at g1
        cases g1; exact h2 x g2)
      have hmul : ∀ a b : Nat, a + 1 ≤ b → (C + 1) * a + (C + 1) ≤ (C + 1) * b := fun a b h => by
        have := Nat.mul_le_mul_left (C + 1) h
        rwa [Nat.mul_add, Nat.mul_one] at this
      refine fromL_ok n (d + 1) _ hnext (by omega) ?_
      rcases hng with ⟨g1, g2⟩ | g1
      · rw [g2]; omega
      · have := hmul _ _ g1; omega
    · rw [List.getElem?_eq_none hd]
      exact ⟨st, d, rfl, hI, hd⟩
include hG hs in
theorem from_right : ∃ r, fromL out ((C + 1) * N + 2) 0 (List.replicate N (-1), [starts]) = some r ∧ r.1.length = N ∧
    ∀ v, v < N → (r.1[v]?.getD 0 = -1 ∧ ∀ k, ¬ Rch out starts k v) ∨ ∃ k : Nat, r.1[v]?.getD 0 = k ∧ Rch out starts k v ∧ ∀ k' < k, ¬ Rch out starts k' v := by
  have hrep : ∀ v : Nat, v < N → (List.replicate N (-1 : Int))[v]?.getD 0 = -1 := fun v hv => by simp [hv]
  have hI : InvL starts out P N 0 (List.replicate N (-1), [starts]) := by
    refine ⟨by simp, fun v hv h => ?_, fun v k _ h => by omega, fun k v _ h => ?_, fun u hu k hk e he => ?_, fun x hx => .inr ⟨rfl, starts, rfl, hx⟩, fun v hv _ => hrep v hv⟩
    · simp only [hrep v hv] at h; omega
    · obtain ⟨l, h1, h2⟩ := h
      rcases k with _ | k
      · simp at h1; subst h1; exact .start v h2
      · simp at h1
    · simp only [hrep u (hG.lt u hu)] at hk; omega
  have hng : negs (List.replicate N (-1)) ≤ N := by have := negs_len (List.replicate N (-1)); simpa using this
  have hmul := Nat.mul_le_mul_left (C + 1) hng
  obtain ⟨r, d', h1, h2, h3⟩ := fromL_ok hG hs ((C + 1) * N + 2) 0 (List.replicate N (-1), [starts]) hI (by simp) (by
    simp only [List.length_singleton]; omega)
  have hno : ∀ k x, d' ≤ k → ¬ At r.2 k x := fun k x hk ⟨l, g1, _⟩ => by
    rw [List.getElem?_eq_none (by omega)] at g1; cases g1
  have hall : ∀ m, InvL starts out P N (d' + m) r := fun m => by
    induction m with
    | zero => exact h2
    | succ m ih => exact ih.next hG hs (fun x hx => absurd hx (hno _ x (by omega)))
  refine ⟨r, h1, h2.n, fun v hv => ?_⟩
  by_cases hge : 0 ≤ r.1[v]?.getD 0
  · obtain ⟨k, _, g1, g2, g3⟩ := h2.a v hv hge
    exact .inr ⟨k, g1, g2, g3⟩
  · refine .inl ⟨h2.neg v hv hge, fun k hk => hge ((hall (k + 1)).b v k hk (by omega))⟩
end
end Go.Proofs.Ytgmcjejelpeioaa.Ev
namespace Go.Proofs.Ytgmcjejelpeioaa.Ev
open Go
set_option linter.unusedVariables false
set_option linter.unusedSimpArgs false

section
variable {X : Type}
def ends (sc : X → List X) : Nat → X → List X
  | 0, x => [x]
  | k + 1, x => (ends sc k x).flatMap sc
theorem ends_left (sc : X → List X) (x : X) : ∀ k, ends sc (k + 1) x = (sc x).flatMap (ends sc k)
  | 0 => by simp [ends]
  | k + 1 => by
    show (ends sc (k + 1) x).flatMap sc = _
    rw [ends_left sc x k, List.flatMap_assoc]
    rfl
theorem ends_step {sc : X → List X} {k : Nat} {s x y : X} (h : x ∈ ends sc k s) (hy : y ∈ sc x) : y ∈ ends sc (k + 1) s := List.mem_flatMap.2 ⟨x, h, hy⟩
def Dist (sc : X → List X) (s : X) (d : Nat) (x : X) : Prop := x ∈ ends sc d s ∧ ∀ e, e < d → x ∉ ends sc e s
theorem Dist.uniq {sc : X → List X} {s x : X} {d e : Nat} (h : Dist sc s d x) (h' : Dist sc s e x) : d = e := by
  rcases Nat.lt_trichotomy d e with h1 | h1 | h1
  · exact absurd h.1 (h'.2 d h1)
  · exact h1
  · exact absurd h'.1 (h.2 e h1)
theorem dist_of {sc : X → List X} {s x : X} : ∀ {k : Nat}, x ∈ ends sc k s → ∃ d, d ≤ k ∧ Dist sc s d x := by
  intro k
  induction k using Nat.strongRecOn with
  | ind k ih =>
    intro h
    by_cases h1 : ∃ e, e < k ∧ x ∈ ends sc e s
    · obtain ⟨e, he, hx⟩ := h1
      obtain ⟨d, hd, h2⟩ := ih e he hx
      exact ⟨d, by omega, h2⟩
    · exact ⟨k, Nat.le_refl _, h, fun e he hx => h1 ⟨e, he, hx⟩⟩

def sumL (f : X → Int) : List X → Int
  | [] => 0
  | x :: l => f x + sumL f l
theorem sumL_append (f : X → Int) : ∀ a b, sumL f (a ++ b) = sumL f a + sumL f b
  | [], b => by simp [sumL]
  | x :: a, b => by simp only [List.cons_append, sumL, sumL_append f a b]; omega
theorem sumL_congr {f g : X → Int} : ∀ (l : List X), (∀ x ∈ l, f x = g x) → sumL f l = sumL g l
  | [], _ => rfl
  | x :: l, h => by simp only [sumL, h x (List.mem_cons_self ..), sumL_congr l (fun y hy => h y (List.mem_cons_of_mem _ hy))]
theorem sumL_zero {f : X → Int} (l : List X) (h : ∀ x ∈ l, f x = 0) : sumL f l = 0 := by
  induction l with
  | nil => rfl
  | cons x l ih => simp only [sumL, h x (List.mem_cons_self ..), ih (fun y hy => h y (List.mem_cons_of_mem _ hy))]; rfl
theorem sumL_add (f g : X → Int) : ∀ (l : List X), sumL (fun x => f x + g x) l = sumL f l + sumL g l
  | [] => rfl
  | x :: l => by simp only [sumL, sumL_add f g l]; omega
variable [DecidableEq X]
theorem count_flat (sc : X → List X) (y : X) : ∀ (l : List X), ((l.flatMap sc).count y : Int) = sumL (fun z => ((sc z).count y : Int)) l
  | [] => by simp [sumL]
  | x :: l => by rw [List.flatMap_cons, List.count_append, sumL, ← count_flat sc y l]; omega
theorem sumL_one (f : X → Int) (a : X) : ∀ (Q : List X), Q.Nodup → sumL (fun z => if z = a then f z else 0) Q = if a ∈ Q then f a else 0
  | [], _ => by simp [sumL]
  | x :: Q, h => by
    rw [List.nodup_cons] at h
    simp only [sumL, sumL_one f a Q h.2, List.mem_cons]
    by_cases hx : x = a
    · subst hx; simp [h.1]
    · simp [hx, Ne.symm hx]
theorem sumL_count (f : X → Int) (Q : List X) (hQ : Q.Nodup) : ∀ (L : List X), (∀ z ∈ L, f z ≠ 0 → z ∈ Q) → sumL f L = sumL (fun z => (L.count z : Int) * f z) Q
  | [], _ => by rw [sumL_zero Q (fun x _ => by simp)]; rfl
  | a :: L, h => by
    have ih := sumL_count f Q hQ L (fun z hz => h z (List.mem_cons_of_mem _ hz))
    have h1 := sumL_one f a Q hQ
    have h2 : sumL (fun z => ((a :: L).count z : Int) * f z) Q = sumL (fun z => (L.count z : Int) * f z) Q + sumL (fun z => if z = a then f z else 0) Q := by
      rw [← sumL_add]
      refine sumL_congr Q fun z _ => ?_
      by_cases hz : z = a
      · subst hz; simp [Int.add_mul]
      · simp [hz, List.count_cons, Ne.symm hz]
    rw [h2, ← ih, h1, sumL]
    by_cases ha : a ∈ Q
    · rw [if_pos ha]; omega
    · rw [if_neg ha]
      have : f a = 0 := Classical.byContradiction fun hn => ha (h a (List.mem_cons_self ..) hn)
      omega
end
end Go.Proofs.Ytgmcjejelpeioaa.Ev
namespace Go.Proofs.Ytgmcjejelpeioaa.Ev
open Go
set_option linter.unusedVariables false
set_option linter.unusedSimpArgs false
set_option linter.unusedSectionVars false

theorem nodup_len : ∀ (N : Nat) (l : List Nat), l.Nodup → (∀ x ∈ l, x < N) → l.length ≤ N
  | 0, l, _, h => by
    cases l with
    | nil => simp
    | cons x l => have := h x (List.mem_cons_self ..); omega
  | N + 1, l, hn, h => by
    have h1 := nodup_len N (l.erase N) (hn.erase N) (fun x hx => by
      have h2 := h x (List.mem_of_mem_erase hx)
      have h3 : x ≠ N := fun e => by subst e; exact hn.not_mem_erase hx
      omega)
    have := List.length_erase (a := N) (l := l)
    split at this <;> omega

section
variable {X : Type} [DecidableEq X] (sc : X → List X) (cd : X → Nat) (ok : X → Prop) (N : Nat)
def stepA (code : Nat) (st : List Int × List Int × List X) (y : X) : List Int × List Int × List X :=
  let new : Bool := decide (st.1[cd y]?.getD 0 < 0)
  let far := if new then st.1.set (cd y) (IntKind.i64.wrap (st.1[code]?.getD 0 + 1)) else st.1
  let queue := if new then st.2.2 ++ [y] else st.2.2
  let ways := if far[cd y]?.getD 0 = IntKind.i64.wrap (far[code]?.getD 0 + 1) then st.2.1.set (cd y) (IntKind.i64.wrap (st.2.1[cd y]?.getD 0 + st.2.1[code]?.getD 0)) else st.2.1
  (far, ways, queue)
def bfsA : Nat → Nat → List Int × List Int × List X → Option (List Int × List Int × List X)
  | 0, _, _ => none
  | n + 1, k, st => match st.2.2[k]? with
    | none => some st
    | some x => bfsA n (k + 1) ((sc x).foldl (stepA cd (cd x)) st)
structure BfsOk : Prop where
  lt : ∀ x, ok x → cd x < N
  inj : ∀ x y, ok x → ok y → cd x = cd y → x = y
  suc : ∀ x, ok x → ∀ y ∈ sc x, ok y
  big : N ≤ 2 ^ 20
variable (s : X)
open Classical in
noncomputable def lev (z : X) : Int := if h : ∃ d, Dist sc s d z then (h.choose : Int) else -1
theorem lev_of {z : X} {d : Nat} (h : Dist sc s d z) : lev sc s z = d := by
  unfold lev
  rw [dif_pos ⟨d, h⟩]
  exact congrArg _ (Exists.choose_spec (⟨d, h⟩ : ∃ d, Dist sc s d z) |>.uniq h)
noncomputable def cnt (z : X) : Int := ((ends sc (lev sc s z).toNat s).count z : Int)
noncomputable def tot (Q : List X) (y : X) : Int := (if y = s then 1 else 0) + sumL (fun z => if lev sc s z + 1 = lev sc s y then cnt sc s z * ((sc z).count y : Int) else 0) Q
theorem tot_right (Q : List X) (hQ : Q.Nodup) (hd : ∀ z ∈ Q, ∃ e : Nat, Dist sc s e z) (y : X) (e : Nat) (hy : Dist sc s e y) (hall : ∀ z e', e = e' + 1 → Dist sc s e' z → z ∈ Q) : tot sc s Q y = ((ends sc e s).count y : Int) := by
  have hs0 : Dist sc s 0 s := ⟨by simp [ends], fun e he => by omega⟩
  unfold tot
  rw [lev_of sc s hy]
  cases e with
  | zero =>
    have : y = s := by have := hy.1; simpa [ends] using this
    subst this
    rw [sumL_zero Q (fun z hz => by
      obtain ⟨e, he⟩ := hd z hz
      rw [lev_of sc y he, if_neg (by omega)])]
    simp [ends]
  | succ e =>
    have hne : y ≠ s := fun h => by subst h; have := hy.uniq hs0; omega
    rw [if_neg hne, Int.zero_add]
    show _ = (((ends sc e s).flatMap sc).count y : Int)
    rw [count_flat]
    have hz : ∀ z ∈ ends sc e s, y ∈ sc z → Dist sc s e z := fun z hz hyz => by
      obtain ⟨d, hd1, hd2⟩ := dist_of hz
      rcases Nat.lt_or_ge d e with h | h
      · exact absurd (ends_step hd2.1 hyz) (hy.2 (d + 1) (by omega))
      · have : d = e := by omega
        subst this; exact hd2
    rw [sumL_congr (g := fun z => if lev sc s z + 1 = ((e + 1 : Nat) : Int) then ((sc z).count y : Int) else 0) (ends sc e s) (fun z hzm => by
      by_cases hyz : y ∈ sc z
      · rw [lev_of sc s (hz z hzm hyz), if_pos (by omega)]
      · rw [List.count_eq_zero_of_not_mem hyz]; simp), sumL_count (fun z => if lev sc s z + 1 = ((e + 1 : Nat) : Int) then ((sc z).count y : Int) else 0) Q hQ (ends sc e s) (fun z hzm hne => by
      by_cases hyz : y ∈ sc z
      · exact hall z e rfl (hz z hzm hyz)
      · exact absurd (by rw [List.count_eq_zero_of_not_mem hyz]; simp) hne)]
    refine sumL_congr Q fun z hzm => ?_
    by_cases hl : lev sc s z + 1 = ((e + 1 : Nat) : Int)
    · rw [if_pos hl, if_pos hl, cnt, show (lev sc s z).toNat = e by omega]
    · rw [if_neg hl, if_neg hl, Int.mul_zero]
structure BI (k d : Nat) (x : X) (pre : List X) (st : List Int × List Int × List X) : Prop where
  n1 : st.1.length = N
  n2 : st.2.1.length = N
  nd : st.2.2.Nodup
  okq : ∀ z ∈ st.2.2, ok z
  xk : st.2.2[k]? = some x
  lx : Dist sc s d x
  fin : ∀ z ∈ st.2.2, ∃ e : Nat, e ≤ d + 1 ∧ st.1[cd z]?.getD 0 = e ∧ Dist sc s e z
  fout : ∀ z, ok z → z ∉ st.2.2 → st.1[cd z]?.getD 0 = -1
  srt : ∀ (i j : Nat) (y z : X), i ≤ j → st.2.2[i]? = some y → st.2.2[j]? = some z → lev sc s y ≤ lev sc s z
  idx : ∀ (i : Nat) z, st.2.2[i]? = some z → lev sc s z ≤ i
  low : ∀ z e, e ≤ d → Dist sc s e z → z ∈ st.2.2
  cl : ∀ (i : Nat) z, i < k → st.2.2[i]? = some z → ∀ y ∈ sc z, y ∈ st.2.2
  pr : ∀ y ∈ pre, y ∈ st.2.2
  wy : ∀ y, ok y → st.2.1[cd y]?.getD 0 = IntKind.i64.wrap (tot sc s (st.2.2.take k) y + if (d : Int) + 1 = lev sc s y then cnt sc s x * (pre.count y : Int) else 0)
  st0 : s ∈ st.2.2
variable {sc cd ok N s}
theorem wrap_add (a b : Int) : IntKind.i64.wrap (IntKind.i64.wrap a + IntKind.i64.wrap b) = IntKind.i64.wrap (a + b) := by
  simp only [IntKind.wrap_i64]; omega
theorem BI.step (hB : BfsOk sc cd ok N) {k d : Nat} {x : X} {pre : List X} {st : List Int × List Int × List X} (h : BI sc cd ok N s k d x pre st) (y : X) (hy : y ∈ sc x) : BI sc cd ok N s k d x (pre ++ [y]) (stepA cd (cd x) st y) := by
  have hxq : x ∈ st.2.2 := List.mem_of_getElem? h.xk
  have hox := h.okq x hxq
  have hoy := hB.suc x hox y hy
  have hlx := lev_of sc s h.lx
  have hkl : k < st.2.2.length := (List.getElem?_eq_some_iff.1 h.xk).1
  have hQN : st.2.2.length ≤ N := by
    have := nodup_len N (st.2.2.map cd) (by
      exact List.Pairwise.map (R := fun a b => cd a ≠ cd b) cd (fun a b hab => hab) (List.Pairwise.imp_of_mem (fun {a b} ha hb hne he => hne (hB.inj a b (h.okq a ha) (h.okq b hb) he)) h.nd)) (fun z hz => by
      obtain ⟨w, hw, rfl⟩ := List.mem_map.1 hz
      exact hB.lt w (h.okq w hw))
    simpa using this
  have hbig := hB.big
  have hdk : d ≤ k := by have := h.idx k x h.xk; omega
  have hw1 : IntKind.i64.wrap ((d : Int) + 1) = (d : Int) + 1 := w64 (by omega)
  obtain ⟨e0, he0, hfx, hdx⟩ := h.fin x hxq
  have hed : e0 = d := hdx.uniq h.lx
  subst hed
  have hcx : cd x < st.1.length := by rw [h.n1]; exact hB.lt x hox
  have hcy : cd y < st.1.length := by rw [h.n1]; exact hB.lt y hoy
  have hcy2 : cd y < st.2.1.length := by rw [h.n2]; exact hB.lt y hoy
  have hne : ∀ z, ok z → z ≠ y → cd z ≠ cd y := fun z hz hn e => hn (hB.inj z y hz hoy e)
  have hways : ∀ (Q : List X), Q.take k = st.2.2.take k → ∀ w : List Int, w = (if lev sc s y = (e0 : Int) + 1 then st.2.1.set (cd y) (IntKind.i64.wrap (st.2.1[cd y]?.getD 0 + st.2.1[cd x]?.getD 0)) else st.2.1) → ∀ z, ok z → w[cd z]?.getD 0 = IntKind.i64.wrap (tot sc s (Q.take k) z + if (e0 : Int) + 1 = lev sc s z then cnt sc s x * ((pre ++ [y]).count z : Int) else 0) := by
    intro Q hQ w hw z hz
    rw [hQ, hw]
    by_cases hzy : z = y
    · subst hzy
      by_cases hl : lev sc s z = (e0 : Int) + 1
      · rw [if_pos hl, if_pos hl.symm, List.getElem?_set_self hcy2, Option.getD_some, h.wy z hz, if_pos hl.symm, h.wy x hox, hlx, if_neg (by omega), Int.add_zero]
        rw [tot_right sc s (st.2.2.take k) (h.nd.sublist (List.take_sublist _ _)) (fun z hz => by
            obtain ⟨e, _, _, he⟩ := h.fin z (List.mem_of_mem_take hz); exact ⟨e, he⟩) x e0 h.lx (fun z e' he hz => by
            have hzq := h.low z e' (by omega) hz
            obtain ⟨i, hi⟩ := List.mem_iff_getElem?.1 hzq
            have hik : i < k := by
              rcases Nat.lt_or_ge i k with h1 | h1
              · exact h1
              · have := h.srt k i x z h1 h.xk hi
                rw [hlx, lev_of sc s hz] at this; omega
            exact List.mem_iff_getElem?.2 ⟨i, by rw [List.getElem?_take, if_pos hik]; exact hi⟩)]
        rw [wrap_add]
        have hc : cnt sc s x = ((ends sc e0 s).count x : Int) := by rw [cnt, hlx]; simp
        rw [hc, List.count_append, show [z].count z = 1 by simp, Int.natCast_add, Int.mul_add, Int.natCast_one, Int.mul_one, Int.add_assoc]
      · rw [if_neg hl, if_neg (fun e => hl e.symm), h.wy z hz, if_neg (fun e => hl e.symm)]
    · have hcnt : (pre ++ [y]).count z = pre.count z := by
        rw [List.count_append, List.count_cons]; simp [Ne.symm hzy]
      rw [hcnt, ← h.wy z hz]
      split
      · rw [List.getElem?_set_ne (fun e => hne z hz hzy e.symm)]
      · rfl
  unfold stepA
  by_cases hnew : st.1[cd y]?.getD 0 < 0
  · have hyq : y ∉ st.2.2 := fun hq => by obtain ⟨e, _, h1, _⟩ := h.fin y hq; omega
    have hdy : Dist sc s (e0 + 1) y := ⟨ends_step h.lx.1 hy, fun e he hm => by
      obtain ⟨d', h1, h2⟩ := dist_of hm
      exact hyq (h.low y d' (by omega) h2)⟩
    have hly := lev_of sc s hdy
    have hxy : x ≠ y := fun e => hyq (e ▸ hxq)
    have hfar : ∀ z, ok z → z ≠ y → (st.1.set (cd y) ((e0 : Int) + 1))[cd z]?.getD 0 = st.1[cd z]?.getD 0 := fun z hz hn => by rw [List.getElem?_set_ne (fun e => hne z hz hn e.symm)]
    have hfy : (st.1.set (cd y) ((e0 : Int) + 1))[cd y]?.getD 0 = (e0 : Int) + 1 := by rw [List.getElem?_set_self hcy]; rfl
    simp only [hnew, decide_true, if_true, hfx, hw1, hfy, hfar x hox hxy]
    have hgl : ∀ (i : Nat) z, (st.2.2 ++ [y])[i]? = some z → st.2.2[i]? = some z ∨ (i = st.2.2.length ∧ z = y) := fun i z hz => by
      rcases Nat.lt_or_ge i st.2.2.length with h1 | h1
      · rw [List.getElem?_append_left h1] at hz; exact .inl hz
      · rw [List.getElem?_append_right h1] at hz
        have := (List.getElem?_eq_some_iff.1 hz).1
        simp at this
        have h0 : i - st.2.2.length = 0 := by omega
        rw [h0] at hz
        exact .inr ⟨by omega, by simpa using hz.symm⟩
    have htk : (st.2.2 ++ [y]).take k = st.2.2.take k := List.take_append_of_le_length (by omega)
    refine ⟨by simpa using h.n1, by simpa using h.n2, ?_, fun z hz => ?_, by rw [List.getElem?_append_left hkl]; exact h.xk, h.lx, fun z hz => ?_, fun z hz hzn => ?_, fun i j a b hij ha hb => ?_, fun i z hz => ?_, fun z e he hz => List.mem_append_left _ (h.low z e he hz), fun i z hi hz a ha => ?_, fun a ha => ?_, ?_, List.mem_append_left _ h.st0⟩
    · exact List.nodup_append.2 ⟨h.nd, by simp, fun a ha b hb e => by simp at hb; subst hb e; exact hyq ha⟩
    · rcases List.mem_append.1 hz with hz | hz
      · exact h.okq z hz
      · simp at hz; subst hz; exact hoy
    · rcases List.mem_append.1 hz with hz | hz
      · obtain ⟨e, h1, h2, h3⟩ := h.fin z hz
        exact ⟨e, h1, (hfar z (h.okq z hz) (fun e => hyq (e ▸ hz))).trans h2, h3⟩
      · simp at hz; subst hz
        exact ⟨e0 + 1, Nat.le_refl _, hfy.trans (by omega), hdy⟩
    · have h1 : z ∉ st.2.2 := fun hq => hzn (List.mem_append_left _ hq)
      have h2 : z ≠ y := fun e => hzn (by subst e; simp)
      exact (hfar z hz h2).trans (h.fout z hz h1)
    · rcases hgl i a ha with h1 | ⟨h1, h2⟩
      · rcases hgl j b hb with h3 | ⟨h3, h4⟩
        · exact h.srt i j a b hij h1 h3
        · obtain ⟨e, g1, g2, g3⟩ := h.fin a (List.mem_of_getElem? h1)
          rw [h4, hly, lev_of sc s g3]; omega
      · rcases hgl j b hb with h3 | ⟨h3, h4⟩
        · have := (List.getElem?_eq_some_iff.1 h3).1; omega
        · rw [h2, h4]; omega
    · rcases hgl i z hz with h1 | ⟨h1, h2⟩
      · exact h.idx i z h1
      · rw [h2, hly]; omega
    · rcases hgl i z hz with h1 | ⟨h1, h2⟩
      · exact List.mem_append_left _ (h.cl i z hi h1 a ha)
      · omega
    · rcases List.mem_append.1 ha with ha | ha
      · exact List.mem_append_left _ (h.pr a ha)
      · exact List.mem_append_right _ ha
    · exact hways (st.2.2 ++ [y]) htk _ (by rw [hly]; simp)
  · have hyq : y ∈ st.2.2 := Classical.byContradiction fun hq => by have := h.fout y hoy hq; omega
    obtain ⟨e, g1, g2, g3⟩ := h.fin y hyq
    have hly := lev_of sc s g3
    simp only [hnew, decide_false, Bool.false_eq_true, if_false]
    simp only [hfx, hw1, g2]
    refine ⟨h.n1, by split <;> simp [h.n2], h.nd, h.okq, h.xk, h.lx, h.fin, h.fout, h.srt, h.idx, h.low, h.cl, fun a ha => ?_, hways st.2.2 rfl _ (by rw [hly]), h.st0⟩
    rcases List.mem_append.1 ha with ha | ha
    · exact h.pr a ha
    · simp at ha; subst ha; exact hyq
theorem BI.steps (hB : BfsOk sc cd ok N) {k d : Nat} {x : X} : ∀ (l pre : List X) {st : List Int × List Int × List X}, BI sc cd ok N s k d x pre st → (∀ y ∈ l, y ∈ sc x) → BI sc cd ok N s k d x (pre ++ l) (l.foldl (stepA cd (cd x)) st)
  | [], pre, st, h, _ => by simpa using h
  | y :: l, pre, st, h, hl => by
    have := BI.steps hB l (pre ++ [y]) (h.step hB y (hl y (List.mem_cons_self ..))) (fun z hz => hl z (List.mem_cons_of_mem _ hz))
    simpa using this
end
end Go.Proofs.Ytgmcjejelpeioaa.Ev
namespace Go.Proofs.Ytgmcjejelpeioaa.Ev
open Go
set_option linter.unusedVariables false
set_option linter.unusedSimpArgs false
set_option linter.unusedSectionVars false

section
variable {X : Type} [DecidableEq X] (sc : X → List X) (cd : X → Nat) (ok : X → Prop) (N : Nat) (s : X)
structure BO (k : Nat) (st : List Int × List Int × List X) : Prop where
  n1 : st.1.length = N
  n2 : st.2.1.length = N
  nd : st.2.2.Nodup
  okq : ∀ z ∈ st.2.2, ok z
  fin : ∀ z ∈ st.2.2, ∃ e : Nat, st.1[cd z]?.getD 0 = e ∧ Dist sc s e z
  fout : ∀ z, ok z → z ∉ st.2.2 → st.1[cd z]?.getD 0 = -1
  srt : ∀ (i j : Nat) (y z : X), i ≤ j → st.2.2[i]? = some y → st.2.2[j]? = some z → lev sc s y ≤ lev sc s z
  idx : ∀ (i : Nat) z, st.2.2[i]? = some z → lev sc s z ≤ i
  low : ∀ x d, st.2.2[k]? = some x → Dist sc s d x → (∀ z e, e ≤ d → Dist sc s e z → z ∈ st.2.2) ∧ ∀ z ∈ st.2.2, lev sc s z ≤ (d : Int) + 1
  cl : ∀ (i : Nat) z, i < k → st.2.2[i]? = some z → ∀ y ∈ sc z, y ∈ st.2.2
  wy : ∀ y, ok y → st.2.1[cd y]?.getD 0 = IntKind.i64.wrap (tot sc s (st.2.2.take k) y)
  st0 : s ∈ st.2.2
variable {sc cd ok N s}
theorem BO.opn {k : Nat} {st : List Int × List Int × List X} (h : BO sc cd ok N s k st) {x : X} (hx : st.2.2[k]? = some x) : ∃ d, BI sc cd ok N s k d x [] st := by
  obtain ⟨d, h1, h2⟩ := h.fin x (List.mem_of_getElem? hx)
  obtain ⟨h3, h4⟩ := h.low x d hx h2
  refine ⟨d, h.n1, h.n2, h.nd, h.okq, hx, h2, fun z hz => ?_, h.fout, h.srt, h.idx, h3, h.cl, fun y hy => (by cases hy), fun y hy => ?_, h.st0⟩
  · obtain ⟨e, g1, g2⟩ := h.fin z hz
    have := h4 z hz
    rw [lev_of sc s g2] at this
    exact ⟨e, by omega, g1, g2⟩
  · rw [h.wy y hy]; simp
theorem BI.close {k d : Nat} {x : X} {st : List Int × List Int × List X} (h : BI sc cd ok N s k d x (sc x) st) : BO sc cd ok N s (k + 1) st := by
  have hlx := lev_of sc s h.lx
  refine ⟨h.n1, h.n2, h.nd, h.okq, fun z hz => ?_, h.fout, h.srt, h.idx, fun x' d' hx' hd' => ?_, fun i z hi hz y hy => ?_, fun y hy => ?_, h.st0⟩
  · obtain ⟨e, _, g1, g2⟩ := h.fin z hz; exact ⟨e, g1, g2⟩
  · have hl' := lev_of sc s hd'
    have hge := h.srt k (k + 1) x x' (by omega) h.xk hx'
    obtain ⟨e, g0, _, g2⟩ := h.fin x' (List.mem_of_getElem? hx')
    have : e = d' := g2.uniq hd'
    subst this
    rw [hlx, hl'] at hge
    refine ⟨fun z e' he hz => ?_, fun z hz => ?_⟩
    · rcases Nat.lt_or_ge d e' with h1 | h1
      · have hd1 : e' = d + 1 := by omega
        subst hd1
        obtain ⟨w, hw, hzw⟩ := List.mem_flatMap.1 hz.1
        have hdw : Dist sc s d w := by
          obtain ⟨f, h2, h3⟩ := dist_of hw
          rcases Nat.lt_or_ge f d with h4 | h4
          · exact absurd (ends_step h3.1 hzw) (hz.2 (f + 1) (by omega))
          · have : f = d := by omega
            subst this; exact h3
        have hwq := h.low w d (Nat.le_refl _) hdw
        obtain ⟨j, hj⟩ := List.mem_iff_getElem?.1 hwq
        rcases Nat.lt_trichotomy j k with h5 | h5 | h5
        · exact h.cl j w h5 hj z hzw
        · subst h5
          rw [h.xk] at hj; cases hj
          exact h.pr z hzw
        · have := h.srt (k + 1) j x' w h5 hx' hj
          rw [hl', lev_of sc s hdw] at this; omega
      · exact h.low z e' h1 hz
    · obtain ⟨e', g3, _, g4⟩ := h.fin z hz
      rw [lev_of sc s g4]; omega
  · rcases Nat.lt_or_ge i k with h1 | h1
    · exact h.cl i z h1 hz y hy
    · have : i = k := by omega
      subst this
      rw [h.xk] at hz; cases hz
      exact h.pr y hy
  · rw [h.wy y hy, List.take_add_one, h.xk]
    simp only [Option.toList_some, tot, sumL_append, sumL, hlx]
    rw [Int.add_assoc, Int.add_zero]
theorem queue_len (hB : BfsOk sc cd ok N) (Q : List X) (h : Q.Nodup) (hq : ∀ z ∈ Q, ok z) : Q.length ≤ N := by
  have := nodup_len N (Q.map cd) (List.Pairwise.map (R := fun a b => cd a ≠ cd b) cd (fun a b hab => hab) (List.Pairwise.imp_of_mem (fun {a b} ha hb hne he => hne (hB.inj a b (hq a ha) (hq b hb) he)) h)) (fun z hz => by
    obtain ⟨w, hw, rfl⟩ := List.mem_map.1 hz
    exact hB.lt w (hq w hw))
  simpa using this
theorem bfs_ok (hB : BfsOk sc cd ok N) : ∀ (n k : Nat) (st : List Int × List Int × List X), BO sc cd ok N s k st → k ≤ st.2.2.length → N < k + n → ∃ r, bfsA sc cd n k st = some r ∧ BO sc cd ok N s r.2.2.length r
  | 0, k, st, h, hk, hn => by
    have := queue_len hB st.2.2 h.nd h.okq
    omega
  | n + 1, k, st, h, hk, hn => by
    unfold bfsA
    cases hx : st.2.2[k]? with
    | none =>
      have h1 : st.2.2.length ≤ k := by simpa using hx
      have h2 : k = st.2.2.length := by omega
      exact ⟨st, rfl, h2 ▸ h⟩
    | some x =>
      obtain ⟨d, hI⟩ := h.opn hx
      have hI2 := hI.steps hB (sc x) [] (fun y hy => hy)
      have hlt := (List.getElem?_eq_some_iff.1 hI2.xk).1
      exact bfs_ok hB n (k + 1) _ hI2.close hlt (by omega)
theorem bfs_right0 (hB : BfsOk sc cd ok N) (hs : ok s) : ∃ r, bfsA sc cd (N + 1) 0 ((List.replicate N (-1)).set (cd s) 0, (List.replicate N 0).set (cd s) 1, [s]) = some r ∧ r.1.length = N ∧ r.2.1.length = N ∧ r.2.2.length ≤ N ∧ r.2.2.Nodup ∧ (∀ y ∈ r.2.2, ok y) ∧ (∀ y, y ∈ r.2.2 ↔ ∃ k, y ∈ ends sc k s) ∧
    (∀ y, ok y → (r.1[cd y]?.getD 0 = -1 ∧ ∀ k, y ∉ ends sc k s) ∨ ∃ d : Nat, r.1[cd y]?.getD 0 = d ∧ Dist sc s d y ∧ r.2.1[cd y]?.getD 0 = IntKind.i64.wrap ((ends sc d s).count y : Int)) ∧ ∀ d y, Dist sc s d y → d < N := by
  have hs0 : Dist sc s 0 s := ⟨by simp [ends], fun e he => by omega⟩
  have hcs := hB.lt s hs
  have hbig := hB.big
  have hd0 : ∀ z, Dist sc s 0 z → z = s := fun z hz => by simpa [ends] using hz.1
  have hst : BO sc cd ok N s 0 ((List.replicate N (-1)).set (cd s) 0, (List.replicate N 0).set (cd s) 1, [s]) := by
    have hi : ∀ (i : Nat) z, [s][i]? = some z → i = 0 ∧ z = s := fun i z hz => by
      rcases i with _ | i
      · exact ⟨rfl, by simpa using hz.symm⟩
      · simp at hz
    refine ⟨by simp, by simp, by simp, fun z hz => by simp at hz; subst hz; exact hs, fun z hz => ?_, fun z hz hn => ?_, fun i j y z hij hy hz => ?_, fun i z hz => ?_, fun x d hx hd => ?_, fun i z h => by omega, fun y hy => ?_, by simp⟩
    · simp at hz; subst hz
      exact ⟨0, by simp [hcs], hs0⟩
    · have hne : z ≠ s := by simpa using hn
      have : cd s ≠ cd z := fun e => hne (hB.inj z s hz hs e.symm)
      have hlt := hB.lt z hz
      simp [this, hlt]
    · rw [(hi i y hy).2, (hi j z hz).2]; omega
    · rw [(hi i z hz).2, lev_of sc s hs0]; omega
    · obtain ⟨_, rfl⟩ := hi 0 x hx
      have : d = 0 := hd.uniq hs0
      subst this
      refine ⟨fun z e he hz => ?_, fun z hz => ?_⟩
      · have : e = 0 := by omega
        subst this
        rw [hd0 z hz]; simp
      · simp at hz; subst hz
        rw [lev_of sc z hs0]; omega
    · have hlt := hB.lt y hy
      by_cases h : y = s
      · subst h
        simp [hlt, tot, sumL]; rfl
      · have : cd s ≠ cd y := fun e => h (hB.inj y s hy hs e.symm)
        simp [hlt, this, h, tot, sumL]; rfl
  obtain ⟨r, h1, h2⟩ := bfs_ok hB (N + 1) 0 _ hst (by simp) (by omega)
  have hall : ∀ k y, y ∈ ends sc k s → y ∈ r.2.2 := fun k => by
    induction k with
    | zero => intro y hy; have : y = s := by simpa [ends] using hy
              subst this; exact h2.st0
    | succ k ih =>
      intro y hy
      obtain ⟨z, hz, hyz⟩ := List.mem_flatMap.1 hy
      obtain ⟨i, hi⟩ := List.mem_iff_getElem?.1 (ih z hz)
      exact h2.cl i z (List.getElem?_eq_some_iff.1 hi).1 hi y hyz
  refine ⟨r, h1, h2.n1, h2.n2, queue_len hB _ h2.nd h2.okq, h2.nd, h2.okq, fun y => ⟨fun hy => ?_, fun ⟨k, hk⟩ => hall k y hk⟩, fun y hy => ?_, fun d y hd => ?_⟩
  · obtain ⟨e, _, he⟩ := h2.fin y hy; exact ⟨e, he.1⟩
  · by_cases hq : y ∈ r.2.2
    · obtain ⟨d, g1, g2⟩ := h2.fin y hq
      refine .inr ⟨d, g1, g2, ?_⟩
      rw [h2.wy y hy, List.take_length, tot_right sc s r.2.2 h2.nd (fun z hz => by obtain ⟨e, _, he⟩ := h2.fin z hz; exact ⟨e, he⟩) y d g2 (fun z e' _ hz => hall e' z hz.1)]
    · exact .inl ⟨h2.fout y hy hq, fun k hk => hq (hall k y hk)⟩
  · obtain ⟨i, hi⟩ := List.mem_iff_getElem?.1 (hall d y hd.1)
    have h3 := h2.idx i y hi
    rw [lev_of sc s hd] at h3
    have h4 := (List.getElem?_eq_some_iff.1 hi).1
    have h5 := queue_len hB _ h2.nd h2.okq
    omega
theorem bfs_right (hB : BfsOk sc cd ok N) (hs : ok s) : ∃ r, bfsA sc cd (N + 1) 0 ((List.replicate N (-1)).set (cd s) 0, (List.replicate N 0).set (cd s) 1, [s]) = some r ∧ r.1.length = N ∧ r.2.1.length = N ∧ r.2.2.length ≤ N ∧ r.2.2.Nodup ∧ (∀ y ∈ r.2.2, ok y) ∧ (∀ y, y ∈ r.2.2 ↔ ∃ k, y ∈ ends sc k s) ∧
    ∀ y, ok y → (r.1[cd y]?.getD 0 = -1 ∧ ∀ k, y ∉ ends sc k s) ∨ ∃ d : Nat, r.1[cd y]?.getD 0 = d ∧ Dist sc s d y ∧ r.2.1[cd y]?.getD 0 = IntKind.i64.wrap ((ends sc d s).count y : Int) := by
  obtain ⟨r, h1, h2, h3, h4, h5, h6, h7, h8, _⟩ := bfs_right0 hB hs
  exact ⟨r, h1, h2, h3, h4, h5, h6, h7, h8⟩
theorem dist_lt (hB : BfsOk sc cd ok N) (hs : ok s) {d : Nat} {y : X} (h : Dist sc s d y) : d < N := by
  obtain ⟨r, _, _, _, _, _, _, _, _, h9⟩ := bfs_right0 hB hs
  exact h9 d y h
end
end Go.Proofs.Ytgmcjejelpeioaa.Ev
namespace Go.Proofs.Ytgmcjejelpeioaa.Ev
open Go
set_option linter.unusedVariables false
set_option linter.unusedSimpArgs false
set_option linter.unusedSectionVars false

theorem code_step (e : Nat) (he : e ≤ 4) (p x m : Nat) (hp : p < e ^ m) (hx : x < e) (hm : m ≤ 6) : p * e + x < e ^ (m + 1) ∧ IntKind.i64.wrap (IntKind.i64.wrap ((p : Int) * e) + (x : Int)) = ((p * e + x : Nat) : Int) := by
  have h1 : p * e + x < e ^ (m + 1) := by
    rw [Nat.pow_succ]
    have : (p + 1) * e ≤ e ^ m * e := Nat.mul_le_mul_right e hp
    rw [Nat.add_mul] at this
    omega
  have hb := pow_le e (m + 1) he (by omega)
  have hpe : p * e ≤ 16384 := by omega
  refine ⟨h1, ?_⟩
  have e1 : (p : Int) * (e : Int) = ((p * e : Nat) : Int) := by simp
  rw [e1, w64 (n := ((p * e : Nat) : Int)) (by omega), w64 (n := ((p * e : Nat) : Int) + x) (by omega)]; omega
theorem codeW_inj (e : Nat) (he : e ≤ 4) : ∀ (xs ys : List Int) (p q m : Nat), xs.length = ys.length → (∀ y ∈ xs, 0 ≤ y ∧ y < e) → (∀ y ∈ ys, 0 ≤ y ∧ y < e) → p < e ^ m → q < e ^ m → m + xs.length ≤ 7 → codeW e p xs = codeW e q ys → p = q ∧ xs = ys
  | [], [], p, q, m, _, _, _, _, _, _, h => ⟨Int.natCast_inj.1 (by simpa [codeW] using h), rfl⟩
  | x :: xs, y :: ys, p, q, m, hl, hx, hy, hp, hq, hm, h => by
    simp only [List.length_cons] at hl hm
    obtain ⟨x, rfl⟩ : ∃ z : Nat, x = z := ⟨x.toNat, by have := hx x (List.mem_cons_self ..); omega⟩
    obtain ⟨y, rfl⟩ : ∃ z : Nat, y = z := ⟨y.toNat, by have := hy y (List.mem_cons_self ..); omega⟩
    have hxe : x < e := by have := hx (x : Int) (List.mem_cons_self ..); omega
    have hye : y < e := by have := hy (y : Int) (List.mem_cons_self ..); omega
    obtain ⟨h1, h2⟩ := code_step e he p x m hp hxe (by omega)
    obtain ⟨h3, h4⟩ := code_step e he q y m hq hye (by omega)
    rw [codeW_cons, codeW_cons, h2, h4] at h
    obtain ⟨h5, h6⟩ := codeW_inj e he xs ys _ _ (m + 1) (by omega) (fun z hz => hx z (List.mem_cons_of_mem _ hz)) (fun z hz => hy z (List.mem_cons_of_mem _ hz)) h1 h3 (by omega) h
    have e0 : 0 < e := by omega
    have h7 : p = q := by
      have g1 : (p * e + x) / e = p := by rw [Nat.mul_comm, Nat.mul_add_div e0, Nat.div_eq_of_lt hxe]; omega
      have g2 : (q * e + y) / e = q := by rw [Nat.mul_comm, Nat.mul_add_div e0, Nat.div_eq_of_lt hye]; omega
      rw [← g1, ← g2, h5]
    subst h7
    refine ⟨rfl, ?_⟩
    rw [show x = y by omega, h6]
  | [], _ :: _, _, _, _, hl, _, _, _, _, _, _ => by simp at hl
  | _ :: _, [], _, _, _, hl, _, _, _, _, _, _ => by simp at hl
def cdE (e : Nat) (x : List Int × Int) : Nat := (codeW e x.2 x.1).toNat
theorem okP_nat {a : Nat} {c : Int} (hc : 0 ≤ c ∧ c ≤ 2) {x : List Int × Int} (h : okP a c x) : ∃ p : Nat, x.2 = p ∧ (p : Int) ≤ c + 1 := by
  have := h.2.2 _ h.2.1
  exact ⟨x.2.toNat, by omega, by omega⟩
theorem cdE_eq {a : Nat} {c : Int} (ha : a ≤ 3) (hc : 0 ≤ c ∧ c ≤ 2) {x : List Int × Int} (h : okP a c x) (e : Nat) (he : e ≤ 4) (hce : c + 2 ≤ e) : codeW e x.2 x.1 = (cdE e x : Int) ∧ cdE e x < e ^ (2 * a + 1) := by
  obtain ⟨p, hp, hp2⟩ := okP_nat hc h
  obtain ⟨q, h4, h5⟩ := code_range e he x.1 p 1 (fun y hy => by have := h.2.2 y hy; omega) (by rw [Nat.pow_one]; omega) (by rw [h.1]; omega)
  rw [← hp] at h4
  unfold cdE
  rw [h4]
  exact ⟨by simp, by rw [h.1, Nat.add_comm] at h5; simpa using h5⟩
theorem cdE_inj {a : Nat} {c : Int} (ha : a ≤ 3) (hc : 0 ≤ c ∧ c ≤ 2) {x y : List Int × Int} (hx : okP a c x) (hy : okP a c y) (e : Nat) (he : e ≤ 4) (hce : c + 2 ≤ e) (h : cdE e x = cdE e y) : x = y := by
  obtain ⟨p, hp, hp2⟩ := okP_nat hc hx
  obtain ⟨q, hq, hq2⟩ := okP_nat hc hy
  have h1 := (cdE_eq ha hc hx e he hce).1
  have h2 := (cdE_eq ha hc hy e he hce).1
  rw [h, ← h2, hp, hq] at h1
  obtain ⟨h3, h4⟩ := codeW_inj e he x.1 y.1 p q 1 (by rw [hx.1, hy.1]) (fun z hz => by have := hx.2.2 z hz; omega) (fun z hz => by have := hy.2.2 z hz; omega) (by rw [Nat.pow_one]; omega) (by rw [Nat.pow_one]; omega) (by rw [hx.1]; omega) h1
  exact Prod.ext h4 (by rw [hp, hq, h3])
def succs (a : Nat) (b c : Int) (x : List Int × Int) : List (List Int × Int) := (voysAll a b c x).map fun v => (setAll v.1 v.2 x.1, v.1)
theorem bfsOk (a : Nat) (b c : Int) (hgd : good a b c = true) : BfsOk (succs a b c) (cdE (c + 2).toNat) (okP a c) ((c + 2).toNat ^ (2 * a + 1)) := by
  have hgo := good_of hgd
  refine ⟨fun x hx => (cdE_eq (by omega) (by omega) hx _ (by omega) (by omega)).2, fun x y hx hy h => cdE_inj (by omega) (by omega) hx hy _ (by omega) (by omega) h, fun x hx y hy => ?_, ?_⟩
  · obtain ⟨v, hv, rfl⟩ := List.mem_map.1 hy
    exact (voys_ok hgd hx v hv).2.2
  · have := pow_le (c + 2).toNat (2 * a + 1) (by omega) (by omega)
    omega
theorem bfsS_A (a : Nat) (b c : Int) (hc : 0 ≤ c) : ∀ (n k : Nat) (st : List Int × List Int × List (List Int × Int)), bfsS a b c n k st = bfsA (succs a b c) (cdE (c + 2).toNat) n k st
  | 0, k, st => rfl
  | n + 1, k, st => by
    unfold bfsS bfsA
    cases st.2.2[k]? with
    | none => rfl
    | some x =>
      have he : (((c + 2).toNat : Nat) : Int) = c + 2 := by omega
      simp only
      rw [bfsS_A a b c hc n (k + 1)]
      congr 1
      unfold succs
      rw [List.foldl_map]
      unfold stepS stepA cdE
      rw [he]
theorem codeW_snoc (p : Int) (xs : List Int) (x : Int) : codeW 4 p (xs ++ [x]) = IntKind.i64.wrap (IntKind.i64.wrap (codeW 4 p xs * 4) + x) := by simp [codeW]
theorem digs_code : ∀ (n : Nat) (xs : List Int) (p m s : Nat), xs.length = n → (∀ y ∈ xs, 0 ≤ y ∧ y < 4) → p < 4 ^ m → m + n ≤ 7 → codeW 4 p xs = s → digs n s = xs ∧ s / 4 ^ n = p
  | 0, xs, p, m, s, hl, _, _, _, h => by
    have : xs = [] := List.length_eq_zero_iff.1 hl
    subst this
    have : p = s := Int.natCast_inj.1 (by simpa [codeW] using h)
    subst this
    simp [digs]
  | n + 1, xs, p, m, s, hl, hx, hp, hm, h => by
    have hne : xs ≠ [] := fun e => by simp [e] at hl
    obtain ⟨ys, y, rfl⟩ : ∃ ys y, xs = ys ++ [y] := ⟨_, _, (List.dropLast_concat_getLast hne).symm⟩
    have hl' : ys.length = n := by simpa using hl
    obtain ⟨z, rfl⟩ : ∃ z : Nat, y = z := ⟨y.toNat, by have := hx y (by simp); omega⟩
    have hz4 : z < 4 := by have := hx (z : Int) (by simp); omega
    have hxy : ∀ y ∈ ys, 0 ≤ y ∧ y < 4 := fun y hy => hx y (by simp [hy])
    obtain ⟨q, h1, h2⟩ := code_range 4 (by omega) ys p m hxy hp (by omega)
    have h1' : codeW 4 p ys = q := h1
    obtain ⟨h3, h4⟩ := digs_code n ys p m q hl' hxy hp (by omega) h1'
    obtain ⟨h5, h6⟩ := code_step 4 (by omega) q z (m + ys.length) h2 hz4 (by omega)
    rw [codeW_snoc, h1'] at h
    have h6' : IntKind.i64.wrap (IntKind.i64.wrap ((q : Int) * 4) + (z : Int)) = ((q * 4 + z : Nat) : Int) := h6
    rw [h6'] at h
    have hs : s = q * 4 + z := by omega
    have hd : s / 4 = q := by omega
    refine ⟨?_, ?_⟩
    · rw [digs, hd, h3, show s % 4 = z by omega]
    · rw [Nat.pow_succ, Nat.mul_comm, ← Nat.div_div_eq_div_mul, hd, h4]
end Go.Proofs.Ytgmcjejelpeioaa.Ev
namespace Go.Proofs.Ytgmcjejelpeioaa.Ev
open Go
set_option linter.unusedVariables false
set_option linter.unusedSimpArgs false
set_option linter.unusedSectionVars false

theorem flat_len {α β : Type} (f : α → List β) (B : Nat) : ∀ (l : List α), (∀ x ∈ l, (f x).length ≤ B) → (l.flatMap f).length ≤ l.length * B
  | [], _ => by simp
  | x :: l, h => by
    rw [List.flatMap_cons, List.length_append, List.length_cons, Nat.add_mul, Nat.one_mul]
    have := flat_len f B l (fun y hy => h y (List.mem_cons_of_mem _ hy))
    have := h x (List.mem_cons_self ..)
    omega
theorem voysAll_len4 (a : Nat) (b c : Int) (hgd : good a b c = true) (x : List Int × Int) (hx : x.1.length = 2 * a) : (voysAll a b c x).length ≤ 256 := by
  have hgo := good_of hgd
  unfold voysAll voysS
  have := flat_len (fun t : Nat => cans a b c x.1 x.2 (t : Int) (grps b (stand x.2 0 x.1) [])) 64 (List.range' 0 (c + 2).toNat) (fun t ht => by
    have h1 := grps_len b (stand x.2 0 x.1) []
    have h2 := stand_len x.2 x.1 0
    have h3 : 2 ^ (stand x.2 0 x.1).length ≤ 2 ^ 6 := Nat.pow_le_pow_right (by decide) (by omega)
    have h4 : (cans a b c x.1 x.2 (t : Int) (grps b (stand x.2 0 x.1) [])).length ≤ (grps b (stand x.2 0 x.1) []).length := by simp [cans]; exact List.length_filter_le _ _
    omega)
  rw [List.length_range'] at this
  have hc4 : (c + 2).toNat * 64 ≤ 4 * 64 := Nat.mul_le_mul_right _ (by omega)
  omega
def plc (a : Nat) (s : Nat) : List Int × Int := (digs (2 * a) s, ((s / 4 ^ (2 * a) : Nat) : Int))
theorem plc_cd {a : Nat} {c : Int} (ha : a ≤ 3) (hc : 0 ≤ c ∧ c ≤ 2) {x : List Int × Int} (h : okP a c x) : plc a (cdE 4 x) = x := by
  obtain ⟨p, hp, hp2⟩ := okP_nat hc h
  have h1 := (cdE_eq ha hc h 4 (by omega) (by omega)).1
  rw [hp] at h1
  obtain ⟨h2, h3⟩ := digs_code (2 * a) x.1 p 1 (cdE 4 x) h.1 (fun y hy => by have := h.2.2 y hy; omega) (by omega) (by omega) h1
  unfold plc
  rw [h2, h3, ← hp]
def out4 (a : Nat) (b c : Int) (s : Nat) : List Ed := (voysAll a b c (plc a s)).map fun v => (cdE 4 (setAll v.1 v.2 (plc a s).1, v.1), 1, v.1, v.2)
def P4 (a : Nat) (c : Int) (s : Nat) : Prop := ∃ x, okP a c x ∧ cdE 4 x = s
theorem okG4 (a : Nat) (b c : Int) (hgd : good a b c = true) : OkG (4 ^ (2 * a + 1)) 1 256 (P4 a c) (out4 a b c) := by
  have hgo := good_of hgd
  refine ⟨?_, ?_, ?_⟩
  · rintro _ ⟨x, hx, rfl⟩
    exact (cdE_eq (by omega) (by omega) hx 4 (by omega) (by omega)).2
  · rintro _ ⟨x, hx, rfl⟩
    unfold out4
    rw [List.length_map, plc_cd (by omega) (by omega) hx]
    exact voysAll_len4 a b c hgd x hx.1
  · rintro _ ⟨x, hx, rfl⟩ e he
    unfold out4 at he
    rw [plc_cd (by omega) (by omega) hx] at he
    obtain ⟨v, hv, rfl⟩ := List.mem_map.1 he
    exact ⟨⟨_, (voys_ok hgd hx v hv).2.2, rfl⟩, Nat.le_refl _, Nat.le_refl _⟩
theorem call41 (a : Nat) (b c : Int) (hgd : good a b c = true) : ∀ s, P4 a c s → ∀ H, evCall env (den env) 41 (.t (ti s) :: ([.ptr (.agg [ti a, ti b, ti c])] : List T).map .t) H = some (.ref H.length 0 (out4 a b c s).length, H ++ [.pure 4 (tleN (out4 a b c s))]) := by
  rintro _ ⟨x, hx, rfl⟩ H
  have hgo := good_of hgd
  have hpl := plc_cd (by omega) (by omega) hx
  have hv := voys_eq a b c hgd x hx
  have hcd := (cdE_eq (by omega) (by omega) hx 4 (by omega) (by omega)).2
  have h47 := pow_le 4 (2 * a + 1) (by omega) (by omega)
  have h1 : x.1 = digs (2 * (a : Int)).toNat (cdE 4 x) := by rw [show (2 * (a : Int)).toNat = 2 * a by omega]; exact (congrArg Prod.fst hpl).symm
  have h2 : x.2 = ((cdE 4 x / 4 ^ (2 * (a : Int)).toNat : Nat) : Int) := by rw [show (2 * (a : Int)).toNat = 2 * a by omega]; exact (congrArg Prod.snd hpl).symm
  have hr := r41 a b c (by omega) (by omega) (by omega) (cdE 4 x) (by omega) x.1 x.2 h1 h2 (by have := hx.1; omega) (voysAll a b c x) hv.symm (by have := voysAll_len4 a b c hgd x hx.1; omega) (fun v hv => ⟨(voys_ok hgd hx v hv).1, (voys_ok hgd hx v hv).2.1⟩)
  have ht : tle (edges x.1 (voysAll a b c x)) = tleN (out4 a b c (cdE 4 x)) := by
    unfold tle edges tleN out4
    rw [hpl, List.map_map, List.map_map]
    refine List.map_congr_left fun v hv => ?_
    have : codeW 4 v.1 (setAll v.1 v.2 x.1) = _ := (cdE_eq (by omega) (by omega) (voys_ok hgd hx v hv).2.2 4 (by omega) (by omega)).1
    simp only [Function.comp, edT]
    rw [this]; rfl
  rw [ht] at hr
  have hl : (out4 a b c (cdE 4 x)).length = (voysAll a b c x).length := by unfold out4; rw [List.length_map, hpl]
  rw [hl]
  simp [hr]
theorem rch_iff (a : Nat) (b c : Int) (hgd : good a b c = true) (s : List Int × Int) (hs : okP a c s) (k v : Nat) : Rch (out4 a b c) [cdE 4 s] k v ↔ ∃ y, okP a c y ∧ cdE 4 y = v ∧ y ∈ ends (succs a b c) k s := by
  have hgo := good_of hgd
  constructor
  · intro h
    induction h with
    | start v hv => exact ⟨s, hs, (List.mem_singleton.1 hv).symm, by simp [ends]⟩
    | step k u e hu he ih =>
      obtain ⟨x, h1, rfl, h3⟩ := ih
      unfold out4 at he
      rw [plc_cd (by omega) (by omega) h1] at he
      obtain ⟨v, hv, rfl⟩ := List.mem_map.1 he
      exact ⟨_, (voys_ok hgd h1 v hv).2.2, rfl, ends_step h3 (List.mem_map.2 ⟨v, hv, rfl⟩)⟩
  · rintro ⟨y, h1, rfl, h3⟩
    clear h1
    induction k generalizing y with
    | zero => have : y = s := by simpa [ends] using h3
              subst this; exact .start _ (by simp)
    | succ k ih =>
      obtain ⟨z, hz, hy⟩ := List.mem_flatMap.1 h3
      have hok : ∀ k z, z ∈ ends (succs a b c) k s → okP a c z := fun k => by
        induction k with
        | zero => intro z hz; have : z = s := by simpa [ends] using hz
                  subst this; exact hs
        | succ k ih =>
          intro z hz
          obtain ⟨w, hw, hzw⟩ := List.mem_flatMap.1 hz
          exact (bfsOk a b c hgd).suc w (ih w hw) z hzw
      obtain ⟨v, hv, rfl⟩ := List.mem_map.1 hy
      refine Rch.step k (cdE 4 z) (cdE 4 (setAll v.1 v.2 z.1, v.1), 1, v.1, v.2) (ih z hz) ?_
      unfold out4
      rw [plc_cd (by omega) (by omega) (hok k z hz)]
      exact List.mem_map.2 ⟨v, hv, rfl⟩
end Go.Proofs.Ytgmcjejelpeioaa.Ev
namespace Go.Proofs.Ytgmcjejelpeioaa.Ev
open Go
set_option linter.unusedVariables false
set_option linter.unusedSimpArgs false
set_option linter.unusedSectionVars false

theorem sub_len {α : Type} [DecidableEq α] : ∀ (l m : List α), l.Nodup → (∀ x ∈ l, x ∈ m) → l.length ≤ m.length
  | [], _, _, _ => by simp
  | x :: l, m, hn, h => by
    rw [List.nodup_cons] at hn
    have hx := h x (List.mem_cons_self ..)
    have := sub_len l (m.erase x) hn.2 (fun y hy => (List.mem_erase_of_ne (fun e => hn.1 (by subst e; exact hy))).2 (h y (List.mem_cons_of_mem _ hy)))
    rw [List.length_erase, if_pos (by simpa using hx)] at this
    have : 0 < m.length := List.length_pos_of_mem hx
    simp; omega
theorem same_len {α : Type} [DecidableEq α] (l m : List α) (hl : l.Nodup) (hm : m.Nodup) (h : ∀ x, x ∈ l ↔ x ∈ m) : l.length = m.length :=
  Nat.le_antisymm (sub_len l m hl (fun x hx => (h x).1 hx)) (sub_len m l hm (fun x hx => (h x).2 hx))
theorem cntR_range (l : List Int) : cntR l = ((List.range l.length).filter fun v => decide (0 ≤ l[v]?.getD 0)).length := by
  unfold cntR
  rw [← List.countP_eq_length_filter]
  have e : l = (List.range l.length).map fun v => l[v]?.getD 0 := by
    refine List.ext_getElem (by simp) fun i h1 h2 => ?_
    simp [h1]
  conv => lhs; rw [e]
  rw [List.countP_map]
  rfl
theorem reached_eq (a : Nat) (b c : Int) (hgd : good a b c = true) (s : List Int × Int) (hs : okP a c s) (r : List Int) (hrl : r.length = 4 ^ (2 * a + 1))
    (hr : ∀ v, v < 4 ^ (2 * a + 1) → (r[v]?.getD 0 = -1 ∧ ∀ k, ¬ Rch (out4 a b c) [cdE 4 s] k v) ∨ ∃ k : Nat, r[v]?.getD 0 = k ∧ Rch (out4 a b c) [cdE 4 s] k v ∧ ∀ k' < k, ¬ Rch (out4 a b c) [cdE 4 s] k' v)
    (Q : List (List Int × Int)) (hQ : Q.Nodup) (hq : ∀ y ∈ Q, okP a c y) (hQe : ∀ y, y ∈ Q ↔ ∃ k, y ∈ ends (succs a b c) k s) : cntR r = Q.length := by
  have hgo := good_of hgd
  rw [cntR_range, hrl, ← List.length_map (as := Q) (cdE 4)]
  refine same_len _ _ ((List.nodup_range).filter _) ?_ (fun v => ?_)
  · exact List.Pairwise.map (R := fun a b => cdE 4 a ≠ cdE 4 b) (cdE 4) (fun a b hab => hab) (List.Pairwise.imp_of_mem (fun {x y} hx hy hne he => hne (cdE_inj (by omega) (by omega) (hq x hx) (hq y hy) 4 (by omega) (by omega) he)) hQ)
  · rw [List.mem_filter, List.mem_range, List.mem_map, decide_eq_true_eq]
    constructor
    · rintro ⟨hv, h0⟩
      rcases hr v hv with ⟨h1, _⟩ | ⟨k, _, h2, _⟩
      · omega
      · obtain ⟨y, _, h3, h4⟩ := (rch_iff a b c hgd s hs k v).1 h2
        exact ⟨y, (hQe y).2 ⟨k, h4⟩, h3⟩
    · rintro ⟨y, hy, rfl⟩
      have hlt := (cdE_eq (by omega) (by omega) (hq y hy) 4 (by omega) (by omega)).2
      obtain ⟨k, hk⟩ := (hQe y).1 hy
      refine ⟨hlt, ?_⟩
      rcases hr _ hlt with ⟨_, h1⟩ | ⟨k', h2, _⟩
      · exact absurd ((rch_iff a b c hgd s hs k _).2 ⟨y, hq y hy, rfl, hk⟩) (h1 k)
      · omega
theorem r10_bad (a b c : Int) (h : good a b c = false) : ownR env 10 [.agg [ti a, ti b, ti c]] = some (.tup [.t (ti 0), .t (tb false)], []) := by
  rw [own_ir e10 _ rfl]
  simp [ir10, ir10_c, h]
theorem all0_cd (a : Nat) : cdE 4 (all0 a) = 0 := by
  have : ∀ n, codeW 4 0 (List.replicate n 0) = 0 := fun n => by
    induction n with
    | zero => rfl
    | succ n ih => rw [List.replicate_succ, codeW_cons]; exact ih
  show (codeW 4 0 (List.replicate (2 * a) 0)).toNat = 0
  rw [this]; rfl
theorem startS_eq (c : Int) (hc : 0 ≤ c) (N : Nat) (x : List Int × Int) : ((List.replicate N (-1 : Int)).set (cdE (c + 2).toNat x) 0, (List.replicate N (0 : Int)).set (cdE (c + 2).toNat x) 1, [x]) = startS c N x := by
  have he : (((c + 2).toNat : Nat) : Int) = c + 2 := by omega
  unfold startS cdE
  rw [he]
theorem law_reached (a : Nat) (b c : Int) (hgd : good a b c = true) : ∃ n : Nat, ownR env 8 [.agg [ti a, ti b, ti c]] = some (.tup [.t (ti n), .t (tb true)], []) ∧ ownR env 10 [.agg [ti a, ti b, ti c]] = some (.tup [.t (ti n), .t (tb true)], []) := by
  have hgo := good_of hgd
  have hok := all0_ok a (by omega) c (by omega)
  have hN := pow_le (c + 2).toNat (2 * a + 1) (by omega) (by omega)
  have h4 := pow_le 4 (2 * a + 1) (by omega) (by omega)
  have hp4 : 0 < 4 ^ (2 * a + 1) := Nat.pow_pos (by decide)
  obtain ⟨q, h1, h2, h3, h5, h6, h7, h8, h9⟩ := bfs_right (bfsOk a b c hgd) hok
  rw [← bfsS_A a b c (by omega), startS_eq c (by omega)] at h1
  have hg4 := okG4 a b c hgd
  obtain ⟨r, g1, g2, g3⟩ := from_right hg4 (starts := [cdE 4 (all0 a)]) (fun x hx => ⟨all0 a, hok, (List.mem_singleton.1 hx).symm⟩)
  have hcnt := reached_eq a b c hgd _ hok r.1 g2 g3 q.2.2 h6 h7 h8
  refine ⟨q.2.2.length, r8 a b c hgd ((c + 2).toNat ^ (2 * a + 1) + 1) (by omega) q h1, ?_⟩
  rw [all0_cd] at g1
  have h27 := r27 hg4 (call41 a b c hgd) (by omega) ⟨hp4, by omega⟩ 0 (by omega) ⟨all0 a, hok, all0_cd a⟩ _ (by omega) r g1
  rw [hcnt] at h27
  have h26 := r26 a b c (by omega)
  rw [show (2 * (a : Int)).toNat + 1 = 2 * a + 1 by omega] at h26
  rw [own_ir e10 _ rfl]
  generalize 4 ^ (2 * a + 1) = N4 at *
  simp at h27
  simp [ir10, ir10_c, hgd, h26, h27]
end Go.Proofs.Ytgmcjejelpeioaa.Ev
namespace Go.Proofs.Ytgmcjejelpeioaa.Ev
open Go
set_option linter.unusedVariables false
set_option linter.unusedSimpArgs false
theorem r3 (a b c : Int) : ownR env 3 [.agg [ti a, ti b, ti c]] = some (.t (tb true), []) := by
  rw [own_ir e3 _ rfl]
  have h9 := r9 a b c
  by_cases hgd : good a b c = true
  · have hgo := good_of hgd
    obtain ⟨k, rfl⟩ : ∃ k : Nat, a = k := ⟨a.toNat, by omega⟩
    obtain ⟨n, h1, h2⟩ := law_reached k b c hgd
    simp [ir3, ir3_c, h9, h1, h2]
  · have hgd : good a b c = false := by simpa using hgd
    simp [ir3, ir3_c, h9, r8_bad a b c hgd, r10_bad a b c hgd]
end Go.Proofs.Ytgmcjejelpeioaa.Ev
namespace Go.Proofs.Ytgmcjejelpeioaa.Ev
open Go
set_option linter.unusedVariables false
set_option linter.unusedSimpArgs false
set_option linter.unusedSectionVars false

theorem sub_sorted : ∀ (L g : List Int), L.Pairwise (· < ·) → g.Pairwise (· < ·) → (∀ x ∈ g, x ∈ L) → List.Sublist g L
  | [], g, _, _, h => by
    cases g with
    | nil => exact List.nil_sublist _
    | cons x g => exact absurd (h x (List.mem_cons_self ..)) (by simp)
  | y :: L, g, hL, hg, h => by
    rw [List.pairwise_cons] at hL
    cases g with
    | nil => exact List.nil_sublist _
    | cons x g =>
      rw [List.pairwise_cons] at hg
      by_cases hxy : x = y
      · subst hxy
        refine List.cons_sublist_cons.2 (sub_sorted L g hL.2 hg.2 fun z hz => ?_)
        rcases List.mem_cons.1 (h z (List.mem_cons_of_mem _ hz)) with h1 | h1
        · have := hg.1 z hz; omega
        · exact h1
      · have hx : x ∈ L := by
          rcases List.mem_cons.1 (h x (List.mem_cons_self ..)) with h1 | h1
          · exact absurd h1 hxy
          · exact h1
        refine (sub_sorted L (x :: g) hL.2 (List.pairwise_cons.2 hg) fun z hz => ?_).cons y
        rcases List.mem_cons.1 hz with h1 | h1
        · rw [h1]; exact hx
        · rcases List.mem_cons.1 (h z hz) with h2 | h2
          · have h3 := hg.1 z h1
            have h4 := hL.1 x hx
            omega
          · exact h2
theorem grps_all (most : Int) : ∀ (rest l s : List Int), List.Sublist s rest → s ≠ [] → (l.length : Int) + s.length ≤ most → l ++ s ∈ grps most rest l
  | [], l, s, h, hne, _ => absurd (List.sublist_nil.1 h) hne
  | x :: rest, l, s, h, hne, hm => by
    have hs0 : 0 < s.length := List.length_pos_iff.2 hne
    rw [grps, if_pos (by omega)]
    cases h with
    | cons _ h => exact List.mem_cons_of_mem _ (List.mem_append_right _ (grps_all most rest l s h hne hm))
    | @cons_cons s' _ _ h =>
      by_cases hs' : s' = []
      · subst hs'; exact List.mem_cons_self ..
      · have := grps_all most rest (l ++ [x]) s' h hs' (by rw [List.length_append, List.length_singleton]; simp only [List.length_cons] at hm; omega)
        rw [List.append_assoc, List.singleton_append] at this
        exact List.mem_cons_of_mem _ (List.mem_append_left _ this)
theorem setAll_get (t : Int) : ∀ (g l : List Int) (m : Nat), m < l.length → (∀ k ∈ g, 0 ≤ k) → (setAll t g l)[m]? = if (m : Int) ∈ g then some t else l[m]?
  | [], l, m, _, _ => by simp [setAll]
  | k :: g, l, m, hm, hg => by
    rw [setAll, setAll_get t g _ m (by simpa using hm) (fun z hz => hg z (List.mem_cons_of_mem _ hz))]
    have hk := hg k (List.mem_cons_self ..)
    by_cases h1 : (m : Int) ∈ g
    · rw [if_pos h1, if_pos (List.mem_cons_of_mem _ h1)]
    · rw [if_neg h1]
      by_cases h2 : (m : Int) = k
      · rw [if_pos (by rw [h2]; exact List.mem_cons_self ..)]
        have : k.toNat = m := by omega
        rw [this, List.getElem?_set_self hm]
      · have : k.toNat ≠ m := by omega
        rw [if_neg (by simp [h1, h2]), List.getElem?_set_ne this]
theorem setAll_back (l : List Int) (p t : Int) (g : List Int) (hg : ∀ k ∈ g, 0 ≤ k ∧ k < l.length) (ha : atB l p g = true) : setAll p g (setAll t g l) = l := by
  refine List.ext_getElem? fun m => ?_
  rcases Nat.lt_or_ge m l.length with h | h
  · rw [setAll_get p g _ m (by rw [setAll_length]; exact h) (fun k hk => (hg k hk).1), setAll_get t g l m h (fun k hk => (hg k hk).1)]
    by_cases h1 : (m : Int) ∈ g
    · rw [if_pos h1]
      unfold atB at ha
      rw [List.all_eq_true] at ha
      have := ha _ h1
      simp only [Int.toNat_natCast, decide_eq_true_eq, List.getElem?_eq_getElem h, Option.getD_some] at this
      rw [List.getElem?_eq_getElem h, this]
    · rw [if_neg h1, if_neg h1]
  · rw [List.getElem?_eq_none h, List.getElem?_eq_none (by rw [setAll_length, setAll_length]; exact h)]
def okC (a : Nat) (c : Int) (x : List Int × Int) : Prop := okP a c x ∧ calmS a c x.1 = true
theorem rises_pair {a b : Int} {g : List Int} (h : risesB a b g = true) : g.Pairwise (· < ·) := by
  unfold risesB at h
  rw [Bool.and_eq_true, List.all_eq_true, List.all_eq_true] at h
  have h2 := h.2
  have key : ∀ (d i : Nat) (hi : i < g.length) (hj : i + d + 1 < g.length), g[i] < g[i + d + 1] := fun d => by
    induction d with
    | zero =>
      intro i hi hj
      have := h2 (i + 1) (by rw [List.mem_range'_1]; omega)
      simpa [hi, hj] using this
    | succ d ih =>
      intro i hi hj
      have h3 := ih i hi (by omega)
      have := h2 (i + (d + 1) + 1) (by rw [List.mem_range'_1]; omega)
      have h4 : g[i + d + 1]'(by omega) < g[i + (d + 1) + 1] := by
        have e : i + (d + 1) + 1 - 1 = i + d + 1 := by omega
        rw [e] at this
        have h5 : i + d + 1 < g.length := by omega
        simpa [h5, hj] using this
      omega
  rw [List.pairwise_iff_getElem]
  intro i j hi hj hij
  have := key (j - i - 1) i hi (by omega)
  have e : i + (j - i - 1) + 1 = j := by omega
  simpa [e] using this
theorem can_parts {a : Nat} {b c : Int} {l : List Int} {p t : Int} {g : List Int} (h : canB a b c l p t g = true) : (0 ≤ t ∧ t ≤ c + 1) ∧ t ≠ p ∧ (1 ≤ (g.length : Int) ∧ (g.length : Int) ≤ b) ∧ risesB 0 (l.length - 1) g = true ∧ atB l p g = true ∧ cuB a (bitsI g 0) = true ∧ calmS a c (setAll t g l) = true := by
  simp only [canB, Bool.and_eq_true, inB_iff, Bool.not_eq_true', decide_eq_false_iff_not] at h
  obtain ⟨⟨⟨⟨⟨⟨h1, h2⟩, h3⟩, h4⟩, h5⟩, h6⟩, h7⟩ := h
  exact ⟨h1, h2, h3, h4, h5, h6, h7⟩
theorem succs_iff (a : Nat) (b c : Int) (x y : List Int × Int) : y ∈ succs a b c x ↔ ∃ t g, y = (setAll t g x.1, t) ∧ canB a b c x.1 x.2 t g = true ∧ g ∈ grps b (stand x.2 0 x.1) [] ∧ ∃ n : Nat, t = n ∧ n < (c + 2).toNat := by
  unfold succs voysAll voysS cans
  simp only [List.mem_map, List.mem_flatMap, List.mem_filter, List.mem_range'_1]
  constructor
  · rintro ⟨v, ⟨n, hn, g, ⟨hg, hc⟩, rfl⟩, rfl⟩
    exact ⟨n, g, rfl, hc, hg, n, rfl, by omega⟩
  · rintro ⟨t, g, rfl, hc, hg, n, rfl, hn⟩
    exact ⟨(n, g), ⟨n, by omega, g, ⟨hg, hc⟩, rfl⟩, rfl⟩
theorem succs_ok {a : Nat} {b c : Int} (hgd : good a b c = true) {x y : List Int × Int} (hx : okP a c x) (hy : y ∈ succs a b c x) : okC a c y := by
  refine ⟨(bfsOk a b c hgd).suc x hx y hy, ?_⟩
  obtain ⟨t, g, rfl, hc, _⟩ := (succs_iff a b c x y).1 hy
  exact (can_parts hc).2.2.2.2.2.2
theorem succs_symm {a : Nat} {b c : Int} (hgd : good a b c = true) {x y : List Int × Int} (hx : okC a c x) (hy : y ∈ succs a b c x) : x ∈ succs a b c y := by
  have hgo := good_of hgd
  have hoy := succs_ok hgd hx.1 hy
  obtain ⟨t, g, rfl, hc, hg, n, rfl, hn⟩ := (succs_iff a b c x y).1 hy
  obtain ⟨h1, h2, h3, h4, h5, h6, h7⟩ := can_parts hc
  obtain ⟨p, hp, hp2⟩ := okP_nat (by omega) hx.1
  have hin := risesB_in h4
  have hgi : ∀ k ∈ g, 0 ≤ k ∧ k < x.1.length := fun k hk => by have := hin k hk; omega
  have hback := setAll_back x.1 x.2 n g hgi h5
  have hat : atB (setAll n g x.1) n g = true := by
    unfold atB
    rw [List.all_eq_true]
    intro k hk
    have hki := hgi k hk
    rw [setAll_get n g x.1 k.toNat (by omega) (fun k hk => (hgi k hk).1), if_pos (by rw [show ((k.toNat : Nat) : Int) = k by omega]; exact hk)]
    simp
  rw [succs_iff]
  refine ⟨x.2, g, by rw [hback], ?_, ?_, p, hp, by omega⟩
  · unfold canB
    rw [(inB_iff _ _ _).2 (by rw [hp]; omega : 0 ≤ x.2 ∧ x.2 ≤ c + 1), (inB_iff _ _ _).2 h3, setAll_length, h4, hat, h6, hback, hx.2]
    simp [Ne.symm h2]
  · have := grps_all b (stand (n : Int) 0 (setAll n g x.1)) [] g (sub_sorted _ _ (stand_pair _ _ _) (rises_pair h4) fun k hk => (stand_mem n k _ 0).2 ⟨k.toNat, ?_, by have := hgi k hk; omega⟩) (fun e => by rw [e] at h3; simp at h3) (by simp; omega)
    · simpa using this
    · have hki := hgi k hk
      rw [setAll_get n g x.1 k.toNat (by omega) (fun k hk => (hgi k hk).1), if_pos (by rw [show ((k.toNat : Nat) : Int) = k by omega]; exact hk)]
theorem ends_ok {a : Nat} {b c : Int} (hgd : good a b c = true) {x : List Int × Int} (hx : okC a c x) : ∀ (k : Nat) (y : List Int × Int), y ∈ ends (succs a b c) k x → okC a c y
  | 0, y, h => by have : y = x := by simpa [ends] using h
                  subst this; exact hx
  | k + 1, y, h => by
    obtain ⟨z, hz, hy⟩ := List.mem_flatMap.1 h
    exact succs_ok hgd (ends_ok hgd hx k z hz).1 hy
theorem ends_symm {a : Nat} {b c : Int} (hgd : good a b c = true) : ∀ (k : Nat) (x y : List Int × Int), okC a c x → y ∈ ends (succs a b c) k x → x ∈ ends (succs a b c) k y
  | 0, x, y, hx, h => by have : y = x := by simpa [ends] using h
                         subst this; exact h
  | k + 1, x, y, hx, h => by
    obtain ⟨z, hz, hy⟩ := List.mem_flatMap.1 h
    have hzc := ends_ok hgd hx k z hz
    rw [ends_left]
    exact List.mem_flatMap.2 ⟨z, succs_symm hgd hzc hy, ends_symm hgd k x z hx hz⟩
theorem dist_symm {a : Nat} {b c : Int} (hgd : good a b c = true) {x y : List Int × Int} (hx : okC a c x) (hy : okC a c y) (d : Nat) : Dist (succs a b c) x d y ↔ Dist (succs a b c) y d x :=
  ⟨fun h => ⟨ends_symm hgd d x y hx h.1, fun e he hm => h.2 e he (ends_symm hgd e y x hy hm)⟩, fun h => ⟨ends_symm hgd d y x hy h.1, fun e he hm => h.2 e he (ends_symm hgd e x y hx hm)⟩⟩
def allAt (a : Nat) (p : Nat) : List Int × Int := (List.replicate (2 * a) (p : Int), (p : Int))
theorem allAt_ok (a : Nat) (ha : 1 ≤ a) (c : Int) (p : Nat) (hp : (p : Int) ≤ c + 1) : okC a c (allAt a p) := by
  refine ⟨⟨by simp [allAt], ?_, fun y hy => ?_⟩, ?_⟩
  · simp [allAt]; omega
  · simp [allAt] at hy; omega
  · unfold calmS
    rw [List.all_eq_true]
    intro i _
    rw [cuB_iff]
    rintro ⟨⟨i', hi', h3, h4⟩, _⟩
    refine h4 ((bitsAt_test _ _ _ _ _).2 (.inr ?_))
    rcases (bitsAt_test _ _ _ _ _).1 h3 with h | ⟨m, h5, h6⟩
    · simp at h
    · refine ⟨2 * i', ?_, by omega⟩
      simp only [allAt] at h5 ⊢
      have := List.mem_of_getElem? h5
      rw [List.eq_of_mem_replicate this, List.getElem?_replicate, if_pos (by omega)]
end Go.Proofs.Ytgmcjejelpeioaa.Ev
namespace Go.Proofs.Ytgmcjejelpeioaa.Ev
open Go
set_option linter.unusedVariables false
set_option linter.unusedSimpArgs false
set_option linter.unusedSectionVars false
attribute [local simp] til_getE til_length til_get til_drop til_take til_snoc til_fold take_snoc til_set tin_getE tin_length tin_take tleN_length tleN_getE

theorem all0_At (a : Nat) : all0 a = allAt a 0 := rfl
def walksN {X : Type} [DecidableEq X] (sc : X → List X) (d : Nat) (s y : X) : Int := ((ends sc d s).count y : Int)
def FarS (a : Nat) (b c : Int) (D W : Int) : Prop := (D = -1 ∧ ∀ k, allAt a (c + 1).toNat ∉ ends (succs a b c) k (all0 a)) ∨ ∃ d : Nat, D = d ∧ Dist (succs a b c) (all0 a) d (allAt a (c + 1).toNat) ∧ W = IntKind.i64.wrap (walksN (succs a b c) d (all0 a) (allAt a (c + 1).toNat))
theorem r28 (a : Nat) (b c : Int) (hgd : good a b c = true) : ∃ D W, ownR env 28 [.agg [ti a, ti b, ti c]] = some (.tup [.t (ti D), .t (ti W)], []) ∧ FarS a b c D W := by
  have hgo := good_of hgd
  have hok := all0_ok a (by omega) c (by omega)
  have hol := (allAt_ok a (by omega) c (c + 1).toNat (by omega)).1
  have hN := pow_le (c + 2).toNat (2 * a + 1) (by omega) (by omega)
  obtain ⟨q, h1, h2, h3, h5, h6, h7, h8, h9⟩ := bfs_right (bfsOk a b c hgd) hok
  rw [← bfsS_A a b c (by omega), startS_eq c (by omega)] at h1
  have hr := r23 a b c hgd (List.replicate (2 * a) 0) 0 hok ((c + 2).toNat ^ (2 * a + 1) + 1) (by omega) q h1
  have hlt := (bfsOk a b c hgd).lt _ hol
  have hl := h9 _ hol
  have hcd := (cdE_eq (by omega) (by omega) hol (c + 2).toNat (by omega) (by omega)).1
  have he : (((c + 2).toNat : Nat) : Int) = c + 2 := by omega
  rw [he] at hcd
  have hcd' : codeW (c + 2) (c + 1) (List.replicate (2 * a) (c + 1)) = (cdE (c + 2).toNat (allAt a (c + 1).toNat) : Int) := by
    have : allAt a (c + 1).toNat = (List.replicate (2 * a) (c + 1), c + 1) := by unfold allAt; rw [show (((c + 1).toNat : Nat) : Int) = c + 1 by omega]
    have h' : codeW (c + 2) (allAt a (c + 1).toNat).2 (allAt a (c + 1).toNat).1 = codeW (c + 2) (c + 1) (List.replicate (2 * a) (c + 1)) := by rw [this]
    rw [← h']
    exact hcd
  have h24 := r24 a b c 0 (by omega)
  have h24' := r24 a b c (c + 1) (by omega)
  have e : (2 * (a : Int)).toNat = 2 * a := by omega
  rw [e] at h24 h24'
  have h31 := r31 a b c (by omega) (List.replicate (2 * a) (c + 1)) (c + 1) (by simp; omega)
  have ht : (List.replicate (2 * a) (c + 1)).take (2 * a) = List.replicate (2 * a) (c + 1) := List.take_of_length_le (by simp)
  have ht0 : (List.replicate (2 * a) (0 : Int)).take (2 * a) = List.replicate (2 * a) 0 := List.take_of_length_le (by simp)
  rw [hcd'] at h31
  have hw : IntKind.i64.wrap (c + 1) = c + 1 := w64 (by omega)
  generalize cdE (c + 2).toNat (allAt a (c + 1).toNat) = cl at *
  generalize (c + 2).toNat ^ (2 * a + 1) = N at *
  refine ⟨q.1[cl]?.getD 0, q.2.1[cl]?.getD 0, ?_, ?_⟩
  · rw [own_ir e28 _ rfl]
    have g1 : cl < q.1.length := by omega
    have g2 : cl < q.2.1.length := by omega
    simp [ir28, ir28_c, h24, h24', hr, h31, hw, hlt, g1, g2]
  · rcases hl with ⟨g1, g2⟩ | ⟨d, g1, g2, g3⟩
    · exact .inl ⟨g1, g2⟩
    · exact .inr ⟨d, g1, g2, g3⟩
theorem r48 (a b c p : Int) (ha : 1 ≤ a ∧ a ≤ 10) : ownR env 48 [.agg [ti a, ti b, ti c], ti p] = some (.agg [.ref 0 0 (2 * a).toNat, .t (ti p)], [.pure 1 (til (List.replicate (2 * a).toNat p))]) := by
  rw [own_ir e48 _ rfl]
  have h57 := r57 a b c (by omega)
  obtain ⟨k, rfl⟩ : ∃ k : Nat, a = k := ⟨a.toNat, by omega⟩
  have e : (2 * (k : Int)).toNat = 2 * k := by omega
  have h64 : ownR env 64 [.lst 1 [.int .i64 p], ti (2 * (k : Int))] = some (.ref 0 0 (2 * k), [.pure 1 (til (List.replicate (2 * k) p))]) := by
    have := r64 p (2 * k) (by omega) (by omega)
    rw [show ((2 * k : Nat) : Int) = 2 * (k : Int) by omega] at this
    exact this
  rw [e]
  simp [ir48, ir48_c, h57, h64, til_flat]
def FarP (a : Nat) (b c : Int) (D : Int) : Prop := (D = -1 ∧ ∀ k, all0 a ∉ ends (succs a b c) k (allAt a (c + 1).toNat)) ∨ ∃ d : Nat, D = d ∧ Dist (succs a b c) (allAt a (c + 1).toNat) d (all0 a)
theorem far_eq {a : Nat} {b c : Int} (hgd : good a b c = true) {D W D' : Int} (h : FarS a b c D W) (h' : FarP a b c D') : D = D' := by
  have hgo := good_of hgd
  have hc0 : okC a c (all0 a) := by rw [all0_At]; exact allAt_ok a (by omega) c 0 (by omega)
  have hcl := allAt_ok a (by omega) c (c + 1).toNat (by omega)
  rcases h with ⟨h1, h2⟩ | ⟨d, h1, h2, _⟩
  · rcases h' with ⟨h3, _⟩ | ⟨d', h3, h4⟩
    · rw [h1, h3]
    · exact absurd (ends_symm hgd d' _ _ hcl h4.1) (h2 d')
  · rcases h' with ⟨h3, h4⟩ | ⟨d', h3, h4⟩
    · exact absurd (ends_symm hgd d _ _ hc0 h2.1) (h4 d)
    · have := ((dist_symm hgd hc0 hcl d).1 h2).uniq h4
      rw [h1, h3, this]
end Go.Proofs.Ytgmcjejelpeioaa.Ev
namespace Go.Proofs.Ytgmcjejelpeioaa.Ev
open Go
set_option linter.unusedVariables false
set_option linter.unusedSimpArgs false
set_option linter.unusedSectionVars false
attribute [local simp] til_getE til_length til_get til_drop til_take til_snoc til_fold take_snoc til_set tin_getE tin_length tin_take tleN_length tleN_getE

theorem allAt_code (a : Nat) (ha : 1 ≤ a ∧ a ≤ 3) (c : Int) (hc : 0 ≤ c ∧ c ≤ 2) : codeW 4 (c + 1) (List.replicate (2 * a) (c + 1)) = (cdE 4 (allAt a (c + 1).toNat) : Int) := by
  have hol := (allAt_ok a ha.1 c (c + 1).toNat (by omega)).1
  have h := (cdE_eq (by omega) hc hol 4 (by omega) (by omega)).1
  have : allAt a (c + 1).toNat = (List.replicate (2 * a) (c + 1), c + 1) := by unfold allAt; rw [show (((c + 1).toNat : Nat) : Int) = c + 1 by omega]
  rw [← h]
  show _ = codeW 4 (allAt a (c + 1).toNat).2 (allAt a (c + 1).toNat).1
  rw [this]
structure CostsP (a : Nat) (b c : Int) (r : List Int) : Prop where
  len : r.length = 4 ^ (2 * a + 1)
  le : ∀ v : Nat, r[v]?.getD 0 ≤ 2 ^ 40
  far : ∀ y, okC a c y → (r[cdE 4 y]?.getD 0 = -1 ∧ ∀ k, y ∉ ends (succs a b c) k (allAt a (c + 1).toNat)) ∨ ∃ d : Nat, r[cdE 4 y]?.getD 0 = d ∧ Dist (succs a b c) (allAt a (c + 1).toNat) d y
theorem r29 (a : Nat) (b c : Int) (hgd : good a b c = true) : ∃ r : List Int, ownFR env 29 [.agg [ti a, ti b, ti c]] = some (.tup [.agg [.t (ti ((4 ^ (2 * a + 1) : Nat) : Int)), .clo 41 [] [.ptr 0 0 0]], .ref 1 0 (4 ^ (2 * a + 1)), .t (tb (decide ((0 : Int) ≤ r[0]?.getD 0)))], [.froz 3 [.agg [ti a, ti b, ti c]], .pure 1 (til r)]) ∧ CostsP a b c r := by
  have hgo := good_of hgd
  have hol := allAt_ok a (by omega) c (c + 1).toNat (by omega)
  have h4 := pow_le 4 (2 * a + 1) (by omega) (by omega)
  have hp4 : 0 < 4 ^ (2 * a + 1) := Nat.pow_pos (by decide)
  have hg4 := okG4 a b c hgd
  have hPl : P4 a c (cdE 4 (allAt a (c + 1).toNat)) := ⟨_, hol.1, rfl⟩
  obtain ⟨r, g1, g2, g3⟩ := from_right hg4 (starts := [cdE 4 (allAt a (c + 1).toNat)]) (fun x hx => by rw [List.mem_singleton.1 hx]; exact hPl)
  refine ⟨r.1, ?_, g2, fun v => ?_, fun y hy => ?_⟩
  · have h26 := r26 a b c (by omega)
    rw [show (2 * (a : Int)).toNat + 1 = 2 * a + 1 by omega] at h26
    have h49 := r49 a b c (by omega)
    have h48 := r48 a b c (c + 1) (by omega)
    rw [show (2 * (a : Int)).toNat = 2 * a by omega] at h48
    have h45 := r45 (List.replicate (2 * a) (c + 1)) (c + 1) (by simp; omega)
    rw [allAt_code a (by omega) c (by omega)] at h45
    have ht : (List.replicate (2 * a) (c + 1)).take (2 * a) = List.replicate (2 * a) (c + 1) := List.take_of_length_le (by simp)
    obtain ⟨H', i, k1, k2, k3, k4, k5⟩ := d46 hg4 (call41 a b c hgd) (by omega) ⟨hp4, by omega⟩ [cdE 4 (allAt a (c + 1).toNat)] (by simp only [List.length_singleton]; omega) (fun x hx => by rw [List.mem_singleton.1 hx]; exact hPl) _ (by omega) r g1
      [.box 3 [.t (ti a), .t (ti b), .t (ti c)], .box 2 [.t (ti 0), .t .nilf], .froz 3 [.agg [ti a, ti b, ti c]], .box 2 [.t (ti ((4 ^ (2 * a + 1) : Nat) : Int)), .clo 41 [] [.ptr 2 0 0]], .pure 1 (til (List.replicate (2 * a) (c + 1))), .froz 1 [.int .i64 (cdE 4 (allAt a (c + 1).toNat))]]
    have q1 := k5 1 (by simp)
    have q2 := k5 2 (by simp)
    have q3 := k5 3 (by simp)
    generalize cdE 4 (allAt a (c + 1).toNat) = cl at *
    generalize 4 ^ (2 * a + 1) = N at *
    have k1' : den env 46 [.t (.agg [ti N, .clo 41 [] [.ptr (.agg [ti a, ti b, ti c])]]), .t (.lst 1 [.int .i64 cl])] _ = _ := k1
    simp at q1 q2 q3
    rw [ownF_ir e29 _ rfl]
    simp only [List.length_cons, List.length_nil] at k3
    have hr0 : 0 < r.1.length := by omega
    have i1 : ¬ (1 = i) := by omega
    have i2 : ¬ (2 = i) := by omega
    have i3 : ¬ (i = 2) := by omega
    have i4 : ¬ (i = 1) := by omega
    have hl2 : 1 < H'.length := (List.getElem?_eq_some_iff.1 q1).1
    have hs1 : ∀ x, (H'.set 1 x)[1]? = some x := fun x => List.getElem?_set_self hl2
    simp [ir29, ir29_c, hs1, h26, h49, h48, h45, ht, k1', k2, q1, q2, q3, hp4, hr0, i1, i2, i3, i4]
  · have h40 : (2 : Int) ^ 40 = 1099511627776 := by decide
    rw [h40]
    rcases Nat.lt_or_ge v (4 ^ (2 * a + 1)) with hv | hv
    · rcases g3 v hv with ⟨h1, _⟩ | ⟨d, h1, h2, h3⟩
      · omega
      · obtain ⟨z, hz, hzc, hze⟩ := (rch_iff a b c hgd _ hol.1 d v).1 h2
        have hdz : Dist (succs a b c) (allAt a (c + 1).toNat) d z := ⟨hze, fun e he hm => h3 e he ((rch_iff a b c hgd _ hol.1 e v).2 ⟨z, hz, hzc, hm⟩)⟩
        have h10 := dist_lt (bfsOk a b c hgd) hol.1 hdz
        have h11 := pow_le (c + 2).toNat (2 * a + 1) (by omega) (by omega)
        omega
    · rw [List.getElem?_eq_none (by omega)]; simp
  · have hy4 := (cdE_eq (by omega) (by omega) hy.1 4 (by omega) (by omega)).2
    rcases g3 _ hy4 with ⟨h1, h2⟩ | ⟨d, h1, h2, h3⟩
    · exact .inl ⟨h1, fun k hk => h2 k ((rch_iff a b c hgd _ hol.1 k _).2 ⟨y, hy.1, rfl, hk⟩)⟩
    · refine .inr ⟨d, h1, ?_, fun e he hm => h3 e he ((rch_iff a b c hgd _ hol.1 e _).2 ⟨y, hy.1, rfl, hm⟩)⟩
      obtain ⟨z, hz, hzc, hze⟩ := (rch_iff a b c hgd _ hol.1 d _).1 h2
      have := cdE_inj (by omega) (by omega) hz hy.1 4 (by omega) (by omega) hzc
      rw [← this]; exact hze
end Go.Proofs.Ytgmcjejelpeioaa.Ev
namespace Go.Proofs.Ytgmcjejelpeioaa.Ev
open Go
set_option linter.unusedVariables false
set_option linter.unusedSimpArgs false
set_option linter.unusedSectionVars false
attribute [local simp] til_getE til_length til_get til_drop til_take til_snoc til_fold take_snoc til_set

theorem CostsP.first {a : Nat} {b c : Int} (hgd : good a b c = true) {r : List Int} (h : CostsP a b c r) : FarP a b c (r[0]?.getD 0) := by
  have hgo := good_of hgd
  have hc0 : okC a c (all0 a) := by rw [all0_At]; exact allAt_ok a (by omega) c 0 (by omega)
  have := h.far (all0 a) hc0
  rw [all0_cd] at this
  exact this
theorem fewest (a : Nat) (b c : Int) (hgd : good a b c = true) : ∃ D W : Int, ∃ r : List Int, FarS a b c D W ∧ CostsP a b c r ∧ r[0]?.getD 0 = D ∧ ownR env 28 [.agg [ti a, ti b, ti c]] = some (.tup [.t (ti D), .t (ti W)], []) ∧
    ownFR env 29 [.agg [ti a, ti b, ti c]] = some (.tup [.agg [.t (ti ((4 ^ (2 * a + 1) : Nat) : Int)), .clo 41 [] [.ptr 0 0 0]], .ref 1 0 (4 ^ (2 * a + 1)), .t (tb (decide (0 ≤ D)))], [.froz 3 [.agg [ti a, ti b, ti c]], .pure 1 (til r)]) := by
  obtain ⟨D, W, h1, h2⟩ := r28 a b c hgd
  obtain ⟨r, h3, h4⟩ := r29 a b c hgd
  have he := far_eq hgd h2 (h4.first hgd)
  rw [← he] at h3
  exact ⟨D, W, r, h2, h4, he.symm, h1, h3⟩
theorem FarS.neg {a : Nat} {b c D W : Int} (h : FarS a b c D W) : D < 0 ↔ ¬ 0 ≤ D := by omega
theorem r11_bad (a b c : Int) (h : good a b c = false) : ownR env 11 [.agg [ti a, ti b, ti c]] = some (.tup [.t (ti 0), .t (tb false)], []) := by
  rw [own_ir e11 _ rfl]
  simp [ir11, ir11_c, h]
theorem r12_bad (a b c : Int) (h : good a b c = false) : ownR env 12 [.agg [ti a, ti b, ti c]] = some (.tup [.t (ti 0), .t (tb false)], []) := by
  rw [own_ir e12 _ rfl]
  simp [ir12, ir12_c, h]
theorem law_fewest (a : Nat) (b c : Int) (hgd : good a b c = true) : ∃ D W : Int, ownR env 28 [.agg [ti a, ti b, ti c]] = some (.tup [.t (ti D), .t (ti W)], []) ∧
    ownR env 11 [.agg [ti a, ti b, ti c]] = some (.tup [.t (ti (if D < 0 then 0 else D)), .t (tb (!decide (D < 0)))], []) ∧ ownR env 12 [.agg [ti a, ti b, ti c]] = some (.tup [.t (ti (if D < 0 then 0 else D)), .t (tb (!decide (D < 0)))], []) := by
  obtain ⟨D, W, r, h1, h2, h3, h4, h5⟩ := fewest a b c hgd
  refine ⟨D, W, h4, ?_, ?_⟩
  · rw [own_ir e11 _ rfl]
    by_cases hD : D < 0 <;> simp [ir11, ir11_c, hgd, h4, hD]
  · rw [own_ir e12 _ rfl]
    have hp4 : 0 < 4 ^ (2 * a + 1) := Nat.pow_pos (by decide)
    have hl := h2.len
    generalize 4 ^ (2 * a + 1) = N at *
    have hr0 : 0 < r.length := by omega
    have hrD : r[0] = D := by simpa [hr0] using h3
    by_cases hD : D < 0
    · simp [ir12, ir12_c, hgd, h5, hD, show ¬ (0 ≤ D) by omega]
    · simp [ir12, ir12_c, hgd, h5, hD, show 0 ≤ D by omega, hp4, hr0, hrD]
theorem r4 (a b c : Int) : ownR env 4 [.agg [ti a, ti b, ti c]] = some (.t (tb true), []) := by
  rw [own_ir e4 _ rfl]
  have h9 := r9 a b c
  by_cases hgd : good a b c = true
  · have hgo := good_of hgd
    obtain ⟨k, rfl⟩ : ∃ k : Nat, a = k := ⟨a.toNat, by omega⟩
    obtain ⟨D, W, _, h1, h2⟩ := law_fewest k b c hgd
    by_cases hD : D < 0 <;> simp [ir4, ir4_c, h9, h1, h2, hD]
  · have hgd : good a b c = false := by simpa using hgd
    simp [ir4, ir4_c, h9, r11_bad a b c hgd, r12_bad a b c hgd]
end Go.Proofs.Ytgmcjejelpeioaa.Ev
namespace Go.Proofs.Ytgmcjejelpeioaa.Ev
open Go
set_option linter.unusedVariables false
set_option linter.unusedSimpArgs false
set_option linter.unusedSectionVars false
theorem r12_any (a b : Int) : ∃ D o, ownR env 12 [.agg [ti a, ti b, ti 0]] = some (.tup [.t (ti D), .t (tb o)], []) := by
  by_cases hgd : good a b 0 = true
  · have hgo := good_of hgd
    obtain ⟨k, rfl⟩ : ∃ k : Nat, a = k := ⟨a.toNat, by omega⟩
    obtain ⟨D, W, _, _, h2⟩ := law_fewest k b 0 hgd
    exact ⟨_, _, h2⟩
  · exact ⟨_, _, r12_bad a b 0 (by simpa using hgd)⟩
theorem r5 (a b c : Int) : ownR env 5 [.agg [ti a, ti b, ti c]] = some (.t (tb true), []) := by
  have h9 := r9 a b c
  by_cases hgd : good a b c = true
  · have hgo := good_of hgd
    have hg0 : good a b 0 = true := by simp [good, inB] at hgd ⊢; omega
    obtain ⟨k, rfl⟩ : ∃ k : Nat, a = k := ⟨a.toNat, by omega⟩
    obtain ⟨D, W, h28, _, h12⟩ := law_fewest k b c hgd
    obtain ⟨D0, W0, h28', _, h12'⟩ := law_fewest k b 0 hg0
    have h13 : ownR env 13 [.agg [ti k, ti b, ti c]] = some (.tup [.t (ti (if D < 0 ∨ D0 < 0 then 0 else IntKind.i64.wrap (D0 - D))), .t (tb (!decide (D < 0 ∨ D0 < 0)))], []) := by
      rw [own_ir e13 _ rfl]
      by_cases hD : D < 0 <;> by_cases hD0 : D0 < 0 <;> simp [ir13, ir13_c, hgd, h28, h28', hD, hD0]
    have h14 : ownR env 14 [.agg [ti k, ti b, ti c]] = some (.tup [.t (ti (if D < 0 ∨ D0 < 0 then 0 else IntKind.i64.wrap (D0 - D))), .t (tb (!decide (D < 0 ∨ D0 < 0)))], []) := by
      rw [own_ir e14 _ rfl]
      by_cases hD : D < 0 <;> by_cases hD0 : D0 < 0 <;> simp [hD, hD0] at h12 h12' <;> simp [ir14, ir14_c, h12, h12', hD, hD0]
    rw [own_ir e5 _ rfl]
    generalize (if D < 0 ∨ D0 < 0 then 0 else IntKind.i64.wrap (D0 - D)) = R at *
    cases ho : decide (D < 0 ∨ D0 < 0) <;> rw [ho] at h13 h14 <;> simp at h13 h14 <;> simp [ir5, ir5_c, h9, h13, h14]
  · have hgd : good a b c = false := by simpa using hgd
    obtain ⟨D, o, h12⟩ := r12_any a b
    have h13 : ownR env 13 [.agg [ti a, ti b, ti c]] = some (.tup [.t (ti 0), .t (tb false)], []) := by
      rw [own_ir e13 _ rfl]
      simp [ir13, ir13_c, hgd]
    have h14 : ownR env 14 [.agg [ti a, ti b, ti c]] = some (.tup [.t (ti 0), .t (tb false)], []) := by
      rw [own_ir e14 _ rfl]
      simp [ir14, ir14_c, r12_bad a b c hgd, h12]
    rw [own_ir e5 _ rfl]
    simp [ir5, ir5_c, h9, h13, h14]
end Go.Proofs.Ytgmcjejelpeioaa.Ev
namespace Go.Proofs.Ytgmcjejelpeioaa.Ev
open Go
set_option linter.unusedVariables false
set_option linter.unusedSimpArgs false
set_option linter.unusedSectionVars false
attribute [local simp] til_getE til_length til_get til_drop til_take til_snoc til_fold take_snoc til_set tin_getE tin_length tin_take tleN_length tleN_getE
def delB (dist : List Int) (s : Nat) (e : Ed) : Bool := decide (dist[e.1]?.getD 0 < 0) || !decide (IntKind.i64.wrap (dist[e.1]?.getD 0 + e.2.1) = dist[s]?.getD 0)
theorem r70 (dist : List Int) (s : Nat) (hs : s < dist.length) (to c : Nat) (vt : Int) (g : List Int) (hto : to < dist.length) : ownR env 70 [.agg [.int .i64 to, .int .i64 c, .int .i64 vt, .lst 1 (til g)], .ptr (.lst 1 (til dist)), .ptr (ti s)] = some (.t (tb (delB dist s (to, c, vt, g))), []) := by
  rw [own_ir e70 _ rfl]
  have h1 : dist[to]?.getD 0 = dist[to] := by simp [hto]
  have h2 : dist[s]?.getD 0 = dist[s] := by simp [hs]
  unfold delB
  simp only [h1, h2]
  by_cases hn : dist[to] < 0
  · simp [ir70, ir70_c, hto, hs, hn]
  · by_cases he : IntKind.i64.wrap (dist[to] + c) = dist[s] <;> simp [ir70, ir70_c, hto, hs, hn, he]
def idxD (del : Ed → Bool) : Nat → List Ed → Int
  | _, [] => -1
  | i, e :: es => if del e then (i : Int) else idxD del (i + 1) es
theorem w76 (dist : List Int) (s : Nat) (hs : s < dist.length) (es : List Ed) (hen : es.length ≤ 1000000) (hes : ∀ e ∈ es, e.1 < dist.length) : ∀ (d i : Nat), i + d = es.length →
    endO [.tmp 4] (andN (outB 0 (loopF env true [0, 1, 7, 8] ir76_b0 ([(0, .t (.lst 4 (tleN es))), (1, .t (.clo 70 [] [.ptr (.lst 1 (til dist)), .ptr (ti s)])), (7, .t (ti es.length)), (8, .t (ti i))], []))) (execD env (.seq (.reg false [] [⟨some 4, none, .mv (.k (ti (-1)))⟩]) .ret))) = some (.t (ti (idxD (delB dist s) i (es.drop i))), [])
  | 0, i, hi => by
    rw [x76_0]
    have : i = es.length := by omega
    subst this
    simp [ir76_d0, idxD]
  | d + 1, i, hi => by
    rw [x76_0]
    have hlt : i < es.length := by omega
    have hw : IntKind.i64.wrap ((i : Int) + 1) = (i : Int) + 1 := w64 (by omega)
    have ih := w76 dist s hs es hen hes d (i + 1) (by omega)
    have hto := hes es[i] (List.getElem_mem hlt)
    have h70 := r70 dist s hs es[i].1 es[i].2.1 es[i].2.2.1 es[i].2.2.2 hto
    have hd : es.drop i = es[i] :: es.drop (i + 1) := List.drop_eq_getElem_cons hlt
    rw [hd, idxD]
    have he : (es[i].1, es[i].2.1, es[i].2.2.1, es[i].2.2.2) = es[i] := rfl
    rw [he] at h70
    cases hdel : delB dist s es[i] with
    | true =>
      rw [hdel] at h70
      simp [ir76_d0, hlt, hw, h70]
    | false =>
      rw [hdel] at h70
      simp at ih
      simp [ir76_d0, hlt, hw, h70, ih]
theorem r76 (dist : List Int) (s : Nat) (hs : s < dist.length) (es : List Ed) (hen : es.length ≤ 1000000) (hes : ∀ e ∈ es, e.1 < dist.length) : ownR env 76 [.lst 4 (tleN es), .clo 70 [] [.ptr (.lst 1 (til dist)), .ptr (ti s)]] = some (.t (ti (idxD (delB dist s) 0 es)), []) := by
  rw [own_ir e76 _ rfl]
  have hl := w76 dist s hs es hen hes es.length 0 (by omega)
  simp at hl
  simp [ir76, ir76_c, hl]
end Go.Proofs.Ytgmcjejelpeioaa.Ev
namespace Go.Proofs.Ytgmcjejelpeioaa.Ev
open Go
set_option linter.unusedVariables false
set_option linter.unusedSimpArgs false
set_option linter.unusedSectionVars false
attribute [local simp] til_getE til_length til_get til_drop til_take til_snoc til_fold take_snoc til_set tin_getE tin_length tin_take tleN_length tleN_getE

theorem tleN_set (es : List Ed) (i : Nat) (e : Ed) : (tleN es).set i (.agg [.int .i64 e.1, .int .i64 e.2.1, .int .i64 e.2.2.1, .lst 1 (til e.2.2.2)]) = tleN (es.set i e) := by simp [tleN, List.map_set]
theorem w69 (dist : List Int) (s : Nat) (hs : s < dist.length) (es : List Ed) (hen : es.length ≤ 1000000) (hes : ∀ e ∈ es, e.1 < dist.length) (ie i5 i4 : Nat) : ∀ (d j : Nat) (H : Heap) (i : Nat) (xs : List Ed), j + d = es.length → i ≤ j → xs.length = es.length → xs.take i = (es.take j).filter (fun e => !delB dist s e) → xs.drop j = es.drop j →
    H[ie]? = some (.pure 4 (tleN xs)) → H[i5]? = some (.box 1 [.t (.lst 1 (til dist))]) → H[i4]? = some (.box 1 [.t (ti s)]) →
    ∃ H' xs' i', loopF env false [0, 1, 5, 6] ir69_b0 ([(0, .ref ie 0 es.length), (1, .clo 70 [] [.ptr i5 0 0, .ptr i4 0 0]), (5, .t (ti i)), (6, .t (ti j))], H) =
      some (.exit 0, [(0, .ref ie 0 es.length), (1, .clo 70 [] [.ptr i5 0 0, .ptr i4 0 0]), (5, .t (ti (i' : Nat))), (6, .t (ti es.length)), (16, .t (ti es.length)), (17, .ref ie 0 es.length), (18, .t (ti es.length)), (19, .t (tb false))], H') ∧
      xs'.length = es.length ∧ i' ≤ es.length ∧ xs'.take i' = es.filter (fun e => !delB dist s e) ∧ H'[ie]? = some (.pure 4 (tleN xs')) ∧ H.length ≤ H'.length ∧ ∀ id, id < H.length → id ≠ ie → H'[id]? = H[id]?
  | 0, j, H, i, xs, hj, hij, hxl, hk, hd, he, h5, h4 => by
    rw [x69_0]
    have : j = es.length := by omega
    subst this
    refine ⟨H, xs, i, ?_, hxl, hij, by rw [hk, List.take_length], he, Nat.le_refl _, fun _ _ _ => rfl⟩
    simp [ir69_d0]
  | d + 1, j, H, i, xs, hj, hij, hxl, hk, hd, he, h5, h4 => by
    rw [x69_0]
    have hlt : j < es.length := by omega
    have hltx : j < xs.length := by omega
    have hw : IntKind.i64.wrap ((j : Int) + 1) = (j : Int) + 1 := w64 (by omega)
    have hwi : IntKind.i64.wrap ((i : Int) + 1) = (i : Int) + 1 := w64 (by omega)
    have hxj : xs[j] = es[j] := by
      have := congrArg (fun l => l[0]?) hd
      simpa [hlt, hltx] using this
    have hd' : xs.drop (j + 1) = es.drop (j + 1) := by
      have := congrArg (List.drop 1) hd
      simpa using this
    have htk : es.take (j + 1) = es.take j ++ [es[j]] := by rw [List.take_add_one, List.getElem?_eq_getElem hlt]; rfl
    have hto := hes es[j] (List.getElem_mem hlt)
    have h70 := r70 dist s hs es[j].1 es[j].2.1 es[j].2.2.1 es[j].2.2.2 hto
    rw [show (es[j].1, es[j].2.1, es[j].2.2.1, es[j].2.2.2) = es[j] from rfl] at h70
    have hel := (List.getElem?_eq_some_iff.1 he).1
    have hlX : ∀ {id : Nat} {b : Blk} (X : Heap), H[id]? = some b → (H ++ X)[id]? = some b := fun X h => get_app2 h
    cases hdel : delB dist s es[j] with
    | true =>
      rw [hdel] at h70
      obtain ⟨H', xs', i', g1, g2, g3, g4, g5, g6, g7⟩ := w69 dist s hs es hen hes ie i5 i4 d (j + 1) (H ++ [.box 4 [.t (.int .i64 es[j].1), .t (.int .i64 es[j].2.1), .t (.int .i64 es[j].2.2.1), .t (.lst 1 (til es[j].2.2.2))]]) i xs (by omega) (by omega) hxl (by rw [htk, List.filter_append, hk]; simp [hdel]) hd' (hlX _ he) (hlX _ h5) (hlX _ h4)
      refine ⟨H', xs', i', ?_, g2, g3, g4, g5, by simp at g6; omega, fun id hid hne => (g7 id (by simp; omega) hne).trans (get_app hid)⟩
      simp at g1
      simp [ir69_d0, hlt, hltx, hw, he, hxj, hlX _ h5, hlX _ h4, h70, g1]
    | false =>
      rw [hdel] at h70
      have hi : i < xs.length := by omega
      have hie : i < es.length := by omega
      have h5e : ¬ (ie = i5) := fun e => by rw [← e, he] at h5; cases h5
      have h4e : ¬ (ie = i4) := fun e => by rw [← e, he] at h4; cases h4
      obtain ⟨H', xs', i', g1, g2, g3, g4, g5, g6, g7⟩ := w69 dist s hs es hen hes ie i5 i4 d (j + 1) ((H ++ [Blk.box 4 [.t (.int .i64 es[j].1), .t (.int .i64 es[j].2.1), .t (.int .i64 es[j].2.2.1), .t (.lst 1 (til es[j].2.2.2))]]).set ie (.pure 4 (tleN (xs.set i es[j])))) (i + 1) (xs.set i es[j]) (by omega) (by omega) (by simpa using hxl) (by
          rw [htk, List.filter_append, ← hk]
          simp only [List.filter_cons, hdel, Bool.not_false, if_true, List.filter_nil]
          rw [List.take_add_one, List.getElem?_set_self hi, List.take_set_of_le (Nat.le_refl _)]
          rfl) (by rw [List.drop_set_of_lt (by omega)]; exact hd') (by rw [List.getElem?_set_self (by simp; omega)]) (by rw [List.getElem?_set_ne h5e]; exact hlX _ h5) (by rw [List.getElem?_set_ne h4e]; exact hlX _ h4)
      refine ⟨H', xs', i', ?_, g2, g3, g4, g5, by simp at g6; omega, fun id hid hne => (g7 id (by simp; omega) hne).trans (by rw [List.getElem?_set_ne (Ne.symm hne)]; exact get_app hid)⟩
      simp at g1
      simp [ir69_d0, hlt, hltx, hw, hwi, he, hxj, hlX _ he, hlX _ h5, hlX _ h4, h70, hi, hie, tleN_set, g1]
end Go.Proofs.Ytgmcjejelpeioaa.Ev
namespace Go.Proofs.Ytgmcjejelpeioaa.Ev
open Go
set_option linter.unusedVariables false
set_option linter.unusedSimpArgs false
set_option linter.unusedSectionVars false
attribute [local simp] til_getE til_length til_get til_drop til_take til_snoc til_fold take_snoc til_set tin_getE tin_length tin_take tleN_length tleN_getE

theorem idxD_is (del : Ed → Bool) : ∀ (es : List Ed) (i : Nat), (idxD del i es = -1 ∧ ∀ e ∈ es, del e = false) ∨ ∃ k, ∃ hk : k < es.length, idxD del i es = ((i + k : Nat) : Int) ∧ (∀ e ∈ es.take k, del e = false) ∧ del es[k] = true
  | [], i => .inl ⟨rfl, by simp⟩
  | e :: es, i => by
    simp only [idxD]
    cases h : del e with
    | true => exact .inr ⟨0, by simp, by simp, by simp, by simpa using h⟩
    | false =>
      rcases idxD_is del es (i + 1) with ⟨h1, h2⟩ | ⟨k, hk, h1, h2, h3⟩
      · refine .inl ⟨by simpa using h1, fun x hx => ?_⟩
        rcases List.mem_cons.1 hx with rfl | hx
        · exact h
        · exact h2 x hx
      · refine .inr ⟨k + 1, by simpa using hk, ?_, fun x hx => ?_, by simpa using h3⟩
        · simp only [Bool.false_eq_true, if_false, h1]; omega
        · rw [List.take_succ_cons] at hx
          rcases List.mem_cons.1 hx with rfl | hx
          · exact h
          · exact h2 x hx
theorem d69 (dist : List Int) (s : Nat) (hs : s < dist.length) (es : List Ed) (hen : es.length ≤ 1000000) (hes : ∀ e ∈ es, e.1 < dist.length) (ie i5 i4 : Nat) (H : Heap)
    (he : H[ie]? = some (.pure 4 (tleN es))) (h5 : H[i5]? = some (.box 1 [.t (.lst 1 (til dist))])) (h4 : H[i4]? = some (.box 1 [.t (ti s)])) :
    ∃ H' ts, den env 69 [.ref ie 0 es.length, .clo 70 [] [.ptr i5 0 0, .ptr i4 0 0]] H = some (.ref ie 0 (es.filter (fun e => !delB dist s e)).length, H') ∧ H'[ie]? = some (.pure 4 ts) ∧
      ts.take (es.filter (fun e => !delB dist s e)).length = tleN (es.filter (fun e => !delB dist s e)) ∧ H.length ≤ H'.length ∧ ∀ id, id < H.length → id ≠ ie → H'[id]? = H[id]? := by
  rw [den_ir e69 _ _ rfl (.inl rfl)]
  have h76 := r76 dist s hs es hen hes
  have hel := (List.getElem?_eq_some_iff.1 he).1
  have hte : (tleN es).take es.length = tleN es := List.take_of_length_le (by simp)
  rcases idxD_is (delB dist s) es 0 with ⟨g1, g2⟩ | ⟨k, hk, g1, g2, g3⟩
  · have hf : es.filter (fun e => !delB dist s e) = es := List.filter_eq_self.2 fun e he => by simp [g2 e he]
    rw [g1] at h76
    rw [hf]
    refine ⟨H, tleN es, ?_, he, by simp [List.take_of_length_le], Nat.le_refl _, fun _ _ _ => rfl⟩
    simp [ir69, ir69_c, he, h5, h4, hte, h76]
  · rw [g1, Nat.zero_add] at h76
    have hw : IntKind.i64.wrap ((k : Int) + 1) = (k : Int) + 1 := w64 (by omega)
    have hk0 : es.take k = (es.take (k + 1)).filter (fun e => !delB dist s e) := by
      rw [List.take_add_one, List.getElem?_eq_getElem hk, List.filter_append]
      simp only [Option.toList_some, List.filter_cons, g3, Bool.not_true, Bool.false_eq_true, if_false, List.filter_nil, List.append_nil]
      exact (List.filter_eq_self.2 fun e he => by simp [g2 e he]).symm
    obtain ⟨H', xs', i', q1, q2, q3, q4, q5, q6, q7⟩ := w69 dist s hs es hen hes ie i5 i4 (es.length - (k + 1)) (k + 1) H k es (by omega) (by omega) rfl hk0 rfl he h5 h4
    have hfl : (es.filter (fun e => !delB dist s e)).length = i' := by rw [← q4, List.length_take]; omega
    rw [hfl]
    refine ⟨H'.set ie (.pure 4 (splice (tleN xs') i' (List.replicate (es.length - i') (.agg [.int .i64 0, .int .i64 0, .int .i64 0, .nil])))), _, ?_, by rw [List.getElem?_set_self (by omega)], ?_, by simpa using q6, fun id hid hne => by rw [List.getElem?_set_ne (Ne.symm hne)]; exact q7 id hid hne⟩
    · have hset : ∀ b, (H'.set ie b)[ie]? = some b := fun b => List.getElem?_set_self (by omega)
      simp at q1
      simp [ir69, ir69_c, he, h5, h4, hte, h76, hw, q1, q5, q2, show ¬ ((k : Int) = -1) by omega, q3, show i' + (es.length - i') ≤ es.length by omega, splice, hset]
    · rw [← q4]
      unfold splice
      rw [List.append_assoc, List.take_append_of_le_length (by simp; omega), List.take_take, Nat.min_self]
      simp [tleN, List.map_take]
end Go.Proofs.Ytgmcjejelpeioaa.Ev
namespace Go.Proofs.Ytgmcjejelpeioaa.Ev
open Go
set_option linter.unusedVariables false
set_option linter.unusedSimpArgs false
set_option linter.unusedSectionVars false
attribute [local simp] til_getE til_length til_get til_drop til_take til_snoc til_fold take_snoc til_set tin_getE tin_length tin_take tleN_length tleN_getE
def bestE (out : Nat → List Ed) (dist : List Int) (s : Nat) : List Ed := (out s).filter fun e => !delB dist s e
theorem r55 {f : FuncId} {caps : List T} {N C D : Nat} {P : Nat → Prop} {out : Nat → List Ed} (hG : OkG N C D P out) (hD : D ≤ 1000000)
    (hcall : ∀ s, P s → ∀ H, evCall env (den env) f (.t (ti s) :: caps.map .t) H = some (.ref H.length 0 (out s).length, H ++ [.pure 4 (tleN (out s))])) (dist : List Int) (hdl : dist.length = N) (s : Nat) (hs : P s) :
    ∃ ts, ownFR env 55 [.agg [ti N, .clo f [] caps], ti s, .lst 1 (til dist)] = some (.ref 0 0 (bestE out dist s).length, [.pure 4 ts]) ∧ ts.take (bestE out dist s).length = tleN (bestE out dist s) := by
  have hsN := hG.lt s hs
  have hdeg := hG.deg s hs
  obtain ⟨H', ts, h1, h2, h3, h4, h5⟩ := d69 dist s (by omega) (out s) (by omega) (fun e he => by have := hG.lt _ (hG.ed s hs e he).1; omega) 3 2 1
    [.box 2 [.t (ti N), .t (.clo f [] caps)], .box 1 [.t (ti s)], .box 1 [.t (.lst 1 (til dist))], .pure 4 (tleN (out s))] rfl rfl rfl
  refine ⟨ts, ?_, h3⟩
  rw [ownF_ir e55 _ rfl]
  unfold bestE
  have hc := hcall s hs
  simp [ir55, ir55_c, hc, h1, h2]
end Go.Proofs.Ytgmcjejelpeioaa.Ev
namespace Go.Proofs.Ytgmcjejelpeioaa.Ev
open Go
set_option linter.unusedVariables false
set_option linter.unusedSimpArgs false
set_option linter.unusedSectionVars false
attribute [local simp] til_getE til_length til_get til_drop til_take til_snoc til_fold take_snoc til_set tin_getE tin_length tin_take tleN_length tleN_getE

section
variable {E : Env} {rec : Rec} {fr : Fr} {H : Heap}
@[simp] theorem o_mkm : evO E rec fr H .mkm = some (.map H.length, H ++ [.map []]) := rfl
def lkpR (H : Heap) (ok : Bool) (zero : T) (r : Option (Option (Nat × T))) : Option (V × Heap) := match r with
  | some (some (_, x)) => some (if ok then .tup [.t x, .t (.bool true)] else .t x, H)
  | some none => some (if ok then .tup [.t zero, .t (.bool false)] else .t zero, H)
  | none => none
@[simp] theorem lkpR_s (ok : Bool) (zero : T) (i : Nat) (x : T) : lkpR H ok zero (some (some (i, x))) = some (if ok then .tup [.t x, .t (.bool true)] else .t x, H) := rfl
@[simp] theorem lkpR_n (ok : Bool) (zero : T) : lkpR H ok zero (some none) = some (if ok then .tup [.t zero, .t (.bool false)] else .t zero, H) := rfl
def lkpB (H : Heap) (kk : Nat) (ok : Bool) (zero k : T) (b : Blk) : Option (V × Heap) := match b with
  | .map es => if keyOk kk k = false then none else lkpR H ok zero (findT kk k es 0)
  | _ => none
@[simp] theorem lkpB_m (kk : Nat) (ok : Bool) (zero k : T) (es : List (T × T)) : lkpB H kk ok zero k (.map es) = if keyOk kk k = false then none else lkpR H ok zero (findT kk k es 0) := rfl
def lkpV (H : Heap) (kk : Nat) (ok : Bool) (zero : T) (m k : V) : Option (V × Heap) := match m, k with
  | .map id, .t k => andO H[id]? (lkpB H kk ok zero k)
  | _, _ => none
@[simp] theorem lkpV_m (kk : Nat) (ok : Bool) (zero k : T) (id : Nat) : lkpV H kk ok zero (.map id) (.t k) = andO H[id]? (lkpB H kk ok zero k) := rfl
@[simp] theorem o_lkp (kk : Nat) (ok : Bool) (zero : T) (m k : A) : evO E rec fr H (.lkp kk ok zero m k) = lkpV H kk ok zero (m.ev fr) (k.ev fr) := by
  simp only [evO]
  generalize m.ev fr = v
  generalize k.ev fr = u
  cases v with
  | map id =>
    cases u with
    | t k =>
      simp only [lkpV]
      cases H[id]? with
      | none => rfl
      | some b =>
        cases b with
        | map es =>
          simp only [andO_some, lkpB]
          split
          · rfl
          · cases findT kk k es 0 with
            | none => rfl
            | some r => cases r <;> rfl
        | _ => rfl
    | _ => rfl
  | _ => rfl
def mupR (H : Heap) (id : Nat) (es : List (T × T)) (k x : T) (r : Option (Option (Nat × T))) : Option (V × Heap) := match r with
  | some (some (i, _)) => some (.any, H.set id (.map (es.set i (k, x))))
  | some none => some (.any, H.set id (.map (es ++ [(k, x)])))
  | none => none
@[simp] theorem mupR_s (id : Nat) (es : List (T × T)) (k x : T) (i : Nat) (y : T) : mupR H id es k x (some (some (i, y))) = some (.any, H.set id (.map (es.set i (k, x)))) := rfl
@[simp] theorem mupR_n (id : Nat) (es : List (T × T)) (k x : T) : mupR H id es k x (some none) = some (.any, H.set id (.map (es ++ [(k, x)]))) := rfl
def mupB (H : Heap) (kk id : Nat) (k x : T) (b : Blk) : Option (V × Heap) := match b with
  | .map es => if keyOk kk k = false then none else mupR H id es k x (findT kk k es 0)
  | _ => none
@[simp] theorem mupB_m (kk id : Nat) (k x : T) (es : List (T × T)) : mupB H kk id k x (.map es) = if keyOk kk k = false then none else mupR H id es k x (findT kk k es 0) := rfl
def mupV (H : Heap) (kk : Nat) (m k x : V) : Option (V × Heap) := match m, k, x with
  | .map id, .t k, .t x => andO H[id]? (mupB H kk id k x)
  | _, _, _ => none
@[simp] theorem mupV_m (kk id : Nat) (k x : T) : mupV H kk (.map id) (.t k) (.t x) = andO H[id]? (mupB H kk id k x) := rfl
@[simp] theorem o_mup (kk : Nat) (m k x : A) : evO E rec fr H (.mup kk m k x) = mupV H kk (m.ev fr) (k.ev fr) (x.ev fr) := by
  simp only [evO]
  generalize m.ev fr = v
  generalize k.ev fr = u
  generalize x.ev fr = y
  cases v with
  | map id =>
    cases u with
    | t k =>
      cases y with
      | t x =>
        simp only [mupV]
        cases H[id]? with
        | none => rfl
        | some b =>
          cases b with
          | map es =>
            simp only [andO_some, mupB]
            split
            · rfl
            · cases findT kk k es 0 with
              | none => rfl
              | some r => cases r <;> rfl
          | _ => rfl
      | _ => rfl
    | _ => rfl
  | _ => rfl
@[simp] theorem keyOk_i (k : IntKind) (n : Int) : keyOk 0 (.int k n) = true := rfl
end
theorem findT_int (n : Int) : ∀ (es : List (T × T)) (i : Nat), (∀ p ∈ es, ∃ m, p.1 = .int .i64 m) → findT 0 (.int .i64 n) es i = some none ∨ ∃ j x, findT 0 (.int .i64 n) es i = some (some (j, x)) ∧ (T.int .i64 n, x) ∈ es
  | [], i, _ => .inl rfl
  | (k, x) :: es, i, h => by
    obtain ⟨m, hm⟩ := h (k, x) (List.mem_cons_self ..)
    simp only at hm
    subst hm
    have ih := findT_int n es (i + 1) (fun p hp => h p (List.mem_cons_of_mem _ hp))
    have hk : keyEq 0 (.int .i64 n) (.int .i64 m) = some (n == m) := by simp [keyEq]
    simp only [findT, hk]
    by_cases he : n = m
    · subst he
      exact .inr ⟨i, x, by simp, List.mem_cons_self ..⟩
    · have : (n == m) = false := by simpa using he
      rw [this]
      simp only
      rcases ih with h1 | ⟨j, y, h1, h2⟩
      · exact .inl h1
      · exact .inr ⟨j, y, h1, List.mem_cons_of_mem _ h2⟩
def talN (out : Nat → List Ed) (dist : List Int) : Nat → Nat → Int
  | 0, _ => 1
  | n + 1, s => if dist[s]?.getD 0 = 0 then 1 else (bestE out dist s).foldl (fun acc e => IntKind.i64.wrap (acc + talN out dist n e.1)) 0
theorem r51 (x : T) (a b : Int) (c : Bool) (to co vt : Int) (g : List Int) : ownR env 51 [.agg [ti to, ti co, ti vt, .lst 1 (til g)], ti a, ti b, tb c] = some (.t (ti (IntKind.i64.wrap (a + b))), []) := by
  rw [own_ir e51 _ rfl]
  simp [ir51, ir51_c]
end Go.Proofs.Ytgmcjejelpeioaa.Ev
namespace Go.Proofs.Ytgmcjejelpeioaa.Ev
open Go
set_option linter.unusedVariables false
set_option linter.unusedSimpArgs false
set_option linter.unusedSectionVars false
attribute [local simp] til_getE til_length til_get til_drop til_take til_snoc til_fold take_snoc til_set tin_getE tin_length tin_take tleN_length tleN_getE

theorem best_less {N C D : Nat} {P : Nat → Prop} {out : Nat → List Ed} (hG : OkG N C D P out) (hC : C ≤ 2 ^ 20) {dist : List Int} (hdl : dist.length = N) (hdb : ∀ v : Nat, dist[v]?.getD 0 ≤ 2 ^ 40) {s d : Nat} (hs : P s) (hd : dist[s]?.getD 0 = d) {e : Ed} (he : e ∈ bestE out dist s) : P e.1 ∧ ∃ k : Nat, dist[e.1]?.getD 0 = k ∧ k + e.2.1 = d ∧ 1 ≤ e.2.1 := by
  unfold bestE at he
  rw [List.mem_filter] at he
  obtain ⟨h1, h2⟩ := he
  obtain ⟨h3, h4, h5⟩ := hG.ed s hs e h1
  unfold delB at h2
  simp only [Bool.not_or, Bool.not_not, Bool.and_eq_true, Bool.not_eq_true', decide_eq_false_iff_not, decide_eq_true_eq] at h2
  obtain ⟨h6, h7⟩ := h2
  have h8 := hdb e.1
  have h40 : (2 : Int) ^ 40 = 1099511627776 := by decide
  rw [h40] at h8
  rw [w64 (by omega), hd] at h7
  exact ⟨h3, (dist[e.1]?.getD 0).toNat, by omega, by omega, h4⟩
theorem tal_stable {N C D : Nat} {P : Nat → Prop} {out : Nat → List Ed} (hG : OkG N C D P out) (hC : C ≤ 2 ^ 20) {dist : List Int} (hdl : dist.length = N) (hdb : ∀ v : Nat, dist[v]?.getD 0 ≤ 2 ^ 40) : ∀ (d s n : Nat), P s → dist[s]?.getD 0 = d → d ≤ n → talN out dist n s = talN out dist d s := by
  intro d
  induction d using Nat.strongRecOn with
  | ind d ih =>
    intro s n hs hd hn
    cases d with
    | zero =>
      cases n with
      | zero => rfl
      | succ n => simp only [talN]; rw [if_pos (by rw [hd]; rfl)]
    | succ d =>
      obtain ⟨n, rfl⟩ : ∃ m, n = m + 1 := ⟨n - 1, by omega⟩
      have h0 : ¬ dist[s]?.getD 0 = 0 := by omega
      simp only [talN]
      rw [if_neg h0, if_neg h0]
      have key : ∀ (l : List Ed) (acc : Int), (∀ e ∈ l, e ∈ bestE out dist s) → l.foldl (fun acc e => IntKind.i64.wrap (acc + talN out dist n e.1)) acc = l.foldl (fun acc e => IntKind.i64.wrap (acc + talN out dist d e.1)) acc := by
        intro l
        induction l with
        | nil => intro acc _; rfl
        | cons e l il =>
          intro acc hl
          obtain ⟨h1, k, h2, h3, h4⟩ := best_less hG hC hdl hdb hs hd (hl e (List.mem_cons_self ..))
          simp only [List.foldl_cons]
          rw [ih k (by omega) e.1 n h1 h2 (by omega), ih k (by omega) e.1 d h1 h2 (by omega)]
          exact il _ (fun x hx => hl x (List.mem_cons_of_mem _ hx))
      exact key _ 0 (fun e he => he)
def MapOk (P : Nat → Prop) (out : Nat → List Ed) (dist : List Int) (es : List (T × T)) : Prop := ∀ p ∈ es, ∃ s d : Nat, P s ∧ dist[s]?.getD 0 = d ∧ p = (.int .i64 s, .int .i64 (talN out dist d s))
def TalC (P : Nat → Prop) (out : Nat → List Ed) (dist : List Int) (N f : Nat) (caps : List T) (im s d : Nat) : Prop :=
  ∀ (H : Heap) (es : List (T × T)), H[im]? = some (.map es) → MapOk P out dist es → ∃ H' es', den env 50 [.agg [.t (ti N), .t (.clo f [] caps)], .t (ti s), .t (.lst 1 (til dist)), .map im, .t (.clo 51 [] []), .t (ti 1)] H = some (.t (ti (talN out dist d s)), H') ∧
    H'[im]? = some (.map es') ∧ MapOk P out dist es' ∧ H.length ≤ H'.length ∧ ∀ id, id < H.length → id ≠ im → H'[id]? = H[id]?
theorem w50 {P : Nat → Prop} {out : Nat → List Ed} {dist : List Int} {N f : Nat} {caps : List T} (im s i6 ib n : Nat) (bs : List Ed) (ts : List T) (hts : ts.take bs.length = tleN bs) (hbn : bs.length ≤ 1000000)
    (hcall : ∀ e ∈ bs, ∃ d, TalC P out dist N f caps im e.1 d ∧ talN out dist n e.1 = talN out dist d e.1) : ∀ (m j : Nat) (H : Heap) (es : List (T × T)) (acc : Int), j + m = bs.length → H[im]? = some (.map es) → MapOk P out dist es → H[i6]? = some (.box 2 [.t (ti N), .t (.clo f [] caps)]) → H[ib]? = some (.pure 4 ts) →
    ∃ H' es', loopF env false [1, 2, 3, 4, 5, 6, 15, 35, 36, 37] ir50_b0 ([(1, .t (ti s)), (2, .t (.lst 1 (til dist))), (3, .map im), (4, .t (.clo 51 [] [])), (5, .t (ti 1)), (6, .ptr i6 0 0), (15, .t (ti acc)), (35, .ref ib 0 bs.length), (36, .t (ti bs.length)), (37, .t (ti j))], H) =
      some (.exit 0, [(1, .t (ti s)), (2, .t (.lst 1 (til dist))), (3, .map im), (4, .t (.clo 51 [] [])), (5, .t (ti 1)), (6, .ptr i6 0 0), (15, .t (ti ((bs.drop j).foldl (fun acc e => IntKind.i64.wrap (acc + talN out dist n e.1)) acc))), (35, .ref ib 0 bs.length), (36, .t (ti bs.length)), (37, .t (ti bs.length)), (38, .t (tb false))], H') ∧
      H'[im]? = some (.map es') ∧ MapOk P out dist es' ∧ H.length ≤ H'.length ∧ ∀ id, id < H.length → id ≠ im → H'[id]? = H[id]?
  | 0, j, H, es, acc, hj, him, hmo, h6, hb => by
    rw [x50_0]
    have : j = bs.length := by omega
    subst this
    refine ⟨H, es, ?_, him, hmo, Nat.le_refl _, fun _ _ _ => rfl⟩
    simp [ir50_d0]
  | m + 1, j, H, es, acc, hj, him, hmo, h6, hb => by
    rw [x50_0]
    have hlt : j < bs.length := by omega
    have hw : IntKind.i64.wrap ((j : Int) + 1) = (j : Int) + 1 := w64 (by omega)
    obtain ⟨d, hC, htd⟩ := hcall bs[j] (List.getElem_mem hlt)
    have htl : j < ts.length := by
      have := congrArg List.length hts
      simp at this; omega
    have htj : ts[j] = .agg [.int .i64 bs[j].1, .int .i64 bs[j].2.1, .int .i64 bs[j].2.2.1, .lst 1 (til bs[j].2.2.2)] := by
      have := congrArg (fun l => l[j]?) hts
      simp [hlt, htl, List.getElem?_take] at this
      simpa [tleN, hlt] using this
    obtain ⟨H2, es2, c1, c2, c3, c4, c5⟩ := hC (H ++ [.box 4 [.t (.int .i64 bs[j].1), .t (.int .i64 bs[j].2.1), .t (.int .i64 bs[j].2.2.1), .t (.lst 1 (til bs[j].2.2.2))]]) es (get_app2 him) hmo
    have himl := (List.getElem?_eq_some_iff.1 him).1
    have h6l := (List.getElem?_eq_some_iff.1 h6).1
    have hbl := (List.getElem?_eq_some_iff.1 hb).1
    have n6 : i6 ≠ im := fun e => by rw [e, him] at h6; cases h6
    have nb : ib ≠ im := fun e => by rw [e, him] at hb; cases hb
    have k6 : H2[i6]? = some (.box 2 [.t (ti N), .t (.clo f [] caps)]) := (c5 i6 (by simp; omega) n6).trans (get_app2 h6)
    have kb : H2[ib]? = some (.pure 4 ts) := (c5 ib (by simp; omega) nb).trans (get_app2 hb)
    have kl : H2[H.length]? = some (.box 4 [.t (.int .i64 bs[j].1), .t (.int .i64 bs[j].2.1), .t (.int .i64 bs[j].2.2.1), .t (.lst 1 (til bs[j].2.2.2))]) := (c5 H.length (by simp) (by omega)).trans (by simp)
    obtain ⟨H', es', g1, g2, g3, g4, g5⟩ := w50 im s i6 ib n bs ts hts hbn hcall m (j + 1) H2 es2 (IntKind.i64.wrap (acc + talN out dist n bs[j].1)) (by omega) c2 c3 k6 kb
    have hs : (bs.drop j).foldl (fun acc e => IntKind.i64.wrap (acc + talN out dist n e.1)) acc = (bs.drop (j + 1)).foldl (fun acc e => IntKind.i64.wrap (acc + talN out dist n e.1)) (IntKind.i64.wrap (acc + talN out dist n bs[j].1)) := by rw [List.drop_eq_getElem_cons hlt]; rfl
    simp only [List.length_append, List.length_singleton] at c4 c5
    refine ⟨H', es', ?_, g2, g3, by omega, fun id hid hne => (g5 id (by omega) hne).trans ((c5 id (by omega) hne).trans (get_app hid))⟩
    rw [hs]
    generalize (bs.drop (j + 1)).foldl (fun acc e => IntKind.i64.wrap (acc + talN out dist n e.1)) (IntKind.i64.wrap (acc + talN out dist n bs[j].1)) = Z at *
    rw [← htd] at c1
    have h51 := fun c => r51 .nil acc (talN out dist n bs[j].1) c bs[j].1 bs[j].2.1 bs[j].2.2.1 bs[j].2.2.2
    generalize talN out dist n bs[j].1 = tv at *
    have h6X : ∀ X, (H ++ X)[i6]? = some (.box 2 [.t (ti N), .t (.clo f [] caps)]) := fun X => get_app2 h6
    simp at g1 c1
    by_cases hj0 : j = 0
    · subst hj0
      simp at g1
      simp [ir50_d0, hlt, htl, hb, htj, h6X, c1, h51, k6, kl, g1, hw, show IntKind.i64.wrap 1 = 1 from w64 (by omega)]
    · simp [ir50_d0, hlt, htl, hb, htj, h6X, c1, h51, k6, kl, g1, hw, hj0]
theorem d50 {f : FuncId} {caps : List T} {N C D : Nat} {P : Nat → Prop} {out : Nat → List Ed} (hG : OkG N C D P out) (hC : C ≤ 2 ^ 20) (hD : D ≤ 1000000)
    (hcall : ∀ s, P s → ∀ H, evCall env (den env) f (.t (ti s) :: caps.map .t) H = some (.ref H.length 0 (out s).length, H ++ [.pure 4 (tleN (out s))])) {dist : List Int} (hdl : dist.length = N) (hdb : ∀ v : Nat, dist[v]?.getD 0 ≤ 2 ^ 40) (im : Nat) :
    ∀ (d s : Nat), P s → dist[s]?.getD 0 = d → TalC P out dist N f caps im s d := by
  intro d
  induction d using Nat.strongRecOn with
  | ind d ih =>
    intro s hs hd H es him hmo
    have hsN := hG.lt s hs
    have hsl : s < dist.length := by omega
    have hds : dist[s] = d := by simpa [hsl] using hd
    rw [den_ir e50 _ _ rfl (.inl rfl)]
    have himX : ∀ X, (H ++ X)[im]? = some (.map es) := fun X => get_app2 him
    have himl := (List.getElem?_eq_some_iff.1 him).1
    cases d with
    | zero =>
      refine ⟨H ++ [.box 2 [.t (ti N), .t (.clo f [] caps)]], es, ?_, himX _, hmo, by simp, fun id hid _ => get_app hid⟩
      have hds0 : dist[s] = 0 := hds
      simp [ir50, ir50_c, hsl, hds0, talN]
    | succ d =>
      have hds0 : ¬ (dist[s] = 0) := by omega
      have hds0' : ¬ ((d : Int) + 1 = 0) := by omega
      have hds' : dist[s] = (d : Int) + 1 := by omega
      rcases findT_int s es 0 (fun p hp => by obtain ⟨s', d', _, _, rfl⟩ := hmo p hp; exact ⟨_, rfl⟩) with hf | ⟨i, x, hf, hx⟩
      · obtain ⟨ts, h55, hts⟩ := r55 hG hD hcall dist hdl s hs
        have hbn : (bestE out dist s).length ≤ 1000000 := by
          have h1 : (bestE out dist s).length ≤ (out s).length := List.length_filter_le _ _
          have := hG.deg s hs
          omega
        obtain ⟨H2, es2, g1, g2, g3, g4, g5⟩ := w50 (P := P) (out := out) (dist := dist) (N := N) (f := f) (caps := caps) im s H.length (H.length + 1) d (bestE out dist s) ts hts hbn (fun e he => by
            obtain ⟨p1, k, p2, p3, p4⟩ := best_less hG hC hdl hdb hs hd he
            exact ⟨k, ih k (by omega) e.1 p1 p2, tal_stable hG hC hdl hdb k e.1 d p1 p2 (by omega)⟩) (bestE out dist s).length 0 (H ++ [.box 2 [.t (ti N), .t (.clo f [] caps)], .pure 4 ts]) es 0 (by omega) (himX _) hmo (by simp) (by simp)
        rw [List.drop_zero] at g1
        have ht : talN out dist (d + 1) s = (bestE out dist s).foldl (fun acc e => IntKind.i64.wrap (acc + talN out dist d e.1)) 0 := by
          simp only [talN]; rw [if_neg (by rw [hd]; omega)]
        rw [← ht] at g1
        have hds2 : dist[s]?.getD 0 = ((d + 1 : Nat) : Int) := hd
        have hm2 : ∀ es3, (es3 = es2 ++ [(.int .i64 s, .int .i64 (talN out dist (d + 1) s))] ∨ ∃ i, es3 = es2.set i (.int .i64 s, .int .i64 (talN out dist (d + 1) s))) → MapOk P out dist es3 := by
          rintro es3 (rfl | ⟨i, rfl⟩) p hp
          · rcases List.mem_append.1 hp with hp | hp
            · exact g3 p hp
            · exact ⟨s, d + 1, hs, hds2, List.mem_singleton.1 hp⟩
          · rcases List.mem_or_eq_of_mem_set hp with hp | hp
            · exact g3 p hp
            · exact ⟨s, d + 1, hs, hds2, hp⟩
        generalize talN out dist (d + 1) s = R at *
        simp only [List.length_append, List.length_cons, List.length_nil] at g4
        have him2 : im < H2.length := by omega
        have hfr : ∀ b id, id < H.length → id ≠ im → (H2.set im b)[id]? = H[id]? := fun b id hid hne => by
          rw [List.getElem?_set_ne (Ne.symm hne), g5 id (by simp; omega) hne, get_app hid]
        simp at g1
        rcases findT_int s es2 0 (fun p hp => by obtain ⟨s', d', _, _, rfl⟩ := g3 p hp; exact ⟨_, rfl⟩) with hf2 | ⟨i2, x2, hf2, hx2⟩
        · refine ⟨H2.set im (.map (es2 ++ [(.int .i64 s, .int .i64 R)])), _, ?_, List.getElem?_set_self him2, hm2 _ (.inl rfl), by simp; omega, hfr _⟩
          simp [ir50, ir50_c, hsl, hds', hds0', himX, hf, h55, g1, g2, hf2]
        · refine ⟨H2.set im (.map (es2.set i2 (.int .i64 s, .int .i64 R))), _, ?_, List.getElem?_set_self him2, hm2 _ (.inr ⟨_, rfl⟩), by simp; omega, hfr _⟩
          simp [ir50, ir50_c, hsl, hds', hds0', himX, hf, h55, g1, g2, hf2]
      · obtain ⟨s', d', h1, h2, h3⟩ := hmo _ hx
        have e1 : (s : Int) = s' := by injection congrArg Prod.fst h3
        have e2 : s = s' := by omega
        subst e2
        have e3 : d' = d + 1 := by omega
        subst e3
        have e4 : x = .int .i64 (talN out dist (d + 1) s) := congrArg Prod.snd h3
        subst e4
        refine ⟨H ++ [.box 2 [.t (ti N), .t (.clo f [] caps)]], es, ?_, himX _, hmo, by simp, fun id hid _ => get_app hid⟩
        generalize talN out dist (d + 1) s = R at *
        simp [ir50, ir50_c, hsl, hds', hds0', himX, hf]
theorem r30 {f : FuncId} {caps : List T} {N C D : Nat} {P : Nat → Prop} {out : Nat → List Ed} (hG : OkG N C D P out) (hC : C ≤ 2 ^ 20) (hD : D ≤ 1000000)
    (hcall : ∀ s, P s → ∀ H, evCall env (den env) f (.t (ti s) :: caps.map .t) H = some (.ref H.length 0 (out s).length, H ++ [.pure 4 (tleN (out s))])) {dist : List Int} (hdl : dist.length = N) (hdb : ∀ v : Nat, dist[v]?.getD 0 ≤ 2 ^ 40) (d s : Nat) (hs : P s) (hd : dist[s]?.getD 0 = d) :
    ownR env 30 [.agg [ti N, .clo f [] caps], ti s, .lst 1 (til dist)] = some (.t (ti (talN out dist d s)), []) := by
  rw [own_ir e30 _ rfl]
  obtain ⟨H', es', h1, _⟩ := d50 hG hC hD hcall hdl hdb 1 d s hs hd [.box 2 [.t (ti N), .t (.clo f [] caps)], .map []] [] rfl (fun p hp => by cases hp)
  simp [ir30, ir30_c, h1]
end Go.Proofs.Ytgmcjejelpeioaa.Ev
namespace Go.Proofs.Ytgmcjejelpeioaa.Ev
open Go
set_option linter.unusedVariables false
set_option linter.unusedSimpArgs false
set_option linter.unusedSectionVars false
attribute [local simp] til_getE til_length til_get til_drop til_take til_snoc til_fold take_snoc til_set tin_getE tin_length tin_take tleN_length tleN_getE

theorem wrap_l (a b : Int) : IntKind.i64.wrap (IntKind.i64.wrap a + b) = IntKind.i64.wrap (a + b) := by
  simp only [IntKind.wrap_i64]; omega
theorem wrap_r (a b : Int) : IntKind.i64.wrap (a + IntKind.i64.wrap b) = IntKind.i64.wrap (a + b) := by
  simp only [IntKind.wrap_i64]; omega
theorem fold_wrap {α : Type} (keep : α → Bool) (f g : α → Int) : ∀ (l : List α) (acc : Int), (∀ e ∈ l, keep e = true → f e = IntKind.i64.wrap (g e)) → (∀ e ∈ l, keep e = false → g e = 0) →
    (l.filter keep).foldl (fun acc e => IntKind.i64.wrap (acc + f e)) (IntKind.i64.wrap acc) = IntKind.i64.wrap (acc + sumL g l)
  | [], acc, _, _ => by simp [sumL]
  | e :: l, acc, h1, h2 => by
    cases hk : keep e with
    | true =>
      rw [List.filter_cons, if_pos hk, List.foldl_cons, h1 e (List.mem_cons_self ..) hk, wrap_add, fold_wrap keep f g l (acc + g e) (fun x hx => h1 x (List.mem_cons_of_mem _ hx)) (fun x hx => h2 x (List.mem_cons_of_mem _ hx)), sumL]
      congr 1; omega
    | false =>
      rw [List.filter_cons, if_neg (by simp [hk]), fold_wrap keep f g l acc (fun x hx => h1 x (List.mem_cons_of_mem _ hx)) (fun x hx => h2 x (List.mem_cons_of_mem _ hx)), sumL, h2 e (List.mem_cons_self ..) hk]
      congr 1; omega
theorem sumL_map {X Y : Type} (f : Y → X) (g : X → Int) : ∀ (l : List Y), sumL g (l.map f) = sumL (fun y => g (f y)) l
  | [] => rfl
  | y :: l => by simp only [List.map_cons, sumL, sumL_map f g l]
theorem count_flat2 {X Y : Type} [DecidableEq X] (f : Y → List X) (x : X) : ∀ (l : List Y), ((l.flatMap f).count x : Int) = sumL (fun z => ((f z).count x : Int)) l
  | [] => by simp [sumL]
  | z :: l => by rw [List.flatMap_cons, List.count_append, sumL, ← count_flat2 f x l]; omega
theorem walksN_zero {X : Type} [DecidableEq X] {sc : X → List X} {d : Nat} {s y : X} (h : y ∉ ends sc d s) : walksN sc d s y = 0 := by
  unfold walksN; rw [List.count_eq_zero_of_not_mem h]; rfl
theorem walksN_left {X : Type} [DecidableEq X] (sc : X → List X) (d : Nat) (s y : X) : walksN sc (d + 1) s y = sumL (fun z => walksN sc d z y) (sc s) := by
  unfold walksN
  rw [ends_left, count_flat2]
theorem tal_walks (a : Nat) (b c : Int) (hgd : good a b c = true) {r : List Int} (hr : CostsP a b c r) : ∀ (d : Nat) (x : List Int × Int), okC a c x → r[cdE 4 x]?.getD 0 = d → talN (out4 a b c) r d (cdE 4 x) = IntKind.i64.wrap (walksN (succs a b c) d x (allAt a (c + 1).toNat)) := by
  have hgo := good_of hgd
  have hol := allAt_ok a (by omega) c (c + 1).toNat (by omega)
  intro d
  induction d with
  | zero =>
    intro x hx hd
    rcases hr.far x hx with ⟨h1, _⟩ | ⟨k, h1, h2⟩
    · omega
    · have : k = 0 := by omega
      subst this
      have hxl : x = allAt a (c + 1).toNat := by simpa [ends] using h2.1
      rw [hxl]
      simp [talN, walksN, ends]
      rfl
  | succ d ih =>
    intro x hx hd
    have hsx := fun y => succs_ok (y := y) hgd hx.1
    have hout : out4 a b c (cdE 4 x) = (voysAll a b c x).map fun v => (cdE 4 (setAll v.1 v.2 x.1, v.1), 1, v.1, v.2) := by
      unfold out4; rw [plc_cd (by omega) (by omega) hx.1]
    have hdx : Dist (succs a b c) (allAt a (c + 1).toNat) (d + 1) x := by
      rcases hr.far x hx with ⟨h1, _⟩ | ⟨k, h1, h2⟩
      · omega
      · have : k = d + 1 := by omega
        subst this; exact h2
    simp only [talN]
    rw [if_neg (by rw [hd]; omega), walksN_left]
    unfold bestE
    rw [hout]
    have hsum : sumL (fun z => walksN (succs a b c) d z (allAt a (c + 1).toNat)) (succs a b c x) = sumL (fun v : Int × List Int => walksN (succs a b c) d (setAll v.1 v.2 x.1, v.1) (allAt a (c + 1).toNat)) (voysAll a b c x) := by
      unfold succs; rw [sumL_map]
    rw [hsum, List.filter_map, List.foldl_map]
    have hw0 : (0 : Int) = IntKind.i64.wrap 0 := by rw [w64 (by omega)]
    have hfin := fold_wrap (fun v : Int × List Int => !delB r (cdE 4 x) (cdE 4 (setAll v.1 v.2 x.1, v.1), 1, v.1, v.2)) (fun v => talN (out4 a b c) r d (cdE 4 (setAll v.1 v.2 x.1, v.1))) (fun v => walksN (succs a b c) d (setAll v.1 v.2 x.1, v.1) (allAt a (c + 1).toNat)) (voysAll a b c x) 0 (fun v hv hk => ?_) (fun v hv hk => ?_)
    · rw [← hw0, Int.zero_add] at hfin
      exact hfin
    · -- on a least way
      have hy : (setAll v.1 v.2 x.1, v.1) ∈ succs a b c x := List.mem_map.2 ⟨v, hv, rfl⟩
      have hyc := hsx _ hy
      refine ih _ hyc ?_
      unfold delB at hk
      simp only [Bool.not_or, Bool.not_not, Bool.and_eq_true, Bool.not_eq_true', decide_eq_false_iff_not, decide_eq_true_eq, hd] at hk
      obtain ⟨h1, h2⟩ := hk
      rcases hr.far _ hyc with ⟨h3, _⟩ | ⟨k, h3, h4⟩
      · omega
      · rw [h3] at h2 ⊢
        have hkb : k ≤ d + 2 := by
          have h5 := ends_step hdx.1 hy
          rcases Nat.lt_or_ge (d + 2) k with h6 | h6
          · exact absurd h5 (h4.2 (d + 1 + 1) (by omega))
          · exact h6
        have hdb : (d : Int) + 1 < 2 ^ 62 := by
          have h10 := dist_lt (bfsOk a b c hgd) hol.1 hdx
          have h11 := pow_le (c + 2).toNat (2 * a + 1) (by omega) (by omega)
          omega
        rw [w64 (by omega)] at h2
        omega
    · -- off all least ways
      have hy : (setAll v.1 v.2 x.1, v.1) ∈ succs a b c x := List.mem_map.2 ⟨v, hv, rfl⟩
      have hyc := hsx _ hy
      refine walksN_zero fun hm => ?_
      · skip
        have h1 := ends_symm hgd d _ _ hyc hm
        obtain ⟨k, h2, h3⟩ := dist_of h1
        have h4 := ends_step h3.1 (succs_symm hgd hx hy)
        have h5 : d = k := by
          rcases Nat.lt_or_ge k d with h6 | h6
          · exact absurd h4 (hdx.2 (k + 1) (by omega))
          · omega
        subst h5
        unfold delB at hk
        have h7 : r[cdE 4 (setAll v.1 v.2 x.1, v.1)]?.getD 0 = d := by
          rcases hr.far _ hyc with ⟨_, h8⟩ | ⟨k, h8, h9⟩
          · exact absurd h1 (h8 d)
          · have := h9.uniq h3
            rw [h8, this]
        rw [h7, hd] at hk
        have hdb : (d : Int) + 1 < 2 ^ 62 := by
          have h10 := dist_lt (bfsOk a b c hgd) hol.1 hdx
          have h11 := pow_le (c + 2).toNat (2 * a + 1) (by omega) (by omega)
          omega
        have hw : IntKind.i64.wrap ((d : Int) + ((1 : Nat) : Int)) = ((d + 1 : Nat) : Int) := by rw [w64 (by omega)]; omega
        rw [hw] at hk
        simp at hk
        omega
end Go.Proofs.Ytgmcjejelpeioaa.Ev
namespace Go.Proofs.Ytgmcjejelpeioaa.Ev
open Go
set_option linter.unusedVariables false
set_option linter.unusedSimpArgs false
set_option linter.unusedSectionVars false
attribute [local simp] til_getE til_length til_get til_drop til_take til_snoc til_fold take_snoc til_set
theorem r15_bad (a b c : Int) (h : good a b c = false) : ownR env 15 [.agg [ti a, ti b, ti c]] = some (.tup [.t (ti 0), .t (tb false)], []) := by
  rw [own_ir e15 _ rfl]
  simp [ir15, ir15_c, h]
theorem r16_bad (a b c : Int) (h : good a b c = false) : ownR env 16 [.agg [ti a, ti b, ti c]] = some (.tup [.t (ti 0), .t (tb false)], []) := by
  rw [own_ir e16 _ rfl]
  simp [ir16, ir16_c, h]
theorem law_count (a : Nat) (b c : Int) (hgd : good a b c = true) : ∃ n : Int, ownR env 15 [.agg [ti a, ti b, ti c]] = some (.tup [.t (ti n), .t (tb true)], []) ∧ ownR env 16 [.agg [ti a, ti b, ti c]] = some (.tup [.t (ti n), .t (tb true)], []) := by
  have hgo := good_of hgd
  obtain ⟨D, W, r, h1, h2, h3, h4, h5⟩ := fewest a b c hgd
  have hc0 : okC a c (all0 a) := by rw [all0_At]; exact allAt_ok a (by omega) c 0 (by omega)
  refine ⟨if D < 0 then 0 else W, ?_, ?_⟩
  · rw [own_ir e15 _ rfl]
    by_cases hD : D < 0 <;> simp [ir15, ir15_c, hgd, h4, hD]
  · rw [own_ir e16 _ rfl]
    by_cases hD : D < 0
    · simp [ir16, ir16_c, hgd, h5, hD, show ¬ (0 ≤ D) by omega]
    · rcases h1 with ⟨g1, _⟩ | ⟨d, g1, g2, g3⟩
      · omega
      · have hd0 : r[cdE 4 (all0 a)]?.getD 0 = (d : Int) := by rw [all0_cd, h3, g1]
        have ht := tal_walks a b c hgd h2 d (all0 a) hc0 hd0
        rw [← g3] at ht
        have h30 := r30 (okG4 a b c hgd) (by omega) (by omega) (call41 a b c hgd) h2.len h2.le d (cdE 4 (all0 a)) ⟨_, hc0.1, rfl⟩ hd0
        rw [ht, all0_cd] at h30
        have hlen := h2.len
        clear h2
        generalize 4 ^ (2 * a + 1) = N at *
        have htk : r.take N = r := List.take_of_length_le (by omega)
        simp at h30
        simp [ir16, ir16_c, hgd, h5, hD, show 0 ≤ D by omega, htk, h30]
theorem r6 (a b c : Int) : ownR env 6 [.agg [ti a, ti b, ti c]] = some (.t (tb true), []) := by
  rw [own_ir e6 _ rfl]
  have h9 := r9 a b c
  by_cases hgd : good a b c = true
  · have hgo := good_of hgd
    obtain ⟨k, rfl⟩ : ∃ k : Nat, a = k := ⟨a.toNat, by omega⟩
    obtain ⟨n, h1, h2⟩ := law_count k b c hgd
    simp [ir6, ir6_c, h9, h1, h2]
  · have hgd : good a b c = false := by simpa using hgd
    simp [ir6, ir6_c, h9, r15_bad a b c hgd, r16_bad a b c hgd]
end Go.Proofs.Ytgmcjejelpeioaa.Ev
