/- The evaluator and what it gives of the functions, part 3. No conditions of ours: a law's row is in YtdgfpjlmpnfcgaaLFnVoyagesSail. -/
import Derived.Test.YtdgfpjlmpnfcgaaE2
namespace Go.Proofs.Ytdgfpjlmpnfcgaa.Ev
open Go
set_option linter.unusedVariables false
set_option linter.unusedSimpArgs false
attribute [local simp] til_getE til_length til_get til_drop til_take til_snoc til_fold take_snoc til_set
structure Ext (W W' : Nat → Prop) (H H' : Heap) : Prop where
  len : H.length ≤ H'.length
  own : ∀ id, W' id → W id ∨ H.length ≤ id
  keep : ∀ id, id < H.length → ¬ W id → H'[id]? = H[id]?
theorem Ext.trans {W W' W'' : Nat → Prop} {H H' H'' : Heap} (h : Ext W W' H H') (h' : Ext W' W'' H' H'') : Ext W W'' H H'' := by
  refine ⟨Nat.le_trans h.len h'.len, fun id hid => ?_, fun id hid hn => ?_⟩
  · rcases h'.own id hid with h1 | h1
    · exact h.own id h1
    · exact .inr (Nat.le_trans h.len h1)
  · rw [h'.keep id (Nat.lt_of_lt_of_le hid h.len) (fun hw => by
      rcases h.own id hw with h1 | h1
      · exact hn h1
      · omega)]
    exact h.keep id hid hn
theorem Ext.app {W : Nat → Prop} {H : Heap} (X : Heap) : Ext W W H (H ++ X) := ⟨by simp, fun id h => .inl h, fun id hid _ => get_app hid⟩
theorem Ext.get {W W' : Nat → Prop} {H H' : Heap} (h : Ext W W' H H') {id : Nat} {b : Blk} (hb : H[id]? = some b) (hn : ¬ W id) : H'[id]? = some b := by
  rw [h.keep id (List.getElem?_eq_some_iff.1 hb).1 hn]; exact hb
theorem Ext.not {W W' : Nat → Prop} {H H' : Heap} (h : Ext W W' H H') {id : Nat} (hid : id < H.length) (hn : ¬ W id) : ¬ W' id := fun hw => by
  rcases h.own id hw with h1 | h1
  · exact hn h1
  · omega
@[simp] theorem set_app0 {α : Type} (H : List α) (a b : α) (X : List α) : (H ++ a :: X).set H.length b = H ++ b :: X := by simp
@[simp] theorem set_app1 {α : Type} (H : List α) (a a1 b : α) (X : List α) : (H ++ a :: a1 :: X).set (H.length + 1) b = H ++ a :: b :: X := by simp
@[simp] theorem set_app2 {α : Type} (H : List α) (a a1 a2 b : α) (X : List α) : (H ++ a :: a1 :: a2 :: X).set (H.length + 2) b = H ++ a :: a1 :: b :: X := by simp
def Ends (r : Option Out) (e : Ex) (H : Heap) : Prop := ∃ fr, r = some (e, fr, H)
@[simp] theorem ends_some (e e' : Ex) (fr : Fr) (H H' : Heap) : Ends (some (e, fr, H)) e' H' ↔ e = e' ∧ H = H' := by
  constructor
  · rintro ⟨_, h⟩; cases h; exact ⟨rfl, rfl⟩
  · rintro ⟨rfl, rfl⟩; exact ⟨_, rfl⟩
structure GB (H : Heap) (ip im ie io : Nat) (people : List Int) (most : Int) (f : FuncId) (ps : List V) : Prop where
  p : H[ip]? = some (.box 1 [.t (tl people)])
  m : H[im]? = some (.box 1 [.t (ti most)])
  e : H[ie]? = some (.box 1 [.clo f [] ps])
  o : H[io]? = some (.box 1 [.clo 81 [] [.ptr ip 0 0, .ptr im 0 0, .ptr ie 0 0, .ptr io 0 0]])
theorem GB.ext {H H' : Heap} {ip im ie io : Nat} {people : List Int} {most : Int} {f : FuncId} {ps : List V} (h : GB H ip im ie io people most f ps) {W W' : Nat → Prop} (he : Ext W W' H H') (h1 : ¬ W ip) (h2 : ¬ W im) (h3 : ¬ W ie) (h4 : ¬ W io) : GB H' ip im ie io people most f ps :=
  ⟨he.get h.p h1, he.get h.m h2, he.get h.e h3, he.get h.o h4⟩

section
variable {f : FuncId} {ps : List V} {Inv : List (List Int) → (Nat → Prop) → Heap → Prop} {ok : List Int → Prop} {M : Nat} (hs : Steps f ps Inv ok M) (ip im ie io : Nat) (people : List Int) (most : Int)
def Stp (r : Option (V × Heap)) (gs new : List (List Int)) (W : Nat → Prop) (H : Heap) : Prop := ∃ v H' W', r = some (v, H') ∧ Inv (gs ++ new) W' H' ∧ Ext W W' H H'
include hs in
theorem l81 (hpl : people.length ≤ 20) (hm : most ≤ 100) (l : List Int) (B : T) (hB : B = .nil ∧ l = [] ∨ B = tl l) (hl : (l.length : Int) ≤ 1000) (i0 : Nat)
    (hok : ∀ g ∈ grps most (people.drop i0) l, ok g)
    (ih : (l.length : Int) < most → ∀ (j : Nat), i0 ≤ j → (hj : j < people.length) → (∀ g ∈ grps most (people.drop (j + 1)) (l ++ [people[j]]), ok g) → ∀ gs W H, gs.length + (grps most (people.drop (j + 1)) (l ++ [people[j]])).length ≤ M → GB H ip im ie io people most f ps → ¬ W ip → ¬ W im → ¬ W ie → ¬ W io → Inv gs W H →
      Stp (Inv := Inv) (den env 81 [.t (ti ((j : Int) + 1)), .t (tl (l ++ [people[j]])), .ptr ip 0 0, .ptr im 0 0, .ptr ie 0 0, .ptr io 0 0] H) gs (grps most (people.drop (j + 1)) (l ++ [people[j]])) W H) :
    ∀ (d j : Nat) gs W H, j + d = people.length → i0 ≤ j → (∀ g ∈ grps most (people.drop j) l, ok g) → gs.length + (grps most (people.drop j) l).length ≤ M → GB H ip im ie io people most f ps → ¬ W ip → ¬ W im → ¬ W ie → ¬ W io → Inv gs W H →
    ∃ H' W', Ends (loopF env false [1, 2, 3, 4, 5, 8] ir81_b0 ([(1, .t B), (2, .ptr ip 0 0), (3, .ptr im 0 0), (4, .ptr ie 0 0), (5, .ptr io 0 0), (8, .t (ti j))], H)) (.exit 0) H' ∧ Inv (gs ++ grps most (people.drop j) l) W' H' ∧ Ext W W' H H'
  | 0, j, gs, W, H, hj, hi0, hok2, hM, hG, h1, h2, h3, h4, hI => by
    have : j = people.length := by omega
    subst this
    rw [x81_0]
    refine ⟨H, W, ?_, by simpa [grps] using hI, by simpa using Ext.app (W := W) (H := H) []⟩
    simp [ir81_d0, hG.p, hG.m]
  | d + 1, j, gs, W, H, hj, hi0, hok2, hM, hG, h1, h2, h3, h4, hI => by
    rw [x81_0]
    have hlt : j < people.length := by omega
    have hlen := fun H => lenB H B l hB
    by_cases hlm : (l.length : Int) < most
    · have hw : IntKind.i64.wrap ((j : Int) + 1) = (j : Int) + 1 := w76 (by omega)
      have hcl := cloneB B l hB (by omega)
      have hg : grps most (people.drop j) l = (l ++ [people[j]]) :: (grps most (people.drop (j + 1)) (l ++ [people[j]]) ++ grps most (people.drop (j + 1)) l) := by
        rw [List.drop_eq_getElem_cons hlt]; simp [grps, hlm]
      rw [hg] at hok2 hM ⊢
      simp only [List.length_cons, List.length_append] at hM
      have hsm := hs.small gs W H hI
      have hI1 : Inv gs W (H ++ [.dead, .pure 1 [.int .i64 people[j]], .froz 1 (til (l ++ [people[j]]))]) := hs.stable gs W H _ hI (by simp) (fun id hid => get_app (hsm id hid))
      obtain ⟨v, H2, W2, hc, hlen2, hI2, ho2, hk2⟩ := hs.step gs W _ _ (by omega) (hok2 _ (List.mem_cons_self ..)) hI1
      have hE1 : Ext W W H (H ++ [.dead, .pure 1 [.int .i64 people[j]], .froz 1 (til (l ++ [people[j]]))]) := Ext.app _
      have hE2 : Ext W W2 (H ++ [.dead, .pure 1 [.int .i64 people[j]], .froz 1 (til (l ++ [people[j]]))]) H2 := ⟨hlen2, ho2, hk2⟩
      have hE := hE1.trans hE2
      have hz : H2[H.length + 2]? = some (.froz 1 (til (l ++ [people[j]]))) := hE2.get (by simp) (fun hw => by have := hsm _ hw; omega)
      have hG2 := hG.ext hE h1 h2 h3 h4
      have hip := (List.getElem?_eq_some_iff.1 hG.p).1
      have him := (List.getElem?_eq_some_iff.1 hG.m).1
      have hie := (List.getElem?_eq_some_iff.1 hG.e).1
      have hio := (List.getElem?_eq_some_iff.1 hG.o).1
      obtain ⟨v3, H3, W3, hc3, hI3, hE3⟩ := ih hlm j hi0 hlt (fun g hg => hok2 g (List.mem_cons_of_mem _ (List.mem_append_left _ hg))) _ W2 H2 (by simp only [List.length_append, List.length_singleton]; omega) hG2 (hE.not hip h1) (hE.not him h2) (hE.not hie h3) (hE.not hio h4) hI2
      have hE4 := hE.trans hE3
      have hG3 := hG.ext hE4 h1 h2 h3 h4
      obtain ⟨H4, W4, ⟨fr', hc4⟩, hI4, hE5⟩ := l81 hpl hm l B hB hl i0 hok ih d (j + 1) _ W3 H3 (by omega) (by omega) (fun g hg => hok2 g (List.mem_cons_of_mem _ (List.mem_append_right _ hg))) (by simp only [List.length_append, List.length_singleton]; omega) hG3 (hE4.not hip h1) (hE4.not him h2) (hE4.not hie h3) (hE4.not hio h4) hI3
      refine ⟨H4, W4, ?_, by simpa using hI4, hE4.trans hE5⟩
      have gp := get_app2 (X := [.dead, .pure 1 [.int .i64 people[j]]]) hG.p
      have hpX : ∀ X, (H ++ X)[ip]? = some (.box 1 [.t (tl people)]) := fun X => get_app2 hG.p
      have heX : ∀ X, (H ++ X)[ie]? = some (.box 1 [.clo f [] ps]) := fun X => get_app2 hG.e
      simp at hc hc3 hc4 hz
      simp [ir81_d0, show l.length ≤ 68719476735 by omega, hG.p, hG.m, hlt, hlen, hlm, hcl, hpX, heX, hw, hs.call, hs.ra, hc, hz, hG2.o, hc3, hc4]
    · have hg : grps most (people.drop j) l = [] := grps_full _ _ _ hlm
      rw [hg]
      refine ⟨H, W, ?_, by simpa using hI, by simpa using Ext.app (W := W) (H := H) []⟩
      simp [ir81_d0, hG.p, hG.m, hlt, hlen, hlm]
include hs in
theorem d81 (hpl : people.length ≤ 20) (hm : most ≤ 100) : ∀ (d i : Nat) (l : List Int) (B : T), i + d = people.length → (B = .nil ∧ l = [] ∨ B = tl l) → (l.length : Int) ≤ 1000 - d → (∀ g ∈ grps most (people.drop i) l, ok g) → ∀ gs W H, gs.length + (grps most (people.drop i) l).length ≤ M → GB H ip im ie io people most f ps → ¬ W ip → ¬ W im → ¬ W ie → ¬ W io → Inv gs W H →
    Stp (Inv := Inv) (den env 81 [.t (ti i), .t B, .ptr ip 0 0, .ptr im 0 0, .ptr ie 0 0, .ptr io 0 0] H) gs (grps most (people.drop i) l) W H := by
  intro d
  induction d using Nat.strongRecOn with
  | ind d ih =>
    intro i l B hi hB hl hok gs W H hM hG h1 h2 h3 h4 hI
    obtain ⟨H', W', ⟨fr, hr⟩, hI', hE⟩ := l81 hs ip im ie io people most hpl hm l B hB (by omega) i hok (fun hlm j hij hj hok' gs W H hM hG h1 h2 h3 h4 hI => by
      have := ih (people.length - (j + 1)) (by omega) (j + 1) (l ++ [people[j]]) (tl (l ++ [people[j]])) (by omega) (.inr rfl) (by rw [List.length_append, List.length_singleton]; omega) hok' gs W H hM hG h1 h2 h3 h4 hI
      rw [Int.natCast_add, Int.natCast_one] at this
      exact this) d i gs W H hi (Nat.le_refl _) hok hM hG h1 h2 h3 h4 hI
    refine ⟨.tup [], H', W', ?_, hI', hE⟩
    rw [den_ir e81 _ _ rfl (.inl rfl)]
    simp [ir81, ir81_c, hr]
theorem d58 {f : FuncId} {caps : List V} (people : List Int) (most : Int) (hs : Steps f caps Inv ok M) (hpl : people.length ≤ 20) (hm : most ≤ 100) (hok : ∀ g ∈ grps most people [], ok g) (gs : List (List Int)) (W : Nat → Prop) (H : Heap) (hM : gs.length + (grps most people []).length ≤ M) (hI : Inv gs W H) :
    Stp (Inv := Inv) (den env 58 [.t (tl people), .t (ti most), .clo f [] caps] H) gs (grps most people []) W H := by
  have hsm := hs.small gs W H hI
  have hn : ∀ k, ¬ W (H.length + k) := fun k hw => by have := hsm _ hw; omega
  have hI1 := hs.stable gs W H (H ++ [.box 1 [.t (tl people)], .box 1 [.t (ti most)], .box 1 [.clo f [] caps], .box 1 [.clo 81 [] [.ptr H.length 0 0, .ptr (H.length + 1) 0 0, .ptr (H.length + 2) 0 0, .ptr (H.length + 3) 0 0]]]) hI (by simp) (fun id hid => get_app (hsm id hid))
  obtain ⟨v, H', W', hr, hI', hE⟩ := d81 hs H.length (H.length + 1) (H.length + 2) (H.length + 3) people most hpl hm people.length 0 [] .nil (by omega) (.inl ⟨rfl, rfl⟩) (by simp; omega) hok gs W _ hM ⟨by simp, by simp, by simp, by simp⟩ (hn 0) (hn 1) (hn 2) (hn 3) hI1
  refine ⟨.tup [], H', W', ?_, hI', (Ext.app _).trans hE⟩
  rw [den_ir e58 _ _ rfl (.inl rfl)]
  simp at hr
  simp [ir58, ir58_c, hr]
end
end Go.Proofs.Ytdgfpjlmpnfcgaa.Ev

namespace Go.Proofs.Ytdgfpjlmpnfcgaa.Ev
open Go
set_option linter.unusedVariables false
set_option linter.unusedSimpArgs false
attribute [local simp] til_getE til_length til_get til_drop til_take til_snoc til_fold take_snoc til_set
def cansP (c : Int) (l : List Int) (t : Int) (gl : List (List Int)) : List (Int × List Int) := (gl.filter fun g => calmI g g && calmP c (setAll t g l)).map fun g => (t, g)
theorem cansP_len (c : Int) (l : List Int) (t : Int) (gl : List (List Int)) : (cansP c l t gl).length ≤ gl.length := by simp [cansP]; exact List.length_filter_le _ _
theorem cansP_snoc (c : Int) (l : List Int) (t : Int) (gl : List (List Int)) (g : List Int) (vs : List (Int × List Int)) : vs ++ cansP c l t (gl ++ [g]) = if calmI g g && calmP c (setAll t g l) then (vs ++ cansP c l t gl) ++ [(t, g)] else vs ++ cansP c l t gl := by
  unfold cansP
  rw [List.filter_append, List.map_append]
  split <;> simp_all
def InvV (iw is it io : Nat) (a b c : Int) (l : List Int) (p t : Int) (vs : List (Int × List Int)) (gs : List (List Int)) (W : Nat → Prop) (H : Heap) : Prop :=
  ∃ k, CbIn H iw is it io k a b c l p t (vs ++ cansP c l t gs) ∧ ∀ id, W id ↔ (id = iw ∨ id = is ∨ id = it ∨ id = io ∨ id = k)
theorem CbIn.lt {H : Heap} {iw is it io k : Nat} {a b c : Int} {l : List Int} {p t : Int} {vs : List (Int × List Int)} (h : CbIn H iw is it io k a b c l p t vs) : iw < H.length ∧ is < H.length ∧ it < H.length ∧ io < H.length ∧ k < H.length :=
  ⟨(List.getElem?_eq_some_iff.1 h.w).1, (List.getElem?_eq_some_iff.1 h.s).1, (List.getElem?_eq_some_iff.1 h.t).1, (List.getElem?_eq_some_iff.1 h.o).1, (List.getElem?_eq_some_iff.1 h.v).1⟩
theorem stepsV (iw is it io : Nat) (a b c : Int) (hc : 0 ≤ c ∧ c ≤ 2) (l : List Int) (hl : l.length ≤ 100) (p t : Int) (vs : List (Int × List Int)) (hvs : vs.length ≤ 2 ^ 25) :
    Steps 59 [.ptr iw 0 0, .ptr is 0 0, .ptr it 0 0, .ptr io 0 0] (InvV iw is it io a b c l p t vs) (fun g => g.length ≤ 100 ∧ ∀ x ∈ g, 0 ≤ x ∧ x < l.length) (2 ^ 20) := by
  refine ⟨fun i o n H => by simp, fun H => by simp, ?_, ?_, ?_⟩
  · rintro gs W H g hM ⟨hg, hk⟩ ⟨k, hI, hW⟩
    have := cansP_len c l t gs
    obtain ⟨v, H', k', h1, h2, h3, h4, h5⟩ := d59 H iw is it io k a b c hc l hl p t _ (by rw [List.length_append]; omega) hI g hg hk
    rw [← cansP_snoc] at h4
    refine ⟨v, H', fun id => (id = iw ∨ id = is ∨ id = it ∨ id = io ∨ id = k'), h1, h2, ⟨k', h4, fun id => Iff.rfl⟩, fun id hid => ?_, fun id hid hn => ?_⟩
    · rw [hW]
      rcases hid with h | h | h | h | h
      · simp [h]
      · simp [h]
      · simp [h]
      · simp [h]
      · rcases h3 with h3 | h3
        · left; simp [h, h3]
        · right; omega
    · rw [hW] at hn
      exact h5 id hid (fun e => hn (by simp [e])) (fun e => hn (by simp [e]))
  · rintro gs W H H' ⟨k, hI, hW⟩ hlen hk
    exact ⟨k, ⟨(hk _ ((hW _).2 (by simp))).trans hI.w, (hk _ ((hW _).2 (by simp))).trans hI.s, (hk _ ((hW _).2 (by simp))).trans hI.t, (hk _ ((hW _).2 (by simp))).trans hI.o, (hk _ ((hW _).2 (by simp))).trans hI.v⟩, hW⟩
  · rintro gs W H ⟨k, hI, hW⟩ id hid
    have := hI.lt
    rcases (hW id).1 hid with h | h | h | h | h <;> omega

def voysP (b c : Int) (l : List Int) (p : Int) (i d : Nat) : List (Int × List Int) := (List.range' i d).flatMap fun t : Nat => if (t : Int) = p then [] else cansP c l (t : Int) (grps b (stand p 0 l) [])
theorem stand_in (p : Int) : ∀ (xs : List Int) (i : Nat), ∀ x ∈ stand p i xs, (i : Int) ≤ x ∧ x < ((i + xs.length : Nat) : Int)
  | [], i, x, h => by simp [stand] at h
  | y :: ys, i, x, h => by
    simp only [stand] at h
    have ih := stand_in p ys (i + 1) x
    split at h
    · rcases List.mem_cons.1 h with rfl | h
      · simp; omega
      · have := ih h; simp at this ⊢; omega
    · have := ih h; simp at this ⊢; omega
theorem grps_sub (most : Int) : ∀ (rest l g : List Int), g ∈ grps most rest l → ∀ x ∈ g, x ∈ l ∨ x ∈ rest
  | [], _, g, h => by simp [grps] at h
  | y :: rest, l, g, h => by
    intro x hx
    simp only [grps] at h
    split at h
    · rcases List.mem_cons.1 h with rfl | h
      · rcases List.mem_append.1 hx with h | h
        · exact .inl h
        · right; simp at h; simp [h]
      · rcases List.mem_append.1 h with h | h
        · rcases grps_sub most rest _ g h x hx with h | h
          · rcases List.mem_append.1 h with h | h
            · exact .inl h
            · right; simp at h; simp [h]
          · right; exact List.mem_cons_of_mem _ h
        · rcases grps_sub most rest _ g h x hx with h | h
          · exact .inl h
          · right; exact List.mem_cons_of_mem _ h
    · cases h
theorem stand_len (p : Int) : ∀ (xs : List Int) (i : Nat), (stand p i xs).length ≤ xs.length
  | [], i => by simp [stand]
  | y :: ys, i => by
    simp only [stand]
    have := stand_len p ys (i + 1)
    split <;> simp <;> omega
theorem l32 (a b c : Int) (hb : b ≤ 3) (hc : 0 ≤ c ∧ c ≤ 2) (l : List Int) (hl : l.length ≤ 9) (p : Int) : ∀ (d i : Nat) (out : List (Int × List Int)) (B : Blk) (hB : B = .pure 1 (til (stand p 0 l)) ∨ B = .froz 1 (til (stand p 0 l))), ((i + d : Nat) : Int) = c + 2 → out.length + 1024 * d ≤ 2 ^ 20 →
    ∃ B', loopF env true [2, 3, 5, 6, 15, 16] ir32_b0 ([(2, .ptr 0 0 0), (3, .ptr 1 0 0), (5, .ptr 2 0 0), (6, .ref 3 0 (stand p 0 l).length), (15, .t (ti (c + 2))), (16, .t (ti i))], [.box 3 [.t (ti a), .t (ti b), .t (ti c)], .box 2 [.t (tl l), .t (ti p)], .box 1 [.ref 4 0 out.length], B, .pure 2 (tlv out)]) =
      some (.exit 0, [(2, .ptr 0 0 0), (3, .ptr 1 0 0), (5, .ptr 2 0 0), (6, .ref 3 0 (stand p 0 l).length), (15, .t (ti (c + 2))), (16, .t (ti (c + 2))), (17, .t (tb false))], [.box 3 [.t (ti a), .t (ti b), .t (ti c)], .box 2 [.t (tl l), .t (ti p)], .box 1 [.ref 4 0 (out ++ voysP b c l p i d).length], B', .pure 2 (tlv (out ++ voysP b c l p i d))])
  | 0, i, out, B, hB, hi, ho => by
    rw [x32_0]
    have hlt : (i : Int) = c + 2 := by omega
    refine ⟨B, ?_⟩
    simp [ir32_d0, voysP, hlt]
  | d + 1, i, out, B, hB, hi, ho => by
    rw [x32_0]
    have hlt : (i : Int) < c + 2 := by omega
    have hw : IntKind.i64.wrap ((i : Int) + 1) = (i : Int) + 1 := w76 (by omega)
    have hv : voysP b c l p i (d + 1) = (if (i : Int) = p then [] else cansP c l (i : Int) (grps b (stand p 0 l) [])) ++ voysP b c l p (i + 1) d := by
      simp [voysP, List.range'_succ]
    by_cases hp : (i : Int) = p
    · obtain ⟨B', ih⟩ := l32 a b c hb hc l hl p d (i + 1) out B hB (by omega) (by omega)
      refine ⟨B', ?_⟩
      rw [hv, if_pos hp, List.nil_append]
      generalize voysP b c l p (i + 1) d = V1 at *
      simp at ih
      subst hp
      rcases hB with rfl | rfl <;> simp [ir32_d0, hlt, hw, ih]
    · have hst := stand_len p l 0
      have hsl := stand_in p l 0
      have hgl := grps_len b (stand p 0 l) []
      have hp2 : 2 ^ (stand p 0 l).length ≤ 2 ^ 9 := Nat.pow_le_pow_right (by decide) (by omega)
      have hcl := cansP_len c l i (grps b (stand p 0 l) [])
      obtain ⟨v, H', W', hr, ⟨k, hI, hW⟩, hE⟩ := d58 (stand p 0 l) b (stepsV 0 1 5 2 a b c hc l (by omega) p i out (by omega)) (by omega) (by omega) (fun g hg => by
        have h1 := grps_lens b (stand p 0 l) [] g hg
        refine ⟨by omega, fun x hx => ?_⟩
        rcases grps_sub b (stand p 0 l) [] g hg x hx with h | h
        · cases h
        · have := hsl x h; simp at this; omega) [] (fun id => id = 0 ∨ id = 1 ∨ id = 5 ∨ id = 2 ∨ id = 4)
        [.box 3 [.t (ti a), .t (ti b), .t (ti c)], .box 2 [.t (tl l), .t (ti p)], .box 1 [.ref 4 0 out.length], .froz 1 (til (stand p 0 l)), .pure 2 (tlv out), .box 1 [.t (ti i)]] (by simp; omega) ⟨4, ⟨rfl, rfl, rfl, by simp [cansP], by simp [cansP]⟩, fun id => Iff.rfl⟩
      have h3 : H'[3]? = some (.froz 1 (til (stand p 0 l))) := by rw [hE.keep 3 (by simp) (by simp)]; rfl
      obtain ⟨B', ih⟩ := l32 a b c hb hc l hl p d (i + 1) (out ++ cansP c l i (grps b (stand p 0 l) [])) _ (.inr rfl) (by omega) (by rw [List.length_append]; omega)
      refine ⟨B', ?_⟩
      rw [hv, if_neg hp]
      rw [List.nil_append] at hI
      have hk0 : k ≠ 0 := fun e => by have := hI.w; rw [← e, hI.v] at this; cases this
      have hk1 : k ≠ 1 := fun e => by have := hI.s; rw [← e, hI.v] at this; cases this
      have hk2 : k ≠ 2 := fun e => by have := hI.o; rw [← e, hI.v] at this; cases this
      have hk3 : k ≠ 3 := fun e => by rw [← e, hI.v] at h3; cases h3
      have hIw := hI.w
      have hIs := hI.s
      have hIo := hI.o
      have hIv := hI.v
      rw [← List.append_assoc]
      generalize cansP c l i (grps b (stand p 0 l) []) = G1 at *
      generalize voysP b c l p (i + 1) d = V1 at *
      simp at ih hr hIo hIv
      rcases hB with rfl | rfl <;> simp [ir32_d0, hlt, hp, hw, hr, hIw, hIs, hIo, hIv, h3, hk0, hk1, hk2, hk3, hk0.symm, hk1.symm, hk2.symm, hk3.symm, ih]
theorem r32 (a b c : Int) (hb : b ≤ 3) (hc : 0 ≤ c ∧ c ≤ 2) (l : List Int) (hl : l.length ≤ 9) (p : Int) : ownFR env 32 [.agg [ti a, ti b, ti c], .agg [tl l, ti p]] = some (.ref 0 0 (voysP b c l p 0 (c + 2).toNat).length, [.pure 2 (tlv (voysP b c l p 0 (c + 2).toNat))]) := by
  rw [ownF_ir e32 _ rfl]
  have h58 := r57 l p p (by omega)
  have h49 := r51 a b c (by omega)
  have hw2 : IntKind.i64.wrap (c + 1 + 1) = c + 2 := by rw [w76 (by omega)]; omega
  obtain ⟨B', h⟩ := l32 a b c hb hc l hl p (c + 2).toNat 0 [] _ (.inl rfl) (by omega) (by simp; omega)
  generalize voysP b c l p 0 (c + 2).toNat = V1 at *
  simp [tlv] at h
  simp [ir32, ir32_c, h58, h49, hw2, h, tlv]
end Go.Proofs.Ytdgfpjlmpnfcgaa.Ev

namespace Go.Proofs.Ytdgfpjlmpnfcgaa.Ev
open Go
set_option linter.unusedVariables false
set_option linter.unusedSimpArgs false
attribute [local simp] til_getE til_length til_get til_drop til_take til_snoc til_fold take_snoc til_set
end Go.Proofs.Ytdgfpjlmpnfcgaa.Ev

namespace Go.Proofs.Ytdgfpjlmpnfcgaa.Ev
open Go
set_option linter.unusedVariables false
set_option linter.unusedSimpArgs false
attribute [local simp] til_getE til_length til_get til_drop til_take til_snoc til_fold take_snoc til_set
def tin (l : List Nat) : List T := l.map fun (n : Nat) => T.int .i64 (n : Int)
theorem tin_length (l : List Nat) : (tin l).length = l.length := by simp [tin]
theorem tin_getE (l : List Nat) (i : Nat) (h : i < (tin l).length) : (tin l)[i] = .int .i64 (l[i]'(by simpa [tin] using h) : Nat) := by simp [tin]
theorem tin_take (l : List Nat) (n : Nat) : (tin l).take n = tin (l.take n) := by simp [tin, List.map_take]
abbrev Ed := Nat × Nat × Int × List Int
def tleN (es : List Ed) : List T := es.map fun e => .agg [.int .i64 e.1, .int .i64 e.2.1, .int .i64 e.2.2.1, .lst 1 (til e.2.2.2)]
theorem tleN_length (es : List Ed) : (tleN es).length = es.length := by simp [tleN]
theorem tleN_getE (es : List Ed) (i : Nat) (h : i < (tleN es).length) : (tleN es)[i] = .agg [.int .i64 (es[i]'(by simpa [tleN] using h)).1, .int .i64 (es[i]'(by simpa [tleN] using h)).2.1, .int .i64 (es[i]'(by simpa [tleN] using h)).2.2.1, .lst 1 (til (es[i]'(by simpa [tleN] using h)).2.2.2)] := by simp [tleN]
variable {i2 i5 i6 : Nat} {many : Int} {clo : T} {dist : List Int} {ws : List (List Nat)} {Vs : List V} {H : Heap}
end Go.Proofs.Ytdgfpjlmpnfcgaa.Ev

namespace Go.Proofs.Ytdgfpjlmpnfcgaa.Ev
open Go
set_option linter.unusedVariables false
set_option linter.unusedSimpArgs false
attribute [local simp] til_getE til_length til_get til_drop til_take til_snoc til_fold take_snoc til_set
def elVB (sz off len : Nat) (b : Blk) : Option (List V) := match b with
  | .box s vs => if s = sz then some ((vs.drop (off * sz)).take (len * sz)) else none
  | _ => none
@[simp] theorem elVB_b (sz off len s : Nat) (vs : List V) : elVB sz off len (.box s vs) = if s = sz then some ((vs.drop (off * sz)).take (len * sz)) else none := rfl
@[simp] theorem elV_ref (H : Heap) (sz id off len : Nat) : elemsV H sz (.ref id off len) = andO H[id]? (elVB sz off len) := by
  simp only [elemsV]
  cases H[id]? with
  | none => rfl
  | some b => cases b <;> rfl
def appMB (H : Heap) (sz id len : Nat) (ys : List V) (b : Blk) : Option (V × Heap) := match b with
  | .box s vs => if s = sz ∧ len * sz = vs.length ∧ ys.length % sz = 0 ∧ vs.length + ys.length ≤ lim ∧ ys.all V.one ∧ 0 < ys.length then some (.ref H.length 0 (len + ys.length / sz), H.set id .dead ++ [.box sz (vs ++ ys)]) else none
  | _ => none
@[simp] theorem appMB_b (H : Heap) (sz id len : Nat) (ys : List V) (s : Nat) (vs : List V) : appMB H sz id len ys (.box s vs) = if s = sz ∧ len * sz = vs.length ∧ ys.length % sz = 0 ∧ vs.length + ys.length ≤ lim ∧ ys.all V.one ∧ 0 < ys.length then some (.ref H.length 0 (len + ys.length / sz), H.set id .dead ++ [.box sz (vs ++ ys)]) else none := rfl
def appMV (H : Heap) (sz : Nat) (x : V) (ys : List V) : Option (V × Heap) := match x with
  | .ref id 0 len => andO H[id]? (appMB H sz id len ys)
  | _ => none
@[simp] theorem appMV_r (H : Heap) (sz id len : Nat) (ys : List V) : appMV H sz (.ref id 0 len) ys = andO H[id]? (appMB H sz id len ys) := rfl
@[simp] theorem appM_eq (H : Heap) (sz : Nat) (x y : V) : evAppM H sz x y = andO (elemsV H sz y) (appMV H sz x) := by
  unfold evAppM
  cases elemsV H sz y with
  | none => rfl
  | some ys =>
    simp only [andO_some]
    cases x with
    | ref id off len =>
      cases off with
      | zero =>
        simp only [appMV]
        cases H[id]? with
        | none => rfl
        | some b => cases b <;> rfl
      | succ n => rfl
    | _ => rfl
@[simp] theorem o_appM {E : Env} {rec : Rec} {fr : Fr} {H : Heap} (sz : Nat) (x y : A) : evO E rec fr H (.app true sz x y) = evAppM H sz (x.ev fr) (y.ev fr) := rfl
def bslM (H : Heap) (sz n : Nat) (vs : List V) : Option (V × Heap) := some (.ref H.length 0 n, H ++ [.box sz vs])
@[simp] theorem bslM_eq (H : Heap) (sz n : Nat) (vs : List V) : bslM H sz n vs = some (.ref H.length 0 n, H ++ [.box sz vs]) := rfl
@[simp] theorem o_bslM {E : Env} {rec : Rec} {fr : Fr} {H : Heap} (sz n : Nat) (z : T) (ps : List (Nat × A)) : evO E rec fr H (.bsl true sz n z ps) = andO (fillV (List.replicate n (z.cells.map V.t)).flatten (ps.map fun p => (p.1 * sz, sz, p.2.ev fr))) (bslM H sz n) := by
  simp only [evO]; cases fillV (List.replicate n (z.cells.map V.t)).flatten (ps.map fun p => (p.1 * sz, sz, p.2.ev fr)) <;> rfl

variable {i2 i5 : Nat} {many : Int} {clo : T} {dist : List Int}
end Go.Proofs.Ytdgfpjlmpnfcgaa.Ev

namespace Go.Proofs.Ytdgfpjlmpnfcgaa.Ev
open Go
set_option linter.unusedVariables false
set_option linter.unusedSimpArgs false
attribute [local simp] til_getE til_length til_get til_drop til_take til_snoc til_fold take_snoc til_set tin_getE tin_length tin_take
variable {i2 i5 i6 : Nat} {many : Int} {clo : T} {dist : List Int} {ws : List (List Nat)} {Vs : List V} {H : Heap}
end Go.Proofs.Ytdgfpjlmpnfcgaa.Ev

namespace Go.Proofs.Ytdgfpjlmpnfcgaa.Ev
open Go
set_option linter.unusedVariables false
set_option linter.unusedSimpArgs false
attribute [local simp] til_getE til_length til_get til_drop til_take til_snoc til_fold take_snoc til_set tin_getE tin_length tin_take tleN_length tleN_getE
variable {i2 i5 : Nat} {many : Int} {clo : T} {dist : List Int}
end Go.Proofs.Ytdgfpjlmpnfcgaa.Ev

namespace Go.Proofs.Ytdgfpjlmpnfcgaa.Ev
open Go
set_option linter.unusedVariables false
set_option linter.unusedSimpArgs false
attribute [local simp] til_getE til_length til_get til_drop til_take til_snoc til_fold take_snoc til_set tin_getE tin_length tin_take tleN_length tleN_getE
structure OkG (N C D : Nat) (P : Nat → Prop) (out : Nat → List Ed) : Prop where
  lt : ∀ s, P s → s < N
  deg : ∀ s, P s → (out s).length ≤ D
  ed : ∀ s, P s → ∀ e ∈ out s, P e.1 ∧ 1 ≤ e.2.1 ∧ e.2.1 ≤ C
variable {i2 i5 i6 : Nat} {many : Int} {clo : T} {dist : List Int} {ws : List (List Nat)} {Vs : List V} {H : Heap}
end Go.Proofs.Ytdgfpjlmpnfcgaa.Ev

namespace Go.Proofs.Ytdgfpjlmpnfcgaa.Ev
open Go
set_option linter.unusedVariables false
set_option linter.unusedSimpArgs false
attribute [local simp] til_getE til_length til_get til_drop til_take til_snoc til_fold take_snoc til_set tin_getE tin_length tin_take tleN_length tleN_getE
variable {i2 i5 : Nat} {many : Int}
end Go.Proofs.Ytdgfpjlmpnfcgaa.Ev

namespace Go.Proofs.Ytdgfpjlmpnfcgaa.Ev
open Go
set_option linter.unusedVariables false
set_option linter.unusedSimpArgs false
attribute [local simp] til_getE til_length til_get til_drop til_take til_snoc til_fold take_snoc til_set tin_getE tin_length tin_take tleN_length tleN_getE
variable {i2 i5 : Nat} {many : Int}
end Go.Proofs.Ytdgfpjlmpnfcgaa.Ev

namespace Go.Proofs.Ytdgfpjlmpnfcgaa.Ev
open Go
set_option linter.unusedVariables false
set_option linter.unusedSimpArgs false
attribute [local simp] til_getE til_length til_get til_drop til_take til_snoc til_fold take_snoc til_set tin_getE tin_length tin_take tleN_length tleN_getE
end Go.Proofs.Ytdgfpjlmpnfcgaa.Ev

namespace Go.Proofs.Ytdgfpjlmpnfcgaa.Ev
open Go
set_option linter.unusedVariables false
set_option linter.unusedSimpArgs false
def Calm (a : Nat) (t : Nat → Prop) : Prop := ¬ ((∃ i, i < a ∧ t (2 * i + 1) ∧ ¬ t (2 * i)) ∧ ∃ j, j < a ∧ t (2 * j))
theorem Calm_congr {a : Nat} {t u : Nat → Prop} (h : ∀ j, j < 2 * a → (t j ↔ u j)) : Calm a t ↔ Calm a u := by
  unfold Calm
  constructor
  · rintro h1 ⟨⟨i, hi, h2, h3⟩, j, hj, h4⟩
    exact h1 ⟨⟨i, hi, (h _ (by omega)).2 h2, fun h5 => h3 ((h _ (by omega)).1 h5)⟩, j, hj, (h _ (by omega)).2 h4⟩
  · rintro h1 ⟨⟨i, hi, h2, h3⟩, j, hj, h4⟩
    exact h1 ⟨⟨i, hi, (h _ (by omega)).1 h2, fun h5 => h3 ((h _ (by omega)).2 h5)⟩, j, hj, (h _ (by omega)).1 h4⟩
theorem calmI_iff (a : Nat) (ha : a ≤ 1000000) (g : List Int) (hp : ∀ x ∈ g, 0 ≤ x ∧ x < 2 * (a : Int)) : calmI g g = true ↔ Calm a fun j => (j : Int) ∈ g := by
  unfold calmI Calm
  rw [List.all_eq_true]
  have e : ∀ x ∈ g, ((decide (x.tmod 2 = 0) || decide (IntKind.i64.wrap (x - 1) ∈ g) || !decide (∃ y ∈ g, y.tmod 2 = 0)) = true ↔ (x % 2 = 0 ∨ x - 1 ∈ g ∨ ¬ ∃ y ∈ g, y % 2 = 0)) := fun x hx => by
    have hx2 := hp x hx
    rw [w76 (n := x - 1) (by omega), Int.tmod_eq_emod_of_nonneg hx2.1]
    have : (∃ y ∈ g, y.tmod 2 = 0) ↔ (∃ y ∈ g, y % 2 = 0) := by
      constructor <;> rintro ⟨y, hy, h⟩ <;> refine ⟨y, hy, ?_⟩
      · rwa [Int.tmod_eq_emod_of_nonneg (hp y hy).1] at h
      · rwa [Int.tmod_eq_emod_of_nonneg (hp y hy).1]
    simp only [this, Bool.or_eq_true, decide_eq_true_eq, Bool.not_eq_true', decide_eq_false_iff_not]
    rw [or_assoc]
  constructor
  · rintro h ⟨⟨i, hi, h3, h4⟩, j, hj, h5⟩
    rcases (e _ h3).1 (h _ h3) with h | h | h
    · omega
    · exact h4 (show ((2 * i : Nat) : Int) ∈ g by rw [show ((2 * i : Nat) : Int) = ((2 * i + 1 : Nat) : Int) - 1 by omega]; exact h)
    · exact h ⟨_, h5, by omega⟩
  · intro h x hx
    rw [e x hx]
    by_cases h6 : x % 2 = 0
    · exact .inl h6
    · by_cases h7 : x - 1 ∈ g
      · exact .inr (.inl h7)
      · refine .inr (.inr ?_)
        rintro ⟨y, hy, h8⟩
        have hx2 := hp x hx
        have hy2 := hp y hy
        refine h ⟨⟨(x / 2).toNat, by omega, ?_, ?_⟩, (y / 2).toNat, by omega, ?_⟩
        · show ((2 * (x / 2).toNat + 1 : Nat) : Int) ∈ g
          rw [show ((2 * (x / 2).toNat + 1 : Nat) : Int) = x by omega]; exact hx
        · show ¬ ((2 * (x / 2).toNat : Nat) : Int) ∈ g
          rw [show ((2 * (x / 2).toNat : Nat) : Int) = x - 1 by omega]; exact h7
        · show ((2 * (y / 2).toNat : Nat) : Int) ∈ g
          rw [show ((2 * (y / 2).toNat : Nat) : Int) = y by omega]; exact hy
theorem cuB_iff (a N : Nat) : cuB a N = true ↔ Calm a fun j => N.testBit j = true := by
  have b4 : ∀ i, (N / 2 ^ (2 * i) % 4 = 2) ↔ (N.testBit (2 * i + 1) = true ∧ ¬ N.testBit (2 * i) = true) := fun i => by
    rw [Nat.testBit_eq_decide_div_mod_eq, Nat.testBit_eq_decide_div_mod_eq, Nat.pow_succ, ← Nat.div_div_eq_div_mul]
    generalize N / 2 ^ (2 * i) = q
    simp only [decide_eq_true_eq]
    omega
  have b2 : ∀ i, (N / 2 ^ (2 * i) % 2 = 1) ↔ N.testBit (2 * i) = true := fun i => by
    rw [Nat.testBit_eq_decide_div_mod_eq, decide_eq_true_eq]
  have hX : (List.range' 0 a).any (fun i => decide (N / 2 ^ (2 * i) % 4 = 2)) = true ↔ ∃ i, i < a ∧ N.testBit (2 * i + 1) = true ∧ ¬ N.testBit (2 * i) = true := by
    rw [List.any_eq_true]
    constructor
    · rintro ⟨i, hi, h⟩
      rw [List.mem_range'_1] at hi
      exact ⟨i, by omega, (b4 i).1 (by simpa using h)⟩
    · rintro ⟨i, hi, h⟩
      exact ⟨i, by rw [List.mem_range'_1]; omega, by simpa using (b4 i).2 h⟩
  have hY : (List.range' 0 a).any (fun j => decide (N / 2 ^ (2 * j) % 2 = 1)) = true ↔ ∃ j, j < a ∧ N.testBit (2 * j) = true := by
    rw [List.any_eq_true]
    constructor
    · rintro ⟨i, hi, h⟩
      rw [List.mem_range'_1] at hi
      exact ⟨i, by omega, (b2 i).1 (by simpa using h)⟩
    · rintro ⟨i, hi, h⟩
      exact ⟨i, by rw [List.mem_range'_1]; omega, by simpa using (b2 i).2 h⟩
  unfold cuB Calm
  rw [← hX, ← hY, ← Bool.and_eq_true, Bool.not_eq_true', Bool.not_eq_true]
theorem bitsI_test (j : Nat) : ∀ (g : List Int) (N : Nat), (bitsI g N).testBit j = true ↔ N.testBit j = true ∨ ∃ k ∈ g, k.toNat = j
  | [], N => by simp [bitsI]
  | k :: g, N => by
    rw [bitsI, bitsI_test j g]
    rw [Nat.testBit_or, Nat.testBit_two_pow, Bool.or_eq_true, decide_eq_true_eq, or_assoc]
    simp only [List.mem_cons, exists_eq_or_imp]
theorem bitsAt_test (p : Int) (j : Nat) : ∀ (xs : List Int) (i N : Nat), (bitsAt p i xs N).testBit j = true ↔ N.testBit j = true ∨ ∃ m, xs[m]? = some p ∧ i + m = j
  | [], i, N => by simp [bitsAt]
  | x :: xs, i, N => by
    rw [bitsAt]
    have key : (∃ m, (x :: xs)[m]? = some p ∧ i + m = j) ↔ (x = p ∧ i = j) ∨ ∃ m, xs[m]? = some p ∧ i + 1 + m = j := by
      constructor
      · rintro ⟨m, h1, h2⟩
        rcases m with _ | m
        · left; simpa using ⟨by simpa using h1, h2⟩
        · right; exact ⟨m, by simpa using h1, by omega⟩
      · rintro (⟨h1, h2⟩ | ⟨m, h1, h2⟩)
        · exact ⟨0, by simpa using h1, h2⟩
        · exact ⟨m + 1, by simpa using h1, by omega⟩
    rw [key]
    split
    · rename_i h
      rw [bitsAt_test p j xs]
      rw [Nat.testBit_or, Nat.testBit_two_pow, Bool.or_eq_true, decide_eq_true_eq, or_assoc]
      simp only [h, true_and]
    · rename_i h
      rw [bitsAt_test p j xs]
      simp [h]
theorem stand_mem (p : Int) (y : Int) : ∀ (xs : List Int) (i : Nat), y ∈ stand p i xs ↔ ∃ m : Nat, xs[m]? = some p ∧ y = ((i + m : Nat) : Int)
  | [], i => by simp [stand]
  | x :: xs, i => by
    rw [stand]
    have key : (∃ m : Nat, (x :: xs)[m]? = some p ∧ y = ((i + m : Nat) : Int)) ↔ (x = p ∧ y = (i : Int)) ∨ ∃ m : Nat, xs[m]? = some p ∧ y = ((i + 1 + m : Nat) : Int) := by
      constructor
      · rintro ⟨m, h1, h2⟩
        rcases m with _ | m
        · left; exact ⟨by simpa using h1, by simpa using h2⟩
        · right; exact ⟨m, by simpa using h1, by rw [h2]; congr 1; omega⟩
      · rintro (⟨h1, h2⟩ | ⟨m, h1, h2⟩)
        · exact ⟨0, by simpa using h1, by simpa using h2⟩
        · exact ⟨m + 1, by simpa using h1, by rw [h2]; congr 1; omega⟩
    rw [key]
    split
    · rename_i h
      rw [List.mem_cons, stand_mem p y xs]; simp [h]
    · rename_i h
      rw [stand_mem p y xs]; simp [h]
theorem calm_eq (a : Nat) (ha : a ≤ 1000) (c : Int) (L : List Int) (hL : L.length = 2 * a) : calmP c L = calmS a c L := by
  unfold calmP calmS
  congr 1
  funext i
  rw [Bool.eq_iff_iff, calmI_iff a (by omega) _ (fun x hx => by have := stand_in i L 0 x hx; omega), cuB_iff]
  refine Calm_congr fun j hj => ?_
  rw [stand_mem, bitsAt_test]
  constructor
  · rintro ⟨m, h1, h2⟩; exact .inr ⟨m, h1, by omega⟩
  · rintro (h | ⟨m, h1, h2⟩)
    · simp at h
    · exact ⟨m, h1, by omega⟩
theorem group_calm (a : Nat) (ha : a ≤ 1000) (g : List Int) (hg : ∀ x ∈ g, 0 ≤ x ∧ x < 2 * (a : Int)) : calmI g g = cuB a (bitsI g 0) := by
  rw [Bool.eq_iff_iff, calmI_iff a (by omega) g hg, cuB_iff]
  refine Calm_congr fun j hj => ?_
  rw [bitsI_test]
  constructor
  · intro h; exact .inr ⟨_, h, by simp⟩
  · rintro (h | ⟨k, h1, h2⟩)
    · simp at h
    · have := hg k h1
      rw [show (j : Int) = k by omega]; exact h1
end Go.Proofs.Ytdgfpjlmpnfcgaa.Ev

namespace Go.Proofs.Ytdgfpjlmpnfcgaa.Ev
open Go
set_option linter.unusedVariables false
set_option linter.unusedSimpArgs false

theorem grps_form (most : Int) : ∀ (rest l g : List Int), g ∈ grps most rest l → ∃ s, g = l ++ s ∧ s ≠ [] ∧ List.Sublist s rest
  | [], _, g, h => by simp [grps] at h
  | x :: rest, l, g, h => by
    simp only [grps] at h
    split at h
    · simp only [List.mem_cons, List.mem_append] at h
      rcases h with rfl | h | h
      · exact ⟨[x], rfl, by simp, List.cons_sublist_cons.2 (List.nil_sublist _)⟩
      · obtain ⟨s, h1, h2, h3⟩ := grps_form most rest (l ++ [x]) g h
        exact ⟨x :: s, by simpa using h1, by simp, List.cons_sublist_cons.2 h3⟩
      · obtain ⟨s, h1, h2, h3⟩ := grps_form most rest l g h
        exact ⟨s, h1, h2, h3.cons x⟩
    · cases h
theorem stand_pair (p : Int) : ∀ (xs : List Int) (i : Nat), (stand p i xs).Pairwise (· < ·)
  | [], i => by simp [stand]
  | x :: xs, i => by
    rw [stand]
    split
    · refine List.pairwise_cons.2 ⟨fun y hy => ?_, stand_pair p xs (i + 1)⟩
      have := stand_in p xs (i + 1) y hy
      omega
    · exact stand_pair p xs (i + 1)
theorem rises_of {a b : Int} {g : List Int} (h : g.Pairwise (· < ·)) (hb : ∀ x ∈ g, a ≤ x ∧ x ≤ b) : risesB a b g = true := by
  unfold risesB
  rw [Bool.and_eq_true, List.all_eq_true, List.all_eq_true]
  refine ⟨fun x hx => (inB_iff _ _ _).2 (hb x hx), fun j hj => ?_⟩
  rw [List.mem_range'_1] at hj
  rcases Nat.eq_zero_or_pos j with h0 | h0
  · simp [h0]
  · have h1 : j < g.length := by omega
    have h2 : j - 1 < g.length := by omega
    rw [List.pairwise_iff_getElem] at h
    have := h (j - 1) j h2 h1 (by omega)
    simp [h1, h2, this]
theorem can_eq (a : Nat) (b c : Int) (hgd : good a b c = true) (l : List Int) (hl : l.length = 2 * a) (p t : Int) (ht : 0 ≤ t ∧ t ≤ c + 1) (htp : t ≠ p) (g : List Int) (hg : g ∈ grps b (stand p 0 l) []) : canB a b c l p t g = (calmI g g && calmP c (setAll t g l)) := by
  have hgo := good_of hgd
  obtain ⟨s, h1, h2, h3⟩ := grps_form b _ _ _ hg
  rw [List.nil_append] at h1
  subst h1
  have hgl := grps_lens b _ _ _ hg
  have hgi : ∀ x ∈ g, 0 ≤ x ∧ x < l.length := fun x hx => by
    have := stand_in p l 0 x (h3.subset hx); simp at this; omega
  have hg0 : 0 < g.length := List.length_pos_iff.2 h2
  have e1001 : inB t 0 (c + 1) = true := (inB_iff _ _ _).2 ht
  have e1002 : inB g.length 1 b = true := (inB_iff _ _ _).2 ⟨by omega, hgl⟩
  have e1003 : risesB 0 (l.length - 1) g = true := rises_of ((stand_pair p l 0).sublist h3) (fun x hx => by have := hgi x hx; omega)
  have e1004 : atB l p g = true := by
    unfold atB
    rw [List.all_eq_true]
    intro k hk
    obtain ⟨m, h4, h5⟩ := (stand_mem p k l 0).1 (h3.subset hk)
    rw [h5, show ((0 + m : Nat) : Int).toNat = m by omega, h4]
    simp
  unfold canB
  rw [e1001, e1002, e1003, e1004, group_calm a (by omega) g (fun x hx => by have := hgi x hx; omega), calm_eq a (by omega) c _ (by rw [setAll_length]; exact hl)]
  simp [htp]
theorem flatMap_eq {α β : Type} {f g : α → List β} : ∀ (l : List α), (∀ x ∈ l, f x = g x) → l.flatMap f = l.flatMap g
  | [], _ => rfl
  | x :: l, h => by rw [List.flatMap_cons, List.flatMap_cons, h x (List.mem_cons_self ..), flatMap_eq l (fun y hy => h y (List.mem_cons_of_mem _ hy))]
theorem voys_eq (a : Nat) (b c : Int) (hgd : good a b c = true) (x : List Int × Int) (hx : okP a c x) : voysP b c x.1 x.2 0 (c + 2).toNat = voysAll a b c x := by
  have hgo := good_of hgd
  unfold voysP voysAll voysS
  refine flatMap_eq _ fun t ht => ?_
  rw [List.mem_range'_1] at ht
  unfold cansP cans
  split
  · rename_i h
    rw [List.filter_eq_nil_iff.2 (fun g hg => by simp [canB, h]), List.map_nil]
  · rename_i h
    rw [List.filter_congr (fun g hg => (can_eq a b c hgd x.1 hx.1 x.2 t (by omega) h g hg).symm)]
end Go.Proofs.Ytdgfpjlmpnfcgaa.Ev

namespace Go.Proofs.Ytdgfpjlmpnfcgaa.Ev
open Go
set_option linter.unusedVariables false
set_option linter.unusedSimpArgs false
section
variable {N C D : Nat} {P : Nat → Prop} {out : Nat → List Ed} (hG : OkG N C D P out) {starts : List Nat} (hs : ∀ x ∈ starts, P x)
end
end Go.Proofs.Ytdgfpjlmpnfcgaa.Ev

namespace Go.Proofs.Ytdgfpjlmpnfcgaa.Ev
open Go
set_option linter.unusedVariables false
set_option linter.unusedSimpArgs false

section
variable {X : Type}
variable [DecidableEq X]
end
end Go.Proofs.Ytdgfpjlmpnfcgaa.Ev

namespace Go.Proofs.Ytdgfpjlmpnfcgaa.Ev
open Go
set_option linter.unusedVariables false
set_option linter.unusedSimpArgs false
set_option linter.unusedSectionVars false

section
variable {X : Type} [DecidableEq X] (sc : X → List X) (cd : X → Nat) (ok : X → Prop) (N : Nat)
structure BfsOk : Prop where
  lt : ∀ x, ok x → cd x < N
  inj : ∀ x y, ok x → ok y → cd x = cd y → x = y
  suc : ∀ x, ok x → ∀ y ∈ sc x, ok y
  big : N ≤ 2 ^ 20
variable (s : X)
open Classical in
variable {sc cd ok N s}
end
end Go.Proofs.Ytdgfpjlmpnfcgaa.Ev

namespace Go.Proofs.Ytdgfpjlmpnfcgaa.Ev
open Go
set_option linter.unusedVariables false
set_option linter.unusedSimpArgs false
set_option linter.unusedSectionVars false

section
variable {X : Type} [DecidableEq X] (sc : X → List X) (cd : X → Nat) (ok : X → Prop) (N : Nat) (s : X)
variable {sc cd ok N s}
end
end Go.Proofs.Ytdgfpjlmpnfcgaa.Ev

namespace Go.Proofs.Ytdgfpjlmpnfcgaa.Ev
open Go
set_option linter.unusedVariables false
set_option linter.unusedSimpArgs false
set_option linter.unusedSectionVars false

theorem code_step (e : Nat) (he : e ≤ 4) (p x m : Nat) (hp : p < e ^ m) (hx : x < e) (hm : m ≤ 6) : p * e + x < e ^ (m + 1) ∧ IntKind.i64.wrap (IntKind.i64.wrap ((p : Int) * e) + (x : Int)) = ((p * e + x : Nat) : Int) := by
  have h1 : p * e + x < e ^ (m + 1) := by
    rw [Nat.pow_succ]
    have : (p + 1) * e ≤ e ^ m * e := Nat.mul_le_mul_right e hp
    rw [Nat.add_mul] at this
    omega
  have hb := pow_le e (m + 1) he (by omega)
  have hpe : p * e ≤ 16384 := by omega
  refine ⟨h1, ?_⟩
  have e1001 : (p : Int) * (e : Int) = ((p * e : Nat) : Int) := by simp
  rw [e1001, w76 (n := ((p * e : Nat) : Int)) (by omega), w76 (n := ((p * e : Nat) : Int) + x) (by omega)]; omega
theorem codeW_inj (e : Nat) (he : e ≤ 4) : ∀ (xs ys : List Int) (p q m : Nat), xs.length = ys.length → (∀ y ∈ xs, 0 ≤ y ∧ y < e) → (∀ y ∈ ys, 0 ≤ y ∧ y < e) → p < e ^ m → q < e ^ m → m + xs.length ≤ 7 → codeW e p xs = codeW e q ys → p = q ∧ xs = ys
  | [], [], p, q, m, _, _, _, _, _, _, h => ⟨Int.natCast_inj.1 (by simpa [codeW] using h), rfl⟩
  | x :: xs, y :: ys, p, q, m, hl, hx, hy, hp, hq, hm, h => by
    simp only [List.length_cons] at hl hm
    obtain ⟨x, rfl⟩ : ∃ z : Nat, x = z := ⟨x.toNat, by have := hx x (List.mem_cons_self ..); omega⟩
    obtain ⟨y, rfl⟩ : ∃ z : Nat, y = z := ⟨y.toNat, by have := hy y (List.mem_cons_self ..); omega⟩
    have hxe : x < e := by have := hx (x : Int) (List.mem_cons_self ..); omega
    have hye : y < e := by have := hy (y : Int) (List.mem_cons_self ..); omega
    obtain ⟨h1, h2⟩ := code_step e he p x m hp hxe (by omega)
    obtain ⟨h3, h4⟩ := code_step e he q y m hq hye (by omega)
    rw [codeW_cons, codeW_cons, h2, h4] at h
    obtain ⟨h5, h6⟩ := codeW_inj e he xs ys _ _ (m + 1) (by omega) (fun z hz => hx z (List.mem_cons_of_mem _ hz)) (fun z hz => hy z (List.mem_cons_of_mem _ hz)) h1 h3 (by omega) h
    have e1000 : 0 < e := by omega
    have h7 : p = q := by
      have g1 : (p * e + x) / e = p := by rw [Nat.mul_comm, Nat.mul_add_div e1000, Nat.div_eq_of_lt hxe]; omega
      have g2 : (q * e + y) / e = q := by rw [Nat.mul_comm, Nat.mul_add_div e1000, Nat.div_eq_of_lt hye]; omega
      rw [← g1, ← g2, h5]
    subst h7
    refine ⟨rfl, ?_⟩
    rw [show x = y by omega, h6]
  | [], _ :: _, _, _, _, hl, _, _, _, _, _, _ => by simp at hl
  | _ :: _, [], _, _, _, hl, _, _, _, _, _, _ => by simp at hl
def cdE (e : Nat) (x : List Int × Int) : Nat := (codeW e x.2 x.1).toNat
theorem okP_nat {a : Nat} {c : Int} (hc : 0 ≤ c ∧ c ≤ 2) {x : List Int × Int} (h : okP a c x) : ∃ p : Nat, x.2 = p ∧ (p : Int) ≤ c + 1 := by
  have := h.2.2 _ h.2.1
  exact ⟨x.2.toNat, by omega, by omega⟩
theorem cdE_eq {a : Nat} {c : Int} (ha : a ≤ 3) (hc : 0 ≤ c ∧ c ≤ 2) {x : List Int × Int} (h : okP a c x) (e : Nat) (he : e ≤ 4) (hce : c + 2 ≤ e) : codeW e x.2 x.1 = (cdE e x : Int) ∧ cdE e x < e ^ (2 * a + 1) := by
  obtain ⟨p, hp, hp2⟩ := okP_nat hc h
  obtain ⟨q, h4, h5⟩ := code_range e he x.1 p 1 (fun y hy => by have := h.2.2 y hy; omega) (by rw [Nat.pow_one]; omega) (by rw [h.1]; omega)
  rw [← hp] at h4
  unfold cdE
  rw [h4]
  exact ⟨by simp, by rw [h.1, Nat.add_comm] at h5; simpa using h5⟩
theorem cdE_inj {a : Nat} {c : Int} (ha : a ≤ 3) (hc : 0 ≤ c ∧ c ≤ 2) {x y : List Int × Int} (hx : okP a c x) (hy : okP a c y) (e : Nat) (he : e ≤ 4) (hce : c + 2 ≤ e) (h : cdE e x = cdE e y) : x = y := by
  obtain ⟨p, hp, hp2⟩ := okP_nat hc hx
  obtain ⟨q, hq, hq2⟩ := okP_nat hc hy
  have h1 := (cdE_eq ha hc hx e he hce).1
  have h2 := (cdE_eq ha hc hy e he hce).1
  rw [h, ← h2, hp, hq] at h1
  obtain ⟨h3, h4⟩ := codeW_inj e he x.1 y.1 p q 1 (by rw [hx.1, hy.1]) (fun z hz => by have := hx.2.2 z hz; omega) (fun z hz => by have := hy.2.2 z hz; omega) (by rw [Nat.pow_one]; omega) (by rw [Nat.pow_one]; omega) (by rw [hx.1]; omega) h1
  exact Prod.ext h4 (by rw [hp, hq, h3])
def succs (a : Nat) (b c : Int) (x : List Int × Int) : List (List Int × Int) := (voysAll a b c x).map fun v => (setAll v.1 v.2 x.1, v.1)
theorem bfsOk (a : Nat) (b c : Int) (hgd : good a b c = true) : BfsOk (succs a b c) (cdE (c + 2).toNat) (okP a c) ((c + 2).toNat ^ (2 * a + 1)) := by
  have hgo := good_of hgd
  refine ⟨fun x hx => (cdE_eq (by omega) (by omega) hx _ (by omega) (by omega)).2, fun x y hx hy h => cdE_inj (by omega) (by omega) hx hy _ (by omega) (by omega) h, fun x hx y hy => ?_, ?_⟩
  · obtain ⟨v, hv, rfl⟩ := List.mem_map.1 hy
    exact (voys_ok hgd hx v hv).2.2
  · have := pow_le (c + 2).toNat (2 * a + 1) (by omega) (by omega)
    omega
end Go.Proofs.Ytdgfpjlmpnfcgaa.Ev

namespace Go.Proofs.Ytdgfpjlmpnfcgaa.Ev
open Go
set_option linter.unusedVariables false
set_option linter.unusedSimpArgs false
set_option linter.unusedSectionVars false

end Go.Proofs.Ytdgfpjlmpnfcgaa.Ev

namespace Go.Proofs.Ytdgfpjlmpnfcgaa.Ev
open Go
set_option linter.unusedVariables false
set_option linter.unusedSimpArgs false
set_option linter.unusedSectionVars false

end Go.Proofs.Ytdgfpjlmpnfcgaa.Ev

namespace Go.Proofs.Ytdgfpjlmpnfcgaa.Ev
open Go
set_option linter.unusedVariables false
set_option linter.unusedSimpArgs false
end Go.Proofs.Ytdgfpjlmpnfcgaa.Ev

namespace Go.Proofs.Ytdgfpjlmpnfcgaa.Ev
open Go
set_option linter.unusedVariables false
set_option linter.unusedSimpArgs false
set_option linter.unusedSectionVars false

theorem sub_sorted : ∀ (L g : List Int), L.Pairwise (· < ·) → g.Pairwise (· < ·) → (∀ x ∈ g, x ∈ L) → List.Sublist g L
  | [], g, _, _, h => by
    cases g with
    | nil => exact List.nil_sublist _
    | cons x g => exact absurd (h x (List.mem_cons_self ..)) (by simp)
  | y :: L, g, hL, hg, h => by
    rw [List.pairwise_cons] at hL
    cases g with
    | nil => exact List.nil_sublist _
    | cons x g =>
      rw [List.pairwise_cons] at hg
      by_cases hxy : x = y
      · subst hxy
        refine List.cons_sublist_cons.2 (sub_sorted L g hL.2 hg.2 fun z hz => ?_)
        rcases List.mem_cons.1 (h z (List.mem_cons_of_mem _ hz)) with h1 | h1
        · have := hg.1 z hz; omega
        · exact h1
      · have hx : x ∈ L := by
          rcases List.mem_cons.1 (h x (List.mem_cons_self ..)) with h1 | h1
          · exact absurd h1 hxy
          · exact h1
        refine (sub_sorted L (x :: g) hL.2 (List.pairwise_cons.2 hg) fun z hz => ?_).cons y
        rcases List.mem_cons.1 hz with h1 | h1
        · rw [h1]; exact hx
        · rcases List.mem_cons.1 (h z hz) with h2 | h2
          · have h3 := hg.1 z h1
            have h4 := hL.1 x hx
            omega
          · exact h2
theorem grps_all (most : Int) : ∀ (rest l s : List Int), List.Sublist s rest → s ≠ [] → (l.length : Int) + s.length ≤ most → l ++ s ∈ grps most rest l
  | [], l, s, h, hne, _ => absurd (List.sublist_nil.1 h) hne
  | x :: rest, l, s, h, hne, hm => by
    have hs0 : 0 < s.length := List.length_pos_iff.2 hne
    rw [grps, if_pos (by omega)]
    cases h with
    | cons _ h => exact List.mem_cons_of_mem _ (List.mem_append_right _ (grps_all most rest l s h hne hm))
    | @cons_cons s' _ _ h =>
      by_cases hs' : s' = []
      · subst hs'; exact List.mem_cons_self ..
      · have := grps_all most rest (l ++ [x]) s' h hs' (by rw [List.length_append, List.length_singleton]; simp only [List.length_cons] at hm; omega)
        rw [List.append_assoc, List.singleton_append] at this
        exact List.mem_cons_of_mem _ (List.mem_append_left _ this)
theorem setAll_get (t : Int) : ∀ (g l : List Int) (m : Nat), m < l.length → (∀ k ∈ g, 0 ≤ k) → (setAll t g l)[m]? = if (m : Int) ∈ g then some t else l[m]?
  | [], l, m, _, _ => by simp [setAll]
  | k :: g, l, m, hm, hg => by
    rw [setAll, setAll_get t g _ m (by simpa using hm) (fun z hz => hg z (List.mem_cons_of_mem _ hz))]
    have hk := hg k (List.mem_cons_self ..)
    by_cases h1 : (m : Int) ∈ g
    · rw [if_pos h1, if_pos (List.mem_cons_of_mem _ h1)]
    · rw [if_neg h1]
      by_cases h2 : (m : Int) = k
      · rw [if_pos (by rw [h2]; exact List.mem_cons_self ..)]
        have : k.toNat = m := by omega
        rw [this, List.getElem?_set_self hm]
      · have : k.toNat ≠ m := by omega
        rw [if_neg (by simp [h1, h2]), List.getElem?_set_ne this]
theorem setAll_back (l : List Int) (p t : Int) (g : List Int) (hg : ∀ k ∈ g, 0 ≤ k ∧ k < l.length) (ha : atB l p g = true) : setAll p g (setAll t g l) = l := by
  refine List.ext_getElem? fun m => ?_
  rcases Nat.lt_or_ge m l.length with h | h
  · rw [setAll_get p g _ m (by rw [setAll_length]; exact h) (fun k hk => (hg k hk).1), setAll_get t g l m h (fun k hk => (hg k hk).1)]
    by_cases h1 : (m : Int) ∈ g
    · rw [if_pos h1]
      unfold atB at ha
      rw [List.all_eq_true] at ha
      have := ha _ h1
      simp only [Int.toNat_natCast, decide_eq_true_eq, List.getElem?_eq_getElem h, Option.getD_some] at this
      rw [List.getElem?_eq_getElem h, this]
    · rw [if_neg h1, if_neg h1]
  · rw [List.getElem?_eq_none h, List.getElem?_eq_none (by rw [setAll_length, setAll_length]; exact h)]
def okC (a : Nat) (c : Int) (x : List Int × Int) : Prop := okP a c x ∧ calmS a c x.1 = true
theorem rises_pair {a b : Int} {g : List Int} (h : risesB a b g = true) : g.Pairwise (· < ·) := by
  unfold risesB at h
  rw [Bool.and_eq_true, List.all_eq_true, List.all_eq_true] at h
  have h2 := h.2
  have key : ∀ (d i : Nat) (hi : i < g.length) (hj : i + d + 1 < g.length), g[i] < g[i + d + 1] := fun d => by
    induction d with
    | zero =>
      intro i hi hj
      have := h2 (i + 1) (by rw [List.mem_range'_1]; omega)
      simpa [hi, hj] using this
    | succ d ih =>
      intro i hi hj
      have h3 := ih i hi (by omega)
      have := h2 (i + (d + 1) + 1) (by rw [List.mem_range'_1]; omega)
      have h4 : g[i + d + 1]'(by omega) < g[i + (d + 1) + 1] := by
        have e : i + (d + 1) + 1 - 1 = i + d + 1 := by omega
        rw [e] at this
        have h5 : i + d + 1 < g.length := by omega
        simpa [h5, hj] using this
      omega
  rw [List.pairwise_iff_getElem]
  intro i j hi hj hij
  have := key (j - i - 1) i hi (by omega)
  have e : i + (j - i - 1) + 1 = j := by omega
  simpa [e] using this
theorem can_parts {a : Nat} {b c : Int} {l : List Int} {p t : Int} {g : List Int} (h : canB a b c l p t g = true) : (0 ≤ t ∧ t ≤ c + 1) ∧ t ≠ p ∧ (1 ≤ (g.length : Int) ∧ (g.length : Int) ≤ b) ∧ risesB 0 (l.length - 1) g = true ∧ atB l p g = true ∧ cuB a (bitsI g 0) = true ∧ calmS a c (setAll t g l) = true := by
  simp only [canB, Bool.and_eq_true, inB_iff, Bool.not_eq_true', decide_eq_false_iff_not] at h
  obtain ⟨⟨⟨⟨⟨⟨h1, h2⟩, h3⟩, h4⟩, h5⟩, h6⟩, h7⟩ := h
  exact ⟨h1, h2, h3, h4, h5, h6, h7⟩
theorem succs_iff (a : Nat) (b c : Int) (x y : List Int × Int) : y ∈ succs a b c x ↔ ∃ t g, y = (setAll t g x.1, t) ∧ canB a b c x.1 x.2 t g = true ∧ g ∈ grps b (stand x.2 0 x.1) [] ∧ ∃ n : Nat, t = n ∧ n < (c + 2).toNat := by
  unfold succs voysAll voysS cans
  simp only [List.mem_map, List.mem_flatMap, List.mem_filter, List.mem_range'_1]
  constructor
  · rintro ⟨v, ⟨n, hn, g, ⟨hg, hc⟩, rfl⟩, rfl⟩
    exact ⟨n, g, rfl, hc, hg, n, rfl, by omega⟩
  · rintro ⟨t, g, rfl, hc, hg, n, rfl, hn⟩
    exact ⟨(n, g), ⟨n, by omega, g, ⟨hg, hc⟩, rfl⟩, rfl⟩
theorem succs_ok {a : Nat} {b c : Int} (hgd : good a b c = true) {x y : List Int × Int} (hx : okP a c x) (hy : y ∈ succs a b c x) : okC a c y := by
  refine ⟨(bfsOk a b c hgd).suc x hx y hy, ?_⟩
  obtain ⟨t, g, rfl, hc, _⟩ := (succs_iff a b c x y).1 hy
  exact (can_parts hc).2.2.2.2.2.2
theorem succs_symm {a : Nat} {b c : Int} (hgd : good a b c = true) {x y : List Int × Int} (hx : okC a c x) (hy : y ∈ succs a b c x) : x ∈ succs a b c y := by
  have hgo := good_of hgd
  have hoy := succs_ok hgd hx.1 hy
  obtain ⟨t, g, rfl, hc, hg, n, rfl, hn⟩ := (succs_iff a b c x y).1 hy
  obtain ⟨h1, h2, h3, h4, h5, h6, h7⟩ := can_parts hc
  obtain ⟨p, hp, hp2⟩ := okP_nat (by omega) hx.1
  have hin := risesB_in h4
  have hgi : ∀ k ∈ g, 0 ≤ k ∧ k < x.1.length := fun k hk => by have := hin k hk; omega
  have hback := setAll_back x.1 x.2 n g hgi h5
  have hat : atB (setAll n g x.1) n g = true := by
    unfold atB
    rw [List.all_eq_true]
    intro k hk
    have hki := hgi k hk
    rw [setAll_get n g x.1 k.toNat (by omega) (fun k hk => (hgi k hk).1), if_pos (by rw [show ((k.toNat : Nat) : Int) = k by omega]; exact hk)]
    simp
  rw [succs_iff]
  refine ⟨x.2, g, by rw [hback], ?_, ?_, p, hp, by omega⟩
  · unfold canB
    rw [(inB_iff _ _ _).2 (by rw [hp]; omega : 0 ≤ x.2 ∧ x.2 ≤ c + 1), (inB_iff _ _ _).2 h3, setAll_length, h4, hat, h6, hback, hx.2]
    simp [Ne.symm h2]
  · have := grps_all b (stand (n : Int) 0 (setAll n g x.1)) [] g (sub_sorted _ _ (stand_pair _ _ _) (rises_pair h4) fun k hk => (stand_mem n k _ 0).2 ⟨k.toNat, ?_, by have := hgi k hk; omega⟩) (fun e => by rw [e] at h3; simp at h3) (by simp; omega)
    · simpa using this
    · have hki := hgi k hk
      rw [setAll_get n g x.1 k.toNat (by omega) (fun k hk => (hgi k hk).1), if_pos (by rw [show ((k.toNat : Nat) : Int) = k by omega]; exact hk)]
def allAt (a : Nat) (p : Nat) : List Int × Int := (List.replicate (2 * a) (p : Int), (p : Int))
theorem allAt_ok (a : Nat) (ha : 1 ≤ a) (c : Int) (p : Nat) (hp : (p : Int) ≤ c + 1) : okC a c (allAt a p) := by
  refine ⟨⟨by simp [allAt], ?_, fun y hy => ?_⟩, ?_⟩
  · simp [allAt]; omega
  · simp [allAt] at hy; omega
  · unfold calmS
    rw [List.all_eq_true]
    intro i _
    rw [cuB_iff]
    rintro ⟨⟨i', hi', h3, h4⟩, _⟩
    refine h4 ((bitsAt_test _ _ _ _ _).2 (.inr ?_))
    rcases (bitsAt_test _ _ _ _ _).1 h3 with h | ⟨m, h5, h6⟩
    · simp at h
    · refine ⟨2 * i', ?_, by omega⟩
      simp only [allAt] at h5 ⊢
      have := List.mem_of_getElem? h5
      rw [List.eq_of_mem_replicate this, List.getElem?_replicate, if_pos (by omega)]
end Go.Proofs.Ytdgfpjlmpnfcgaa.Ev

namespace Go.Proofs.Ytdgfpjlmpnfcgaa.Ev
open Go
set_option linter.unusedVariables false
set_option linter.unusedSimpArgs false
set_option linter.unusedSectionVars false
attribute [local simp] til_getE til_length til_get til_drop til_take til_snoc til_fold take_snoc til_set tin_getE tin_length tin_take tleN_length tleN_getE
theorem r49 (a b c p : Int) (ha : 1 ≤ a ∧ a ≤ 10) : ownR env 49 [.agg [ti a, ti b, ti c], ti p] = some (.agg [.ref 0 0 (2 * a).toNat, .t (ti p)], [.pure 1 (til (List.replicate (2 * a).toNat p))]) := by
  rw [own_ir e49 _ rfl]
  have h57 := r66 a b c (by omega)
  obtain ⟨k, rfl⟩ : ∃ k : Nat, a = k := ⟨a.toNat, by omega⟩
  have e : (2 * (k : Int)).toNat = 2 * k := by omega
  have h64 : ownR env 76 [.lst 1 [.int .i64 p], ti (2 * (k : Int))] = some (.ref 0 0 (2 * k), [.pure 1 (til (List.replicate (2 * k) p))]) := by
    have := r76 p (2 * k) (by omega) (by omega)
    rw [show ((2 * k : Nat) : Int) = 2 * (k : Int) by omega] at this
    exact this
  rw [e]
  simp [ir49, ir49_c, h57, h64, til_flat]
end Go.Proofs.Ytdgfpjlmpnfcgaa.Ev

namespace Go.Proofs.Ytdgfpjlmpnfcgaa.Ev
open Go
set_option linter.unusedVariables false
set_option linter.unusedSimpArgs false
set_option linter.unusedSectionVars false
attribute [local simp] til_getE til_length til_get til_drop til_take til_snoc til_fold take_snoc til_set
def idxB (pr : Int → Bool) : Nat → List Int → Int
  | _, [] => -1
  | i, y :: ys => if pr y then i else idxB pr (i + 1) ys
theorem idxB_nonneg (pr : Int → Bool) : ∀ (ys : List Int) (i : Nat), 0 ≤ idxB pr i ys ↔ ys.any pr = true
  | [], i => by simp [idxB]
  | y :: ys, i => by
    simp only [idxB]
    split
    · rename_i h; simp [h]
    · rename_i h; rw [idxB_nonneg pr ys (i + 1)]; simp [h]
theorem w85 (f : FuncId) (caps : List T) (pr : Int → Bool) (g : List Int) (hpr : ∀ x ∈ g, ∀ H, evCall env (den env) f (.t (.int .i64 x) :: caps.map .t) H = some (.t (tb (pr x)), H)) (hg : g.length ≤ 1000000) : ∀ (d i : Nat), i + d = g.length →
    endO [.tmp 4] (andN (outB 0 (loopF env true [0, 1, 7, 8] ir85_b0 ([(0, .t (tl g)), (1, .t (.clo f [] caps)), (7, .t (ti g.length)), (8, .t (ti i))], []))) (execD env (.seq (.reg false [] [⟨some 4, none, .mv (.k (ti (-1)))⟩]) .ret))) = some (.t (ti (idxB pr i (g.drop i))), [])
  | 0, i, hi => by
    rw [x85_0]
    have : i = g.length := by omega
    subst this
    simp [ir85_d0, idxB]
  | d + 1, i, hi => by
    rw [x85_0]
    have hlt : i < g.length := by omega
    have hw : IntKind.i64.wrap ((i : Int) + 1) = (i : Int) + 1 := w76 (by omega)
    have ih := w85 f caps pr g hpr hg d (i + 1) (by omega)
    have hp := hpr g[i] (List.getElem_mem hlt)
    have hs : idxB pr i (g.drop i) = if pr g[i] then (i : Int) else idxB pr (i + 1) (g.drop (i + 1)) := by rw [List.drop_eq_getElem_cons hlt, idxB]
    rw [hs]
    cases h : pr g[i] with
    | true =>
      rw [h] at hp
      simp [ir85_d0, hlt, hw, hp]
    | false =>
      rw [h] at hp
      simp at ih
      simp [ir85_d0, hlt, hw, hp, ih]
theorem r78g (f : FuncId) (caps : List T) (pr : Int → Bool) (g : List Int) (hpr : ∀ x ∈ g, ∀ H, evCall env (den env) f (.t (.int .i64 x) :: caps.map .t) H = some (.t (tb (pr x)), H)) (hg : g.length ≤ 1000000) : ownR env 85 [tl g, .clo f [] caps] = some (.t (ti (idxB pr 0 g)), []) := by
  rw [own_ir e85 _ rfl]
  have hl := w85 f caps pr g hpr hg g.length 0 (by omega)
  simp at hl
  simp [ir85, ir85_c, hl]
theorem r73g (f : FuncId) (caps : List T) (pr : Int → Bool) (g : List Int) (hpr : ∀ x ∈ g, ∀ H, evCall env (den env) f (.t (.int .i64 x) :: caps.map .t) H = some (.t (tb (pr x)), H)) (hg : g.length ≤ 1000000) : ownR env 70 [tl g, .clo f [] caps] = some (.t (tb (g.any pr)), []) := by
  rw [own_ir e70 _ rfl]
  have h : decide (0 ≤ idxB pr 0 g) = g.any pr := by rw [Bool.eq_iff_iff]; simp only [decide_eq_true_eq]; exact idxB_nonneg pr g 0
  simp [ir70, ir70_c, r78g f caps pr g hpr hg, h]
@[simp] theorem r83 (x a b : Int) : ownR env 83 [ti x, .ptr (ti a), .ptr (ti b)] = some (.t (tb (!inB x a b)), []) := by
  rw [own_ir e83 _ rfl]
  cases h : inB x a b <;> simp [ir83, ir83_c, h]
def LN (X : T) (l : List Int) : Prop := (X = .nil ∧ l = []) ∨ X = .lst 1 (til l)
theorem LN.len {X : T} {l : List Int} (h : LN X l) (H : Heap) : evLen H 1 (.t X) = some (l.length : Int) := by
  rcases h with ⟨rfl, rfl⟩ | rfl <;> simp
theorem LN.tl {X : T} {l : List Int} (h : LN X l) (hl : l ≠ []) : X = .lst 1 (til l) := by
  rcases h with ⟨_, rfl⟩ | h
  · exact absurd rfl hl
  · exact h
theorem LN.of (l : List Int) : LN (.lst 1 (til l)) l := .inr rfl
def areB (l : List Int) (a b lo hi : Int) : Bool := inB l.length lo hi && l.all fun x => inB x a b
theorem r65 (X : T) (l : List Int) (hX : LN X l) (a b lo hi : Int) (hlo : 1 ≤ lo) (hhi : hi ≤ 1000) : ownR env 65 [X, ti a, ti b, ti lo, ti hi] = some (.t (tb (areB l a b lo hi)), []) := by
  rw [own_ir e65 _ rfl]
  have hlen := hX.len
  unfold areB
  cases h : inB l.length lo hi with
  | false => simp [ir65, ir65_c, hlen, h]
  | true =>
    rw [inB_iff] at h
    have hne : l ≠ [] := fun e => by subst e; simp at h; omega
    have hXl := hX.tl hne
    subst hXl
    have h73 := r73g 83 [.ptr (ti a), .ptr (ti b)] (fun x => !inB x a b) l (fun x hx H => by simp) (by omega)
    have ha : (l.any fun x => !inB x a b) = !(l.all fun x => inB x a b) := by
      rw [List.all_eq_not_any_not]; simp
    rw [ha] at h73
    have h' : inB l.length lo hi = true := (inB_iff _ _ _).2 h
    cases hl : l.all fun x => inB x a b with
    | true => rw [hl] at h73; simp at h73; simp [ir65, ir65_c, h', h73]
    | false => rw [hl] at h73; simp at h73; simp [ir65, ir65_c, h', h73]
theorem w62 (l : List Int) (a b : Int) (hl : l.length ≤ 1000000) : ∀ (d i : Nat), i + d = l.length →
    endO [.tmp 6] (andN (outB 0 (loopF env true [1, 2, 9, 10, 11] ir62_b0 ([(1, .t (ti a)), (2, .t (ti b)), (9, .t (tl l)), (10, .t (ti l.length)), (11, .t (ti i))], []))) (execD env (.seq (.reg false [] [⟨some 6, none, .mv (.k (tb true))⟩]) .ret))) = some (.t (tb ((l.drop i).all fun x => inB x a b)), [])
  | 0, i, hi => by
    rw [x62_0]
    have : i = l.length := by omega
    subst this
    simp [ir62_d0]
  | d + 1, i, hi => by
    rw [x62_0]
    have hlt : i < l.length := by omega
    have hw : IntKind.i64.wrap ((i : Int) + 1) = (i : Int) + 1 := w76 (by omega)
    have ih := w62 l a b hl d (i + 1) (by omega)
    have hs : (l.drop i).all (fun x => inB x a b) = (inB l[i] a b && (l.drop (i + 1)).all fun x => inB x a b) := by rw [List.drop_eq_getElem_cons hlt]; rfl
    rw [hs]
    generalize (l.drop (i + 1)).all (fun x => inB x a b) = A at *
    simp at ih
    cases h1 : inB l[i] a b with
    | false => simp [ir62_d0, hlt, hw, h1]
    | true => simp [ir62_d0, hlt, hw, h1, ih]
theorem r62 (l : List Int) (a b : Int) (hl : l.length ≤ 1000000) : ownR env 62 [tl l, ti a, ti b] = some (.t (tb (l.all fun x => inB x a b)), []) := by
  rw [own_ir e62 _ rfl]
  have h := w62 l a b hl l.length 0 (by omega)
  simp at h
  simp [ir62, ir62_c, h]
theorem w63 (l : List Int) (y : Int) (hl : l.length ≤ 1000000) : ∀ (d i : Nat), i + d = l.length →
    endO [.tmp 4] (andN (outB 0 (loopF env true [1, 7, 8, 9] ir63_b0 ([(1, .t (ti y)), (7, .t (tl l)), (8, .t (ti l.length)), (9, .t (ti i))], []))) (execD env (.seq (.reg false [] [⟨some 4, none, .mv (.k (tb false))⟩]) .ret))) = some (.t (tb (decide (y ∈ l.drop i))), [])
  | 0, i, hi => by
    rw [x63_0]
    have : i = l.length := by omega
    subst this
    simp [ir63_d0]
  | d + 1, i, hi => by
    rw [x63_0]
    have hlt : i < l.length := by omega
    have hw : IntKind.i64.wrap ((i : Int) + 1) = (i : Int) + 1 := w76 (by omega)
    have ih := w63 l y hl d (i + 1) (by omega)
    have hs : decide (y ∈ l.drop i) = (decide (l[i] = y) || decide (y ∈ l.drop (i + 1))) := by
      have hm : y ∈ l.drop i ↔ l[i] = y ∨ y ∈ l.drop (i + 1) := by rw [List.drop_eq_getElem_cons hlt, List.mem_cons, eq_comm]
      rw [Bool.eq_iff_iff, Bool.or_eq_true, decide_eq_true_eq, decide_eq_true_eq, decide_eq_true_eq, hm]
    rw [hs]
    generalize decide (y ∈ l.drop (i + 1)) = A at *
    simp at ih
    by_cases h1 : l[i] = y
    · simp [ir63_d0, hlt, hw, h1]
    · simp [ir63_d0, hlt, hw, h1, ih]
theorem r63 (l : List Int) (y : Int) (hl : l.length ≤ 1000000) : ownR env 63 [tl l, ti y] = some (.t (tb (decide (y ∈ l))), []) := by
  rw [own_ir e63 _ rfl]
  have h := w63 l y hl l.length 0 (by omega)
  simp at h
  simp [ir63, ir63_c, h]
def riseB (g : List Int) : Bool := (List.range' 1 (g.length - 1)).all fun j => decide (g[j - 1]?.getD 0 < g[j]?.getD 0)
theorem w69 (g : List Int) (hg : g.length ≤ 1000000) : ∀ (d i : Nat), i + d = g.length → 1 ≤ i →
    endO [.tmp 2] (andN (outB 0 (loopF env true [0, 3] ir69_b0 ([(0, .t (tl g)), (3, .t (ti i))], []))) (execD env (.seq (.reg false [] [⟨some 2, none, .mv (.k (tb true))⟩]) .ret))) = some (.t (tb ((List.range' i d).all fun j => decide (g[j - 1]?.getD 0 < g[j]?.getD 0))), [])
  | 0, i, hi, h1 => by
    rw [x69_0]
    simp [ir69_d0, show ¬ (i < g.length) by omega]
  | d + 1, i, hi, h1 => by
    rw [x69_0]
    have hlt : i < g.length := by omega
    have hw : IntKind.i64.wrap ((i : Int) + 1) = (i : Int) + 1 := w76 (by omega)
    have hw2 : IntKind.i64.wrap ((i : Int) - 1) = (i : Int) - 1 := w76 (by omega)
    have ih := w69 g hg d (i + 1) (by omega) (by omega)
    have hr : List.range' i (d + 1) = i :: List.range' (i + 1) d := rfl
    rw [hr, List.all_cons]
    generalize ((List.range' (i + 1) d).all fun j => decide (g[j - 1]?.getD 0 < g[j]?.getD 0)) = R at *
    simp at ih
    have e2001 : ((i : Int) - 1).toNat = i - 1 := by omega
    have e2002 : i - 1 < g.length := by omega
    by_cases h2 : g[i] ≤ g[i - 1]
    · have h3 : ¬ (g[i - 1] < g[i]) := by omega
      simp [ir69_d0, hlt, hw, hw2, e2001, e2002, h2, h3, show (1 : Int) ≤ i by omega]
    · have h3 : g[i - 1] < g[i] := by omega
      simp [ir69_d0, hlt, hw, hw2, e2001, e2002, h2, h3, ih, show (1 : Int) ≤ i by omega]
theorem r69 (g : List Int) (hg : g.length ≤ 1000000) (h0 : g ≠ []) : ownR env 69 [tl g] = some (.t (tb (riseB g)), []) := by
  rw [own_ir e69 _ rfl]
  have hp : 0 < g.length := List.length_pos_iff.2 h0
  have h := w69 g hg (g.length - 1) 1 (by omega) (by omega)
  simp at h
  simp [ir69, ir69_c, h, riseB]
end Go.Proofs.Ytdgfpjlmpnfcgaa.Ev

namespace Go.Proofs.Ytdgfpjlmpnfcgaa.Ev
open Go
set_option linter.unusedVariables false
set_option linter.unusedSimpArgs false
set_option linter.unusedSectionVars false
attribute [local simp] til_getE til_length til_get til_drop til_take til_snoc til_fold take_snoc til_set
def plB (a b c : Int) (l : List Int) (p : Int) : Bool := good a b c && (decide ((l.length : Int) = 2 * a) && ((l.all fun x => inB x 0 (c + 1)) && decide (p ∈ l)))
theorem plB_ok {a : Nat} {b c : Int} {l : List Int} {p : Int} (h : plB a b c l p = true) : good a b c = true ∧ okP a c (l, p) := by
  simp only [plB, Bool.and_eq_true, decide_eq_true_eq, List.all_eq_true, inB_iff] at h
  obtain ⟨h1, h2, h3, h4⟩ := h
  exact ⟨h1, by show l.length = 2 * a; omega, h4, fun y hy => h3 y hy⟩
theorem ok_plB {a : Nat} {b c : Int} {l : List Int} {p : Int} (hg : good a b c = true) (h : okP a c (l, p)) : plB a b c l p = true := by
  simp only [plB, Bool.and_eq_true, decide_eq_true_eq, List.all_eq_true, inB_iff]
  have := h.1
  simp only at this
  exact ⟨hg, by omega, fun y hy => h.2.2 y hy, h.2.1⟩
theorem r39 (a b c : Int) (hgd : good a b c = true) (X : T) (l : List Int) (hX : LN X l) (p : Int) : ownR env 39 [.agg [ti a, ti b, ti c], .agg [X, ti p]] = some (.t (tb (plB a b c l p)), []) := by
  have hgo := good_of hgd
  have h49 := r51 a b c (by omega)
  have h57 := r66 a b c (by omega)
  have h243 := r65 X l hX 0 (c + 1) (2 * a) (2 * a) (by omega) (by omega)
  rw [own_ir e39 _ rfl]
  have hin : inB l.length (2 * a) (2 * a) = decide ((l.length : Int) = 2 * a) := by
    rw [Bool.eq_iff_iff, inB_iff, decide_eq_true_eq]; omega
  unfold areB at h243
  rw [hin] at h243
  unfold plB
  rw [hgd, Bool.true_and]
  by_cases hl : (l.length : Int) = 2 * a
  · have hne : l ≠ [] := fun e => by subst e; simp at hl; omega
    have hXl := hX.tl hne
    subst hXl
    have h72 := r67 l p (by omega)
    cases ha : l.all fun x => inB x 0 (c + 1) with
    | true => simp [hl, ha] at h243; simp [ir39, ir39_c, h49, h57, h243, h72, hl, ha]
    | false => simp [hl, ha] at h243; simp [ir39, ir39_c, h49, h57, h243, hl, ha]
  · simp [hl] at h243
    simp [ir39, ir39_c, h49, h57, h243, hl]
theorem r10 (a b c : Int) (X : T) (l : List Int) (hX : LN X l) (p : Int) : ownR env 10 [.agg [ti a, ti b, ti c], .agg [X, ti p]] = some (.t (tb (plB a b c l p)), []) := by
  rw [own_ir e10 _ rfl]
  cases hgd : good a b c with
  | true => simp [ir10, ir10_c, hgd, r39 a b c hgd X l hX p]
  | false => simp [ir10, ir10_c, hgd, plB]
theorem r36 (a b c : Int) (X : T) (l : List Int) (hX : LN X l) (p : Int) : ownR env 36 [.agg [ti a, ti b, ti c], .agg [X, ti p]] = some (.t (tb (plB a b c l p)), []) := by
  rw [own_ir e36 _ rfl]
  cases hgd : good a b c with
  | false => simp [ir36, ir36_c, hgd, plB]
  | true =>
    have hgo := good_of hgd
    have hlen := hX.len
    have hw1 : IntKind.i64.wrap (c + 1) = c + 1 := w76 (by omega)
    have hw2 : IntKind.i64.wrap (2 * a) = 2 * a := w76 (by omega)
    unfold plB
    rw [hgd, Bool.true_and]
    by_cases hl : (l.length : Int) = 2 * a
    · have hne : l ≠ [] := fun e => by subst e; simp at hl; omega
      have hXl := hX.tl hne
      subst hXl
      have h241 := r62 l 0 (c + 1) (by omega)
      have h242 := r63 l p (by omega)
      cases ha : l.all fun x => inB x 0 (c + 1) with
      | true => rw [ha] at h241; simp [ir36, ir36_c, hgd, hw1, hw2, hl, h241, h242, ha]
      | false => rw [ha] at h241; simp [ir36, ir36_c, hgd, hw1, hw2, hl, h241, ha]
    · simp [ir36, ir36_c, hgd, hw1, hw2, hlen, hl]
theorem r11 (a b c : Int) (X : T) (l : List Int) (hX : LN X l) (p : Int) : ownR env 11 [.agg [ti a, ti b, ti c], .agg [X, ti p]] = some (.t (tb (plB a b c l p)), []) := by
  rw [own_ir e11 _ rfl]
  simp [ir11, ir11_c, r36 a b c X l hX p]
@[simp] theorem r13 (a b c : Int) : ownR env 13 [.agg [ti a, ti b, ti c]] = some (.t (tb (good a b c)), []) := by
  rw [own_ir e13 _ rfl]
  simp [ir13, ir13_c]
def askB (a b c : Int) (l : List Int) (p : Int) : Bool := plB a b c l p && calmS a.toNat c l
theorem plB_list {a b c : Int} {X : T} {l : List Int} (hX : LN X l) {p : Int} (h : plB a b c l p = true) : X = .lst 1 (til l) ∧ good a b c = true ∧ (l.length : Int) = 2 * a := by
  simp only [plB, Bool.and_eq_true, decide_eq_true_eq] at h
  obtain ⟨h1, h2, h3, h4⟩ := h
  exact ⟨hX.tl (fun e => by subst e; cases h4), h1, h2⟩
theorem r31 (a b c : Int) (X : T) (l : List Int) (hX : LN X l) (p : Int) : ownR env 31 [.agg [ti a, ti b, ti c], .agg [X, ti p]] = some (.t (tb (askB a b c l p)), []) := by
  rw [own_ir e31 _ rfl]
  have h207 := r10 a b c X l hX p
  unfold askB
  cases h : plB a b c l p with
  | false => simp [ir31, ir31_c, h207, h]
  | true =>
    obtain ⟨rfl, hgd, hl⟩ := plB_list hX h
    have hgo := good_of hgd
    have h62 := r35 a b c (by omega) p l (by omega)
    rw [calm_eq a.toNat (by omega) c l (by omega)] at h62
    simp [ir31, ir31_c, h207, h, h62]
theorem r33 (a b c : Int) (X : T) (l : List Int) (hX : LN X l) (p : Int) : ownR env 33 [.agg [ti a, ti b, ti c], .agg [X, ti p]] = some (.t (tb (askB a b c l p)), []) := by
  rw [own_ir e33 _ rfl]
  have h229 := r36 a b c X l hX p
  unfold askB
  cases h : plB a b c l p with
  | false => simp [ir33, ir33_c, h229, h]
  | true =>
    obtain ⟨rfl, hgd, hl⟩ := plB_list hX h
    have hgo := good_of hgd
    obtain ⟨k, rfl⟩ : ∃ k : Nat, a = k := ⟨a.toNat, by omega⟩
    have h68 := r37 k (by omega) b c (by omega) p l (by omega)
    simp [ir33, ir33_c, h229, h, h68]
theorem r7 (a b c : Int) (X : T) (l : List Int) (hX : LN X l) (p : Int) : ownR env 7 [.agg [ti a, ti b, ti c], .agg [X, ti p]] = some (.tup [.t (tb (askB a b c l p)), .t (tb (plB a b c l p))], []) := by
  rw [own_ir e7 _ rfl]
  have h207 := r10 a b c X l hX p
  unfold askB
  cases h : plB a b c l p with
  | false => simp [ir7, ir7_c, h207, h]
  | true =>
    obtain ⟨rfl, hgd, hl⟩ := plB_list hX h
    have hgo := good_of hgd
    have h62 := r35 a b c (by omega) p l (by omega)
    rw [calm_eq a.toNat (by omega) c l (by omega)] at h62
    simp [ir7, ir7_c, h207, h, h62]
theorem r8 (a b c : Int) (X : T) (l : List Int) (hX : LN X l) (p : Int) : ownR env 8 [.agg [ti a, ti b, ti c], .agg [X, ti p]] = some (.tup [.t (tb (askB a b c l p)), .t (tb (plB a b c l p))], []) := by
  rw [own_ir e8 _ rfl]
  have h229 := r36 a b c X l hX p
  unfold askB
  cases h : plB a b c l p with
  | false => simp [ir8, ir8_c, h229, h]
  | true =>
    obtain ⟨rfl, hgd, hl⟩ := plB_list hX h
    have hgo := good_of hgd
    obtain ⟨k, rfl⟩ : ∃ k : Nat, a = k := ⟨a.toNat, by omega⟩
    have h68 := r37 k (by omega) b c (by omega) p l (by omega)
    simp [ir8, ir8_c, h229, h, h68]
end Go.Proofs.Ytdgfpjlmpnfcgaa.Ev

namespace Go.Proofs.Ytdgfpjlmpnfcgaa.Ev
open Go
set_option linter.unusedVariables false
set_option linter.unusedSimpArgs false
set_option linter.unusedSectionVars false
attribute [local simp] til_getE til_length til_get til_drop til_take til_snoc til_fold take_snoc til_set
theorem LN.ix {X : T} {l : List Int} (h : LN X l) (H : Heap) (i : Nat) (hi : i < l.length) : evIxa H 1 (.t X) (.t (.int .i64 i)) = some (.rptr (.int .i64 l[i]) 0) := by
  rcases h with ⟨rfl, rfl⟩ | rfl
  · simp at hi
  · simp [hi]
theorem w44 (X Y : T) (l m : List Int) (hX : LN X l) (hY : LN Y m) (hlm : l.length = m.length) (hl : l.length ≤ 2 ^ 40) : ∀ (d i : Nat), i + d = l.length →
    endO [.tmp 4] (andN (outB 0 (loopF env true [0, 1, 12, 13] ir44_b0 ([(0, .t X), (1, .t Y), (12, .t (ti l.length)), (13, .t (ti i))], []))) (execD env (.seq (.reg false [] [⟨some 4, none, .mv (.k (tb true))⟩]) .ret))) = some (.t (tb (decide (l.drop i = m.drop i))), [])
  | 0, i, hi => by
    rw [x44_0]
    have : i = l.length := by omega
    subst this
    have : m.drop l.length = [] := by rw [hlm]; simp
    simp [ir44_d0, this]
  | d + 1, i, hi => by
    rw [x44_0]
    have hlt : i < l.length := by omega
    have hltm : i < m.length := by omega
    have hw : IntKind.i64.wrap ((i : Int) + 1) = (i : Int) + 1 := w76 (by omega)
    have ih := w44 X Y l m hX hY hlm hl d (i + 1) (by omega)
    have hs : decide (l.drop i = m.drop i) = (decide (l[i] = m[i]) && decide (l.drop (i + 1) = m.drop (i + 1))) := by
      rw [List.drop_eq_getElem_cons hlt, List.drop_eq_getElem_cons hltm, Bool.eq_iff_iff, Bool.and_eq_true, decide_eq_true_eq, decide_eq_true_eq, decide_eq_true_eq, List.cons.injEq]
    rw [hs]
    have hxi := fun H => hX.ix H i hlt
    have hyi := fun H => hY.ix H i hltm
    generalize decide (l.drop (i + 1) = m.drop (i + 1)) = A at *
    simp at ih
    by_cases h : l[i] = m[i]
    · simp [ir44_d0, hlt, hw, hxi, hyi, h, ih]
    · simp [ir44_d0, hlt, hw, hxi, hyi, h]
theorem r44 (X Y : T) (l m : List Int) (hX : LN X l) (hY : LN Y m) (hl : l.length ≤ 2 ^ 40) : ownR env 44 [X, Y] = some (.t (tb (decide (l = m))), []) := by
  rw [own_ir e44 _ rfl]
  have h1 := hX.len
  have h2 := hY.len
  by_cases hlm : l.length = m.length
  · have h := w44 X Y l m hX hY hlm hl l.length 0 (by omega)
    simp at h
    simp [ir44, ir44_c, h1, h2, hlm] at h ⊢
    simp [h]
  · have hne : ¬ (l = m) := fun e => hlm (by rw [e])
    have hne2 : ¬ ((l.length : Int) = m.length) := by omega
    have hd : decide ((l.length : Int) = m.length) = false := decide_eq_false hne2
    simp [ir44, ir44_c, h1, h2, hne, hd]
theorem r15 (X Y : T) (l m : List Int) (hX : LN X l) (hY : LN Y m) (hl : l.length ≤ 2 ^ 40) (p q : Int) : ownR env 15 [.agg [X, ti p], .agg [Y, ti q]] = some (.t (tb (decide (p = q) && decide (l = m))), []) := by
  rw [own_ir e15 _ rfl]
  have h := r44 X Y l m hX hY hl
  by_cases hp : p = q
  · subst hp
    generalize decide (l = m) = A at *
    rcases hX with ⟨rfl, rfl⟩ | rfl <;> rcases hY with ⟨rfl, rfl⟩ | rfl <;> simp [ir15, ir15_c, h]
  · simp [ir15, ir15_c, hp]
theorem r38 (X Y : T) (l m : List Int) (hX : LN X l) (hY : LN Y m) (hl : l.length ≤ 2 ^ 40) (p q : Int) : ownR env 38 [.agg [ti p, X], .agg [ti q, Y]] = some (.t (tb (decide (p = q) && decide (l = m))), []) := by
  rw [own_ir e38 _ rfl]
  have h := r44 X Y l m hX hY hl
  by_cases hp : p = q
  · subst hp
    generalize decide (l = m) = A at *
    rcases hX with ⟨rfl, rfl⟩ | rfl <;> rcases hY with ⟨rfl, rfl⟩ | rfl <;> simp [ir38, ir38_c, h]
  · simp [ir38, ir38_c, hp]
def LV (X : T) (vs : List (Int × List Int)) : Prop := (X = .nil ∧ vs = []) ∨ X = .lst 2 (tlv vs)
theorem LV.len {X : T} {vs : List (Int × List Int)} (h : LV X vs) (H : Heap) : evLen H 1 (.t X) = some (vs.length : Int) := by
  rcases h with ⟨rfl, rfl⟩ | rfl <;> simp [tlv_length]
theorem LV.ix {X : T} {vs : List (Int × List Int)} (h : LV X vs) (H : Heap) (i : Nat) (hi : i < vs.length) : evIxa H 2 (.t X) (.t (.int .i64 i)) = some (.rptr (.agg [.int .i64 vs[i].1, .lst 1 (til vs[i].2)]) 0) := by
  rcases h with ⟨rfl, rfl⟩ | rfl
  · simp at hi
  · simp [hi, tlv_length, tlv_getE]
theorem w9 (X Y : T) (vs us : List (Int × List Int)) (hX : LV X vs) (hY : LV Y us) (hlm : vs.length = us.length) (hl : vs.length ≤ 2 ^ 40) (hg : ∀ v ∈ vs, v.2.length ≤ 2 ^ 40) : ∀ (d i : Nat), i + d = vs.length →
    endO [.tmp 4] (andN (outB 0 (loopF env true [0, 1, 12, 13] ir9_b0 ([(0, .t X), (1, .t Y), (12, .t (ti vs.length)), (13, .t (ti i))], []))) (execD env (.seq (.reg false [] [⟨some 4, none, .mv (.k (tb true))⟩]) .ret))) = some (.t (tb (decide (vs.drop i = us.drop i))), [])
  | 0, i, hi => by
    rw [x9_0]
    have : i = vs.length := by omega
    subst this
    have : us.drop vs.length = [] := by rw [hlm]; simp
    simp [ir9_d0, this]
  | d + 1, i, hi => by
    rw [x9_0]
    have hlt : i < vs.length := by omega
    have hltm : i < us.length := by omega
    have hw : IntKind.i64.wrap ((i : Int) + 1) = (i : Int) + 1 := w76 (by omega)
    have ih := w9 X Y vs us hX hY hlm hl hg d (i + 1) (by omega)
    have hs : decide (vs.drop i = us.drop i) = ((decide (vs[i].1 = us[i].1) && decide (vs[i].2 = us[i].2)) && decide (vs.drop (i + 1) = us.drop (i + 1))) := by
      rw [List.drop_eq_getElem_cons hlt, List.drop_eq_getElem_cons hltm, Bool.eq_iff_iff, Bool.and_eq_true, Bool.and_eq_true, decide_eq_true_eq, decide_eq_true_eq, decide_eq_true_eq, decide_eq_true_eq, List.cons.injEq, Prod.ext_iff]
    rw [hs]
    have hxi := fun H => hX.ix H i hlt
    have hyi := fun H => hY.ix H i hltm
    have h230 := r38 _ _ vs[i].2 us[i].2 (LN.of _) (LN.of _) (hg _ (List.getElem_mem hlt)) vs[i].1 us[i].1
    generalize decide (vs.drop (i + 1) = us.drop (i + 1)) = A at *
    generalize (decide (vs[i].1 = us[i].1) && decide (vs[i].2 = us[i].2)) = B at *
    simp at ih
    cases B with
    | true => simp [ir9_d0, hlt, hw, hxi, hyi, h230, ih]
    | false => simp [ir9_d0, hlt, hw, hxi, hyi, h230]
theorem r9 (X Y : T) (vs us : List (Int × List Int)) (hX : LV X vs) (hY : LV Y us) (hl : vs.length ≤ 2 ^ 40) (hg : ∀ v ∈ vs, v.2.length ≤ 2 ^ 40) : ownR env 9 [X, Y] = some (.t (tb (decide (vs = us))), []) := by
  rw [own_ir e9 _ rfl]
  have h1 := hX.len
  have h2 := hY.len
  by_cases hlm : vs.length = us.length
  · have h := w9 X Y vs us hX hY hlm hl hg vs.length 0 (by omega)
    simp at h
    simp [ir9, ir9_c, h1, h2, hlm] at h ⊢
    simp [h]
  · have hne : ¬ (vs = us) := fun e => hlm (by rw [e])
    have hne2 : ¬ ((vs.length : Int) = us.length) := by omega
    have hd : decide ((vs.length : Int) = us.length) = false := decide_eq_false hne2
    simp [ir9, ir9_c, h1, h2, hne, hd]
end Go.Proofs.Ytdgfpjlmpnfcgaa.Ev

namespace Go.Proofs.Ytdgfpjlmpnfcgaa.Ev
open Go
set_option linter.unusedVariables false
set_option linter.unusedSimpArgs false
set_option linter.unusedSectionVars false
attribute [local simp] til_getE til_length til_get til_drop til_take til_snoc til_fold take_snoc til_set
theorem r71 (l : List Int) (p : Int) (k : Int) (hk : 0 ≤ k ∧ k < l.length) : ownR env 71 [ti k, .ptr (.agg [tl l, ti p])] = some (.t (tb (!decide (l[k.toNat]?.getD 0 = p))), []) := by
  rw [own_ir e71 _ rfl]
  obtain ⟨n, rfl⟩ : ∃ n : Nat, k = n := ⟨k.toNat, by omega⟩
  have hn : n < l.length := by omega
  have h1 : l[n]?.getD 0 = l[n] := by simp [hn]
  simp only [Int.toNat_natCast, h1]
  by_cases h : l[n] = p <;> simp [ir71, ir71_c, hn, h]
theorem rises_eq (lo hi : Int) (g : List Int) : risesB lo hi g = (g.all (fun x => inB x lo hi) && riseB g) := by
  unfold risesB riseB
  congr 1
  rw [Bool.eq_iff_iff, List.all_eq_true, List.all_eq_true]
  constructor
  · intro h j hj
    rw [List.mem_range'_1] at hj
    have := h j (by rw [List.mem_range'_1]; omega)
    simp only [Bool.or_eq_true, decide_eq_true_eq] at this
    rcases this with h0 | h0
    · omega
    · simpa using h0
  · intro h j hj
    rw [List.mem_range'_1] at hj
    rcases Nat.eq_zero_or_pos j with h0 | h0
    · simp [h0]
    · have := h j (by rw [List.mem_range'_1]; omega)
      rw [this]; simp
theorem r42 (a : Nat) (b c : Int) (hgd : good a b c = true) (l : List Int) (hl : l.length = 2 * a) (p t : Int) (G : T) (g : List Int) (hG : LN G g) : ownR env 42 [.agg [ti a, ti b, ti c], .agg [tl l, ti p], .agg [ti t, G]] = some (.t (tb (canB a b c l p t g)), []) := by
  have hgo := good_of hgd
  have h49 := r51 a b c (by omega)
  have h57 := r66 a b c (by omega)
  have hw : IntKind.i64.wrap (2 * (a : Int) - 1) = 2 * (a : Int) - 1 := w76 (by omega)
  have h243 := r65 G g hG 0 (2 * (a : Int) - 1) 1 b (by omega) (by omega)
  have e1000 : ((l.length : Int) - 1) = 2 * (a : Int) - 1 := by omega
  have hc0 : canB a b c l p t g = (inB t 0 (c + 1) && (!decide (t = p) && (areB g 0 (2 * (a : Int) - 1) 1 b && (riseB g && (atB l p g && (cuB a (bitsI g 0) && calmS a c (setAll t g l))))))) := by
    unfold canB areB
    rw [rises_eq, e1000]
    simp only [Bool.and_assoc]
  rw [hc0, own_ir e42 _ rfl]
  cases h1 : inB t 0 (c + 1) with
  | false => simp [ir42, ir42_c, h49, h1]
  | true =>
    by_cases h2 : t = p
    · subst h2
      simp [ir42, ir42_c, h49, h1]
    · cases h3 : areB g 0 (2 * (a : Int) - 1) 1 b with
      | false => rw [h3] at h243; rcases hG with ⟨rfl, rfl⟩ | rfl <;> simp [ir42, ir42_c, h49, h1, h2, h57, hw, h243]
      | true =>
        rw [h3] at h243
        unfold areB at h3
        rw [Bool.and_eq_true, inB_iff, List.all_eq_true] at h3
        have hne : g ≠ [] := fun e => by subst e; simp at h3
        have hGl := hG.tl hne
        subst hGl
        have hin : ∀ k ∈ g, 0 ≤ k ∧ k < l.length := fun k hk => by
          have := (inB_iff _ _ _).1 (h3.2 k hk); omega
        have h244 := r69 g (by omega) hne
        cases h4 : riseB g with
        | false => rw [h4] at h244; simp [ir42, ir42_c, h49, h1, h2, h57, hw, h243, h244]
        | true =>
          rw [h4] at h244
          have h73 := r73g 71 [.ptr (.agg [tl l, ti p])] (fun k => !decide (l[k.toNat]?.getD 0 = p)) g (fun x hx H => by simp [r71 l p x (hin x hx)]) (by omega)
          have hat : (g.any fun k => !decide (l[k.toNat]?.getD 0 = p)) = !(atB l p g) := by
            unfold atB
            rw [List.all_eq_not_any_not]; simp
          rw [hat] at h73
          have h61 := r60 g (by omega)
          rw [group_calm a (by omega) g (fun x hx => by have := hin x hx; omega)] at h61
          have h44 := r43 l g p t (by omega) (by omega) hin
          have hsl := setAll_length t g l
          have h62 := r35 a b c (by omega) t (setAll t g l) (by omega)
          rw [calm_eq a (by omega) c _ (by omega)] at h62
          have htk : (setAll t g l).take l.length = setAll t g l := List.take_of_length_le (by omega)
          generalize setAll t g l = L at *
          cases h5 : atB l p g with
          | false => rw [h5] at h73; simp at h73; simp [ir42, ir42_c, h49, h1, h2, h57, hw, h243, h244, h73]
          | true =>
            rw [h5] at h73
            simp at h73
            cases h6 : cuB a (bitsI g 0) with
            | false => rw [h6] at h61; simp [ir42, ir42_c, h49, h1, h2, h57, hw, h243, h244, h73, h61]
            | true => rw [h6] at h61; simp [ir42, ir42_c, h49, h1, h2, h57, hw, h243, h244, h73, h61, h44, htk, h62]
end Go.Proofs.Ytdgfpjlmpnfcgaa.Ev

namespace Go.Proofs.Ytdgfpjlmpnfcgaa.Ev
open Go
set_option linter.unusedVariables false
set_option linter.unusedSimpArgs false
set_option linter.unusedSectionVars false
attribute [local simp] til_getE til_length til_get til_drop til_take til_snoc til_fold take_snoc til_set
theorem r45n (a : Nat) (b c : Int) (hgd : good a b c = true) (l : List Int) (hl : l.length = 2 * a) (p t : Int) (G : T) (g : List Int) (hG : LN G g) : ownR env 45 [.agg [ti a, ti b, ti c], .agg [tl l, ti p], .agg [ti t, G]] = some (.t (tb (canB a b c l p t g)), []) := by
  have hgo := good_of hgd
  cases hn : inB g.length 1 b with
  | true =>
    have hn' := (inB_iff _ _ _).1 hn
    have hne : g ≠ [] := fun e => by subst e; simp at hn'
    have := hG.tl hne
    subst this
    exact r45 a b c hgd l hl p t g (by omega)
  | false =>
    have hf : canB a b c l p t g = false := by unfold canB; rw [hn]; simp
    have hw1 : IntKind.i64.wrap (c + 1) = c + 1 := w76 (by omega)
    have hlen := hG.len
    rw [hf, own_ir e45 _ rfl]
    cases h1 : inB t 0 (c + 1) with
    | false => simp [ir45, ir45_c, hw1, h1]
    | true =>
      by_cases h2 : t = p
      · subst h2; simp [ir45, ir45_c, hw1, h1]
      · simp [ir45, ir45_c, hw1, h1, h2, hlen, hn]
def sailR (ok : Bool) (n : Nat) (L : List Int) (t : Int) : Option (V × Heap) := if ok then some (.tup [.agg [.ref 0 0 n, .t (ti t)], .t (tb true)], [.pure 1 (til L)]) else some (.tup [.agg [.t .nil, .t (ti 0)], .t (tb false)], [])
theorem can_in {a : Nat} {b c : Int} {l : List Int} {p t : Int} {g : List Int} (hb : b ≤ 3) (h : canB a b c l p t g = true) : g ≠ [] ∧ g.length ≤ 3 ∧ ∀ k ∈ g, 0 ≤ k ∧ k < l.length := by
  simp only [canB, Bool.and_eq_true, inB_iff] at h
  obtain ⟨⟨⟨⟨⟨⟨h1, h2⟩, h3⟩, h4⟩, h5⟩, h6⟩, h7⟩ := h
  have hin := risesB_in h4
  exact ⟨fun e => by subst e; simp at h3, by omega, fun k hk => by have := hin k hk; omega⟩
theorem r14 (a b c : Int) (X : T) (l : List Int) (hX : LN X l) (p t : Int) (G : T) (g : List Int) (hG : LN G g) : ownR env 14 [.agg [ti a, ti b, ti c], .agg [X, ti p], .agg [ti t, G]] = sailR (askB a b c l p && canB a.toNat b c l p t g) l.length (setAll t g l) t := by
  rw [own_ir e14 _ rfl]
  have h227 := r31 a b c X l hX p
  cases ha : askB a b c l p with
  | false => rw [ha] at h227; simp [ir14, ir14_c, h227, sailR]
  | true =>
    rw [ha] at h227
    have hpl : plB a b c l p = true := by unfold askB at ha; rw [Bool.and_eq_true] at ha; exact ha.1
    obtain ⟨rfl, hgd, hl⟩ := plB_list hX hpl
    have hgo := good_of hgd
    obtain ⟨k, rfl⟩ : ∃ k : Nat, a = k := ⟨a.toNat, by omega⟩
    have h232 := r42 k b c hgd l (by omega) p t G g hG
    rw [Int.toNat_natCast, Bool.true_and]
    cases hc : canB k b c l p t g with
    | false => rw [hc] at h232; rcases hG with ⟨rfl, rfl⟩ | rfl <;> simp [ir14, ir14_c, h227, h232, sailR]
    | true =>
      rw [hc] at h232
      obtain ⟨hne, hg3, hin⟩ := can_in (by omega) hc
      have := hG.tl hne
      subst this
      have h44 := r43 l g p t (by omega) (by omega) hin
      simp [ir14, ir14_c, h227, h232, h44, sailR, til_flat]
theorem r17 (a b c : Int) (X : T) (l : List Int) (hX : LN X l) (p t : Int) (G : T) (g : List Int) (hG : LN G g) : ownR env 17 [.agg [ti a, ti b, ti c], .agg [X, ti p], .agg [ti t, G]] = sailR (askB a b c l p && canB a.toNat b c l p t g) l.length (setAll t g l) t := by
  rw [own_ir e17 _ rfl]
  have h228 := r33 a b c X l hX p
  cases ha : askB a b c l p with
  | false => rw [ha] at h228; simp [ir17, ir17_c, h228, sailR]
  | true =>
    rw [ha] at h228
    have hpl : plB a b c l p = true := by unfold askB at ha; rw [Bool.and_eq_true] at ha; exact ha.1
    obtain ⟨rfl, hgd, hl⟩ := plB_list hX hpl
    have hgo := good_of hgd
    obtain ⟨k, rfl⟩ : ∃ k : Nat, a = k := ⟨a.toNat, by omega⟩
    have h53 := r45n k b c hgd l (by omega) p t G g hG
    rw [Int.toNat_natCast, Bool.true_and]
    cases hc : canB k b c l p t g with
    | false => rw [hc] at h53; rcases hG with ⟨rfl, rfl⟩ | rfl <;> simp [ir17, ir17_c, h228, h53, sailR]
    | true =>
      rw [hc] at h53
      obtain ⟨hne, hg3, hin⟩ := can_in (by omega) hc
      have := hG.tl hne
      subst this
      have h33 := r46 l g p t (by omega) (by omega) hin
      simp [ir17, ir17_c, h228, h53, h33, sailR, til_flat]
theorem r5 (a b c : Int) (X : T) (l : List Int) (hX : LN X l) (p : Int) : ownFR env 5 [.agg [ti a, ti b, ti c], .agg [X, ti p]] = if askB a b c l p then some (.tup [.ref 0 0 (voysAll a.toNat b c (l, p)).length, .t (tb true)], [.pure 2 (tlv (voysAll a.toNat b c (l, p)))]) else some (.tup [.t .nil, .t (tb false)], []) := by
  rw [ownF_ir e5 _ rfl]
  have h227 := r31 a b c X l hX p
  cases ha : askB a b c l p with
  | false => rw [ha] at h227; simp [ir5, ir5_c, h227]
  | true =>
    rw [ha] at h227
    have hpl : plB a b c l p = true := by unfold askB at ha; rw [Bool.and_eq_true] at ha; exact ha.1
    obtain ⟨rfl, hgd, hl⟩ := plB_list hX hpl
    have hgo := good_of hgd
    obtain ⟨k, rfl⟩ : ∃ k : Nat, a = k := ⟨a.toNat, by omega⟩
    have h43 := r32 k b c (by omega) (by omega) l (by omega) p
    rw [show voysP b c l p 0 (c + 2).toNat = voysAll k b c (l, p) from voys_eq k b c hgd (l, p) (plB_ok hpl).2] at h43
    rw [Int.toNat_natCast]
    simp [ir5, ir5_c, h227, h43]
theorem r6 (a b c : Int) (X : T) (l : List Int) (hX : LN X l) (p : Int) : ∃ Y, LV Y (if askB a b c l p then voysAll a.toNat b c (l, p) else []) ∧ (ownFR env 6 [.agg [ti a, ti b, ti c], .agg [X, ti p]] = some (.tup [.t .nil, .t (tb (askB a b c l p))], []) ∧ Y = .nil ∨
    ownFR env 6 [.agg [ti a, ti b, ti c], .agg [X, ti p]] = some (.tup [.ref 0 0 (voysAll a.toNat b c (l, p)).length, .t (tb (askB a b c l p))], [.pure 2 (tlv (voysAll a.toNat b c (l, p)))]) ∧ Y = .lst 2 (tlv (voysAll a.toNat b c (l, p)))) := by
  rw [ownF_ir e6 _ rfl]
  have h228 := r33 a b c X l hX p
  cases ha : askB a b c l p with
  | false =>
    rw [ha] at h228
    refine ⟨.nil, .inl ⟨rfl, by simp⟩, .inl ⟨?_, rfl⟩⟩
    simp [ir6, ir6_c, h228]
  | true =>
    rw [ha] at h228
    have hpl : plB a b c l p = true := by unfold askB at ha; rw [Bool.and_eq_true] at ha; exact ha.1
    obtain ⟨rfl, hgd, hl⟩ := plB_list hX hpl
    have hgo := good_of hgd
    obtain ⟨k, rfl⟩ : ∃ k : Nat, a = k := ⟨a.toNat, by omega⟩
    have hp := (plB_ok hpl).2.2.1
    have h32 := r34 k b c hgd l (by omega) p hp
    rw [Int.toNat_natCast]
    rcases h32 with ⟨h1, h2⟩ | h1
    · refine ⟨.nil, .inl ⟨rfl, ?_⟩, .inl ⟨?_, rfl⟩⟩
      · simp only [if_true]; exact h2
      · simp [ir6, ir6_c, h228, h1]
    · refine ⟨.lst 2 (tlv (voysAll k b c (l, p))), .inr rfl, .inr ⟨?_, rfl⟩⟩
      have h1' : ownFR env 34 [.agg [ti k, ti b, ti c], .agg [tl l, ti p]] = some (.ref 0 0 (voysAll k b c (l, p)).length, [.pure 2 (tlv (voysAll k b c (l, p)))]) := h1
      simp [ir6, ir6_c, h228, h1']
end Go.Proofs.Ytdgfpjlmpnfcgaa.Ev

namespace Go.Proofs.Ytdgfpjlmpnfcgaa.Ev
open Go
set_option linter.unusedVariables false
set_option linter.unusedSimpArgs false
set_option linter.unusedSectionVars false
attribute [local simp] til_getE til_length til_get til_drop til_take til_snoc til_fold take_snoc til_set
def LW (X : T) (vs : List (Int × List Int)) : Prop := (X = .nil ∧ vs = []) ∨ ∃ ts : List T, X = .lst 2 ts ∧ ts.length = vs.length ∧ ∀ (i : Nat) (h : i < vs.length), ∃ G, ts[i]? = some (.agg [.int .i64 vs[i].1, G]) ∧ LN G vs[i].2
theorem LW.len {X : T} {vs : List (Int × List Int)} (h : LW X vs) (H : Heap) : evLen H 1 (.t X) = some (vs.length : Int) := by
  rcases h with ⟨rfl, rfl⟩ | ⟨ts, rfl, hl, _⟩ <;> simp [*]
theorem LW.ix {X : T} {vs : List (Int × List Int)} (h : LW X vs) (i : Nat) (hi : i < vs.length) : ∃ G, LN G vs[i].2 ∧ ∀ H, evIxa H 2 (.t X) (.t (.int .i64 i)) = some (.rptr (.agg [.int .i64 vs[i].1, G]) 0) := by
  rcases h with ⟨rfl, rfl⟩ | ⟨ts, rfl, hl, hg⟩
  · simp at hi
  · obtain ⟨G, h1, h2⟩ := hg i hi
    have hlt : i < ts.length := by omega
    have h3 : ts[i] = .agg [.int .i64 vs[i].1, G] := by rw [List.getElem?_eq_getElem hlt] at h1; exact Option.some.inj h1
    exact ⟨G, h2, fun H => by simp [hlt, h3]⟩
def play (a : Nat) (b c : Int) : List (Int × List Int) → List Int × Int → Nat → (List Int × Int) × Option Nat
  | [], x, _ => (x, none)
  | v :: vs, x, i => if canB a b c x.1 x.2 v.1 v.2 then play a b c vs (setAll v.1 v.2 x.1, v.1) (i + 1) else (x, some i)
theorem play_len (a : Nat) (b c : Int) : ∀ (vs : List (Int × List Int)) (x : List Int × Int) (i : Nat), (play a b c vs x i).1.1.length = x.1.length
  | [], x, i => rfl
  | v :: vs, x, i => by
    rw [play]
    split
    · rw [play_len a b c vs]; simp [setAll_length]
    · rfl
def RetS (r : Option Out) (Q : Fr → Heap → Prop) : Prop := ∃ fr H, r = some (.ret, fr, H) ∧ Q fr H
@[simp] theorem retS_some (fr : Fr) (H : Heap) (Q : Fr → Heap → Prop) : RetS (some (.ret, fr, H)) Q ↔ Q fr H := by
  constructor
  · rintro ⟨_, _, h, hq⟩; cases h; exact hq
  · exact fun h => ⟨_, _, rfl, h⟩
def Shp (bv : V) (ext : Heap) (l : List Int) : Prop := (bv = .t (.lst 1 (til l)) ∧ ext = []) ∨ (bv = .ref 3 0 l.length ∧ ext = [.pure 1 (til l)])
theorem w47 (a : Nat) (b c : Int) (hgd : good a b c = true) (X : T) (vs : List (Int × List Int)) (hX : LW X vs) (hn : vs.length ≤ 2 ^ 40) : ∀ (d i : Nat) (x : List Int × Int) (bv : V) (ext : Heap), i + d = vs.length → x.1.length = 2 * a → Shp bv ext x.1 →
    match (play a b c (vs.drop i) x i).2 with
    | none => ∃ bv' ext', Shp bv' ext' (play a b c (vs.drop i) x i).1.1 ∧ loopF env true [3, 4, 6, 10, 11, 12] ir47_b0 ([(3, .ptr 0 0 0), (4, .ptr 1 0 0), (6, .ptr 2 0 0), (10, .t X), (11, .t (ti vs.length)), (12, .t (ti i))], [.box 3 [.t (ti a), .t (ti b), .t (ti c)], .box 2 [bv, .t (ti x.2)], .box 2 [.t .nil, .t (ti 0)]] ++ ext) =
        some (.exit 0, [(3, .ptr 0 0 0), (4, .ptr 1 0 0), (6, .ptr 2 0 0), (10, .t X), (11, .t (ti vs.length)), (12, .t (ti vs.length)), (13, .t (tb false))], [.box 3 [.t (ti a), .t (ti b), .t (ti c)], .box 2 [bv', .t (ti (play a b c (vs.drop i) x i).1.2)], .box 2 [.t .nil, .t (ti 0)]] ++ ext')
    | some k => ∃ bv' ext', Shp bv' ext' (play a b c (vs.drop i) x i).1.1 ∧ RetS (loopF env true [3, 4, 6, 10, 11, 12] ir47_b0 ([(3, .ptr 0 0 0), (4, .ptr 1 0 0), (6, .ptr 2 0 0), (10, .t X), (11, .t (ti vs.length)), (12, .t (ti i))], [.box 3 [.t (ti a), .t (ti b), .t (ti c)], .box 2 [bv, .t (ti x.2)], .box 2 [.t .nil, .t (ti 0)]] ++ ext))
        (fun fr H => fr.get 6 = .ptr 2 0 0 ∧ fr.get 7 = .t (ti k) ∧ ∃ B, H = [.box 3 [.t (ti a), .t (ti b), .t (ti c)], .box 2 [bv', .t (ti (play a b c (vs.drop i) x i).1.2)], .box 2 [bv', .t (ti (play a b c (vs.drop i) x i).1.2)]] ++ ext' ++ [B])
  | 0, i, x, bv, ext, hi, hx, hs => by
    have : i = vs.length := by omega
    subst this
    rw [x47_0]
    simp only [List.drop_length, play]
    refine ⟨bv, ext, hs, ?_⟩
    rcases hs with ⟨rfl, rfl⟩ | ⟨rfl, rfl⟩ <;> simp [ir47_d0]
  | d + 1, i, x, bv, ext, hi, hx, hs => by
    rw [x47_0]
    have hgo := good_of hgd
    have hlt : i < vs.length := by omega
    have hw : IntKind.i64.wrap ((i : Int) + 1) = (i : Int) + 1 := w76 (by omega)
    obtain ⟨G, hG, hix⟩ := hX.ix i hlt
    have h232 := r42 a b c hgd x.1 hx x.2 vs[i].1 G vs[i].2 hG
    have hp : play a b c (vs.drop i) x i = if canB a b c x.1 x.2 vs[i].1 vs[i].2 then play a b c (vs.drop (i + 1)) (setAll vs[i].1 vs[i].2 x.1, vs[i].1) (i + 1) else (x, some i) := by
      rw [List.drop_eq_getElem_cons hlt, play]
    have htk : x.1.take x.1.length = x.1 := List.take_length
    rw [hp]
    cases hc : canB a b c x.1 x.2 vs[i].1 vs[i].2 with
    | false =>
      rw [hc] at h232
      simp only [Bool.false_eq_true, if_false]
      refine ⟨bv, ext, hs, ?_⟩
      rcases hs with ⟨rfl, rfl⟩ | ⟨rfl, rfl⟩ <;> rcases hG with ⟨rfl, hg0⟩ | rfl <;> simp [ir47_d0, hlt, hix, h232, hw]
    | true =>
      rw [hc] at h232
      obtain ⟨hne, hg3, hin⟩ := can_in (by omega) hc
      have hGl := hG.tl hne
      subst hGl
      have h44 := r43 x.1 vs[i].2 x.2 vs[i].1 (by omega) (by omega) hin
      have hsl := setAll_length vs[i].1 vs[i].2 x.1
      have ih := w47 a b c hgd X vs hX hn d (i + 1) (setAll vs[i].1 vs[i].2 x.1, vs[i].1) (.ref 3 0 (setAll vs[i].1 vs[i].2 x.1).length) [.pure 1 (til (setAll vs[i].1 vs[i].2 x.1))] (by omega) (by rw [hsl]; exact hx) (.inr ⟨rfl, rfl⟩)
      simp only [if_true] at ih ⊢
      generalize play a b c (vs.drop (i + 1)) (setAll vs[i].1 vs[i].2 x.1, vs[i].1) (i + 1) = R at *
      cases hR : R.2 with
      | none =>
        rw [hR] at ih
        obtain ⟨bv', ext', g1, g2⟩ := ih
        refine ⟨bv', ext', g1, ?_⟩
        simp [hsl] at g2
        rcases hs with ⟨rfl, rfl⟩ | ⟨rfl, rfl⟩ <;> simp [ir47_d0, hlt, hix, h232, hw, h44, g2]
      | some k =>
        rw [hR] at ih
        obtain ⟨bv', ext', g1, fr, H, g2, g3⟩ := ih
        refine ⟨bv', ext', g1, fr, H, ?_, g3⟩
        simp [hsl] at g2
        rcases hs with ⟨rfl, rfl⟩ | ⟨rfl, rfl⟩ <;> simp [ir47_d0, hlt, hix, h232, hw, h44, g2]
end Go.Proofs.Ytdgfpjlmpnfcgaa.Ev

namespace Go.Proofs.Ytdgfpjlmpnfcgaa.Ev
open Go
set_option linter.unusedVariables false
set_option linter.unusedSimpArgs false
set_option linter.unusedSectionVars false
attribute [local simp] til_getE til_length til_get til_drop til_take til_snoc til_fold take_snoc til_set
theorem w48 (a : Nat) (b c : Int) (hgd : good a b c = true) (X : T) (vs : List (Int × List Int)) (hX : LW X vs) (hn : vs.length ≤ 2 ^ 40) : ∀ (d i : Nat) (x : List Int × Int), i + d = vs.length → x.1.length = 2 * a →
    match (play a b c (vs.drop i) x i).2 with
    | none => loopF env true [2, 3, 4, 6, 16, 17, 18] ir48_b0 ([(2, .t X), (3, .ptr 0 0 0), (4, .ptr 1 0 0), (6, .ptr 2 0 0), (16, .t X), (17, .t (ti vs.length)), (18, .t (ti i))], [.box 3 [.t (ti a), .t (ti b), .t (ti c)], .box 2 [.ref 3 0 x.1.length, .t (ti x.2)], .box 2 [.t .nil, .t (ti 0)], .pure 1 (til x.1)]) =
        some (.exit 0, [(2, .t X), (3, .ptr 0 0 0), (4, .ptr 1 0 0), (6, .ptr 2 0 0), (16, .t X), (17, .t (ti vs.length)), (18, .t (ti vs.length)), (19, .t (tb false))], [.box 3 [.t (ti a), .t (ti b), .t (ti c)], .box 2 [.ref 3 0 x.1.length, .t (ti (play a b c (vs.drop i) x i).1.2)], .box 2 [.t .nil, .t (ti 0)], .pure 1 (til (play a b c (vs.drop i) x i).1.1)])
    | some k => RetS (loopF env true [2, 3, 4, 6, 16, 17, 18] ir48_b0 ([(2, .t X), (3, .ptr 0 0 0), (4, .ptr 1 0 0), (6, .ptr 2 0 0), (16, .t X), (17, .t (ti vs.length)), (18, .t (ti i))], [.box 3 [.t (ti a), .t (ti b), .t (ti c)], .box 2 [.ref 3 0 x.1.length, .t (ti x.2)], .box 2 [.t .nil, .t (ti 0)], .pure 1 (til x.1)]))
        (fun fr H => fr.get 6 = .ptr 2 0 0 ∧ fr.get 7 = .t (ti k) ∧ ∃ B, H = [.box 3 [.t (ti a), .t (ti b), .t (ti c)], .box 2 [.ref 3 0 x.1.length, .t (ti (play a b c (vs.drop i) x i).1.2)], .box 2 [.ref 3 0 x.1.length, .t (ti (play a b c (vs.drop i) x i).1.2)], .pure 1 (til (play a b c (vs.drop i) x i).1.1), B])
  | 0, i, x, hi, hx => by
    have : i = vs.length := by omega
    subst this
    rw [x48_0]
    simp only [List.drop_length, play]
    simp [ir48_d0]
  | d + 1, i, x, hi, hx => by
    rw [x48_0]
    have hgo := good_of hgd
    have hlt : i < vs.length := by omega
    have hw : IntKind.i64.wrap ((i : Int) + 1) = (i : Int) + 1 := w76 (by omega)
    obtain ⟨G, hG, hix⟩ := hX.ix i hlt
    have h53 := r45n a b c hgd x.1 hx x.2 vs[i].1 G vs[i].2 hG
    have hp : play a b c (vs.drop i) x i = if canB a b c x.1 x.2 vs[i].1 vs[i].2 then play a b c (vs.drop (i + 1)) (setAll vs[i].1 vs[i].2 x.1, vs[i].1) (i + 1) else (x, some i) := by
      rw [List.drop_eq_getElem_cons hlt, play]
    have htk : x.1.take x.1.length = x.1 := List.take_length
    rw [hp]
    cases hc : canB a b c x.1 x.2 vs[i].1 vs[i].2 with
    | false =>
      rw [hc] at h53
      simp only [Bool.false_eq_true, if_false]
      rcases hG with ⟨rfl, hg0⟩ | rfl <;> simp [ir48_d0, hlt, hix, h53, hw]
    | true =>
      rw [hc] at h53
      obtain ⟨hne, hg3, hin⟩ := can_in (by omega) hc
      have hGl := hG.tl hne
      subst hGl
      have h33 := r46 x.1 vs[i].2 x.2 vs[i].1 (by omega) (by omega) hin
      have hsl := setAll_length vs[i].1 vs[i].2 x.1
      have ih := w48 a b c hgd X vs hX hn d (i + 1) (setAll vs[i].1 vs[i].2 x.1, vs[i].1) (by omega) (by rw [hsl]; exact hx)
      simp only [if_true] at ih ⊢
      generalize play a b c (vs.drop (i + 1)) (setAll vs[i].1 vs[i].2 x.1, vs[i].1) (i + 1) = R at *
      cases hR : R.2 with
      | none =>
        rw [hR] at ih
        simp [hsl] at ih
        simp [ir48_d0, hlt, hix, h53, hw, h33, ih]
      | some k =>
        rw [hR] at ih
        obtain ⟨fr, H, g2, g3⟩ := ih
        refine ⟨fr, H, ?_, by rw [hsl] at g3; exact g3⟩
        simp [hsl] at g2
        simp [ir48_d0, hlt, hix, h53, hw, h33, g2]
def playK (r : (List Int × Int) × Option Nat) : Int := match r.2 with | none => -1 | some k => k
theorem r43n (xs : List Int) (p t : Int) (h : xs.length ≤ 1000) : ownR env 43 [.agg [tl xs, ti p], ti t, .nil] = some (.agg [.ref 0 0 xs.length, .t (ti t)], [.pure 1 (til xs)]) := by
  rw [own_ir e43 _ rfl]
  simp [ir43, ir43_c, clone_til, show xs.length ≤ 68719476736 by omega]
  rw [x43_0]
  simp [ir43_d0, til_flat]
theorem r47 (a : Nat) (b c : Int) (hgd : good a b c = true) (l : List Int) (hl : l.length = 2 * a) (p : Int) (X : T) (vs : List (Int × List Int)) (hX : LW X vs) (hn : vs.length ≤ 2 ^ 40) :
    ∃ v H, ownFR env 47 [.agg [ti a, ti b, ti c], .agg [tl l, ti p], X] = some (.tup [.agg [v, .t (ti (play a b c vs (l, p) 0).1.2)], .t (ti (playK (play a b c vs (l, p) 0)))], H) ∧
      ((play a b c vs (l, p) 0).2 = none → v = .ref 0 0 (2 * a) ∧ H = [.pure 1 (til (play a b c vs (l, p) 0).1.1)]) ∧ (v = .t (.lst 1 (til (play a b c vs (l, p) 0).1.1)) ∧ H = [] ∨ v = .ref 0 0 (2 * a) ∧ H = [.pure 1 (til (play a b c vs (l, p) 0).1.1)]) := by
  have hgo := good_of hgd
  rw [ownF_ir e47 _ rfl]
  have hlen := hX.len
  have h := w47 a b c hgd X vs hX hn vs.length 0 (l, p) (.t (.lst 1 (til l))) [] (by omega) hl (.inl ⟨rfl, rfl⟩)
  rw [List.drop_zero] at h
  have hpl := play_len a b c vs (l, p) 0
  simp only at hpl
  generalize play a b c vs (l, p) 0 = R at *
  unfold playK
  cases hR : R.2 with
  | none =>
    rw [hR] at h
    obtain ⟨bv, ext, h1, h2⟩ := h
    have h44n := r43n R.1.1 R.1.2 R.1.2 (by omega)
    refine ⟨.ref 0 0 (2 * a), [.pure 1 (til R.1.1)], ?_, fun _ => ⟨rfl, rfl⟩, .inr ⟨rfl, rfl⟩⟩
    have htk : R.1.1.take (2 * a) = R.1.1 := List.take_of_length_le (by omega)
    rcases h1 with ⟨rfl, rfl⟩ | ⟨rfl, rfl⟩ <;> simp at h2 <;> simp [ir47, ir47_c, hlen, h2, h44n, htk, hpl, hl]
  | some k =>
    rw [hR] at h
    obtain ⟨bv, ext, h1, fr, H, h2, h3, h4, B, rfl⟩ := h
    rcases h1 with ⟨rfl, rfl⟩ | ⟨rfl, rfl⟩
    · refine ⟨.t (.lst 1 (til R.1.1)), [], ?_, fun h => (by cases h), .inl ⟨rfl, rfl⟩⟩
      simp at h2
      simp [ir47, ir47_c, hlen, h2, h3, h4]
    · refine ⟨.ref 0 0 (2 * a), [.pure 1 (til R.1.1)], ?_, fun h => (by cases h), .inr ⟨rfl, rfl⟩⟩
      simp at h2
      simp [ir47, ir47_c, hlen, h2, h3, h4, hpl, hl]
end Go.Proofs.Ytdgfpjlmpnfcgaa.Ev

namespace Go.Proofs.Ytdgfpjlmpnfcgaa.Ev
open Go
set_option linter.unusedVariables false
set_option linter.unusedSimpArgs false
set_option linter.unusedSectionVars false
attribute [local simp] til_getE til_length til_get til_drop til_take til_snoc til_fold take_snoc til_set
def playM (n : Nat) (r : (List Int × Int) × Option Nat) : Int := match r.2 with | none => (n : Int) | some k => k
theorem r48 (a : Nat) (b c : Int) (hgd : good a b c = true) (l : List Int) (hl : l.length = 2 * a) (p : Int) (X : T) (vs : List (Int × List Int)) (hX : LW X vs) (hn : vs.length ≤ 2 ^ 40) :
    ownR env 48 [.agg [ti a, ti b, ti c], .agg [tl l, ti p], X] = some (.tup [.agg [.ref 0 0 (2 * a), .t (ti (play a b c vs (l, p) 0).1.2)], .t (ti (playM vs.length (play a b c vs (l, p) 0)))], [.pure 1 (til (play a b c vs (l, p) 0).1.1)]) := by
  have hgo := good_of hgd
  rw [own_ir e48 _ rfl]
  have hlen := hX.len
  have h54 := r75 l (by omega)
  have h := w48 a b c hgd X vs hX hn vs.length 0 (l, p) (by omega) hl
  rw [List.drop_zero] at h
  have hpl := play_len a b c vs (l, p) 0
  simp only at hpl h
  generalize play a b c vs (l, p) 0 = R at *
  unfold playM
  cases hR : R.2 with
  | none =>
    rw [hR] at h
    simp [hl] at h
    simp [ir48, ir48_c, hlen, h54, h, hpl, hl, til_flat]
  | some k =>
    rw [hR] at h
    obtain ⟨fr, H, h2, h3, h4, B, rfl⟩ := h
    simp [hl] at h2
    simp [ir48, ir48_c, hlen, h54, h2, h3, h4, hpl, hl, til_flat]
def allB (a b c : Int) (l : List Int) (p : Int) (vs : List (Int × List Int)) : Bool := askB a b c l p && (decide (vs.length ≤ 40) && (play a.toNat b c vs (l, p) 0).2.isNone)
theorem r18 (a b c : Int) (Y : T) (l : List Int) (hY : LN Y l) (p : Int) (X : T) (vs : List (Int × List Int)) (hX : LW X vs) (hn : vs.length ≤ 2 ^ 40) :
    ownR env 18 [.agg [ti a, ti b, ti c], .agg [Y, ti p], X] = sailR (allB a b c l p vs) l.length (play a.toNat b c vs (l, p) 0).1.1 (play a.toNat b c vs (l, p) 0).1.2 := by
  rw [own_ir e18 _ rfl]
  have h227 := r31 a b c Y l hY p
  have hlen := hX.len
  unfold allB
  cases ha : askB a b c l p with
  | false => rw [ha] at h227; simp [ir18, ir18_c, h227, sailR]
  | true =>
    rw [ha] at h227
    have hpl : plB a b c l p = true := by unfold askB at ha; rw [Bool.and_eq_true] at ha; exact ha.1
    obtain ⟨rfl, hgd, hl⟩ := plB_list hY hpl
    have hgo := good_of hgd
    obtain ⟨k, rfl⟩ : ∃ k : Nat, a = k := ⟨a.toNat, by omega⟩
    have hl2 : l.length = 2 * k := by omega
    rw [Int.toNat_natCast, Bool.true_and]
    by_cases h40 : vs.length ≤ 40
    · have h40' : ¬ ((40 : Int) < vs.length) := by omega
      obtain ⟨v, H, h1, h2, h3⟩ := r47 k b c hgd l hl2 p X vs hX hn
      have hpl2 := play_len k b c vs (l, p) 0
      simp only at hpl2
      generalize play k b c vs (l, p) 0 = R at *
      have htk : R.1.1.take (2 * k) = R.1.1 := List.take_of_length_le (by omega)
      cases hR : R.2 with
      | none =>
        obtain ⟨rfl, rfl⟩ := h2 hR
        have hk : playK R = -1 := by unfold playK; rw [hR]
        rw [hk] at h1
        simp [ir18, ir18_c, h227, hlen, h40, h40', h1, sailR, til_flat, hl2]
      | some j =>
        have hk : playK R = (j : Int) := by unfold playK; rw [hR]
        rw [hk] at h1
        rcases h3 with ⟨rfl, rfl⟩ | ⟨rfl, rfl⟩ <;> simp [ir18, ir18_c, h227, hlen, h40, h40', h1, sailR]
    · have h40' : (40 : Int) < vs.length := by omega
      simp [ir18, ir18_c, h227, hlen, h40, h40', sailR]
theorem r19 (a b c : Int) (Y : T) (l : List Int) (hY : LN Y l) (p : Int) (X : T) (vs : List (Int × List Int)) (hX : LW X vs) (hn : vs.length ≤ 2 ^ 40) :
    ownR env 19 [.agg [ti a, ti b, ti c], .agg [Y, ti p], X] = sailR (allB a b c l p vs) l.length (play a.toNat b c vs (l, p) 0).1.1 (play a.toNat b c vs (l, p) 0).1.2 := by
  rw [own_ir e19 _ rfl]
  have h228 := r33 a b c Y l hY p
  have hlen := hX.len
  unfold allB
  cases ha : askB a b c l p with
  | false => rw [ha] at h228; simp [ir19, ir19_c, h228, sailR]
  | true =>
    rw [ha] at h228
    have hpl : plB a b c l p = true := by unfold askB at ha; rw [Bool.and_eq_true] at ha; exact ha.1
    obtain ⟨rfl, hgd, hl⟩ := plB_list hY hpl
    have hgo := good_of hgd
    obtain ⟨k, rfl⟩ : ∃ k : Nat, a = k := ⟨a.toNat, by omega⟩
    have hl2 : l.length = 2 * k := by omega
    rw [Int.toNat_natCast, Bool.true_and]
    by_cases h40 : vs.length ≤ 40
    · have h40' : ¬ ((40 : Int) < vs.length) := by omega
      have h1 := r48 k b c hgd l hl2 p X vs hX hn
      have hk : (playM vs.length (play k b c vs (l, p) 0) < vs.length) ↔ (play k b c vs (l, p) 0).2.isNone = false := by
        unfold playM
        cases hR : (play k b c vs (l, p) 0).2 with
        | none => simp
        | some j =>
          have : j < vs.length := by
            have key : ∀ (vs : List (Int × List Int)) (x : List Int × Int) (i : Nat), (play k b c vs x i).2 = some j → j < i + vs.length := by
              intro vs
              induction vs with
              | nil => intro x i h; cases h
              | cons v vs ih =>
                intro x i h
                rw [play] at h
                split at h
                · have := ih _ _ h; simp; omega
                · cases h; simp
            have := key vs (l, p) 0 hR
            omega
          simp; omega
      generalize play k b c vs (l, p) 0 = R at *
      cases hR : R.2.isNone with
      | true =>
        have hk' : ¬ (playM vs.length R < vs.length) := fun h => by rw [hk.1 h] at hR; cases hR
        simp [ir19, ir19_c, h228, hlen, h40, h40', h1, hk', sailR, til_flat, hl2, hR]
      | false =>
        have hk' := hk.2 hR
        simp [ir19, ir19_c, h228, hlen, h40, h40', h1, hk', sailR, hR]
    · have h40' : (40 : Int) < vs.length := by omega
      simp [ir19, ir19_c, h228, hlen, h40, h40', sailR]
end Go.Proofs.Ytdgfpjlmpnfcgaa.Ev

namespace Go.Proofs.Ytdgfpjlmpnfcgaa.Ev
open Go
set_option linter.unusedVariables false
set_option linter.unusedSimpArgs false
set_option linter.unusedSectionVars false
attribute [local simp] til_getE til_length til_get til_drop til_take til_snoc til_fold take_snoc til_set
theorem play_lt (a : Nat) (b c : Int) : ∀ (vs : List (Int × List Int)) (x : List Int × Int) (i j : Nat), (play a b c vs x i).2 = some j → i ≤ j ∧ j < i + vs.length
  | [], x, i, j, h => by cases h
  | v :: vs, x, i, j, h => by
    rw [play] at h
    split at h
    · have := play_lt a b c vs _ _ _ h; simp; omega
    · cases h; simp
def failR (a b c : Int) (l : List Int) (p : Int) (vs : List (Int × List Int)) : Int × Bool :=
  if askB a b c l p && (decide (vs.length ≤ 40)) then (match (play a.toNat b c vs (l, p) 0).2 with | none => (0, false) | some k => ((k : Int), true)) else (0, false)
theorem r20 (a b c : Int) (Y : T) (l : List Int) (hY : LN Y l) (p : Int) (X : T) (vs : List (Int × List Int)) (hX : LW X vs) (hn : vs.length ≤ 2 ^ 40) :
    ownR env 20 [.agg [ti a, ti b, ti c], .agg [Y, ti p], X] = some (.tup [.t (ti (failR a b c l p vs).1), .t (tb (failR a b c l p vs).2)], []) := by
  rw [own_ir e20 _ rfl]
  have h227 := r31 a b c Y l hY p
  have hlen := hX.len
  unfold failR
  cases ha : askB a b c l p with
  | false => rw [ha] at h227; simp [ir20, ir20_c, h227]
  | true =>
    rw [ha] at h227
    have hpl : plB a b c l p = true := by unfold askB at ha; rw [Bool.and_eq_true] at ha; exact ha.1
    obtain ⟨rfl, hgd, hl⟩ := plB_list hY hpl
    have hgo := good_of hgd
    obtain ⟨k, rfl⟩ : ∃ k : Nat, a = k := ⟨a.toNat, by omega⟩
    have hl2 : l.length = 2 * k := by omega
    rw [Int.toNat_natCast, Bool.true_and]
    by_cases h40 : vs.length ≤ 40
    · have h40' : ¬ ((40 : Int) < vs.length) := by omega
      obtain ⟨v, H, h1, h2, h3⟩ := r47 k b c hgd l hl2 p X vs hX hn
      generalize play k b c vs (l, p) 0 = R at *
      cases hR : R.2 with
      | none =>
        obtain ⟨rfl, rfl⟩ := h2 hR
        have hk : playK R = -1 := by unfold playK; rw [hR]
        rw [hk] at h1
        simp [ir20, ir20_c, h227, hlen, h40, h40', h1]
      | some j =>
        have hk : playK R = (j : Int) := by unfold playK; rw [hR]
        rw [hk] at h1
        have hj0 : ¬ ((j : Int) < 0) := by omega
        rcases h3 with ⟨rfl, rfl⟩ | ⟨rfl, rfl⟩ <;> simp [ir20, ir20_c, h227, hlen, h40, h40', h1, hj0]
    · have h40' : (40 : Int) < vs.length := by omega
      simp [ir20, ir20_c, h227, hlen, h40, h40']
theorem r21 (a b c : Int) (Y : T) (l : List Int) (hY : LN Y l) (p : Int) (X : T) (vs : List (Int × List Int)) (hX : LW X vs) (hn : vs.length ≤ 2 ^ 40) :
    ownR env 21 [.agg [ti a, ti b, ti c], .agg [Y, ti p], X] = some (.tup [.t (ti (failR a b c l p vs).1), .t (tb (failR a b c l p vs).2)], []) := by
  rw [own_ir e21 _ rfl]
  have h228 := r33 a b c Y l hY p
  have hlen := hX.len
  unfold failR
  cases ha : askB a b c l p with
  | false => rw [ha] at h228; simp [ir21, ir21_c, h228]
  | true =>
    rw [ha] at h228
    have hpl : plB a b c l p = true := by unfold askB at ha; rw [Bool.and_eq_true] at ha; exact ha.1
    obtain ⟨rfl, hgd, hl⟩ := plB_list hY hpl
    have hgo := good_of hgd
    obtain ⟨k, rfl⟩ : ∃ k : Nat, a = k := ⟨a.toNat, by omega⟩
    have hl2 : l.length = 2 * k := by omega
    rw [Int.toNat_natCast, Bool.true_and]
    by_cases h40 : vs.length ≤ 40
    · have h40' : ¬ ((40 : Int) < vs.length) := by omega
      have h1 := r48 k b c hgd l hl2 p X vs hX hn
      have hlt := play_lt k b c vs (l, p) 0
      generalize play k b c vs (l, p) 0 = R at *
      cases hR : R.2 with
      | none =>
        have hk : playM vs.length R = vs.length := by unfold playM; rw [hR]
        rw [hk] at h1
        simp [ir21, ir21_c, h228, hlen, h40, h40', h1]
      | some j =>
        have hk : playM vs.length R = (j : Int) := by unfold playM; rw [hR]
        rw [hk] at h1
        have := hlt j hR
        have hne : ¬ ((j : Int) = vs.length) := by omega
        have hne2 : ¬ (j = vs.length) := by omega
        simp [ir21, ir21_c, h228, hlen, h40, h40', h1, hne, hne2]
    · have h40' : (40 : Int) < vs.length := by omega
      simp [ir21, ir21_c, h228, hlen, h40, h40']
end Go.Proofs.Ytdgfpjlmpnfcgaa.Ev

namespace Go.Proofs.Ytdgfpjlmpnfcgaa.Ev
open Go
set_option linter.unusedVariables false
set_option linter.unusedSimpArgs false
set_option linter.unusedSectionVars false
attribute [local simp] til_getE til_length til_get til_drop til_take til_snoc til_fold take_snoc til_set
def allR (g : Bool) (a : Nat) (n : Int) : Option (V × Heap) := if g then some (.tup [.agg [.ref 0 0 (2 * a), .t (ti n)], .t (tb true)], [.pure 1 (til (List.replicate (2 * a) n))]) else some (.tup [.agg [.t .nil, .t (ti 0)], .t (tb false)], [])
theorem r22 (a b c : Int) : ownR env 22 [.agg [ti a, ti b, ti c]] = allR (good a b c) a.toNat 0 := by
  rw [own_ir e22 _ rfl]
  unfold allR
  cases hg : good a b c with
  | false => simp [ir22, ir22_c, hg]
  | true =>
    have hgo := good_of hg
    obtain ⟨k, rfl⟩ : ∃ k : Nat, a = k := ⟨a.toNat, by omega⟩
    have h48 := r49 k b c 0 (by omega)
    rw [show (2 * (k : Int)).toNat = 2 * k by omega] at h48
    simp [ir22, ir22_c, hg, h48, til_flat]
theorem r23 (a b c : Int) : ownR env 23 [.agg [ti a, ti b, ti c]] = allR (good a b c) a.toNat 0 := by
  rw [own_ir e23 _ rfl]
  unfold allR
  cases hg : good a b c with
  | false => simp [ir23, ir23_c, hg]
  | true =>
    have hgo := good_of hg
    obtain ⟨k, rfl⟩ : ∃ k : Nat, a = k := ⟨a.toNat, by omega⟩
    have h24 := r50 k b c 0 (by omega)
    rw [show (2 * (k : Int)).toNat = 2 * k by omega] at h24
    simp [ir23, ir23_c, hg, h24, til_flat]
theorem r24 (a b c : Int) : ownR env 24 [.agg [ti a, ti b, ti c]] = allR (good a b c) a.toNat (c + 1) := by
  rw [own_ir e24 _ rfl]
  unfold allR
  cases hg : good a b c with
  | false => simp [ir24, ir24_c, hg]
  | true =>
    have hgo := good_of hg
    obtain ⟨k, rfl⟩ : ∃ k : Nat, a = k := ⟨a.toNat, by omega⟩
    have h48 := r49 k b c (c + 1) (by omega)
    have h49 := r51 k b c (by omega)
    rw [show (2 * (k : Int)).toNat = 2 * k by omega] at h48
    simp [ir24, ir24_c, hg, h48, h49, til_flat]
theorem r25 (a b c : Int) : ownR env 25 [.agg [ti a, ti b, ti c]] = allR (good a b c) a.toNat (c + 1) := by
  rw [own_ir e25 _ rfl]
  unfold allR
  cases hg : good a b c with
  | false => simp [ir25, ir25_c, hg]
  | true =>
    have hgo := good_of hg
    obtain ⟨k, rfl⟩ : ∃ k : Nat, a = k := ⟨a.toNat, by omega⟩
    have h24 := r50 k b c (c + 1) (by omega)
    have hw : IntKind.i64.wrap (c + 1) = c + 1 := w76 (by omega)
    rw [show (2 * (k : Int)).toNat = 2 * k by omega] at h24
    simp [ir25, ir25_c, hg, h24, hw, til_flat]
def befB : List Int → List Int → Bool
  | x :: xs, y :: ys => if x = y then befB xs ys else decide (x < y)
  | [], _ :: _ => true
  | _, [] => false
theorem w16 (l m : List Int) (hl : l.length ≤ 1000000) : ∀ (d i : Nat), i + d = min l.length m.length →
    (∃ fr, loopF env true [0, 1, 5] ir16_b0 ([(0, .t (tl l)), (1, .t (tl m)), (5, .t (ti i))], []) = some (.exit 0, fr, []) ∧ fr.get 0 = .t (tl l) ∧ fr.get 1 = .t (tl m) ∧ befB (l.drop i) (m.drop i) = decide (l.length < m.length)) ∨
    (∃ fr, loopF env true [0, 1, 5] ir16_b0 ([(0, .t (tl l)), (1, .t (tl m)), (5, .t (ti i))], []) = some (.ret, fr, []) ∧ fr.get 4 = .t (tb (befB (l.drop i) (m.drop i))))
  | 0, i, hi => by
    left
    rw [x16_0]
    have h1 : ¬ (i < l.length ∧ i < m.length) := by omega
    by_cases hl1 : i < l.length
    · have hm1 : ¬ i < m.length := by omega
      refine ⟨_, by simp [ir16_d0, hl1, hm1]; rfl, rfl, rfl, ?_⟩
      rw [List.drop_eq_nil_of_le (show m.length ≤ i by omega), List.drop_eq_getElem_cons hl1]
      have : ¬ l.length < m.length := by omega
      simp [befB, this]
    · refine ⟨_, by simp [ir16_d0, hl1]; rfl, rfl, rfl, ?_⟩
      rw [List.drop_eq_nil_of_le (show l.length ≤ i by omega)]
      by_cases hm1 : i < m.length
      · rw [List.drop_eq_getElem_cons hm1]
        have : l.length < m.length := by omega
        simp [befB, this]
      · rw [List.drop_eq_nil_of_le (show m.length ≤ i by omega)]
        have : ¬ l.length < m.length := by omega
        simp [befB, this]
  | d + 1, i, hi => by
    have hl1 : i < l.length := by omega
    have hm1 : i < m.length := by omega
    have hw : IntKind.i64.wrap ((i : Int) + 1) = (i : Int) + 1 := w76 (by omega)
    have ih := w16 l m hl d (i + 1) (by omega)
    rw [List.drop_eq_getElem_cons hl1, List.drop_eq_getElem_cons hm1, befB]
    rw [x16_0]
    by_cases he : l[i] = m[i]
    · rw [if_pos he]
      rcases ih with ⟨fr, h1, h2⟩ | ⟨fr, h1, h2⟩
      · left
        refine ⟨fr, ?_, h2⟩
        simp at h1
        simp [ir16_d0, hl1, hm1, he, hw, h1]
      · right
        refine ⟨fr, ?_, h2⟩
        simp at h1
        simp [ir16_d0, hl1, hm1, he, hw, h1]
    · right
      rw [if_neg he]
      refine ⟨_, by simp [ir16_d0, hl1, hm1, he, hw]; rfl, ?_⟩
      simp
theorem r16 (l m : List Int) (hl : l.length ≤ 1000000) : ownR env 16 [tl l, tl m] = some (.t (tb (befB l m)), []) := by
  rw [own_ir e16 _ rfl]
  rcases w16 l m hl (min l.length m.length) 0 (by omega) with ⟨fr, h1, h2, h3, h4⟩ | ⟨fr, h1, h2⟩
  · simp at h1 h4
    simp [ir16, ir16_c, h1, h2, h3, h4, Fr.get_put]
  · simp at h1 h2
    simp [ir16, ir16_c, h1, h2, Fr.get_put]
end Go.Proofs.Ytdgfpjlmpnfcgaa.Ev

namespace Go.Proofs.Ytdgfpjlmpnfcgaa.Ev
open Go
set_option linter.unusedVariables false
set_option linter.unusedSimpArgs false
set_option linter.unusedSectionVars false

theorem befB_app (l s s' : List Int) : befB (l ++ s) (l ++ s') = befB s s' := by
  induction l with
  | nil => rfl
  | cons x l ih => rw [List.cons_append, List.cons_append, befB, if_pos rfl, ih]
theorem grps_mem2 (most : Int) : ∀ (rest l g : List Int), g ∈ grps most rest l → ∃ s, g = l ++ s ∧ s ≠ [] ∧ s.Sublist rest
  | [], l, g, h => by simp [grps] at h
  | x :: rest, l, g, h => by
    rw [grps] at h
    split at h
    · rcases List.mem_cons.1 h with h | h
      · exact ⟨[x], h, by simp, List.cons_sublist_cons.2 (List.nil_sublist _)⟩
      · rcases List.mem_append.1 h with h | h
        · obtain ⟨s, h1, h2, h3⟩ := grps_mem2 most rest _ g h
          exact ⟨x :: s, by rw [h1]; simp, by simp, List.cons_sublist_cons.2 h3⟩
        · obtain ⟨s, h1, h2, h3⟩ := grps_mem2 most rest _ g h
          exact ⟨s, h1, h2, h3.cons _⟩
    · simp at h
theorem grps_pair (most : Int) : ∀ (rest l : List Int), rest.Pairwise (· < ·) → (grps most rest l).Pairwise (fun g h => befB g h = true)
  | [], l, _ => by simp [grps]
  | x :: rest, l, hp => by
    rw [List.pairwise_cons] at hp
    rw [grps]
    split
    · have key : ∀ h ∈ grps most rest l, ∀ s : List Int, befB (l ++ x :: s) h = true := fun h hh s => by
        obtain ⟨s', h1, h2, h3⟩ := grps_mem2 most rest l h hh
        rw [h1, befB_app]
        cases s' with
        | nil => exact absurd rfl h2
        | cons y s' =>
          have := hp.1 y (h3.subset (List.mem_cons_self ..))
          rw [befB, if_neg (by omega)]
          simpa using this
      rw [List.pairwise_cons, List.pairwise_append]
      refine ⟨fun h hh => ?_, grps_pair most rest _ hp.2, grps_pair most rest _ hp.2, fun g hg h hh => ?_⟩
      · rcases List.mem_append.1 hh with hh | hh
        · obtain ⟨s', h1, h2, h3⟩ := grps_mem2 most rest _ h hh
          rw [h1]
          have := befB_app (l ++ [x]) [] s'
          rw [List.append_nil] at this
          rw [this]
          cases s' with
          | nil => exact absurd rfl h2
          | cons y s' => rfl
        · exact key h hh []
      · obtain ⟨s', h1, h2, h3⟩ := grps_mem2 most rest _ g hg
        rw [h1, List.append_assoc]
        exact key h hh s'
    · exact List.Pairwise.nil
def befV (v u : Int × List Int) : Prop := v.1 < u.1 ∨ v.1 = u.1 ∧ befB v.2 u.2 = true
theorem voys_pair (a : Nat) (b c : Int) (x : List Int × Int) : (voysAll a b c x).Pairwise befV := by
  unfold voysAll voysS
  rw [List.pairwise_flatMap]
  refine ⟨fun t _ => ?_, ?_⟩
  · unfold cans
    rw [List.pairwise_map]
    refine List.Pairwise.imp (fun {g h} hgh => ?_) ((grps_pair b _ [] (stand_pair _ _ _)).filter _)
    exact .inr ⟨rfl, hgh⟩
  · refine List.Pairwise.imp (fun {t t'} htt => ?_) (List.pairwise_lt_range' (s := 0) (n := (c + 2).toNat) (step := 1))
    intro v hv u hu
    unfold cans at hv hu
    obtain ⟨g, _, rfl⟩ := List.mem_map.1 hv
    obtain ⟨g', _, rfl⟩ := List.mem_map.1 hu
    left
    show (t : Int) < t'
    omega
theorem voys_can {a : Nat} {b c : Int} {x : List Int × Int} {v : Int × List Int} (h : v ∈ voysAll a b c x) : canB a b c x.1 x.2 v.1 v.2 = true := by
  unfold voysAll voysS cans at h
  simp only [List.mem_map, List.mem_flatMap, List.mem_filter] at h
  obtain ⟨n, _, g, ⟨_, hc⟩, rfl⟩ := h
  exact hc
theorem can_back {a : Nat} {b c : Int} (hgd : good a b c = true) {l : List Int} {p t : Int} {g : List Int} (hx : okP a c (l, p)) (hcm : calmS a c l = true) (hc : canB a b c l p t g = true) :
    askB a b c (setAll t g l) t = true ∧ plB a b c (setAll t g l) t = true ∧ canB a b c (setAll t g l) t p g = true ∧ setAll p g (setAll t g l) = l := by
  have hgo := good_of hgd
  obtain ⟨h1, h2, h3, h4, h5, h6, h7⟩ := can_parts hc
  have hin := risesB_in h4
  have hgi : ∀ k ∈ g, 0 ≤ k ∧ k < l.length := fun k hk => by have := hin k hk; omega
  have hback := setAll_back l p t g hgi h5
  have hat : atB (setAll t g l) t g = true := by
    unfold atB
    rw [List.all_eq_true]
    intro k hk
    have hki := hgi k hk
    rw [setAll_get t g l k.toNat (by omega) (fun k hk => (hgi k hk).1), if_pos (by rw [show ((k.toNat : Nat) : Int) = k by omega]; exact hk)]
    simp
  have hok : okP a c (setAll t g l, t) := by
    have hsl : (setAll t g l).length = l.length := setAll_length t g l
    refine ⟨by show (setAll t g l).length = 2 * a; rw [hsl]; exact hx.1, ?_, ?_⟩
    · obtain ⟨k, g', rfl⟩ : ∃ k g', g = k :: g' := by cases g with
        | nil => simp at h3
        | cons k g' => exact ⟨k, g', rfl⟩
      have hk := hgi k (List.mem_cons_self ..)
      have := setAll_get t (k :: g') l k.toNat (by omega) (fun k hk => (hgi k hk).1)
      rw [if_pos (by rw [show ((k.toNat : Nat) : Int) = k by omega]; exact List.mem_cons_self ..)] at this
      exact List.mem_of_getElem? this
    · intro y hy
      obtain ⟨m, hm, rfl⟩ := List.getElem_of_mem hy
      have hm' : m < l.length := by rw [← hsl]; exact hm
      have := setAll_get t g l m hm' (fun k hk => (hgi k hk).1)
      rw [List.getElem?_eq_getElem hm] at this
      split at this
      · rw [Option.some.inj this]; exact h1
      · rw [List.getElem?_eq_getElem hm'] at this
        rw [Option.some.inj this]
        exact hx.2.2 _ (List.getElem_mem hm')
  have hpl := ok_plB hgd hok
  have hp : 0 ≤ p ∧ p ≤ c + 1 := hx.2.2 p hx.2.1
  refine ⟨?_, hpl, ?_, hback⟩
  · unfold askB
    rw [hpl, Int.toNat_natCast, h7]; rfl
  · unfold canB
    rw [(inB_iff _ _ _).2 hp, (inB_iff _ _ _).2 h3, setAll_length, h4, hat, h6, hback, hcm]
    simp [Ne.symm h2]
end Go.Proofs.Ytdgfpjlmpnfcgaa.Ev

namespace Go.Proofs.Ytdgfpjlmpnfcgaa.Ev
open Go
set_option linter.unusedVariables false
set_option linter.unusedSimpArgs false
set_option linter.unusedSectionVars false
attribute [local simp] til_getE til_length til_get til_drop til_take til_snoc til_fold take_snoc til_set
def rst : Nat → C → C
  | 0, c => c
  | k + 1, .seq _ b => rst k b
  | _ + 1, c => c
def nth (k : Nat) (c : C) : C := match rst k c with | .seq a _ => a | c => c
def PBx (H : Heap) (v : V) (X : T) (q : Int) : Prop := ∃ j bv lf, v = .ptr j 0 0 ∧ (∀ E, (H ++ E)[j]? = some (.box 2 [bv, .t (ti q)])) ∧ ∀ E, rd (H ++ E) 5 bv = some (X, lf)
theorem PBx.mono {H : Heap} {v : V} {X : T} {q : Int} (h : PBx H v X q) (E : Heap) : PBx (H ++ E) v X q := by
  obtain ⟨j, bv, lf, h1, h2, h3⟩ := h
  exact ⟨j, bv, lf, h1, fun E' => by rw [List.append_assoc]; exact h2 _, fun E' => by rw [List.append_assoc]; exact h3 _⟩
def sX (ok : Bool) (L : List Int) : T := if ok then .lst 1 (til L) else .nil
def sq (ok : Bool) (t : Int) : Int := if ok then t else 0
theorem sX_LN (ok : Bool) (L : List Int) : LN (sX ok L) (if ok then L else []) := by
  cases ok
  · exact .inl ⟨rfl, rfl⟩
  · exact .inr rfl
variable {a1 b1 c1001 a2 b2 c1002 a3 b3 c1003 : Int} {X1 G1 X2 Z : T} {p1001 t1001 p1002 : Int} {fr : Fr} {H : Heap}
end Go.Proofs.Ytdgfpjlmpnfcgaa.Ev

namespace Go.Proofs.Ytdgfpjlmpnfcgaa.Ev
open Go
set_option linter.unusedVariables false
set_option linter.unusedSimpArgs false
set_option linter.unusedSectionVars false
attribute [local simp] til_getE til_length til_get til_drop til_take til_snoc til_fold take_snoc til_set
theorem PBx.all {H : Heap} {v : V} {X : T} {q : Int} (h : PBx H v X q) : ∃ j bv lf, v = .ptr j 0 0 ∧ H[j]? = some (.box 2 [bv, .t (ti q)]) ∧ rd H 5 bv = some (X, lf) ∧ (∀ E, (H ++ E)[j]? = some (.box 2 [bv, .t (ti q)])) ∧ ∀ E, rd (H ++ E) 5 bv = some (X, lf) := by
  obtain ⟨j, bv, lf, h1, h2, h3⟩ := h
  have h2' := h2 []
  have h3' := h3 []
  rw [List.append_nil] at h2' h3'
  exact ⟨j, bv, lf, h1, h2', h3', h2, h3⟩
theorem same211 (ok : Bool) (L : List Int) (q : Int) (h : L.length ≤ 2 ^ 40) : ownR env 15 [.agg [sX ok L, ti q], .agg [sX ok L, ti q]] = some (.t (tb true), []) := by
  have h1 := r15 _ _ _ _ (sX_LN ok L) (sX_LN ok L) (by split; exact h; simp) q q
  simpa using h1
variable {a1 b1 c1001 a2 b2 c1002 a3 b3 c1003 : Int} {X1 G1 X2 Z : T} {p1001 t1001 p1002 : Int} {fr : Fr} {H : Heap}
end Go.Proofs.Ytdgfpjlmpnfcgaa.Ev

namespace Go.Proofs.Ytdgfpjlmpnfcgaa.Ev
open Go
set_option linter.unusedVariables false
set_option linter.unusedSimpArgs false
set_option linter.unusedSectionVars false
attribute [local simp] til_getE til_length til_get til_drop til_take til_snoc til_fold take_snoc til_set
variable {a1 b1 c1001 a2 b2 c1002 a3 b3 c1003 : Int} {X1 G1 X2 Z : T} {p1001 t1001 p1002 : Int} {fr : Fr} {H : Heap}
end Go.Proofs.Ytdgfpjlmpnfcgaa.Ev

namespace Go.Proofs.Ytdgfpjlmpnfcgaa.Ev
open Go
set_option linter.unusedVariables false
set_option linter.unusedSimpArgs false
set_option linter.unusedSectionVars false

theorem play_idx (a : Nat) (b c : Int) : ∀ (vs : List (Int × List Int)) (x : List Int × Int) (i j : Nat), (play a b c vs x i).1 = (play a b c vs x j).1 ∧ (play a b c vs x i).2.isNone = (play a b c vs x j).2.isNone
  | [], x, i, j => ⟨rfl, rfl⟩
  | v :: vs, x, i, j => by
    rw [play, play]
    split
    · exact play_idx a b c vs _ _ _
    · exact ⟨rfl, rfl⟩
theorem play_some (a : Nat) (b c : Int) : ∀ (vs : List (Int × List Int)) (x : List Int × Int) (i j : Nat), (play a b c vs x i).2 = some j → ∃ (m : Nat) (h : m < vs.length), j = i + m ∧ play a b c (vs.take m) x i = ((play a b c vs x i).1, none) ∧ canB a b c (play a b c vs x i).1.1 (play a b c vs x i).1.2 vs[m].1 vs[m].2 = false
  | [], x, i, j, h => by cases h
  | v :: vs, x, i, j, h => by
    by_cases hc : canB a b c x.1 x.2 v.1 v.2 = true
    · rw [play, if_pos hc] at h
      obtain ⟨m, h1, h2, h3, h4⟩ := play_some a b c vs _ _ _ h
      refine ⟨m + 1, by simpa using h1, by omega, ?_, ?_⟩
      · rw [List.take_succ_cons, play, if_pos hc, h3, play, if_pos hc]
      · rw [play, if_pos hc]; simpa using h4
    · rw [play, if_neg hc] at h
      cases h
      refine ⟨0, by simp, rfl, ?_, ?_⟩
      · rw [play, if_neg hc]; rfl
      · rw [play, if_neg hc]; simpa using hc
theorem askB_parts {a b c : Int} {l : List Int} {p : Int} (h : askB a b c l p = true) : ∃ k : Nat, a = k ∧ good k b c = true ∧ l.length = 2 * k ∧ okP k c (l, p) ∧ calmS k c l = true := by
  unfold askB at h
  rw [Bool.and_eq_true] at h
  have h1 := h.1
  have hg : good a b c = true := by unfold plB at h1; rw [Bool.and_eq_true] at h1; exact h1.1
  have hgo := good_of hg
  obtain ⟨k, rfl⟩ : ∃ k : Nat, a = k := ⟨a.toNat, by omega⟩
  have := plB_ok h1
  exact ⟨k, rfl, hg, this.2.1, this.2, by simpa using h.2⟩
theorem sail_eq (ok : Bool) (n : Nat) (L : List Int) (q : Int) (h : L.length = n) : sailR ok n L q = sailR ok (if ok then L else []).length (if ok then L else []) q := by
  cases ok
  · rfl
  · simp only [if_true, h]
theorem LW.cases {Z : T} {vs : List (Int × List Int)} (h : LW Z vs) : (vs = [] ∧ (Z = .nil ∨ Z = .lst 2 [])) ∨ ∃ v vs' G0 ts, vs = v :: vs' ∧ Z = .lst 2 (.agg [ti v.1, G0] :: ts) ∧ LN G0 v.2 ∧ LW (.lst 2 ts) vs' ∧ ts.length = vs'.length := by
  rcases h with ⟨rfl, rfl⟩ | ⟨ts, rfl, hl, hg⟩
  · exact .inl ⟨rfl, .inl rfl⟩
  · cases vs with
    | nil =>
      have e : ts = [] := List.length_eq_zero_iff.1 (by simpa using hl)
      exact .inl ⟨rfl, .inr (by rw [e])⟩
    | cons v vs =>
      cases ts with
      | nil => simp at hl
      | cons t ts =>
        right
        obtain ⟨G0, h1, h2⟩ := hg 0 (by simp)
        simp at h1 h2
        refine ⟨v, vs, G0, ts, rfl, by rw [h1], h2, .inr ⟨ts, rfl, by simpa using hl, fun i hi => ?_⟩, by simpa using hl⟩
        obtain ⟨G, h3, h4⟩ := hg (i + 1) (by simpa using hi)
        exact ⟨G, by simpa using h3, by simpa using h4⟩
theorem LW.take {Z : T} {vs : List (Int × List Int)} (h : LW Z vs) {i : Nat} (hi : i < vs.length) : ∃ ts G0, Z = .lst 2 ts ∧ ts.length = vs.length ∧ (∃ h : i < ts.length, ts[i] = .agg [ti vs[i].1, G0]) ∧ LN G0 vs[i].2 ∧ LW (.lst 2 (ts.take i)) (vs.take i) := by
  rcases h with ⟨rfl, rfl⟩ | ⟨ts, rfl, hl, hg⟩
  · simp at hi
  · obtain ⟨G0, h1, h2⟩ := hg i hi
    have hi' : i < ts.length := by omega
    rw [List.getElem?_eq_getElem hi'] at h1
    refine ⟨ts, G0, rfl, hl, ⟨hi', Option.some.inj h1⟩, h2, .inr ⟨_, rfl, by simp [hl], fun j hj => ?_⟩⟩
    have hj' : j < i ∧ j < vs.length := by simp at hj; omega
    obtain ⟨G, h3, h4⟩ := hg j hj'.2
    refine ⟨G, ?_, by simpa using h4⟩
    rw [List.getElem?_take_of_lt hj'.1, h3]
    simp
variable {a1 b1 c1001 a2 b2 c1002 a3 b3 c1003 : Int} {X1 G1 X2 Z : T} {p1001 t1001 p1002 : Int}
theorem law20 {l1002 : List Int} (hX2 : LN X2 l1002) {vs : List (Int × List Int)} (hZ : LW Z vs) (hn : vs.length ≤ 10000) :
    allB a2 b2 c1002 l1002 p1002 vs = false ∨ Z = .nil ∨ Z = .lst 2 [] ∨ ∃ (v : Int) (G0 : T) (ts : List T) (L : List Int), Z = .lst 2 (.agg [ti v, G0] :: ts) ∧ L.length ≤ 1000 ∧ ts.length ≤ 2 ^ 30 ∧ ownR env 14 [.agg [ti a2, ti b2, ti c1002], .agg [X2, ti p1002], .agg [ti v, G0]] = sailR true L.length L v ∧
      ownR env 18 [.agg [ti a2, ti b2, ti c1002], .agg [.lst 1 (til L), ti v], .lst 2 ts] = sailR true (play a2.toNat b2 c1002 vs (l1002, p1002) 0).1.1.length (play a2.toNat b2 c1002 vs (l1002, p1002) 0).1.1 (play a2.toNat b2 c1002 vs (l1002, p1002) 0).1.2 := by
  cases hall : allB a2 b2 c1002 l1002 p1002 vs with
  | false => exact .inl rfl
  | true =>
    right
    rcases hZ.cases with ⟨_, rfl | rfl⟩ | ⟨v, vs', G0, ts, rfl, rfl, hG0, hW, hts⟩
    · exact .inl rfl
    · exact .inr (.inl rfl)
    · right; right
      unfold allB at hall
      rw [Bool.and_eq_true, Bool.and_eq_true, decide_eq_true_eq] at hall
      obtain ⟨hask, h40, hno⟩ := hall
      obtain ⟨k, rfl, hgd, hl2, hok, hcm⟩ := askB_parts hask
      have hgo := good_of hgd
      rw [Int.toNat_natCast] at hno ⊢
      rw [play] at hno ⊢
      simp only [List.length_cons] at hn h40
      by_cases hc : canB k b2 c1002 l1002 p1002 v.1 v.2 = true
      · rw [if_pos hc] at hno ⊢
        obtain ⟨k1001, k1002, k1003, k1004⟩ := can_back hgd hok hcm hc
        have hsl := setAll_length v.1 v.2 l1002
        have hpi := play_idx k b2 c1002 vs' (setAll v.1 v.2 l1002, v.1) (0 + 1) 0
        refine ⟨v.1, G0, ts, setAll v.1 v.2 l1002, rfl, by omega, by omega, ?_, ?_⟩
        · have := r14 k b2 c1002 X2 l1002 hX2 p1002 v.1 G0 v.2 hG0
          rw [hask, Int.toNat_natCast, hc, ← hsl] at this
          exact this
        · have := r18 k b2 c1002 _ _ (LN.of (setAll v.1 v.2 l1002)) v.1 _ vs' hW (by omega)
          rw [this]
          have hal : allB k b2 c1002 (setAll v.1 v.2 l1002) v.1 vs' = true := by
            unfold allB
            rw [k1001, Int.toNat_natCast, ← hpi.2, hno]
            simp; omega
          rw [hal, Int.toNat_natCast, ← hpi.1, play_len]
      · rw [if_neg hc] at hno; cases hno
theorem law21 {l1002 : List Int} (hX2 : LN X2 l1002) {vs : List (Int × List Int)} (hZ : LW Z vs) (hn : vs.length ≤ 10000) :
    (failR a2 b2 c1002 l1002 p1002 vs).2 = false ∨ ∃ (v : Int) (G0 : T) (ts : List T) (L : List Int) (q : Int) (i : Nat), (failR a2 b2 c1002 l1002 p1002 vs).1 = i ∧ Z = .lst 2 ts ∧ ts.length ≤ 2 ^ 30 ∧ ∃ hi : i < ts.length, ts[i] = .agg [ti v, G0] ∧ ownR env 18 [.agg [ti a2, ti b2, ti c1002], .agg [X2, ti p1002], .lst 2 (ts.take i)] = sailR true L.length L q ∧
      ownR env 14 [.agg [ti a2, ti b2, ti c1002], .agg [.lst 1 (til L), ti q], .agg [ti v, G0]] = some (.tup [.agg [.t .nil, .t (ti 0)], .t (tb false)], []) := by
  cases hf : (failR a2 b2 c1002 l1002 p1002 vs).2 with
  | false => exact .inl rfl
  | true =>
    right
    unfold failR at hf ⊢
    cases hask : (askB a2 b2 c1002 l1002 p1002 && decide (vs.length ≤ 40)) with
    | false => rw [hask] at hf; simp at hf
    | true =>
      rw [hask] at hf
      rw [Bool.and_eq_true, decide_eq_true_eq] at hask
      obtain ⟨hask, h40⟩ := hask
      obtain ⟨k, rfl, hgd, hl2, hok, hcm⟩ := askB_parts hask
      have hgo := good_of hgd
      rw [Int.toNat_natCast] at hf ⊢
      cases hR : (play k b2 c1002 vs (l1002, p1002) 0).2 with
      | none => rw [hR] at hf; simp at hf
      | some j =>
        obtain ⟨m, hm, hj, hp, hcn⟩ := play_some k b2 c1002 vs (l1002, p1002) 0 j hR
        have hj' : j = m := by omega
        subst hj'
        obtain ⟨ts, G0, rfl, htl, ⟨hi, he⟩, hG0, hW⟩ := hZ.take hm
        have hpl := play_len k b2 c1002 vs (l1002, p1002) 0
        simp only at hpl
        refine ⟨vs[j].1, G0, ts, (play k b2 c1002 vs (l1002, p1002) 0).1.1, (play k b2 c1002 vs (l1002, p1002) 0).1.2, j, by simp, rfl, by omega, hi, he, ?_, ?_⟩
        · rw [r18 k b2 c1002 X2 l1002 hX2 p1002 _ (vs.take j) hW (by simp; omega)]
          have hal : allB k b2 c1002 l1002 p1002 (vs.take j) = true := by
            unfold allB
            rw [hask, Int.toNat_natCast, hp]
            simp; omega
          rw [hal, Int.toNat_natCast, hp, hpl]
        · rw [r14 k b2 c1002 _ _ (LN.of _) _ _ G0 vs[j].2 hG0, Int.toNat_natCast, hcn, Bool.and_false]
          rfl
theorem law57 {l1002 : List Int} {vs : List (Int × List Int)} : (allB a2 b2 c1002 l1002 p1002 vs && (failR a2 b2 c1002 l1002 p1002 vs).2) = false := by
  unfold allB failR
  cases askB a2 b2 c1002 l1002 p1002 <;> cases decide (vs.length ≤ 40) <;> simp
  cases (play a2.toNat b2 c1002 vs (l1002, p1002) 0).2 <;> simp
theorem law19 (n : Nat) (hn : (n : Int) ≤ c1003 + 1) (hg : good a3 b3 c1003 = true) : ownR env 7 [.agg [ti a3, ti b3, ti c1003], .agg [.lst 1 (til (List.replicate (2 * a3.toNat) (n : Int))), ti n]] = some (.tup [.t (tb true), .t (tb true)], []) := by
  have hgo := good_of hg
  obtain ⟨k, rfl⟩ : ∃ k : Nat, a3 = k := ⟨a3.toNat, by omega⟩
  rw [Int.toNat_natCast]
  obtain ⟨h1, h2⟩ := allAt_ok k (by omega) c1003 n hn
  have hpl := ok_plB hg h1
  unfold allAt at h2 
  simp only at h2
  rw [r7 k b3 c1003 _ _ (LN.of _) n]
  unfold askB
  rw [hpl, Int.toNat_natCast, h2]
  rfl
end Go.Proofs.Ytdgfpjlmpnfcgaa.Ev

namespace Go.Proofs.Ytdgfpjlmpnfcgaa.Ev
open Go
set_option linter.unusedVariables false
set_option linter.unusedSimpArgs false
set_option linter.unusedSectionVars false

variable {a1 b1 c1001 a2 b2 c1002 a3 b3 c1003 : Int} {X1 G1 X2 Z : T} {p1001 t1001 p1002 : Int} {fr : Fr} {H : Heap}
end Go.Proofs.Ytdgfpjlmpnfcgaa.Ev

namespace Go.Proofs.Ytdgfpjlmpnfcgaa.Ev
open Go
set_option linter.unusedVariables false
set_option linter.unusedSimpArgs false
set_option linter.unusedSectionVars false

@[simp] theorem gp0 {α : Type} (P R : List α) : (P ++ R)[P.length]? = R[0]? := by rw [List.getElem?_append_right (Nat.le_refl _), Nat.sub_self]
@[simp] theorem gpk {α : Type} (P R : List α) (k : Nat) : (P ++ R)[P.length + k]? = R[k]? := by rw [List.getElem?_append_right (by omega), Nat.add_sub_cancel_left]
@[simp] theorem spk {α : Type} (P R : List α) (k : Nat) (x : α) : (P ++ R).set (P.length + k) x = P ++ R.set k x := by rw [List.set_append_right _ _ (by omega), Nat.add_sub_cancel_left]
@[simp] theorem gpa {α : Type} (P R : List α) (a k : Nat) : (P ++ R)[P.length + a + k]? = R[a + k]? := by rw [Nat.add_assoc, gpk]
structure BL (C : T) (bs : List Int) : Prop where
  len : ∀ H, evLen H 1 (.t C) = some (bs.length : Int)
  ix : ∀ H (i : Nat) (h : i < bs.length), evIxa H 1 (.t C) (.t (.int .i64 i)) = some (.rptr (.int .u8 bs[i]) 0)
  rng : ∀ b ∈ bs, 0 ≤ b ∧ b < 256
  small : bs.length ≤ 2 ^ 30
def CurX (C : T) (K : Nat) (X : Blk) : Prop := ∃ a s : Int, X = .box 3 [.t C, .t (ti a), .t (.int .u64 s)] ∧ 0 ≤ a ∧ a ≤ K
theorem CurX.mono {C : T} {K K' : Nat} {X : Blk} (h : CurX C K X) (hk : K ≤ K') : CurX C K' X := by
  obtain ⟨a, s, h1, h2, h3⟩ := h
  exact ⟨a, s, h1, h2, by omega⟩
theorem w1008_and (a : Int) : 0 ≤ ((BitVec.ofInt IntKind.u64.bits a &&& BitVec.ofInt IntKind.u64.bits 255).toNat : Int) ∧ ((BitVec.ofInt IntKind.u64.bits a &&& BitVec.ofInt IntKind.u64.bits 255).toNat : Int) < 256 := by
  refine ⟨Int.natCast_nonneg _, ?_⟩
  have h : (BitVec.ofInt IntKind.u64.bits 255).toNat = 255 := by decide
  rw [BitVec.toNat_and, h]
  have := @Nat.and_le_right (BitVec.ofInt IntKind.u64.bits a).toNat 255
  omega
theorem wu8 {n : Int} (h : 0 ≤ n ∧ n < 256) : IntKind.u64.wrap n = n := by
  unfold IntKind.wrap
  simp only [IntKind.signed, IntKind.bits]
  simp
  omega
variable {C : T} {bs : List Int}
theorem r79 (hC : BL C bs) (P Q : Heap) (K : Nat) (hK : K ≤ 2 ^ 40) (X : Blk) (hX : CurX C K X) :
    ∃ n X', den env 79 [.ptr P.length 0 0] (P ++ X :: Q) = some (.t (ti n), P ++ X' :: Q) ∧ CurX C (K + 1) X' ∧ 0 ≤ n ∧ n < 256 := by
  obtain ⟨a, s, rfl, h0, hk⟩ := hX
  have hlen := hC.len
  have hsm := hC.small
  have hw : IntKind.i64.wrap (a + 1) = a + 1 := w76 (by omega)
  suffices h : ∃ n s', den env 79 [.ptr P.length 0 0] (P ++ .box 3 [.t C, .t (ti a), .t (.int .u64 s)] :: Q) = some (.t (ti n), P ++ .box 3 [.t C, .t (ti (a + 1)), .t (.int .u64 s')] :: Q) ∧ 0 ≤ n ∧ n < 256 by
    obtain ⟨n, s', h1, h2⟩ := h
    exact ⟨n, _, h1, ⟨a + 1, s', rfl, by omega, by omega⟩, h2⟩
  by_cases h1 : a < bs.length
  · have hix := fun H => hC.ix H a.toNat (by omega)
    rw [show ((a.toNat : Nat) : Int) = a by omega] at hix
    have hr := hC.rng (bs[a.toNat]'(by omega)) (List.getElem_mem _)
    have hw2 : IntKind.i64.wrap (bs[a.toNat]'(by omega)) = bs[a.toNat]'(by omega) := w76 (by omega)
    have h2 : a + 1 ≤ bs.length := by omega
    have e : ∃ n s', den env 79 [.ptr P.length 0 0] (P ++ .box 3 [.t C, .t (ti a), .t (.int .u64 s)] :: Q) = some (.t (ti n), P ++ .box 3 [.t C, .t (ti (a + 1)), .t (.int .u64 s')] :: Q) ∧ n = bs[a.toNat]'(by omega) := by
      rw [den_ir e79 _ _ rfl (.inl rfl)]
      simp [ir79, ir79_c, hlen, h1, hix, hw, hw2, h2]
    obtain ⟨n, s', e1001, rfl⟩ := e
    exact ⟨_, s', e1001, hr⟩
  · have h2 : ¬ a + 1 ≤ bs.length := by omega
    have e : ∃ n s', den env 79 [.ptr P.length 0 0] (P ++ .box 3 [.t C, .t (ti a), .t (.int .u64 s)] :: Q) = some (.t (ti n), P ++ .box 3 [.t C, .t (ti (a + 1)), .t (.int .u64 s')] :: Q) ∧ ∃ x : Int, n = IntKind.i64.wrap (IntKind.u64.wrap ((BitVec.ofInt IntKind.u64.bits x &&& BitVec.ofInt IntKind.u64.bits 255).toNat : Int)) := by
      rw [den_ir e79 _ _ rfl (.inl rfl)]
      simp [ir79, ir79_c, hlen, h1, hw, h2, evBin, evInt]
      exact ⟨_, rfl⟩
    obtain ⟨n, s', e1001, x, rfl⟩ := e
    have h3 := w1008_and x
    refine ⟨_, s', e1001, ?_⟩
    rw [wu8 h3, w76 (by omega)]
    exact h3
end Go.Proofs.Ytdgfpjlmpnfcgaa.Ev

namespace Go.Proofs.Ytdgfpjlmpnfcgaa.Ev
open Go
set_option linter.unusedVariables false
set_option linter.unusedSimpArgs false
set_option linter.unusedSectionVars false
attribute [local simp] til_getE til_length til_get
variable {C : T} {bs : List Int}
def Dn (C : T) (K : Nat) (P Q : Heap) (lo hi : Int) (r : Option (V × Heap)) : Prop := ∃ n X', r = some (.t (ti n), P ++ X' :: Q) ∧ CurX C K X' ∧ lo ≤ n ∧ n < hi
theorem r54 (hC : BL C bs) (P Q : Heap) {K : Nat} (hK : K ≤ 2 ^ 39) {X : Blk} (hX : CurX C K X) (m : Int) (hm : m ≤ 2 ^ 40) :
    Dn C (K + 2) P Q 0 (max m 1) (den env 54 [.ptr P.length 0 0, .t (ti m)] (P ++ X :: Q)) := by
  by_cases h1 : m ≤ 1
  · refine ⟨0, X, ?_, hX.mono (by omega), by omega, by omega⟩
    rw [den_ir e54 _ _ rfl (.inl rfl)]
    simp [ir54, ir54_c, h1]
  · obtain ⟨n, X1, e1001, hX1, a1, b1⟩ := r79 hC P Q K (by omega) X hX
    have hmx : max m 1 = m := by omega
    rw [hmx]
    by_cases h2 : 200 < m
    · obtain ⟨n2, X2, e1002, hX2, a2, b2⟩ := r79 hC P Q (K + 1) (by omega) X1 hX1
      have w1001 : IntKind.i64.wrap (n * 256) = n * 256 := w76 (by omega)
      have w1002 : IntKind.i64.wrap (n * 256 + n2) = n * 256 + n2 := w76 (by omega)
      have hm0 : ¬ m = 0 := by omega
      refine ⟨(n * 256 + n2).tmod m, X2, ?_, hX2, Int.tmod_nonneg _ (by omega), Int.tmod_lt_of_pos _ (by omega)⟩
      rw [den_ir e54 _ _ rfl (.inl rfl)]
      simp [ir54, ir54_c, h1, h2, e1001, e1002, w1001, w1002, evBin, evInt, hm0]
    · have hm0 : ¬ m = 0 := by omega
      refine ⟨n.tmod m, X1, ?_, hX1.mono (by omega), Int.tmod_nonneg _ (by omega), Int.tmod_lt_of_pos _ (by omega)⟩
      rw [den_ir e54 _ _ rfl (.inl rfl)]
      simp [ir54, ir54_c, h1, h2, e1001, evBin, evInt, hm0]
theorem r78 (hC : BL C bs) (P Q : Heap) {K : Nat} (hK : K ≤ 2 ^ 39) {X : Blk} (hX : CurX C K X) (m : Int) (hm : m ≤ 2 ^ 40) :
    ∃ b X', den env 78 [.ptr P.length 0 0, .t (ti m)] (P ++ X :: Q) = some (.t (tb b), P ++ X' :: Q) ∧ CurX C (K + 2) X' := by
  obtain ⟨n, X1, e1001, hX1, a1, b1⟩ := r54 hC P Q hK hX m hm
  refine ⟨decide (n = 0), X1, ?_, hX1⟩
  rw [den_ir e78 _ _ rfl (.inl rfl)]
  simp [ir78, ir78_c, e1001]
theorem r80 (hC : BL C bs) (P Q : Heap) {K : Nat} (hK : K ≤ 2 ^ 39) {X : Blk} (hX : CurX C K X) (l : List Int) (h0 : 0 < l.length) (hl : l.length ≤ 1000) :
    ∃ n X', den env 80 [.ptr P.length 0 0, .t (tl l)] (P ++ X :: Q) = some (.t (ti n), P ++ X' :: Q) ∧ CurX C (K + 2) X' ∧ n ∈ l := by
  obtain ⟨n, X1, e1001, hX1, a1, b1⟩ := r54 hC P Q hK hX l.length (by omega)
  have hlt : n.toNat < l.length := by omega
  refine ⟨l[n.toNat], X1, ?_, hX1, List.getElem_mem _⟩
  rw [den_ir e80 _ _ rfl (.inl rfl)]
  simp [ir80, ir80_c, e1001, til_length, a1, til_get, hlt]
end Go.Proofs.Ytdgfpjlmpnfcgaa.Ev

namespace Go.Proofs.Ytdgfpjlmpnfcgaa.Ev
open Go
set_option linter.unusedVariables false
set_option linter.unusedSimpArgs false
set_option linter.unusedSectionVars false
attribute [local simp] til_getE til_length til_get
variable {C : T} {bs : List Int}
theorem r56 (hC : BL C bs) (P Q : Heap) {K : Nat} (hK : K ≤ 2 ^ 38) {X : Blk} (hX : CurX C K X) :
    ∃ a b c X' E, den env 56 [.ptr P.length 0 0] (P ++ X :: Q) = some (.agg [.t (ti a), .t (ti b), .t (ti c)], P ++ X' :: (Q ++ E)) ∧ CurX C (K + 20) X' := by
  obtain ⟨n1, X1, e1001, hX1, a1, b1⟩ := r54 hC P (Q ++ [.box 3 [.t (ti 0), .t (ti 0), .t (ti 0)]]) (by omega) hX 2 (by omega)
  obtain ⟨n2, X2, e1002, hX2, a2, b2⟩ := r54 hC P (Q ++ [.box 3 [.t (ti 0), .t (ti 0), .t (ti 0)]]) (by omega) hX1 3 (by omega)
  obtain ⟨n3, X3, e1003, hX3, a3, b3⟩ := r54 hC P (Q ++ [.box 3 [.t (ti 0), .t (ti 0), .t (ti 0)]]) (by omega) hX2 3 (by omega)
  have w1001 : IntKind.i64.wrap (1 + n1) = 1 + n1 := w76 (by omega)
  have w1002 : IntKind.i64.wrap (1 + n2) = 1 + n2 := w76 (by omega)
  have w1003 : IntKind.i64.wrap (1 + n3) = 1 + n3 := w76 (by omega)
  obtain ⟨n4, X4, e1004, hX4, a4, b4⟩ := r54 hC P (Q ++ [.box 3 [.t (ti 0), .t (ti 0), .t (ti 0)], .box 3 [.t (ti (1 + n1)), .t (ti (1 + n2)), .t (ti n3)]]) (by omega) hX3 20 (by omega)
  obtain ⟨n5, X5, e1005, hX5, _⟩ := r80 hC P (Q ++ [.box 3 [.t (ti 0), .t (ti 0), .t (ti 0)], .box 3 [.t (ti (1 + n1)), .t (ti (1 + n2)), .t (ti n3)], .froz 1 (til [-1, 0, 4, 4611686018427387904])]) (by omega) hX4 [-1, 0, 4, 4611686018427387904] (by simp) (by simp)
  obtain ⟨n6, X6, e1006, hX6, _⟩ := r80 hC P (Q ++ [.box 3 [.t (ti 0), .t (ti 0), .t (ti 0)], .box 3 [.t (ti (1 + n1)), .t (ti (1 + n2)), .t (ti n3)], .froz 1 (til [-1, 0, 4])]) (by omega) hX4 [-1, 0, 4] (by simp) (by simp)
  obtain ⟨n7, X7, e1007, hX7, _⟩ := r80 hC P (Q ++ [.box 3 [.t (ti 0), .t (ti 0), .t (ti 0)], .box 3 [.t (ti (1 + n1)), .t (ti (1 + n2)), .t (ti n3)], .froz 1 (til [-1, 3, 4611686018427387904])]) (by omega) hX4 [-1, 3, 4611686018427387904] (by simp) (by simp)
  obtain ⟨n8, X8, e1008, hX8, _, _⟩ := r54 hC P (Q ++ [.box 3 [.t (ti 0), .t (ti 0), .t (ti 0)], .box 3 [.t (ti 3), .t (ti (1 + n2)), .t (ti n3)]]) (by omega) hX4 2 (by omega)
  simp [til, tl] at e1001 e1002 e1003 e1004 e1005 e1006 e1007 e1008
  have c1004 := hX4.mono (K' := K + 20) (by omega)
  have c1005 := hX5.mono (K' := K + 20) (by omega)
  have c1006 := hX6.mono (K' := K + 20) (by omega)
  have c1007 := hX7.mono (K' := K + 20) (by omega)
  have c1008 := hX8.mono (K' := K + 20) (by omega)
  rw [den_ir e56 _ _ rfl (.inl rfl)]
  by_cases h0 : n4 = 0
  · subst h0
    simp [ir56, ir56_c, e1001, e1002, e1003, e1004, e1005, w1001, w1002, c1005]
    exact ⟨_, _, _, _, ⟨⟨rfl, rfl, rfl⟩, rfl⟩, by assumption⟩
  by_cases h1 : n4 = 1
  · subst h1
    simp [ir56, ir56_c, e1001, e1002, e1003, e1004, e1006, w1001, w1002, c1006]
    exact ⟨_, _, _, _, ⟨⟨rfl, rfl, rfl⟩, rfl⟩, by assumption⟩
  by_cases h2 : n4 = 2
  · subst h2
    simp [ir56, ir56_c, e1001, e1002, e1003, e1004, e1007, w1001, w1002, c1007]
    exact ⟨_, _, _, _, ⟨⟨rfl, rfl, rfl⟩, rfl⟩, by assumption⟩
  by_cases h3 : n4 = 3
  · subst h3
    simp [ir56, ir56_c, e1001, e1002, e1003, e1004, e1008, w1001, w1002, c1008]
    exact ⟨_, _, _, _, ⟨⟨rfl, rfl, rfl⟩, rfl⟩, by assumption⟩
  by_cases h4 : n4 = 4
  · subst h4
    simp [ir56, ir56_c, e1001, e1002, e1003, e1004, e1008, w1001, w1002, c1008]
    exact ⟨_, _, _, _, ⟨⟨rfl, rfl, rfl⟩, rfl⟩, by assumption⟩
  · simp [ir56, ir56_c, e1001, e1002, e1003, e1004, h0, h1, h2, h3, h4, w1001, w1002, c1004]
    exact ⟨_, _, _, _, ⟨⟨rfl, rfl, rfl⟩, rfl⟩, by assumption⟩
end Go.Proofs.Ytdgfpjlmpnfcgaa.Ev

namespace Go.Proofs.Ytdgfpjlmpnfcgaa.Ev
open Go
set_option linter.unusedVariables false
set_option linter.unusedSimpArgs false
set_option linter.unusedSectionVars false
attribute [local simp] til_getE til_length til_get til_snoc take_snoc til_take
variable {C : T} {bs : List Int}
def GL (P Q E : Heap) (v : V) (l : List Int) : Prop := (v = .t .nil ∧ l = []) ∨ ∃ k, v = .ref (P.length + (Q.length + k + 1)) 0 l.length ∧ E[k]? = some (.pure 1 (til l))
theorem GL.app {P Q E : Heap} {v : V} {l : List Int} (h : GL P Q E v l) (hl : l.length ≤ 1000) (X : Blk) (x : Int) :
    ∃ v' E', evApp (P ++ X :: (Q ++ (E ++ [Blk.pure 1 [.int .i64 x]]))) 1 v (.ref (P.length + (Q.length + E.length + 1)) 0 1) = some (v', P ++ X :: (Q ++ E')) ∧ GL P Q E' v' (l ++ [x]) := by
  rcases h with ⟨rfl, rfl⟩ | ⟨k, rfl, hk⟩
  · refine ⟨.ref (P.length + (Q.length + (E.length + 1) + 1)) 0 1, E ++ [.pure 1 [.int .i64 x], .pure 1 [.int .i64 x]], ?_, .inr ⟨E.length + 1, by simp, by simp [til]⟩⟩
    simp
  · have hkl := (List.getElem?_eq_some_iff.1 hk).1
    refine ⟨.ref (P.length + (Q.length + (E.length + 1) + 1)) 0 (l.length + 1), (E ++ [Blk.pure 1 [.int .i64 x]]).set k .dead ++ [.pure 1 (til (l ++ [x]))], ?_, .inr ⟨E.length + 1, by simp, ?_⟩⟩
    · have h1 : (E ++ [Blk.pure 1 [.int .i64 x]])[k]? = some (.pure 1 (til l)) := by rw [List.getElem?_append_left hkl]; exact hk
      have h2 : l.length + 1 ≤ 68719476736 := by omega
      simp [h1, h2]
    · rw [List.getElem?_append_right (by simp)]
      simp
theorem GL.ext {P Q E : Heap} {v : V} {l : List Int} (h : GL P Q E v l) (F : Heap) : GL P Q (E ++ F) v l := by
  rcases h with h | ⟨k, rfl, hk⟩
  · exact .inl h
  · exact .inr ⟨k, rfl, by rw [List.getElem?_append_left (List.getElem?_eq_some_iff.1 hk).1]; exact hk⟩
theorem l55 (hC : BL C bs) (P Q : Heap) (n : Nat) (hn : n ≤ 100) {K : Nat} (hK : K ≤ 2 ^ 38) : ∀ (d i : Nat) (X : Blk) (E : Heap) (v : V) (l : List Int), i + d = n → CurX C (K + 2 * i) X → GL P Q E v l → l.length ≤ i →
    ∃ X' E' v' l', loopF env false [0, 1, 5, 6] ir55_b0 ([(0, .ptr P.length 0 0), (1, .t (ti n)), (5, v), (6, .t (ti i))], P ++ X :: (Q ++ E)) =
      some (.exit 0, [(0, .ptr P.length 0 0), (1, .t (ti n)), (5, v'), (6, .t (ti n)), (7, .t (ti n)), (8, .t (ti n)), (9, .t (tb false))], P ++ X' :: (Q ++ E')) ∧ CurX C (K + 2 * n) X' ∧ GL P Q E' v' l' ∧ l'.length ≤ n
  | 0, i, X, E, v, l, hi, hX, hg, hl => by
    have : i = n := by omega
    subst this
    refine ⟨X, E, v, l, ?_, hX, hg, hl⟩
    rw [x55_0]
    simp [ir55_d0]
  | d + 1, i, X, E, v, l, hi, hX, hg, hl => by
    have hlt : (i : Int) < n := by omega
    have hw : IntKind.i64.wrap ((i : Int) + 1) = (i : Int) + 1 := w76 (by omega)
    obtain ⟨b, X1, e1001, hX1⟩ := r78 hC P (Q ++ E) (by omega) hX 3 (by omega)
    cases b with
    | false =>
      obtain ⟨X', E', v', l', h1, h2, h3, h4⟩ := l55 hC P Q n hn hK d (i + 1) X1 E v l (by omega) (hX1.mono (by omega)) hg (by omega)
      refine ⟨X', E', v', l', ?_, h2, h3, h4⟩
      rw [x55_0]
      simp at h1
      simp [ir55_d0, hlt, e1001, hw, h1]
    | true =>
      obtain ⟨v1, E1, a1, g1⟩ := hg.app (by omega) X1 (i : Int)
      obtain ⟨X', E', v', l', h1, h2, h3, h4⟩ := l55 hC P Q n hn hK d (i + 1) X1 E1 v1 (l ++ [(i : Int)]) (by omega) (hX1.mono (by omega)) g1 (by simp; omega)
      refine ⟨X', E', v', l', ?_, h2, h3, h4⟩
      rw [x55_0]
      simp at h1 a1
      simp [ir55_d0, hlt, e1001, hw, h1, a1]
theorem r55 (hC : BL C bs) (P Q : Heap) (n : Nat) (hn : n ≤ 100) {K : Nat} (hK : K ≤ 2 ^ 37) {X : Blk} (hX : CurX C K X) :
    ∃ X' E' v' l', den env 55 [.ptr P.length 0 0, .t (ti n)] (P ++ X :: Q) = some (v', P ++ X' :: (Q ++ E')) ∧ CurX C (K + 300) X' ∧ GL P Q E' v' l' ∧ l'.length ≤ n + 1 := by
  obtain ⟨X1, E1, v1, l1001, h1, c1001, g1, b1⟩ := l55 hC P Q n hn (K := K) (by omega) n 0 X [] (.t .nil) [] (by omega) (by simpa using hX) (.inl ⟨rfl, rfl⟩) (by simp)
  obtain ⟨b, X2, e1002, c1002⟩ := r78 hC P (Q ++ E1) (by omega) c1001 14 (by omega)
  simp at h1
  rw [den_ir e55 _ _ rfl (.inl rfl)]
  cases b with
  | false =>
    have c1002' := c1002.mono (K' := K + 300) (by omega)
    simp [ir55, ir55_c, h1, e1002]
    exact ⟨_, _, _, ⟨rfl, rfl, rfl⟩, c1002', l1001, g1, by omega⟩
  | true =>
    obtain ⟨x, X3, e1003, c1003, _⟩ := r80 hC P (Q ++ (E1 ++ [.froz 1 (til [-1, 0, n, 4611686018427387904])])) (by omega) c1002 [-1, 0, n, 4611686018427387904] (by simp) (by simp)
    obtain ⟨v4, E4, a4, g4⟩ := (g1.ext [.froz 1 (til [-1, 0, n, 4611686018427387904])]).app (by omega) X3 x
    have c1003' := c1003.mono (K' := K + 300) (by omega)
    simp [til, tl] at e1003 a4
    simp [ir55, ir55_c, h1, e1002, e1003, a4]
    exact ⟨_, _, _, ⟨rfl, rfl, rfl⟩, c1003', _, g4, by simp; omega⟩
end Go.Proofs.Ytdgfpjlmpnfcgaa.Ev

namespace Go.Proofs.Ytdgfpjlmpnfcgaa.Ev
open Go
set_option linter.unusedVariables false
set_option linter.unusedSimpArgs false
set_option linter.unusedSectionVars false
attribute [local simp] til_getE til_length til_get til_snoc take_snoc til_take tlv_getE tlv_length tlv_take
variable {C : T} {bs : List Int}
theorem okC_start {a : Nat} {b c : Int} (hgd : good a b c = true) : okC a c (List.replicate (2 * a) 0, 0) ∧ voysAll a b c (List.replicate (2 * a) 0, 0) ≠ [] := by
  have hgo := good_of hgd
  have key : ∀ (a : Fin 4) (b : Fin 4) (c : Fin 3), 1 ≤ a.val → 1 ≤ b.val → calmS a.val (c.val : Int) (List.replicate (2 * a.val) 0) = true ∧ voysAll a.val (b.val : Int) (c.val : Int) (List.replicate (2 * a.val) 0, 0) ≠ [] := by decide +kernel
  obtain ⟨b', rfl⟩ : ∃ b' : Nat, b = b' := ⟨b.toNat, by omega⟩
  obtain ⟨c', rfl⟩ : ∃ c' : Nat, c = c' := ⟨c.toNat, by omega⟩
  have h := key ⟨a, by omega⟩ ⟨b', by omega⟩ ⟨c', by omega⟩ (by simp; omega) (by simp; omega)
  refine ⟨⟨⟨by simp, by simp; omega, fun y hy => by rw [List.mem_replicate] at hy; omega⟩, h.1⟩, h.2⟩
theorem okC_next {a : Nat} {b c : Int} (hgd : good a b c = true) {l : List Int} {p : Int} (hx : okC a c (l, p)) {v : Int × List Int} (hv : v ∈ voysAll a b c (l, p)) : okC a c (setAll v.1 v.2 l, v.1) ∧ voysAll a b c (setAll v.1 v.2 l, v.1) ≠ [] := by
  have hy : (setAll v.1 v.2 l, v.1) ∈ succs a b c (l, p) := List.mem_map.2 ⟨v, hv, rfl⟩
  refine ⟨succs_ok hgd hx.1 hy, fun h => ?_⟩
  have h2 := succs_symm hgd hx hy
  unfold succs at h2
  rw [h] at h2
  cases h2
structure SB (P Q E : Heap) (j k : Nat) (l : List Int) (p : Int) : Prop where
  b : E[j]? = some (.box 2 [.ref (P.length + (Q.length + k + 1)) 0 l.length, .t (ti p)])
  a : E[k]? = some (.pure 1 (til l))
theorem SB.ne {P Q E : Heap} {j k : Nat} {l : List Int} {p : Int} (h : SB P Q E j k l p) : j ≠ k := fun e => by
  have := h.b; rw [e, h.a] at this; cases this
theorem l77 (hC : BL C bs) (P Q : Heap) (a : Nat) (b c : Int) (hgd : good a b c = true) {K : Nat} (hK : K ≤ 2 ^ 38) (jw j : Nat) (hj1 : 1 < j) (hjw : jw ≠ j) (hjw1 : 1 < jw) (z0 z1 : Blk) : ∀ (d : Nat) (X : Blk) (E : Heap) (k : Nat) (l : List Int) (p : Int), CurX C (K + 2 * (100 - d)) X → d ≤ 100 → 1 < k → SB P Q E j k l p → E[jw]? = some (.box 3 [.t (ti a), .t (ti b), .t (ti c)]) → E[0]? = some z0 → E[1]? = some z1 → okC a c (l, p) → voysAll a b c (l, p) ≠ [] →
    ∃ X' E' k' l' p', loopF env false [0, 2, 3, 4, 5, 6] ir77_b0 ([(0, .ptr P.length 0 0), (2, .ptr (P.length + (Q.length + 1)) 0 0), (3, .ptr (P.length + (Q.length + 1 + 1)) 0 0), (4, .ptr (P.length + (Q.length + jw + 1)) 0 0), (5, .ptr (P.length + (Q.length + j + 1)) 0 0), (6, .t (ti d))], P ++ X :: (Q ++ E)) =
      some (.exit 0, (0, .ptr P.length 0 0) :: (2, .ptr (P.length + (Q.length + 1)) 0 0) :: (3, .ptr (P.length + (Q.length + 1 + 1)) 0 0) :: (4, .ptr (P.length + (Q.length + jw + 1)) 0 0) :: (5, .ptr (P.length + (Q.length + j + 1)) 0 0) :: (6, .t (ti 0)) :: [(32, .t (ti 0)), (33, .t (tb false))], P ++ X' :: (Q ++ E')) ∧ CurX C (K + 200) X' ∧ 1 < k' ∧ SB P Q E' j k' l' p' ∧ E'[jw]? = some (.box 3 [.t (ti a), .t (ti b), .t (ti c)]) ∧ E'[0]? = some z0 ∧ E'[1]? = some z1 ∧ l'.length = 2 * a
  | 0, X, E, k, l, p, hX, hd, hk1, hs, hw, h0, h1, hok, hne => by
    refine ⟨X, E, k, l, p, ?_, hX.mono (by omega), hk1, hs, hw, h0, h1, hok.1.1⟩
    rw [x77_0]
    simp [ir77_d0]
  | d + 1, X, E, k, l, p, hX, hd, hk1, hs, hw, h0, h1, hok, hne => by
    have hgo := good_of hgd
    have hn := hs.ne
    have hkl := (List.getElem?_eq_some_iff.1 hs.a).1
    have hlen := hok.1.1
    simp only at hlen
    obtain ⟨vs, hvs⟩ : ∃ vs, vs = voysAll a b c (l, p) := ⟨_, rfl⟩
    have h32 : IsVs (ownFR env 34 [.agg [ti a, ti b, ti c], .agg [tl l, ti p]]) vs := hvs ▸ r34 a b c hgd l hlen p hok.1.2.1
    have hvl : vs.length ≤ 2 ^ 10 := hvs ▸ voysAll_len hgd hok.1
    have hpos : 0 < vs.length := List.length_pos_iff.2 (hvs ▸ hne)
    have h32 := h32.resolve_left (fun h => hne (hvs ▸ h.2))
    obtain ⟨n, X1, e1001, hX1, a1, b1⟩ := r54 hC P (Q ++ (E.set k (.froz 1 (til l)) ++ [.pure 2 (tlv vs)])) (by omega) hX vs.length (by omega)
    have hlt : n.toNat < vs.length := by omega
    have hmem : vs[n.toNat] ∈ voysAll a b c (l, p) := hvs ▸ List.getElem_mem hlt
    obtain ⟨q1001, q1002⟩ := okC_next hgd hok hmem
    obtain ⟨c1001, c1002, c1003⟩ := can_in (by omega) (voys_can hmem)
    have h33 := r46 l vs[n.toNat].2 p vs[n.toNat].1 (by omega) (by omega) c1003
    have hsl := setAll_length vs[n.toNat].1 vs[n.toNat].2 l
    have hn2 : n < vs.length := by omega
    obtain ⟨v, hv⟩ : ∃ v, vs[n.toNat] = v := ⟨_, rfl⟩
    rw [hv] at hmem q1001 q1002 c1001 c1002 c1003 h33 hsl
    have hwd : IntKind.i64.wrap (d : Int) = d := w76 (by omega)
    have hjl := (List.getElem?_eq_some_iff.1 hs.b).1
    have hwl := (List.getElem?_eq_some_iff.1 hw).1
    have hkw : jw ≠ k := fun e => by have := hw; rw [e, hs.a] at this; cases this
    have g0 : ∀ (b : Blk) Y, (E.set k b ++ Y)[j]? = some (.box 2 [.ref (P.length + (Q.length + k + 1)) 0 l.length, .t (ti p)]) := fun b Y => by rw [List.getElem?_append_left (by simpa using hjl), List.getElem?_set_ne (Ne.symm hn)]; exact hs.b
    have g1 : ∀ (x : Blk) Y, (E.set k x ++ Y)[jw]? = some (.box 3 [.t (ti a), .t (ti b), .t (ti c)]) := fun x Y => by rw [List.getElem?_append_left (by simpa using hwl), List.getElem?_set_ne (Ne.symm hkw)]; exact hw
    have g2 : ∀ (b : Blk) Y, (E.set k b ++ Y)[k]? = some b := fun b Y => by rw [List.getElem?_append_left (by simpa using hkl)]; simp [hkl]
    have g3 : ∀ (b : Blk) Y i, (E.set k b ++ Y)[E.length + i]? = Y[i]? := fun b Y i => by rw [List.getElem?_append_right (by simp)]; simp
    have g4 : ∀ (b : Blk) Y, (E.set k b ++ Y)[E.length]? = Y[0]? := fun b Y => g3 b Y 0
    obtain ⟨X', E', k', l', p', f1, f2, f3⟩ := l77 hC P Q a b c hgd hK jw j hj1 hjw hjw1 z0 z1 d X1 ((E.set k (.froz 1 (til l)) ++ [Blk.pure 2 (tlv vs), Blk.pure 1 (til (setAll v.1 v.2 l))]).set j (.box 2 [.ref (P.length + (Q.length + (E.length + 1) + 1)) 0 l.length, .t (ti v.1)])) (E.length + 1) (setAll v.1 v.2 l) v.1 (hX1.mono (by omega)) (by omega) (by omega) ⟨by rw [List.getElem?_set_self (by simp; omega), hsl], by rw [List.getElem?_set_ne (by omega), g3]; rfl⟩ (by rw [List.getElem?_set_ne (Ne.symm hjw), g1]) (by rw [List.getElem?_set_ne (by omega), List.getElem?_append_left (by simp; omega), List.getElem?_set_ne (by omega)]; exact h0) (by rw [List.getElem?_set_ne (by omega), List.getElem?_append_left (by simp; omega), List.getElem?_set_ne (by omega)]; exact h1) q1001 q1002
    refine ⟨X', E', k', l', p', ?_, f2, f3⟩
    rw [x77_0]
    have hd1 : (0 : Int) < ((d + 1 : Nat) : Int) := by omega
    simp [ir77_d0, hs.a, hs.b, hw, h32, hpos, e1001, g0, g1, g2, g3, g4, hlt, h33, hwd, hd1, hsl, a1, hn2, hv, voyT, f1]
end Go.Proofs.Ytdgfpjlmpnfcgaa.Ev

namespace Go.Proofs.Ytdgfpjlmpnfcgaa.Ev
open Go
set_option linter.unusedVariables false
set_option linter.unusedSimpArgs false
set_option linter.unusedSectionVars false
attribute [local simp] til_getE til_length til_get til_snoc take_snoc til_take tlv_getE tlv_length tlv_take til_set
variable {C : T} {bs : List Int}
def z3 : Blk := .box 3 [.t (ti 0), .t (ti 0), .t (ti 0)]
def z2 : Blk := .box 2 [.t .nil, .t (ti 0)]
def AL (P Q E : Heap) (v : V) (l : List Int) : Prop := v = .t (tl l) ∨ ∃ k, v = .ref (P.length + (Q.length + k + 1)) 0 l.length ∧ E[k]? = some (.pure 1 (til l))
theorem r77 (hC : BL C bs) (P Q : Heap) {K : Nat} (hK : K ≤ 2 ^ 36) {X : Blk} (hX : CurX C K X) :
    ∃ a b c l p v X' E', den env 77 [.ptr P.length 0 0] (P ++ X :: Q) = some (.tup [.agg [.t (ti a), .t (ti b), .t (ti c)], .agg [v, .t (ti p)]], P ++ X' :: (Q ++ E')) ∧ CurX C (K + 1000) X' ∧ AL P Q E' v l ∧ l.length ≤ 1000 := by
  obtain ⟨a, b, c, X1, E0, e1001, hX1⟩ := r56 hC P (Q ++ [z3, z2]) (by omega) hX
  obtain ⟨W, hW⟩ : ∃ W, W = Blk.box 3 [.t (ti a), .t (ti b), .t (ti c)] := ⟨_, rfl⟩
  have hbad : ∀ {X2 : Blk} {K2 : Nat}, CurX C K2 X2 → K2 ≤ K + 500 → ∃ n1 X3 n2 X4 n3 X5, den env 54 [.ptr P.length 0 0, .t (ti 3)] (P ++ X2 :: (Q ++ z3 :: z2 :: (E0 ++ [W]))) = some (.t (ti n1), P ++ X3 :: (Q ++ z3 :: z2 :: (E0 ++ [W]))) ∧
      den env 54 [.ptr P.length 0 0, .t (ti 9)] (P ++ X3 :: (Q ++ z3 :: z2 :: (E0 ++ [W]))) = some (.t (ti n2), P ++ X4 :: (Q ++ z3 :: z2 :: (E0 ++ [W]))) ∧
      den env 54 [.ptr P.length 0 0, .t (ti 4)] (P ++ X4 :: (Q ++ z3 :: z2 :: (E0 ++ [W]))) = some (.t (ti n3), P ++ X5 :: (Q ++ z3 :: z2 :: (E0 ++ [W]))) ∧ CurX C (K + 1000) X5 ∧ IntKind.i64.wrap (n2.tdiv 8) = n2.tdiv 8 ∧ IntKind.i64.wrap (n1 - n2.tdiv 8) = n1 - n2.tdiv 8 := by
    intro X2 K2 h2 hk2
    obtain ⟨n1, X3, h3, c1003, _, _⟩ := r54 hC P (Q ++ z3 :: z2 :: (E0 ++ [W])) (by omega) h2 3 (by omega)
    obtain ⟨n2, X4, h4, c1004, _, _⟩ := r54 hC P (Q ++ z3 :: z2 :: (E0 ++ [W])) (by omega) c1003 9 (by omega)
    obtain ⟨n3, X5, h5, c1005, _, _⟩ := r54 hC P (Q ++ z3 :: z2 :: (E0 ++ [W])) (by omega) c1004 4 (by omega)
    have hq : n2.tdiv 8 = n2 / 8 := Int.tdiv_eq_ediv_of_nonneg (by omega)
    exact ⟨n1, X3, n2, X4, n3, X5, h3, h4, h5, c1005.mono (by omega), w76 (by omega), w76 (by omega)⟩
  obtain ⟨b0, X2, e1002, hX2⟩ := r78 hC P (Q ++ z3 :: z2 :: (E0 ++ [W])) (by omega) hX1 10 (by omega)
  simp at e1001
  rw [den_ir e77 _ _ rfl (.inl rfl)]
  cases hgd : good a b c with
  | false =>
    obtain ⟨n1, X3, n2, X4, n3, X5, h3, h4, h5, c1005, w1001, w1002⟩ := hbad hX1 (by omega)
    simp [z3, z2] at e1001 h3 h4 h5
    subst hW
    simp [ir77, ir77_c, e1001, hgd, h3, h4, h5, w1001, w1002, evBin, evInt]
    exact ⟨_, _, _, [n1 - n2.tdiv 8, 0], _, _, _, _, ⟨⟨⟨rfl, rfl, rfl⟩, rfl, rfl⟩, rfl, rfl⟩, c1005, .inl rfl, by simp⟩
  | true =>
    cases b0 with
    | true =>
      obtain ⟨n1, X3, n2, X4, n3, X5, h3, h4, h5, c1005, w1001, w1002⟩ := hbad hX2 (by omega)
      simp [z3, z2] at e1001 e1002 h3 h4 h5
      subst hW
      simp [ir77, ir77_c, e1001, e1002, hgd, h3, h4, h5, w1001, w1002, evBin, evInt]
      exact ⟨_, _, _, [n1 - n2.tdiv 8, 0], _, _, _, _, ⟨⟨⟨rfl, rfl, rfl⟩, rfl, rfl⟩, rfl, rfl⟩, c1005, .inl rfl, by simp⟩
    | false =>
      have hgo := good_of hgd
      obtain ⟨m, rfl⟩ : ∃ m : Nat, a = m := ⟨a.toNat, by omega⟩
      have h24 := r50 m b c 0 (by omega)
      have hm : (2 * (m : Int)).toNat = 2 * m := by omega
      rw [hm] at h24
      obtain ⟨hok, hne⟩ := okC_start hgd
      obtain ⟨n, X3, e1003, hX3, a3, b3⟩ := r54 hC P (Q ++ z3 :: z2 :: (E0 ++ [W, .pure 1 (til (List.replicate (2 * m) 0)), .box 2 [.ref (P.length + (Q.length + (E0.length + 3) + 1)) 0 (2 * m), .t (ti 0)]])) (by omega) hX2 7 (by omega)
      obtain ⟨X4, E4, k1004, l1004, p1004, h4, hX4, hk4, hs4, hw4, h04, h14, hl4⟩ := l77 hC P Q m b c hgd (K := K + 100) (by omega) (E0.length + 2) (E0.length + 4) (by omega) (by omega) (by omega) z3 z2 n.toNat X3 (z3 :: z2 :: (E0 ++ [W, .pure 1 (til (List.replicate (2 * m) 0)), .box 2 [.ref (P.length + (Q.length + (E0.length + 3) + 1)) 0 (2 * m), .t (ti 0)]])) (E0.length + 3) (List.replicate (2 * m) 0) 0 (hX3.mono (by omega)) (by omega) (by omega) ⟨by simp, by simp⟩ (by simp [hW]) rfl rfl hok hne
      obtain ⟨b5, X5, e1005, hX5⟩ := r78 hC P (Q ++ E4) (by omega) hX4 6 (by omega)
      have hnn : ((n.toNat : Nat) : Int) = n := by omega
      rw [hnn] at h4
      simp [z3, z2] at e1001 e1002 e1003 h4
      subst hW
      have hj := hs4.b
      have ha := hs4.a
      have hkl := (List.getElem?_eq_some_iff.1 ha).1
      have hne4 := hs4.ne
      have hkw : E0.length + 2 ≠ k1004 := fun e => by rw [e, ha] at hw4; cases hw4
      have hl0 : 0 < E4.length := by omega
      have hl1 : 1 < E4.length := by omega
      cases b5 with
      | false =>
        have c1005 := hX5.mono (K' := K + 1000) (by omega)
        have g0 : ∀ x y, ((E4.set 0 x).set 1 y)[0]? = some x := fun x y => by rw [List.getElem?_set_ne (by omega), List.getElem?_set_self hl0]
        have g1 : ∀ x y, ((E4.set 0 x).set 1 y)[1]? = some y := fun x y => by rw [List.getElem?_set_self (by simpa using hl1)]
        have g2 : ∀ x y, ((E4.set 0 x).set 1 y)[k1004]? = some (.pure 1 (til l1004)) := fun x y => by rw [List.getElem?_set_ne (by omega), List.getElem?_set_ne (by omega), ha]
        simp [ir77, ir77_c, e1001, e1002, hgd, h24, e1003, h4, e1005, hj, ha, hw4, h04, h14, z3, z2, g0, g1]
        exact ⟨_, _, _, l1004, _, _, _, _, ⟨⟨⟨rfl, rfl, rfl⟩, rfl, rfl⟩, rfl, rfl⟩, c1005, .inr ⟨k1004, rfl, g2 _ _⟩, by omega⟩
      | true =>
        obtain ⟨n6, X6, e1006, hX6, a6, b6⟩ := r54 hC P (Q ++ E4) (by omega) hX5 l1004.length (by omega)
        obtain ⟨n7, X7, e1007, hX7, a7, b7⟩ := r54 hC P (Q ++ E4) (by omega) hX6 (c + 2) (by omega)
        have c1007 := hX7.mono (K' := K + 1000) (by omega)
        have hw1 : IntKind.i64.wrap (c + 2) = c + 2 := w76 (by omega)
        have hlt6 : n6 < l1004.length := by omega
        have hlt6' : n6.toNat < l1004.length := by omega
        have g0 : ∀ z x y, (((E4.set k1004 z).set 0 x).set 1 y)[0]? = some x := fun z x y => by rw [List.getElem?_set_ne (by omega), List.getElem?_set_self (by simpa using hl0)]
        have g1 : ∀ z x y, (((E4.set k1004 z).set 0 x).set 1 y)[1]? = some y := fun z x y => by rw [List.getElem?_set_self (by simpa using hl1)]
        have g2 : ∀ z x y, (((E4.set k1004 z).set 0 x).set 1 y)[k1004]? = some z := fun z x y => by rw [List.getElem?_set_ne (by omega), List.getElem?_set_ne (by omega), List.getElem?_set_self hkl]
        have g3 : ∀ z, (E4.set k1004 z)[E0.length + 4]? = some (.box 2 [.ref (P.length + (Q.length + k1004 + 1)) 0 l1004.length, .t (ti p1004)]) := fun z => by rw [List.getElem?_set_ne (Ne.symm hne4)]; exact hj
        have g4 : ∀ z, (E4.set k1004 z)[E0.length + 2]? = some (.box 3 [.t (ti m), .t (ti b), .t (ti c)]) := fun z => by rw [List.getElem?_set_ne (Ne.symm hkw)]; exact hw4
        have g5 : ∀ z, (E4.set k1004 z)[0]? = E4[0]? := fun z => by rw [List.getElem?_set_ne (by omega)]
        have g6 : ∀ z x, ((E4.set k1004 z).set 0 x)[1]? = E4[1]? := fun z x => by rw [List.getElem?_set_ne (by omega), List.getElem?_set_ne (by omega)]
        simp [ir77, ir77_c, e1001, e1002, hgd, h24, e1003, h4, e1005, hj, ha, hw4, h04, h14, z3, z2, g0, g1, g3, g4, g5, g6, e1006, e1007, hw1, a6, hlt6, hlt6']
        exact ⟨_, _, _, l1004.set n6.toNat n7, _, _, _, _, ⟨⟨⟨rfl, rfl, rfl⟩, rfl, rfl⟩, rfl, rfl⟩, c1007, .inr ⟨k1004, by simp, g2 _ _ _⟩, by simp; omega⟩
end Go.Proofs.Ytdgfpjlmpnfcgaa.Ev

namespace Go.Proofs.Ytdgfpjlmpnfcgaa.Ev
open Go
set_option linter.unusedVariables false
set_option linter.unusedSimpArgs false
set_option linter.unusedSectionVars false
attribute [local simp] til_getE til_length til_get til_snoc take_snoc til_take tlv_getE tlv_length tlv_take til_set
variable {C : T} {bs : List Int}
structure Kp (s : Nat) (E E' : Heap) : Prop where
  len : E.length ≤ E'.length
  at' : ∀ (i : Nat) (b : Blk), E[i]? = some b → (∀ xs, b ≠ .pure s xs) → E'[i]? = some b
theorem Kp.refl (s : Nat) (E : Heap) : Kp s E E := ⟨Nat.le_refl _, fun _ _ h _ => h⟩
theorem Kp.app {s : Nat} {E E' : Heap} (h : Kp s E E') (F : Heap) : Kp s E (E' ++ F) := ⟨by have := h.len; simp; omega, fun i b hb hn => by
  rw [List.getElem?_append_left (List.getElem?_eq_some_iff.1 (h.at' i b hb hn)).1]; exact h.at' i b hb hn⟩
def AF (P Q E : Heap) (v : V) (l : List Int) : Prop := v = .t (tl l) ∨ ∃ k, v = .ref (P.length + (Q.length + k + 1)) 0 l.length ∧ (E[k]? = some (.pure 1 (til l)) ∨ E[k]? = some (.froz 1 (til l)))
theorem AF.kp {P Q E E' : Heap} {v : V} {l : List Int} (h : AF P Q E v l) (hk : Kp 2 E E') : AF P Q E' v l := by
  rcases h with h | ⟨k, h1, h2⟩
  · exact .inl h
  · exact .inr ⟨k, h1, h2.imp (fun h => hk.at' k _ h (fun xs e => by cases e)) (fun h => hk.at' k _ h (fun xs e => by cases e))⟩
theorem AF.app {P Q E : Heap} {v : V} {l : List Int} (h : AF P Q E v l) (F : Heap) : AF P Q (E ++ F) v l := h.kp ((Kp.refl 2 E).app F)
theorem AF.rd {P Q E : Heap} {v : V} {l : List Int} (h : AF P Q E v l) (X : Blk) : ∃ L E1, rd (P ++ X :: (Q ++ E)) 5 v = some (tl l, L) ∧ frz (P ++ X :: (Q ++ E)) L = P ++ X :: (Q ++ E1) ∧ E1.length = E.length ∧ Kp 1 E E1 ∧ ∀ v' l', AF P Q E v' l' → AF P Q E1 v' l' := by
  rcases h with rfl | ⟨k, rfl, h | h⟩
  · exact ⟨[], E, by simp, rfl, rfl, Kp.refl _ _, fun _ _ h => h⟩
  · have hkl := (List.getElem?_eq_some_iff.1 h).1
    refine ⟨_, E.set k (.froz 1 (til l)), by simp [h]; rfl, by simp, by simp, ⟨by simp, fun i b hb hn => ?_⟩, fun v' l' h' => ?_⟩
    · have : i ≠ k := fun e => by subst e; rw [h] at hb; cases hb; exact hn _ rfl
      rw [List.getElem?_set_ne (Ne.symm this)]; exact hb
    · rcases h' with h' | ⟨k', h1, h2⟩
      · exact .inl h'
      · refine .inr ⟨k', h1, ?_⟩
        by_cases e : k = k'
        · subst e
          right
          rw [List.getElem?_set_self hkl]
          rcases h2 with h2 | h2
          · rw [h] at h2
            injection h2 with h2
            injection h2 with _ h2
            rw [h2]
          · rw [h] at h2
            injection h2 with h2
            injection h2
        · rw [List.getElem?_set_ne e]; exact h2
  · exact ⟨[], E, by simp [h], rfl, rfl, Kp.refl _ _, fun _ _ h => h⟩
def ZR (P Q E : Heap) (v : V) (ts : List T) : Prop := (v = .t .nil ∧ ts = []) ∨ ∃ k, v = .ref (P.length + (Q.length + k + 1)) 0 ts.length ∧ E[k]? = some (.pure 2 ts)
theorem ZR.kp {P Q E E' : Heap} {v : V} {ts : List T} (h : ZR P Q E v ts) (hk : Kp 1 E E') : ZR P Q E' v ts := by
  rcases h with h | ⟨k, h1, h2⟩
  · exact .inl h
  · exact .inr ⟨k, h1, hk.at' k _ h2 (fun xs e => by cases e)⟩
theorem ZR.ext {P Q E : Heap} {v : V} {ts : List T} (h : ZR P Q E v ts) (F : Heap) : ZR P Q (E ++ F) v ts := h.kp ((Kp.refl 1 E).app F)
theorem ZR.app {P Q E : Heap} {v : V} {ts : List T} (h : ZR P Q E v ts) (hl : ts.length ≤ 1000) (X : Blk) (y : T) :
    ∃ v' E', evApp (P ++ X :: (Q ++ (E ++ [Blk.pure 2 [y]]))) 2 v (.ref (P.length + (Q.length + E.length + 1)) 0 1) = some (v', P ++ X :: (Q ++ E')) ∧ ZR P Q E' v' (ts ++ [y]) ∧ Kp 2 E E' := by
  rcases h with ⟨rfl, rfl⟩ | ⟨k, rfl, hk⟩
  · refine ⟨.ref (P.length + (Q.length + (E.length + 1) + 1)) 0 1, E ++ [Blk.pure 2 [y], Blk.pure 2 [y]], ?_, .inr ⟨E.length + 1, by simp, by simp⟩, (Kp.refl 2 E).app _⟩
    simp
  · have hkl := (List.getElem?_eq_some_iff.1 hk).1
    refine ⟨.ref (P.length + (Q.length + (E.length + 1) + 1)) 0 (ts.length + 1), (E ++ [Blk.pure 2 [y]]).set k .dead ++ [Blk.pure 2 (ts ++ [y])], ?_, .inr ⟨E.length + 1, by simp, ?_⟩, ⟨by simp; omega, fun i b hb hn => ?_⟩⟩
    · have h1 : (E ++ [Blk.pure 2 [y]])[k]? = some (.pure 2 ts) := by rw [List.getElem?_append_left hkl]; exact hk
      have h2 : ts.length + 1 ≤ 68719476736 := by omega
      simp [h1, h2]
    · rw [List.getElem?_append_right (by simp)]
      simp
    · have hil := (List.getElem?_eq_some_iff.1 hb).1
      have : i ≠ k := fun e => by subst e; rw [hk] at hb; cases hb; exact hn _ rfl
      rw [List.getElem?_append_left (by simp; omega), List.getElem?_set_ne (Ne.symm this), List.getElem?_append_left hil]; exact hb
end Go.Proofs.Ytdgfpjlmpnfcgaa.Ev

namespace Go.Proofs.Ytdgfpjlmpnfcgaa.Ev
open Go
set_option linter.unusedVariables false
set_option linter.unusedSimpArgs false
set_option linter.unusedSectionVars false
attribute [local simp] til_getE til_length til_get til_snoc take_snoc til_take tlv_getE tlv_length tlv_take til_set
variable {C : T} {bs : List Int}
def VT (y : T) : Prop := ∃ t g G, y = .agg [ti t, G] ∧ LN G g ∧ g.length ≤ 1000
structure LS (E : Heap) (i5 i6 : Nat) (a b c : Int) (v : V) (p : Int) : Prop where
  b0 : E[0]? = some z3
  b1 : E[1]? = some z2
  b5 : E[i5]? = some (.box 3 [.t (ti a), .t (ti b), .t (ti c)])
  b6 : E[i6]? = some (.box 2 [v, .t (ti p)])
theorem LS.kp {s : Nat} {E E' : Heap} {i5 i6 : Nat} {a b c : Int} {v : V} {p : Int} (h : LS E i5 i6 a b c v p) (hk : Kp s E E') : LS E' i5 i6 a b c v p :=
  ⟨hk.at' _ _ h.b0 nofun, hk.at' _ _ h.b1 nofun, hk.at' _ _ h.b5 nofun, hk.at' _ _ h.b6 nofun⟩
theorem LS.set {E : Heap} {i5 i6 : Nat} {a b c : Int} {v : V} {p : Int} (h : LS E i5 i6 a b c v p) {i : Nat} (x : Blk) (h0 : 1 < i) (h5 : i ≠ i5) (h6 : i ≠ i6) : LS (E.set i x) i5 i6 a b c v p :=
  ⟨by rw [List.getElem?_set_ne (by omega)]; exact h.b0, by rw [List.getElem?_set_ne (by omega)]; exact h.b1, by rw [List.getElem?_set_ne h5]; exact h.b5, by rw [List.getElem?_set_ne h6]; exact h.b6⟩
theorem AF.set {P Q E : Heap} {v : V} {l : List Int} (h : AF P Q E v l) {i n : Nat} {vs : List V} (hi : E[i]? = some (.box n vs)) (x : Blk) : AF P Q (E.set i x) v l := by
  rcases h with h | ⟨k, h1, h2⟩
  · exact .inl h
  · refine .inr ⟨k, h1, ?_⟩
    have : i ≠ k := fun e => by subst e; rw [hi] at h2; rcases h2 with h2 | h2 <;> cases h2
    rw [List.getElem?_set_ne this]; exact h2
theorem ZR.set {P Q E : Heap} {v : V} {ts : List T} (h : ZR P Q E v ts) {i n : Nat} {vs : List V} (hi : E[i]? = some (.box n vs)) (x : Blk) : ZR P Q (E.set i x) v ts := by
  rcases h with h | ⟨k, h1, h2⟩
  · exact .inl h
  · refine .inr ⟨k, h1, ?_⟩
    have : i ≠ k := fun e => by subst e; rw [hi] at h2; cases h2
    rw [List.getElem?_set_ne this]; exact h2
theorem l53 (hC : BL C bs) (P Q : Heap) (a : Nat) (b c : Int) (hgd : good a b c = true) {K : Nat} (hK : K ≤ 2 ^ 37) (i5 i6 i8 : Nat) (h8 : 1 < i8) (h85 : i8 ≠ i5) (h86 : i8 ≠ i6) (v : V) (p : Int) (l1000 : List Int) : ∀ (d : Nat) (X : Blk) (E : Heap) (lv vn : V) (ts : List T) (ln : List Int) (pn : Int), CurX C (K + 4 * (100 - d)) X → d ≤ 100 → LS E i5 i6 a b c v p → AF P Q E v l1000 → E[i8]? = some (.box 2 [vn, .t (ti pn)]) → AF P Q E vn ln → okP a c (ln, pn) → ZR P Q E lv ts → ts.length ≤ 100 - d → (∀ y ∈ ts, VT y) →
    ∃ X' E' lv' ts' fr, loopF env false [0, 2, 3, 5, 6, 7, 8, 9] ir53_b0 ([(0, .ptr P.length 0 0), (2, .ptr (P.length + (Q.length + 1)) 0 0), (3, .ptr (P.length + (Q.length + 1 + 1)) 0 0), (5, .ptr (P.length + (Q.length + i5 + 1)) 0 0), (6, .ptr (P.length + (Q.length + i6 + 1)) 0 0), (7, lv), (8, .ptr (P.length + (Q.length + i8 + 1)) 0 0), (9, .t (ti d))], P ++ X :: (Q ++ E)) =
      some (.exit 0, fr, P ++ X' :: (Q ++ E')) ∧ (fr.get 0 = .ptr P.length 0 0 ∧ fr.get 2 = .ptr (P.length + (Q.length + 1)) 0 0 ∧ fr.get 3 = .ptr (P.length + (Q.length + 1 + 1)) 0 0 ∧ fr.get 5 = .ptr (P.length + (Q.length + i5 + 1)) 0 0 ∧ fr.get 6 = .ptr (P.length + (Q.length + i6 + 1)) 0 0 ∧ fr.get 7 = lv') ∧ CurX C (K + 1000) X' ∧ LS E' i5 i6 a b c v p ∧ AF P Q E' v l1000 ∧ ZR P Q E' lv' ts' ∧ ts'.length ≤ 100 ∧ ∀ y ∈ ts', VT y
  | 0, X, E, lv, vn, ts, ln, pn, hX, hd, hs, hv, h8b, hvn, hok, hz, hts, hvt => by
    refine ⟨X, E, lv, ts, [(0, .ptr P.length 0 0), (2, .ptr (P.length + (Q.length + 1)) 0 0), (3, .ptr (P.length + (Q.length + 1 + 1)) 0 0), (5, .ptr (P.length + (Q.length + i5 + 1)) 0 0), (6, .ptr (P.length + (Q.length + i6 + 1)) 0 0), (7, lv), (8, .ptr (P.length + (Q.length + i8 + 1)) 0 0), (9, .t (ti 0)), (29, .t (ti 0)), (30, .t (tb false))], ?_, by simp, hX.mono (by omega), hs, hv, hz, by omega, hvt⟩
    rw [x53_0]
    simp [ir53_d0]
  | d + 1, X, E, lv, vn, ts, ln, pn, hX, hd, hs, hv, h8b, hvn, hok, hz, hts, hvt => by
    have hgo := good_of hgd
    have hlen := hok.1
    simp only at hlen
    obtain ⟨L, E1, q1001, q1002, q1003, q1004, q1005⟩ := hvn.rd X
    obtain ⟨vs, hvs⟩ : ∃ vs, vs = voysAll a b c (ln, pn) := ⟨_, rfl⟩
    have h32 : IsVs (ownFR env 34 [.agg [ti a, ti b, ti c], .agg [tl ln, ti pn]]) vs := hvs ▸ r34 a b c hgd ln hlen pn hok.2.1
    have hvl : vs.length ≤ 2 ^ 10 := hvs ▸ voysAll_len hgd hok
    have hd1 : (0 : Int) < ((d + 1 : Nat) : Int) := by omega
    have hd1' : (0 : Int) < (d : Int) + 1 := by omega
    have hwd : IntKind.i64.wrap (d : Int) = d := w76 (by omega)
    have hsE1 := hs.kp q1004
    have hstop : vs = [] → ∃ F fr, loopF env false [0, 2, 3, 5, 6, 7, 8, 9] ir53_b0 ([(0, .ptr P.length 0 0), (2, .ptr (P.length + (Q.length + 1)) 0 0), (3, .ptr (P.length + (Q.length + 1 + 1)) 0 0), (5, .ptr (P.length + (Q.length + i5 + 1)) 0 0), (6, .ptr (P.length + (Q.length + i6 + 1)) 0 0), (7, lv), (8, .ptr (P.length + (Q.length + i8 + 1)) 0 0), (9, .t (ti (d + 1 : Nat)))], P ++ X :: (Q ++ E)) =
      some (.exit 0, fr, P ++ X :: (Q ++ (E1 ++ F))) ∧ (fr.get 0 = .ptr P.length 0 0 ∧ fr.get 2 = .ptr (P.length + (Q.length + 1)) 0 0 ∧ fr.get 3 = .ptr (P.length + (Q.length + 1 + 1)) 0 0 ∧ fr.get 5 = .ptr (P.length + (Q.length + i5 + 1)) 0 0 ∧ fr.get 6 = .ptr (P.length + (Q.length + i6 + 1)) 0 0 ∧ fr.get 7 = lv) := fun e => by
      subst e
      rw [x53_0]
      rcases h32 with ⟨h32, _⟩ | h32
      · simp [ir53_d0, hs.b5, h8b, q1001, q1002, h32, hd1']
        exact ⟨_, _, ⟨rfl, rfl⟩, by simp⟩
      · simp [ir53_d0, hs.b5, h8b, q1001, q1002, h32, hd1']
        exact ⟨_, _, ⟨rfl, rfl⟩, by simp⟩
    by_cases hv0 : vs = []
    · obtain ⟨F, fr, r1001, r1002⟩ := hstop hv0
      exact ⟨X, E1 ++ F, lv, ts, fr, r1001, r1002, hX.mono (by omega), hsE1.kp ((Kp.refl 1 E1).app F), (q1005 _ _ hv).app F, (hz.kp q1004).ext F, by omega, hvt⟩
    have hpos : 0 < vs.length := List.length_pos_iff.2 hv0
    replace h32 := h32.resolve_left (fun h => hv0 h.2)
    obtain ⟨n, X1, e1001, hX1, a1, b1⟩ := r54 hC P (Q ++ (E1 ++ [Blk.pure 2 (tlv vs)])) (by omega) hX vs.length (by omega)
    have hlt : n.toNat < vs.length := by omega
    have hn2 : n < vs.length := by omega
    have hmem : vs[n.toNat] ∈ voysAll a b c (ln, pn) := hvs ▸ List.getElem_mem hlt
    obtain ⟨w, hw⟩ : ∃ w, vs[n.toNat] = w := ⟨_, rfl⟩
    rw [hw] at hmem
    have hok2 := (voys_ok hgd hok w hmem).2.2
    obtain ⟨c1001, c1002, c1003⟩ := can_in (by omega) (voys_can hmem)
    have h33 := r46 ln w.2 pn w.1 (by omega) (by omega) c1003
    have hsl := setAll_length w.1 w.2 ln
    have hB : Kp 1 E1 (E1 ++ [Blk.pure 2 (tlv vs), Blk.box 2 [.t (ti w.1), .t (tl w.2)]]) := (Kp.refl 1 E1).app _
    obtain ⟨lv2, E2, f1, f2, f3⟩ := ((hz.kp q1004).kp hB).app (by omega) X1 (voyT w)
    have hvn2 : AF P Q E2 vn ln := ((q1005 _ _ hvn).app _).kp f3
    obtain ⟨L2, _, u1, _⟩ := hvn2.rd X1
    have h8E1 := q1004.at' _ _ h8b nofun
    have h8E2 : E2[i8]? = some (.box 2 [vn, .t (ti pn)]) := f3.at' _ _ (hB.at' _ _ h8E1 nofun) nofun
    have h8l := (List.getElem?_eq_some_iff.1 h8E2).1
    have hvt2 : ∀ y ∈ ts ++ [voyT w], VT y := fun y hy => by
      rw [List.mem_append, List.mem_singleton] at hy
      rcases hy with hy | rfl
      · exact hvt y hy
      · exact ⟨w.1, w.2, _, rfl, .inr rfl, by omega⟩
    have hnew : E2[E2.length]? = none := by simp
    obtain ⟨X', E', lv', ts', fr, g1, g2⟩ := l53 hC P Q a b c hgd hK i5 i6 i8 h8 h85 h86 v p l1000 d X1 ((E2 ++ [Blk.pure 1 (til (setAll w.1 w.2 ln))]).set i8 (.box 2 [.ref (P.length + (Q.length + E2.length + 1)) 0 ln.length, .t (ti w.1)])) lv2 (.ref (P.length + (Q.length + E2.length + 1)) 0 ln.length) (ts ++ [voyT w]) (setAll w.1 w.2 ln) w.1 (hX1.mono (by omega)) (by omega)
      ((((hsE1.kp hB).kp f3).kp ((Kp.refl 1 E2).app _)).set _ h8 h85 h86) (((((q1005 _ _ hv).app _).kp f3).app _).set (by rw [List.getElem?_append_left h8l]; exact h8E2) _)
      (by rw [List.getElem?_set_self (by simp; omega)])
      (.inr ⟨E2.length, by rw [hsl], .inl (by rw [List.getElem?_set_ne (by omega), List.getElem?_append_right (Nat.le_refl _)]; simp)⟩)
      hok2 ((f2.ext _).set (by rw [List.getElem?_append_left h8l]; exact h8E2) _) (by simp; omega) hvt2
    refine ⟨X', E', lv', ts', fr, ?_, g2⟩
    rw [x53_0]
    have hb8 : ∀ F, (E1 ++ F)[i8]? = some (.box 2 [vn, .t (ti pn)]) := fun F => by rw [List.getElem?_append_left (List.getElem?_eq_some_iff.1 h8E1).1]; exact h8E1
    have hb8' : ∀ F, (E2 ++ F)[i8]? = some (.box 2 [vn, .t (ti pn)]) := fun F => by rw [List.getElem?_append_left h8l]; exact h8E2
    have hb11 : E2[E.length + 1]? = some (.box 2 [.t (ti w.1), .t (tl w.2)]) := f3.at' _ _ (by rw [← q1003, List.getElem?_append_right (by omega)]; simp) nofun
    simp [voyT] at f1
    simp [ir53_d0, hs.b5, h8b, q1001, q1002, q1003, h32, hd1', hv0, hpos, e1001, a1, hn2, hlt, hw, voyT, f1, h8E2, hb11, hb8, hb8', u1, h33, hsl, hwd, g1]
end Go.Proofs.Ytdgfpjlmpnfcgaa.Ev

namespace Go.Proofs.Ytdgfpjlmpnfcgaa.Ev
open Go
set_option linter.unusedVariables false
set_option linter.unusedSimpArgs false
set_option linter.unusedSectionVars false
attribute [local simp] til_getE til_length til_get til_snoc take_snoc til_take tlv_getE tlv_length tlv_take til_set
variable {C : T} {bs : List Int}
theorem AL.shift {P Q E : Heap} {x y : Blk} {v : V} {l : List Int} (h : AL P (Q ++ [x, y]) E v l) (x' y' : Blk) : AF P Q (x' :: y' :: E) v l := by
  rcases h with h | ⟨k, h1, h2⟩
  · exact .inl h
  · exact .inr ⟨k + 2, by rw [h1]; simp; omega, .inl (by simpa using h2)⟩
theorem one_t (x : T) : V.one (.t x) = x.one := rfl
theorem one_ref (i j k : Nat) : V.one (.ref i j k) = true := rfl
theorem one_ptr (i j k : Nat) : V.one (.ptr i j k) = true := rfl
theorem AF.one {P Q E : Heap} {v : V} {l : List Int} (h : AF P Q E v l) : V.one v = true := by
  rcases h with rfl | ⟨k, rfl, _⟩ <;> rfl
def ZF (P Q E : Heap) (v : V) (ts : List T) : Prop := (v = .t .nil ∧ ts = []) ∨ v = .t (.lst 2 ts) ∨ ∃ k, v = .ref (P.length + (Q.length + k + 1)) 0 ts.length ∧ E[k]? = some (.pure 2 ts)
theorem ZR.zf {P Q E : Heap} {v : V} {ts : List T} (h : ZR P Q E v ts) : ZF P Q E v ts := h.imp id .inr
theorem GL.cells {P Q E : Heap} {v : V} {l : List Int} (h : GL P Q E v l) : v.cells = some [v] := by
  rcases h with ⟨rfl, rfl⟩ | ⟨k, rfl, h⟩ <;> rfl
theorem GL.ln {P Q E : Heap} {v : V} {l : List Int} (h : GL P Q E v l) (X : Blk) : ∃ G L E1, rd (P ++ X :: (Q ++ E)) 5 v = some (G, L) ∧ LN G l ∧ frz (P ++ X :: (Q ++ E)) L = P ++ X :: (Q ++ E1) ∧ E1.length = E.length ∧ Kp 1 E E1 ∧ ∀ v' l', AF P Q E v' l' → AF P Q E1 v' l' := by
  rcases h with ⟨rfl, rfl⟩ | ⟨k, rfl, h⟩
  · exact ⟨.nil, [], E, by simp, .inl ⟨rfl, rfl⟩, rfl, rfl, Kp.refl _ _, fun _ _ h => h⟩
  · obtain ⟨L, E1, h1, h2, h3, h4, h5⟩ := (show AF P Q E (.ref (P.length + (Q.length + k + 1)) 0 l.length) l from .inr ⟨k, rfl, .inl h⟩).rd X
    exact ⟨_, L, E1, h1, .inr rfl, h2, h3, h4, h5⟩
theorem r53 (hC : BL C bs) (P Q : Heap) {K : Nat} (hK : K ≤ 2 ^ 35) {X : Blk} (hX : CurX C K X) :
    ∃ a b c l p v lv ts X' E', den env 53 [.ptr P.length 0 0] (P ++ X :: Q) = some (.tup [.agg [.t (ti a), .t (ti b), .t (ti c)], .agg [v, .t (ti p)], lv], P ++ X' :: (Q ++ E')) ∧ CurX C (K + 5000) X' ∧ AF P Q E' v l ∧ l.length ≤ 1000 ∧ ZF P Q E' lv ts ∧ ts.length ≤ 200 ∧ ∀ y ∈ ts, VT y := by
  obtain ⟨a, b, c, l, p, v, X1, E0, e1001, hX1, hv0, hl⟩ := r77 hC P (Q ++ [z3, z2]) (by omega) hX
  have hv := hv0.shift z3 z2
  obtain ⟨W, hW⟩ : ∃ W, W = Blk.box 3 [.t (ti a), .t (ti b), .t (ti c)] := ⟨_, rfl⟩
  have hva := hv.app [W, .box 2 [v, .t (ti p)]]
  obtain ⟨L, E1, q1001, q1002, q1003, q1004, q1005⟩ := hva.rd X1
  have hv1 := hv.one
  have h228 := r33 a b c (tl l) l (.inr rfl) p
  simp at e1001
  rw [den_ir e53 _ _ rfl (.inl rfl)]
  cases hask : askB a b c l p with
  | false =>
    rw [hask] at h228
    have c1001 := hX1.mono (K' := K + 5000) (by omega)
    simp [z3, z2] at e1001 q1001
    subst hW
    simp [ir53, ir53_c, e1001, q1001, h228, hv1, one_t, one_ref, one_ptr, -V.one]
    refine ⟨_, _, _, l, _, _, _, [.agg [ti 1, .lst 1 [ti 0]]], _, _, ⟨⟨⟨rfl, rfl, rfl⟩, ⟨rfl, rfl⟩, rfl⟩, rfl, rfl⟩, c1001, ?_, hl, .inr (.inl rfl), by simp, ?_⟩
    · exact (hv0.shift _ _).app _
    · intro y hy
      rw [List.mem_singleton] at hy
      exact ⟨1, [0], _, hy, .inr rfl, by simp⟩
  | true =>
    rw [hask] at h228
    obtain ⟨m, rfl, hgd, hl2, hok, hcm⟩ := askB_parts hask
    obtain ⟨n1, X2, e1002, hX2, a2, b2⟩ := r54 hC P (Q ++ z3 :: z2 :: (E0 ++ [W, .box 2 [v, .t (ti p)], .box 2 [v, .t (ti p)]])) (by omega) hX1 8 (by omega)
    obtain ⟨X3, E3, lv3, ts3, fr, h3, ⟨f0, f2, f3, f5, f6, f7⟩, hX3, hs3, hv3, hz3, hts3, hvt3⟩ := l53 hC P Q m b c hgd (K := K + 2000) (by omega) (E0.length + 2) (E0.length + 3) (E0.length + 4) (by omega) (by omega) (by omega) v p l n1.toNat X2 (z3 :: z2 :: (E0 ++ [W, .box 2 [v, .t (ti p)], .box 2 [v, .t (ti p)]])) (.t .nil) v [] l p (hX2.mono (by omega)) (by omega) ⟨rfl, rfl, by simp [hW], by simp⟩ (hv.app _) (by simp) (hv.app _) hok (.inl ⟨rfl, rfl⟩) (by simp) (by simp)
    have hnn : ((n1.toNat : Nat) : Int) = n1 := by omega
    rw [hnn] at h3
    obtain ⟨n4, X4, e1004, hX4, a4, b4⟩ := r54 hC P (Q ++ E3) (by omega) hX3 6 (by omega)
    simp [z3, z2] at e1001 e1002 h3 q1001
    have g0 := hs3.b0
    have g1 := hs3.b1
    have g5 := hs3.b5
    have g6 := hs3.b6
    have hE0 : 0 < E3.length := (List.getElem?_eq_some_iff.1 g0).1
    have hE1 : 1 < E3.length := (List.getElem?_eq_some_iff.1 g1).1
    subst hW
    have AFset : ∀ {E : Heap} {n0 n1 : Nat} {v0 v1 : List V}, AF P Q E v l → E[0]? = some (.box n0 v0) → E[1]? = some (.box n1 v1) → ∀ x y, AF P Q ((E.set 0 x).set 1 y) v l := fun h h0 h1 x y => (h.set h0 x).set (by rw [List.getElem?_set_ne (by omega)]; exact h1) y
    have ZFset : ∀ {E : Heap} {lv : V} {ts : List T} {n0 n1 : Nat} {v0 v1 : List V}, ZR P Q E lv ts → E[0]? = some (.box n0 v0) → E[1]? = some (.box n1 v1) → ∀ x y, ZF P Q ((E.set 0 x).set 1 y) lv ts := fun h h0 h1 x y => ((h.set h0 x).set (by rw [List.getElem?_set_ne (by omega)]; exact h1) y).zf
    have plain : ∀ {X5 : Blk} {K5 : Nat}, CurX C K5 X5 → K5 ≤ K + 5000 → ∃ a b_1 c_1 l p_1 v_1 lv ts X' E', ((((m : Int) = a ∧ b = b_1 ∧ c = c_1) ∧ (v = v_1 ∧ p = p_1) ∧ lv3 = lv) ∧ X5 = X' ∧ (List.set E3 0 (Blk.box 3 [V.t (ti (m : Int)), V.t (ti b), V.t (ti c)])).set 1 (Blk.box 2 [v, V.t (ti p)]) = E') ∧
      CurX C (K + 5000) X' ∧ AF P Q E' v_1 l ∧ l.length ≤ 1000 ∧ ZF P Q E' lv ts ∧ ts.length ≤ 200 ∧ ∀ (y : T), y ∈ ts → VT y := fun hX5 hK5 =>
      ⟨_, _, _, l, _, _, _, ts3, _, _, ⟨⟨⟨rfl, rfl, rfl⟩, ⟨rfl, rfl⟩, rfl⟩, rfl, rfl⟩, hX5.mono hK5, AFset hv3 g0 g1 _ _, hl, ZFset hz3 g0 g1 _ _, by omega, hvt3⟩
    have g0' : ∀ x y, ((E3.set 0 x).set 1 y)[0]? = some x := fun x y => by rw [List.getElem?_set_ne (by omega), List.getElem?_set_self hE0]
    have g1' : ∀ x y, ((E3.set 0 x).set 1 y)[1]? = some y := fun x y => by rw [List.getElem?_set_self (by simpa using hE1)]
    by_cases h0 : n4 = 0
    · subst h0
      obtain ⟨n5, X5, e1005, hX5, a5, b5⟩ := r54 hC P (Q ++ E3) (by omega) hX4 5 (by omega)
      obtain ⟨X6, Eg, vg, lg, e1006, hX6, hg, hlg⟩ := r55 hC P (Q ++ E3) 6 (by omega) (by omega) hX5
      obtain ⟨G, L6, Eg1, u1, u2, u3, u4, u5, _⟩ := hg.ln X6
      obtain ⟨y, hy⟩ : ∃ y, y = T.agg [ti (n5 - 1), G] := ⟨_, rfl⟩
      obtain ⟨lv7, E7, w1001, w1002, w1003⟩ := (hz3.ext Eg1).app (by omega) X6 y
      have hw : IntKind.i64.wrap (n5 - 1) = n5 - 1 := w76 (by omega)
      have hk7 : Kp 2 E3 (E3 ++ Eg1) := (Kp.refl 2 E3).app _
      have hs7 := (hs3.kp hk7).kp w1003
      have hv7 := (hv3.kp hk7).kp w1003
      have hl7 := w1003.len
      have c1006 := hX6.mono (K' := K + 5000) (by omega)
      obtain ⟨j0, j1, j5, j6⟩ := hs7
      have hv6 := AFset hv7 j0 j1
      have hz6 := ZFset w1002 j0 j1
      have hvt7 : ∀ x ∈ ts3 ++ [y], VT x := fun x hx => by
        rw [List.mem_append, List.mem_singleton] at hx
        rcases hx with hx | hx
        · exact hvt3 x hx
        · exact ⟨_, _, _, hx.trans hy, u2, by omega⟩
      have hl7' : E3.length + Eg1.length ≤ E7.length := by simpa using hl7
      have g0'' : ∀ x y, ((E7.set 0 x).set 1 y)[0]? = some x := fun x y => by rw [List.getElem?_set_ne (by omega), List.getElem?_set_self (by omega)]
      have g1'' : ∀ x y, ((E7.set 0 x).set 1 y)[1]? = some y := fun x y => by rw [List.getElem?_set_self (by simp; omega)]
      clear hv7 hvt3
      simp [z3, z2] at j0 j1
      subst hy
      simp only [List.append_assoc, List.length_append] at e1006 u1 u3 w1001
      have hgc := hg.cells
      rw [u4] at w1001
      have h6 : ((6 : Nat) : Int) = 6 := rfl
      rw [h6] at e1006
      rcases u2 with ⟨rfl, rfl⟩ | rfl
      · simp [ir53, ir53_c, e1001, q1001, h228, hv1, one_t, one_ref, one_ptr, -V.one, -app_eq, e1002, h3, Fr.get_put, f0, f2, f3, f5, f6, f7, e1004, e1005, e1006, hw, hgc, u1, u3, w1001, j0, j1, j5, j6, g0, g1, g5, g6, z3, z2, g0'', g1'']
        exact ⟨_, _, _, l, _, _, _, _, _, _, ⟨⟨⟨rfl, rfl, rfl⟩, ⟨rfl, rfl⟩, rfl⟩, rfl, rfl⟩, c1006, hv6 _ _, hl, hz6 _ _, by simp; omega, hvt7⟩
      · simp [ir53, ir53_c, e1001, q1001, h228, hv1, one_t, one_ref, one_ptr, -V.one, -app_eq, e1002, h3, Fr.get_put, f0, f2, f3, f5, f6, f7, e1004, e1005, e1006, hw, hgc, u1, u3, w1001, j0, j1, j5, j6, g0, g1, g5, g6, z3, z2, g0'', g1'']
        exact ⟨_, _, _, l, _, _, _, _, _, _, ⟨⟨⟨rfl, rfl, rfl⟩, ⟨rfl, rfl⟩, rfl⟩, rfl, rfl⟩, c1006, hv6 _ _, hl, hz6 _ _, by simp; omega, hvt7⟩
    by_cases h1 : n4 = 1
    · subst h1
      obtain ⟨b5, X5, e1005, hX5⟩ := r78 hC P (Q ++ E3) (by omega) hX4 4 (by omega)
      cases b5 with
      | false =>
        simp [ir53, ir53_c, e1001, q1001, h228, hv1, one_t, one_ref, one_ptr, -V.one, e1002, h3, Fr.get_put, f0, f2, f3, f5, f6, f7, e1004, e1005, g0, g1, g5, g6, z3, z2, g0', g1']
        exact plain hX5 (by omega)
      | true =>
        obtain ⟨n6, X6, e1006, hX6, a6, b6⟩ := r54 hC P (Q ++ E3) (by omega) hX5 2 (by omega)
        have hw : IntKind.i64.wrap (40 + n6) = 40 + n6 := w76 (by omega)
        have k1001 : 0 ≤ 40 + n6 := by omega
        have k1002 : 40 + n6 ≤ 68719476736 := by omega
        obtain ⟨E5, hE5⟩ : ∃ E5, E3 ++ [Blk.pure 2 (List.replicate (40 + n6).toNat (.agg [ti 0, .nil]))] = E5 := ⟨_, rfl⟩
        have hs5 : LS E5 (E0.length + 2) (E0.length + 3) m b c v p := hE5 ▸ hs3.kp ((Kp.refl 2 E3).app _)
        have hz5 : ZR P Q E5 (.ref (P.length + (Q.length + E3.length + 1)) 0 (40 + n6).toNat) (List.replicate (40 + n6).toNat (.agg [ti 0, .nil])) := hE5 ▸ .inr ⟨E3.length, by simp, by simp⟩
        have hv5 : AF P Q E5 v l := hE5 ▸ hv3.app _
        obtain ⟨j0, j1, j5, j6⟩ := hs5
        have hl5 : E5.length = E3.length + 1 := by rw [← hE5]; simp
        have g0'' : ∀ x y, ((E5.set 0 x).set 1 y)[0]? = some x := fun x y => by rw [List.getElem?_set_ne (by omega), List.getElem?_set_self (by omega)]
        have g1'' : ∀ x y, ((E5.set 0 x).set 1 y)[1]? = some y := fun x y => by rw [List.getElem?_set_self (by simp; omega)]
        have c1006 := hX6.mono (K' := K + 5000) (by omega)
        have hz6 := ZFset hz5 j0 j1
        have hv6 := AFset hv5 j0 j1
        clear hz5 hv5
        simp [z3, z2] at j0 j1
        simp [ir53, ir53_c, e1001, q1001, h228, hv1, one_t, one_ref, one_ptr, -V.one, e1002, h3, Fr.get_put, f0, f2, f3, f5, f6, f7, e1004, e1005, e1006, hw, k1001, k1002, hE5, j0, j1, j5, j6, g0, g1, g5, g6, z3, z2, g0'', g1'']
        refine ⟨_, _, _, l, _, _, _, List.replicate (40 + n6).toNat (.agg [ti 0, .nil]), _, _, ⟨⟨⟨rfl, rfl, rfl⟩, ⟨rfl, rfl⟩, rfl⟩, rfl, rfl⟩, c1006, hv6 _ _, hl, hz6 _ _, by simp; omega, fun y hy => ?_⟩
        rw [List.mem_replicate] at hy
        exact ⟨0, [], _, hy.2, .inl ⟨rfl, rfl⟩, by simp⟩
    · simp [ir53, ir53_c, e1001, q1001, h228, hv1, one_t, one_ref, one_ptr, -V.one, e1002, h3, Fr.get_put, f0, f2, f3, f5, f6, f7, e1004, h0, h1, g0, g1, g5, g6, z3, z2, g0', g1']
      exact plain hX4 (by omega)
end Go.Proofs.Ytdgfpjlmpnfcgaa.Ev

namespace Go.Proofs.Ytdgfpjlmpnfcgaa.Ev
open Go
set_option linter.unusedVariables false
set_option linter.unusedSimpArgs false
set_option linter.unusedSectionVars false
attribute [local simp] til_getE til_length til_get til_snoc take_snoc til_take tlv_getE tlv_length tlv_take til_set
variable {C : T} {bs : List Int}
theorem cur0 (C : T) : CurX C 0 (.box 3 [.t C, .t (ti 0), .t (.int .u64 0)]) := ⟨0, 0, rfl, by omega, by omega⟩
theorem BL.cells (hC : BL C bs) : V.cells (.t C) = some [.t C] := by
  have := hC.len []
  cases C <;> first | rfl | (simp [evLen] at this)
theorem r30 (hC : BL C bs) : ∃ a b c, ownR env 30 [C] = some (.agg [.t (ti a), .t (ti b), .t (ti c)], []) := by
  obtain ⟨a, b, c, X', E, e, _⟩ := r56 hC [z3] [] (by omega) (cur0 C)
  have h1 := hC.cells
  refine ⟨a, b, c, ?_⟩
  rw [own_ir e30 _ rfl]
  simp [z3] at e
  simp [ir30, ir30_c, e, h1]
def RW (H : Heap) (v : V) (l : List Int) : Prop := v = .t (tl l) ∨ ∃ i, v = .ref i 0 l.length ∧ (H[i]? = some (.pure 1 (til l)) ∨ H[i]? = some (.froz 1 (til l)))
def RZ (H : Heap) (v : V) (ts : List T) : Prop := (v = .t .nil ∧ ts = []) ∨ v = .t (.lst 2 ts) ∨ ∃ i, v = .ref i 0 ts.length ∧ H[i]? = some (.pure 2 ts)
end Go.Proofs.Ytdgfpjlmpnfcgaa.Ev

namespace Go.Proofs.Ytdgfpjlmpnfcgaa.Ev
open Go
set_option linter.unusedVariables false
set_option linter.unusedSimpArgs false
set_option linter.unusedSectionVars false
attribute [local simp] til_getE til_length til_get til_snoc take_snoc til_take tlv_getE tlv_length tlv_take til_set
variable {C : T} {bs : List Int}
theorem r29 (hC : BL C bs) : ∃ a b c l p v lv ts H, ownFR env 29 [C] = some (.tup [.agg [.t (ti a), .t (ti b), .t (ti c)], .agg [v, .t (ti p)], lv], H) ∧ RW H v l ∧ l.length ≤ 1000 ∧ RZ H lv ts ∧ ts.length ≤ 200 ∧ ∀ y ∈ ts, VT y := by
  obtain ⟨a, b, c, l, p, v, lv, ts, X', E, e, _, hv, hl, hz, hts, hvt⟩ := r53 hC [z3, z2] [] (by omega) (cur0 C)
  have h1 := hC.cells
  have gen : ∀ {k : Nat} {b : Blk}, E[k]? = some b → ∀ x y z : Blk, (x :: y :: z :: E)[2 + (k + 1)]? = some b := fun {k b} hk x y z => by rw [show 2 + (k + 1) = k + 3 by omega]; simpa using hk
  rw [ownF_ir e29 _ rfl]
  simp [z3, z2] at e
  rcases hv with rfl | ⟨k, rfl, hk⟩
  · rcases hz with ⟨rfl, rfl⟩ | rfl | ⟨k1002, rfl, hk2⟩
    · simp [ir29, ir29_c, e, h1]
      exact ⟨_, _, _, l, _, _, _, [], _, ⟨⟨⟨rfl, rfl, rfl⟩, ⟨rfl, rfl⟩, rfl⟩, rfl⟩, .inl rfl, hl, .inl ⟨rfl, rfl⟩, by simp, by simp⟩
    · simp [ir29, ir29_c, e, h1]
      exact ⟨_, _, _, l, _, _, _, ts, _, ⟨⟨⟨rfl, rfl, rfl⟩, ⟨rfl, rfl⟩, rfl⟩, rfl⟩, .inl rfl, hl, .inr (.inl rfl), hts, hvt⟩
    · simp at e
      simp [ir29, ir29_c, e, h1, gen hk2]
      exact ⟨_, _, _, l, _, _, _, ts, _, ⟨⟨⟨rfl, rfl, rfl⟩, ⟨rfl, rfl⟩, rfl⟩, rfl⟩, .inl rfl, hl, .inr (.inr ⟨0, rfl, rfl⟩), hts, hvt⟩
  · rcases hz with ⟨rfl, rfl⟩ | rfl | ⟨k1002, rfl, hk2⟩
    · rcases hk with hk | hk
      · simp at e
        simp [ir29, ir29_c, e, h1, gen hk]
        exact ⟨_, _, _, l, _, _, _, [], _, ⟨⟨⟨rfl, rfl, rfl⟩, ⟨rfl, rfl⟩, rfl⟩, rfl⟩, .inr ⟨0, rfl, .inl rfl⟩, hl, .inl ⟨rfl, rfl⟩, by simp, by simp⟩
      · simp at e
        simp [ir29, ir29_c, e, h1, gen hk]
        exact ⟨_, _, _, l, _, _, _, [], _, ⟨⟨⟨rfl, rfl, rfl⟩, ⟨rfl, rfl⟩, rfl⟩, rfl⟩, .inr ⟨0, rfl, .inr rfl⟩, hl, .inl ⟨rfl, rfl⟩, by simp, by simp⟩
    · rcases hk with hk | hk
      · simp at e
        simp [ir29, ir29_c, e, h1, gen hk]
        exact ⟨_, _, _, l, _, _, _, ts, _, ⟨⟨⟨rfl, rfl, rfl⟩, ⟨rfl, rfl⟩, rfl⟩, rfl⟩, .inr ⟨0, rfl, .inl rfl⟩, hl, .inr (.inl rfl), hts, hvt⟩
      · simp at e
        simp [ir29, ir29_c, e, h1, gen hk]
        exact ⟨_, _, _, l, _, _, _, ts, _, ⟨⟨⟨rfl, rfl, rfl⟩, ⟨rfl, rfl⟩, rfl⟩, rfl⟩, .inr ⟨0, rfl, .inr rfl⟩, hl, .inr (.inl rfl), hts, hvt⟩
    · have hne : ¬ k1002 = k := fun e => by subst e; rw [hk2] at hk; rcases hk with hk | hk <;> cases hk
      have hne' : ¬ k = k1002 := fun e => hne e.symm
      rcases hk with hk | hk
      · simp at e
        simp [ir29, ir29_c, e, h1, gen hk, gen hk2, hne, hne']
        exact ⟨_, _, _, l, _, _, _, ts, _, ⟨⟨⟨rfl, rfl, rfl⟩, ⟨rfl, rfl⟩, rfl⟩, rfl⟩, .inr ⟨0, rfl, .inl rfl⟩, hl, .inr (.inr ⟨1, rfl, rfl⟩), hts, hvt⟩
      · simp at e
        simp [ir29, ir29_c, e, h1, gen hk, gen hk2, hne, hne']
        exact ⟨_, _, _, l, _, _, _, ts, _, ⟨⟨⟨rfl, rfl, rfl⟩, ⟨rfl, rfl⟩, rfl⟩, rfl⟩, .inr ⟨0, rfl, .inr rfl⟩, hl, .inr (.inr ⟨1, rfl, rfl⟩), hts, hvt⟩
end Go.Proofs.Ytdgfpjlmpnfcgaa.Ev

namespace Go.Proofs.Ytdgfpjlmpnfcgaa.Ev
open Go
set_option linter.unusedVariables false
set_option linter.unusedSimpArgs false
set_option linter.unusedSectionVars false
attribute [local simp] til_getE til_length til_get til_snoc take_snoc til_take tlv_getE tlv_length tlv_take til_set
variable {C : T} {bs : List Int}
def zv : Blk := .box 2 [.t (ti 0), .t .nil]
def RG (H : Heap) (v : V) (g : List Int) : Prop := (∃ G, v = .t G ∧ LN G g) ∨ ∃ i, v = .ref i 0 g.length ∧ H[i]? = some (.pure 1 (til g))
theorem r28 (hC : BL C bs) : ∃ a b c l p v t gv g H, ownFR env 28 [C] = some (.tup [.agg [.t (ti a), .t (ti b), .t (ti c)], .agg [v, .t (ti p)], .agg [.t (ti t), gv]], H) ∧ RW H v l ∧ l.length ≤ 1000 ∧ RG H gv g ∧ g.length ≤ 1000 := by
  obtain ⟨a, b, c, l, p, v, lv, ts, X', E, e, hX, hv, hl, hz, hts, hvt⟩ := r53 hC [z3, z2, zv] [] (by omega) (cur0 C)
  have h1 := hC.cells
  have hv1 := hv.one
  have gen : ∀ {k : Nat} {b : Blk}, E[k]? = some b → ∀ (x y z u : Blk) F, (x :: y :: z :: u :: (E ++ F))[3 + (k + 1)]? = some b := fun {k b} hk x y z u F => by
    rw [show 3 + (k + 1) = k + 4 by omega]
    simp only [List.getElem?_cons_succ]
    rw [List.getElem?_append_left (List.getElem?_eq_some_iff.1 hk).1]; exact hk
  have gen2 : ∀ (x y z u a b : Blk) (E3 : Heap) (k1002 : Nat), (x :: y :: z :: u :: (E ++ a :: b :: E3))[3 + (E.length + 2 + k1002 + 1)]? = E3[k1002]? := fun x y z u a b E3 k1002 => by
    rw [show 3 + (E.length + 2 + k1002 + 1) = E.length + (k1002 + 2) + 4 by omega]
    simp
  rw [ownF_ir e28 _ rfl]
  simp [z3, z2, zv] at e
  cases ts with
  | nil =>
    have hnil : evLen [] 1 lv = some 0 := by rcases hz with ⟨rfl, _⟩ | rfl | ⟨k, rfl, _⟩ <;> simp
    have hnil' : ∀ H, evLen H 1 lv = some 0 := fun H => by rcases hz with ⟨rfl, _⟩ | rfl | ⟨k, rfl, _⟩ <;> simp
    obtain ⟨n1, X1, e1001, c1001, a1, b1⟩ := r54 hC [z3, z2, zv] (E ++ [.box 3 [.t (ti a), .t (ti b), .t (ti c)], .box 2 [v, .t (ti p)]]) (by omega) hX 4 (by omega)
    obtain ⟨n2, X2, e1002, c1002, a2, b2⟩ := r54 hC [z3, z2, zv] (E ++ [.box 3 [.t (ti a), .t (ti b), .t (ti c)], .box 2 [v, .t (ti p)]]) (by omega) c1001 9 (by omega)
    obtain ⟨X3, E3, vg, lg, e1003, c1003, hg, hlg⟩ := r55 hC [z3, z2, zv] (E ++ [.box 3 [.t (ti a), .t (ti b), .t (ti c)], .box 2 [v, .t (ti p)]]) 6 (by omega) (by omega) c1002
    have hq : n2.tdiv 8 = n2 / 8 := Int.tdiv_eq_ediv_of_nonneg (by omega)
    have w1001 : IntKind.i64.wrap (n2.tdiv 8) = n2.tdiv 8 := w76 (by omega)
    have w1002 : IntKind.i64.wrap (n1 - n2.tdiv 8) = n1 - n2.tdiv 8 := w76 (by omega)
    have hgc := hg.cells
    simp [z3, z2, zv] at e1001 e1002 e1003
    rcases hv with rfl | ⟨k, rfl, hk⟩
    · rcases hg with ⟨rfl, rfl⟩ | ⟨k1002, rfl, hk2⟩
      · simp [ir28, ir28_c, e, h1, hnil', e1001, e1002, e1003, w1001, w1002, evBin, evInt]
        exact ⟨_, _, _, l, _, _, _, _, [], _, ⟨⟨⟨rfl, rfl, rfl⟩, ⟨rfl, rfl⟩, rfl, rfl⟩, rfl⟩, .inl rfl, hl, .inl ⟨_, rfl, .inl ⟨rfl, rfl⟩⟩, by simp⟩
      · simp at e1003
        simp [ir28, ir28_c, e, h1, hnil', e1001, e1002, e1003, w1001, w1002, evBin, evInt, gen2, hk2]
        exact ⟨_, _, _, l, _, _, _, _, lg, _, ⟨⟨⟨rfl, rfl, rfl⟩, ⟨rfl, rfl⟩, rfl, rfl⟩, rfl⟩, .inl rfl, hl, .inr ⟨0, rfl, rfl⟩, by omega⟩
    · have hkl : k < E.length := by rcases hk with hk | hk <;> exact (List.getElem?_eq_some_iff.1 hk).1
      rcases hg with ⟨rfl, rfl⟩ | ⟨k1002, rfl, hk2⟩
      · rcases hk with hk | hk
        · simp at e e1001 e1002 e1003
          simp [ir28, ir28_c, e, h1, hnil', e1001, e1002, e1003, w1001, w1002, evBin, evInt, gen hk]
          exact ⟨_, _, _, l, _, _, _, _, [], _, ⟨⟨⟨rfl, rfl, rfl⟩, ⟨rfl, rfl⟩, rfl, rfl⟩, rfl⟩, .inr ⟨0, rfl, .inl rfl⟩, hl, .inl ⟨_, rfl, .inl ⟨rfl, rfl⟩⟩, by simp⟩
        · simp at e e1001 e1002 e1003
          simp [ir28, ir28_c, e, h1, hnil', e1001, e1002, e1003, w1001, w1002, evBin, evInt, gen hk]
          exact ⟨_, _, _, l, _, _, _, _, [], _, ⟨⟨⟨rfl, rfl, rfl⟩, ⟨rfl, rfl⟩, rfl, rfl⟩, rfl⟩, .inr ⟨0, rfl, .inr rfl⟩, hl, .inl ⟨_, rfl, .inl ⟨rfl, rfl⟩⟩, by simp⟩
      · have hne : ¬ E.length + 2 + k1002 = k := by omega
        have hne' : ¬ k = E.length + 2 + k1002 := by omega
        rcases hk with hk | hk
        · simp at e e1001 e1002 e1003
          simp [ir28, ir28_c, e, h1, hnil', e1001, e1002, e1003, w1001, w1002, evBin, evInt, gen hk, gen2, hk2, hne, hne']
          exact ⟨_, _, _, l, _, _, _, _, lg, _, ⟨⟨⟨rfl, rfl, rfl⟩, ⟨rfl, rfl⟩, rfl, rfl⟩, rfl⟩, .inr ⟨0, rfl, .inl rfl⟩, hl, .inr ⟨1, rfl, rfl⟩, by omega⟩
        · simp at e e1001 e1002 e1003
          simp [ir28, ir28_c, e, h1, hnil', e1001, e1002, e1003, w1001, w1002, evBin, evInt, gen hk, gen2, hk2, hne, hne']
          exact ⟨_, _, _, l, _, _, _, _, lg, _, ⟨⟨⟨rfl, rfl, rfl⟩, ⟨rfl, rfl⟩, rfl, rfl⟩, rfl⟩, .inr ⟨0, rfl, .inr rfl⟩, hl, .inr ⟨1, rfl, rfl⟩, by omega⟩
  | cons y ts =>
    obtain ⟨t, g, G, rfl, hG, hg⟩ := hvt _ (List.mem_cons_self ..)
    have hone : T.one G = true := by rcases hG with ⟨rfl, _⟩ | rfl <;> rfl
    rcases hz with ⟨rfl, hz⟩ | rfl | ⟨k1002, rfl, hk2⟩
    · cases hz
    · rcases hv with rfl | ⟨k, rfl, hk⟩
      · rcases hG with ⟨rfl, rfl⟩ | rfl
        · simp [ir28, ir28_c, e, h1]
          exact ⟨_, _, _, l, _, _, _, _, [], _, ⟨⟨⟨rfl, rfl, rfl⟩, ⟨rfl, rfl⟩, rfl, rfl⟩, rfl⟩, .inl rfl, hl, .inl ⟨_, rfl, .inl ⟨rfl, rfl⟩⟩, by simp⟩
        · simp [ir28, ir28_c, e, h1]
          exact ⟨_, _, _, l, _, _, _, _, g, _, ⟨⟨⟨rfl, rfl, rfl⟩, ⟨rfl, rfl⟩, rfl, rfl⟩, rfl⟩, .inl rfl, hl, .inl ⟨_, rfl, .inr rfl⟩, hg⟩
      · rcases hk with hk | hk <;> rcases hG with ⟨rfl, rfl⟩ | rfl <;> simp at e <;> simp [ir28, ir28_c, e, h1, gen hk]
        · exact ⟨_, _, _, l, _, _, _, _, [], _, ⟨⟨⟨rfl, rfl, rfl⟩, ⟨rfl, rfl⟩, rfl, rfl⟩, rfl⟩, .inr ⟨0, rfl, .inl rfl⟩, hl, .inl ⟨_, rfl, .inl ⟨rfl, rfl⟩⟩, by simp⟩
        · exact ⟨_, _, _, l, _, _, _, _, g, _, ⟨⟨⟨rfl, rfl, rfl⟩, ⟨rfl, rfl⟩, rfl, rfl⟩, rfl⟩, .inr ⟨0, rfl, .inl rfl⟩, hl, .inl ⟨_, rfl, .inr rfl⟩, hg⟩
        · exact ⟨_, _, _, l, _, _, _, _, [], _, ⟨⟨⟨rfl, rfl, rfl⟩, ⟨rfl, rfl⟩, rfl, rfl⟩, rfl⟩, .inr ⟨0, rfl, .inr rfl⟩, hl, .inl ⟨_, rfl, .inl ⟨rfl, rfl⟩⟩, by simp⟩
        · exact ⟨_, _, _, l, _, _, _, _, g, _, ⟨⟨⟨rfl, rfl, rfl⟩, ⟨rfl, rfl⟩, rfl, rfl⟩, rfl⟩, .inr ⟨0, rfl, .inr rfl⟩, hl, .inl ⟨_, rfl, .inr rfl⟩, hg⟩
    · have g2 := gen hk2
      have d1000 : ¬ 3 + (k1002 + 1) = 0 := by omega
      have d1001 : ¬ 3 + (k1002 + 1) = 1 := by omega
      have d1002 : ¬ 3 + (k1002 + 1) = 2 := by omega
      rcases hv with rfl | ⟨k, rfl, hk⟩
      · rcases hG with ⟨rfl, rfl⟩ | rfl <;> simp at e <;> simp [ir28, ir28_c, e, h1, d1000, d1001, d1002, g2]
        · exact ⟨_, _, _, l, _, _, _, _, [], _, ⟨⟨⟨rfl, rfl, rfl⟩, ⟨rfl, rfl⟩, rfl, rfl⟩, rfl⟩, .inl rfl, hl, .inl ⟨_, rfl, .inl ⟨rfl, rfl⟩⟩, by simp⟩
        · exact ⟨_, _, _, l, _, _, _, _, g, _, ⟨⟨⟨rfl, rfl, rfl⟩, ⟨rfl, rfl⟩, rfl, rfl⟩, rfl⟩, .inl rfl, hl, .inl ⟨_, rfl, .inr rfl⟩, hg⟩
      · rcases hk with hk | hk <;> rcases hG with ⟨rfl, rfl⟩ | rfl <;> simp at e <;> simp [ir28, ir28_c, e, h1, d1000, d1001, d1002, g2, gen hk]
        · exact ⟨_, _, _, l, _, _, _, _, [], _, ⟨⟨⟨rfl, rfl, rfl⟩, ⟨rfl, rfl⟩, rfl, rfl⟩, rfl⟩, .inr ⟨0, rfl, .inl rfl⟩, hl, .inl ⟨_, rfl, .inl ⟨rfl, rfl⟩⟩, by simp⟩
        · exact ⟨_, _, _, l, _, _, _, _, g, _, ⟨⟨⟨rfl, rfl, rfl⟩, ⟨rfl, rfl⟩, rfl, rfl⟩, rfl⟩, .inr ⟨0, rfl, .inl rfl⟩, hl, .inl ⟨_, rfl, .inr rfl⟩, hg⟩
        · exact ⟨_, _, _, l, _, _, _, _, [], _, ⟨⟨⟨rfl, rfl, rfl⟩, ⟨rfl, rfl⟩, rfl, rfl⟩, rfl⟩, .inr ⟨0, rfl, .inr rfl⟩, hl, .inl ⟨_, rfl, .inl ⟨rfl, rfl⟩⟩, by simp⟩
        · exact ⟨_, _, _, l, _, _, _, _, g, _, ⟨⟨⟨rfl, rfl, rfl⟩, ⟨rfl, rfl⟩, rfl, rfl⟩, rfl⟩, .inr ⟨0, rfl, .inr rfl⟩, hl, .inl ⟨_, rfl, .inr rfl⟩, hg⟩
end Go.Proofs.Ytdgfpjlmpnfcgaa.Ev

namespace Go.Proofs.Ytdgfpjlmpnfcgaa.Ev
open Go
set_option linter.unusedVariables false
set_option linter.unusedSimpArgs false
set_option linter.unusedSectionVars false
attribute [local simp] til_getE til_length til_get til_drop til_take til_snoc til_fold take_snoc til_set
structure Mq (ds : List Nat) (fr : Fr) (H : Heap) (fr' : Fr) (H' : Heap) : Prop where
  f : ∀ t, t < 62 → t ∉ ds → fr'.get t = fr.get t
  h : ∃ E, H' = H ++ E
theorem Mq.get {ds : List Nat} {fr fr' : Fr} {H H' : Heap} (m : Mq ds fr H fr' H') {t : Nat} {v : V} (h : fr.get t = v) (ht : t < 62) (hn : t ∉ ds) : fr'.get t = v := (m.f t ht hn).trans h
theorem PBx.mq {ds : List Nat} {fr fr' : Fr} {H H' : Heap} {t : Nat} {X : T} {q : Int} (h : PBx H (fr.get t) X q) (m : Mq ds fr H fr' H') (ht : t < 62) (hn : t ∉ ds) : PBx H' (fr'.get t) X q := by
  obtain ⟨E, rfl⟩ := m.h
  rw [m.f t ht hn]
  exact h.mono E
def PIx (H : Heap) (v : V) (a b c : Int) : Prop := ∃ j, v = .ptr j 0 0 ∧ ∀ E, (H ++ E)[j]? = some (.box 3 [.t (ti a), .t (ti b), .t (ti c)])
def PGx (H : Heap) (v : V) (t : Int) (G : T) : Prop := ∃ j bv lf, v = .ptr j 0 0 ∧ (∀ E, (H ++ E)[j]? = some (.box 2 [.t (ti t), bv])) ∧ ∀ E, rd (H ++ E) 5 bv = some (G, lf)
def LVx (H : Heap) (v : V) (Z : T) : Prop := v = .t Z ∨ ∃ i ts, v = .ref i 0 ts.length ∧ Z = .lst 2 ts ∧ ∀ E, (H ++ E)[i]? = some (.pure 2 ts)
theorem PIx.mq {ds : List Nat} {fr fr' : Fr} {H H' : Heap} {t : Nat} {a b c : Int} (h : PIx H (fr.get t) a b c) (m : Mq ds fr H fr' H') (ht : t < 62) (hn : t ∉ ds) : PIx H' (fr'.get t) a b c := by
  obtain ⟨E, rfl⟩ := m.h
  rw [m.f t ht hn]
  obtain ⟨j, h1, h2⟩ := h
  exact ⟨j, h1, fun E' => by rw [List.append_assoc]; exact h2 _⟩
theorem PGx.mq {ds : List Nat} {fr fr' : Fr} {H H' : Heap} {t : Nat} {p : Int} {G : T} (h : PGx H (fr.get t) p G) (m : Mq ds fr H fr' H') (ht : t < 62) (hn : t ∉ ds) : PGx H' (fr'.get t) p G := by
  obtain ⟨E, rfl⟩ := m.h
  rw [m.f t ht hn]
  obtain ⟨j, bv, lf, h1, h2, h3⟩ := h
  exact ⟨j, bv, lf, h1, fun E' => by rw [List.append_assoc]; exact h2 _, fun E' => by rw [List.append_assoc]; exact h3 _⟩
theorem LVx.mq {ds : List Nat} {fr fr' : Fr} {H H' : Heap} {t : Nat} {Z : T} (h : LVx H (fr.get t) Z) (m : Mq ds fr H fr' H') (ht : t < 62) (hn : t ∉ ds) : LVx H' (fr'.get t) Z := by
  obtain ⟨E, rfl⟩ := m.h
  rw [m.f t ht hn]
  rcases h with h | ⟨i, ts, h1, h2, h3⟩
  · exact .inl h
  · exact .inr ⟨i, ts, h1, h2, fun E' => by rw [List.append_assoc]; exact h3 _⟩
theorem LVx.rd {H : Heap} {v : V} {Z : T} (h : LVx H v Z) : ∃ lf, ∀ E, rd (H ++ E) 6 v = some (Z, lf) := by
  rcases h with rfl | ⟨i, ts, rfl, rfl, h⟩
  · exact ⟨[], fun E => rfl⟩
  · exact ⟨[(i, .froz 2 ts)], fun E => by simp [h]⟩
theorem RW.rd {H2 : Heap} {v : V} {l : List Int} (h : RW H2 v l) (H F : Heap) : ∃ X lf, LN X l ∧ ∀ E, rd (H ++ (H2.map (Blk.ren fun i => some (H.length + i)) ++ (F ++ E))) 5 (v.ren fun i => some (H.length + i)) = some (X, lf) := by
  rcases h with rfl | ⟨i, rfl, h⟩
  · exact ⟨_, [], .inr rfl, fun E => by simp⟩
  · have hl : i < H2.length := by rcases h with h | h <;> exact (List.getElem?_eq_some_iff.1 h).1
    rcases h with h | h
    · refine ⟨_, [(H.length + i, .froz 1 (til l))], .inr rfl, fun E => ?_⟩
      have : (H2.map (Blk.ren fun i => some (H.length + i)) ++ (F ++ E))[i]? = some (.pure 1 (til l)) := by
        rw [List.getElem?_append_left (by simpa using hl), List.getElem?_map, h]; rfl
      simp [this]
    · refine ⟨_, [], .inr rfl, fun E => ?_⟩
      have : (H2.map (Blk.ren fun i => some (H.length + i)) ++ (F ++ E))[i]? = some (.froz 1 (til l)) := by
        rw [List.getElem?_append_left (by simpa using hl), List.getElem?_map, h]; rfl
      simp [this]
theorem RW.one {H : Heap} {v : V} {l : List Int} (h : RW H v l) (k : Nat) : V.one (v.ren fun i => some (k + i)) = true := by
  rcases h with rfl | ⟨i, rfl, _⟩ <;> rfl
theorem RG.one {H : Heap} {v : V} {l : List Int} (h : RG H v l) (k : Nat) : V.one (v.ren fun i => some (k + i)) = true := by
  rcases h with ⟨G, rfl, h | h⟩ | ⟨i, rfl, _⟩
  · obtain ⟨rfl, _⟩ := h; rfl
  · subst h; rfl
  · rfl
theorem RG.rd {H2 : Heap} {v : V} {l : List Int} (h : RG H2 v l) (H F : Heap) : ∃ X lf, LN X l ∧ ∀ E, rd (H ++ (H2.map (Blk.ren fun i => some (H.length + i)) ++ (F ++ E))) 5 (v.ren fun i => some (H.length + i)) = some (X, lf) := by
  rcases h with ⟨G, rfl, h⟩ | ⟨i, rfl, h⟩
  · exact ⟨_, [], h, fun E => by simp⟩
  · have hl : i < H2.length := (List.getElem?_eq_some_iff.1 h).1
    refine ⟨_, [(H.length + i, .froz 1 (til l))], .inr rfl, fun E => ?_⟩
    have : (H2.map (Blk.ren fun i => some (H.length + i)) ++ (F ++ E))[i]? = some (.pure 1 (til l)) := by
      rw [List.getElem?_append_left (by simpa using hl), List.getElem?_map, h]; rfl
    simp [this]
theorem vts_lw : ∀ (ts : List T), (∀ y ∈ ts, VT y) → ∃ vs : List (Int × List Int), ts.length = vs.length ∧ ∀ (i : Nat) (h : i < vs.length), ∃ G, ts[i]? = some (.agg [.int .i64 vs[i].1, G]) ∧ LN G vs[i].2
  | [], _ => ⟨[], rfl, fun i h => by simp at h⟩
  | y :: ts, h => by
    obtain ⟨t, g, G, rfl, hG, _⟩ := h y (List.mem_cons_self ..)
    obtain ⟨vs, h3, h4⟩ := vts_lw ts fun x hx => h x (List.mem_cons_of_mem _ hx)
    refine ⟨(t, g) :: vs, by simp [h3], fun i hi => ?_⟩
    cases i with
    | zero => exact ⟨G, by simp, by simpa using hG⟩
    | succ i =>
      obtain ⟨G, h5, h6⟩ := h4 i (by simpa using hi)
      exact ⟨G, by simpa using h5, by simpa using h6⟩
variable {C : T} {bs : List Int} {fr : Fr} {H : Heap}
theorem s201_9 (hC : BL C bs) (f1 : fr.get 1 = .t C) : ∃ fr' H' a b c p t X G l g, execD env (nth 9 ir4_c) (fr, H) = some (.norm, fr', H') ∧ Mq [23, 24, 25] fr H fr' H' ∧ PIx H' (fr'.get 23) a b c ∧ PBx H' (fr'.get 24) X p ∧ LN X l ∧ PGx H' (fr'.get 25) t G ∧ LN G g := by
  obtain ⟨a, b, c, l, p, v, t, gv, g, H2, e, hv, hl, hg, hgl⟩ := r28 hC
  obtain ⟨F, hF⟩ : ∃ F : Heap, F = [.box 3 [.t (ti a), .t (ti b), .t (ti c)], .box 2 [v.ren fun i => some (H.length + i), .t (ti p)], .box 2 [.t (ti t), gv.ren fun i => some (H.length + i)]] := ⟨_, rfl⟩
  obtain ⟨X, lf, hX, hrX⟩ := hv.rd H F
  obtain ⟨G, lg, hG, hrG⟩ := hg.rd H F
  have o1 := hv.one H.length
  have o2 := hg.one H.length
  refine ⟨_, H ++ (H2.map (Blk.ren fun i => some (H.length + i)) ++ F), a, b, c, p, t, X, G, l, g, (by simp [nth, rst, ir4_c, Fr.get_put, f1, e, o1, o2, one_t, -V.one, hF]; rfl), ⟨fun t ht hn => ?_, ⟨_, rfl⟩⟩, ?_, ?_, hX, ?_, hG⟩
  · simp only [Fr.get_put]
    simp only [List.mem_cons, not_or, List.not_mem_nil, not_false_eq_true, and_true] at hn
    repeat rw [if_neg (by omega)]
  · exact ⟨_, by simp [Fr.get_put]; rfl, fun E => by simp [hF]⟩
  · exact ⟨_, _, _, by simp [Fr.get_put]; rfl, fun E => by simp [hF]; rfl, fun E => by rw [List.append_assoc, List.append_assoc]; exact hrX E⟩
  · exact ⟨_, _, _, by simp [Fr.get_put]; rfl, fun E => by simp [hF]; rfl, fun E => by rw [List.append_assoc, List.append_assoc]; exact hrG E⟩
theorem s201_12 (hC : BL C bs) (f1 : fr.get 1 = .t C) : ∃ fr' H' a b c p X Z l vs, execD env (nth 12 ir4_c) (fr, H) = some (.norm, fr', H') ∧ Mq [30, 31, 32] fr H fr' H' ∧ PIx H' (fr'.get 30) a b c ∧ PBx H' (fr'.get 31) X p ∧ LN X l ∧ LVx H' (fr'.get 32) Z ∧ LW Z vs ∧ vs.length ≤ 200 := by
  obtain ⟨a, b, c, l, p, v, lv, ts, H2, e, hv, hl, hz, hts, hvt⟩ := r29 hC
  obtain ⟨F, hF⟩ : ∃ F : Heap, F = [.box 3 [.t (ti a), .t (ti b), .t (ti c)], .box 2 [v.ren fun i => some (H.length + i), .t (ti p)]] := ⟨_, rfl⟩
  obtain ⟨X, lf, hX, hrX⟩ := hv.rd H F
  obtain ⟨vs, hvl, hvs⟩ := vts_lw ts hvt
  have o1 := hv.one H.length
  have hW : LW (.lst 2 ts) vs := .inr ⟨ts, rfl, hvl, hvs⟩
  have hZ : ∃ Z, LVx (H ++ (H2.map (Blk.ren fun i => some (H.length + i)) ++ F)) (lv.ren fun i => some (H.length + i)) Z ∧ LW Z vs := by
    rcases hz with ⟨rfl, rfl⟩ | rfl | ⟨i, rfl, hi⟩
    · exact ⟨.nil, .inl rfl, .inl ⟨rfl, List.length_eq_zero_iff.1 hvl.symm⟩⟩
    · exact ⟨_, .inl rfl, hW⟩
    · refine ⟨_, .inr ⟨H.length + i, ts, rfl, rfl, fun E => ?_⟩, hW⟩
      have hil := (List.getElem?_eq_some_iff.1 hi).1
      rw [List.append_assoc, List.append_assoc, gpk, List.getElem?_append_left (by simpa using hil), List.getElem?_map, hi]; rfl
  obtain ⟨Z, hZ1, hZ2⟩ := hZ
  refine ⟨_, H ++ (H2.map (Blk.ren fun i => some (H.length + i)) ++ F), a, b, c, p, X, Z, l, vs, (by simp [nth, rst, ir4_c, Fr.get_put, f1, e, o1, one_t, -V.one, hF]; rfl), ⟨fun t ht hn => ?_, ⟨_, rfl⟩⟩, ?_, ?_, hX, ?_, hZ2, by omega⟩
  · simp only [Fr.get_put]
    simp only [List.mem_cons, not_or, List.not_mem_nil, not_false_eq_true, and_true] at hn
    repeat rw [if_neg (by omega)]
  · exact ⟨_, by simp [Fr.get_put]; rfl, fun E => by simp [hF]⟩
  · exact ⟨_, _, _, by simp [Fr.get_put]; rfl, fun E => by simp [hF]; rfl, fun E => by rw [List.append_assoc, List.append_assoc]; exact hrX E⟩
  · simpa [Fr.get_put] using hZ1
theorem s201_17 (hC : BL C bs) (f1 : fr.get 1 = .t C) : ∃ fr' H' a b c, execD env (nth 17 ir4_c) (fr, H) = some (.norm, fr', H') ∧ Mq [41] fr H fr' H' ∧ PIx H' (fr'.get 41) a b c := by
  obtain ⟨a, b, c, e⟩ := r30 hC
  refine ⟨_, _, a, b, c, (by simp [nth, rst, ir4_c, Fr.get_put, f1, e]; exact ⟨rfl, rfl⟩), ⟨fun t ht hn => ?_, ⟨_, rfl⟩⟩, ?_⟩
  · simp only [Fr.get_put]
    simp only [List.mem_cons, not_or, List.not_mem_nil, not_false_eq_true, and_true] at hn
    repeat rw [if_neg (by omega)]
  · exact ⟨_, by simp [Fr.get_put]; rfl, fun E => by simp⟩
end Go.Proofs.Ytdgfpjlmpnfcgaa.Ev

namespace Go.Proofs.Ytdgfpjlmpnfcgaa.Ev
open Go
set_option linter.unusedVariables false
set_option linter.unusedSimpArgs false
set_option linter.unusedSectionVars false
attribute [local simp] til_getE til_length til_get til_drop til_take til_snoc til_fold take_snoc til_set
theorem PIx.all {H : Heap} {v : V} {a b c : Int} (h : PIx H v a b c) : ∃ j, v = .ptr j 0 0 ∧ H[j]? = some (.box 3 [.t (ti a), .t (ti b), .t (ti c)]) ∧ ∀ E, (H ++ E)[j]? = some (.box 3 [.t (ti a), .t (ti b), .t (ti c)]) := by
  obtain ⟨j, h1, h2⟩ := h
  have h2' := h2 []
  rw [List.append_nil] at h2'
  exact ⟨j, h1, h2', h2⟩
theorem PGx.all {H : Heap} {v : V} {t : Int} {G : T} (h : PGx H v t G) : ∃ j bv lf, v = .ptr j 0 0 ∧ H[j]? = some (.box 2 [.t (ti t), bv]) ∧ rd H 5 bv = some (G, lf) := by
  obtain ⟨j, bv, lf, h1, h2, h3⟩ := h
  have h2' := h2 []
  have h3' := h3 []
  rw [List.append_nil] at h2' h3'
  exact ⟨j, bv, lf, h1, h2', h3'⟩
theorem LVx.all {H : Heap} {v : V} {Z : T} (h : LVx H v Z) : ∃ lf, Go.Proofs.Ytdgfpjlmpnfcgaa.Ev.rd H 6 v = some (Z, lf) ∧ True := by
  obtain ⟨lf, h⟩ := h.rd
  have h' := h []
  rw [List.append_nil] at h'
  exact ⟨lf, h', trivial⟩
variable {a1 b1 c1001 : Int} {X1 G1 Z : T} {p1001 t1001 : Int} {fr : Fr} {H : Heap}
theorem s201_10 (hI : PIx H (fr.get 23) a1 b1 c1001) (hP : PBx H (fr.get 24) X1 p1001) (hG : PGx H (fr.get 25) t1001 G1) {ok : Bool} {n : Nat} {L : List Int} {q : Int} (hn : L.length = n) (hr : ownR env 14 [.agg [ti a1, ti b1, ti c1001], .agg [X1, ti p1001], .agg [ti t1001, G1]] = sailR ok n L q) :
    ∃ fr' H', execD env (nth 10 ir4_c) (fr, H) = some (.norm, fr', H') ∧ Mq [26, 27] fr H fr' H' ∧ PBx H' (fr'.get 26) (sX ok L) (sq ok q) ∧ fr'.get 27 = .t (tb ok) := by
  have htk : L.take n = L := List.take_of_length_le (by omega)
  obtain ⟨j1, e1001, n1, -⟩ := hI.all
  obtain ⟨j2, v2, l1002, e1002, n2, d1002, -, -⟩ := hP.all
  obtain ⟨j3, v3, l1003, e1003, n3, d1003⟩ := hG.all
  cases ok with
  | false =>
    simp only [sailR, Bool.false_eq_true, if_false] at hr
    refine ⟨_, _, (by simp [nth, rst, ir4_c, Fr.get_put, e1001, n1, e1002, n2, d1002, e1003, n3, d1003, hr]; exact ⟨rfl, rfl⟩), ⟨fun t ht hn => ?_, ⟨_, rfl⟩⟩, ?_, ?_⟩
    · simp only [Fr.get_put]
      simp only [List.mem_cons, not_or, List.not_mem_nil, not_false_eq_true, and_true] at hn
      repeat rw [if_neg (by omega)]
    · exact ⟨H.length, .t .nil, [], by simp [Fr.get_put], fun E => by simp [sq], fun E => by simp [sX]⟩
    · simp [Fr.get_put]
  | true =>
    simp only [sailR, if_true] at hr
    refine ⟨_, _, (by simp [nth, rst, ir4_c, Fr.get_put, e1001, n1, e1002, n2, d1002, e1003, n3, d1003, hr]; exact ⟨rfl, rfl⟩), ⟨fun t ht hn => ?_, ⟨_, rfl⟩⟩, ?_, ?_⟩
    · simp only [Fr.get_put]
      simp only [List.mem_cons, not_or, List.not_mem_nil, not_false_eq_true, and_true] at hn
      repeat rw [if_neg (by omega)]
    · exact ⟨H.length + 1, .ref H.length 0 n, [(H.length, .froz 1 (til L))], by simp [Fr.get_put], fun E => by simp [sq], fun E => by simp [sX, htk]⟩
    · simp [Fr.get_put]
theorem s201_11 (hI : PIx H (fr.get 23) a1 b1 c1001) (hP : PBx H (fr.get 24) X1 p1001) (hG : PGx H (fr.get 25) t1001 G1) {ok : Bool} {n : Nat} {L : List Int} {q : Int} (hn : L.length = n) (hr : ownR env 17 [.agg [ti a1, ti b1, ti c1001], .agg [X1, ti p1001], .agg [ti t1001, G1]] = sailR ok n L q) :
    ∃ fr' H', execD env (nth 11 ir4_c) (fr, H) = some (.norm, fr', H') ∧ Mq [28, 29] fr H fr' H' ∧ PBx H' (fr'.get 28) (sX ok L) (sq ok q) ∧ fr'.get 29 = .t (tb ok) := by
  have htk : L.take n = L := List.take_of_length_le (by omega)
  obtain ⟨j1, e1001, n1, -⟩ := hI.all
  obtain ⟨j2, v2, l1002, e1002, n2, d1002, -, -⟩ := hP.all
  obtain ⟨j3, v3, l1003, e1003, n3, d1003⟩ := hG.all
  cases ok with
  | false =>
    simp only [sailR, Bool.false_eq_true, if_false] at hr
    refine ⟨_, _, (by simp [nth, rst, ir4_c, Fr.get_put, e1001, n1, e1002, n2, d1002, e1003, n3, d1003, hr]; exact ⟨rfl, rfl⟩), ⟨fun t ht hn => ?_, ⟨_, rfl⟩⟩, ?_, ?_⟩
    · simp only [Fr.get_put]
      simp only [List.mem_cons, not_or, List.not_mem_nil, not_false_eq_true, and_true] at hn
      repeat rw [if_neg (by omega)]
    · exact ⟨H.length, .t .nil, [], by simp [Fr.get_put], fun E => by simp [sq], fun E => by simp [sX]⟩
    · simp [Fr.get_put]
  | true =>
    simp only [sailR, if_true] at hr
    refine ⟨_, _, (by simp [nth, rst, ir4_c, Fr.get_put, e1001, n1, e1002, n2, d1002, e1003, n3, d1003, hr]; exact ⟨rfl, rfl⟩), ⟨fun t ht hn => ?_, ⟨_, rfl⟩⟩, ?_, ?_⟩
    · simp only [Fr.get_put]
      simp only [List.mem_cons, not_or, List.not_mem_nil, not_false_eq_true, and_true] at hn
      repeat rw [if_neg (by omega)]
    · exact ⟨H.length + 1, .ref H.length 0 n, [(H.length, .froz 1 (til L))], by simp [Fr.get_put], fun E => by simp [sq], fun E => by simp [sX, htk]⟩
    · simp [Fr.get_put]
theorem s201_13 (hI : PIx H (fr.get 30) a1 b1 c1001) (hP : PBx H (fr.get 31) X1 p1001) (hZ : LVx H (fr.get 32) Z) {ok : Bool} {n : Nat} {L : List Int} {q : Int} (hn : L.length = n) (hr : ownR env 18 [.agg [ti a1, ti b1, ti c1001], .agg [X1, ti p1001], Z] = sailR ok n L q) :
    ∃ fr' H', execD env (nth 13 ir4_c) (fr, H) = some (.norm, fr', H') ∧ Mq [33, 34] fr H fr' H' ∧ PBx H' (fr'.get 33) (sX ok L) (sq ok q) ∧ fr'.get 34 = .t (tb ok) := by
  have htk : L.take n = L := List.take_of_length_le (by omega)
  obtain ⟨j1, e1001, n1, -⟩ := hI.all
  obtain ⟨j2, v2, l1002, e1002, n2, d1002, -, -⟩ := hP.all
  obtain ⟨l1003, d1003, -⟩ := hZ.all
  generalize hz : fr.get 32 = z at *
  cases ok with
  | false =>
    simp only [sailR, Bool.false_eq_true, if_false] at hr
    refine ⟨_, _, (by simp [nth, rst, ir4_c, Fr.get_put, e1001, n1, e1002, n2, d1002, hz, d1003, hr]; exact ⟨rfl, rfl⟩), ⟨fun t ht hn => ?_, ⟨_, rfl⟩⟩, ?_, ?_⟩
    · simp only [Fr.get_put]
      simp only [List.mem_cons, not_or, List.not_mem_nil, not_false_eq_true, and_true] at hn
      repeat rw [if_neg (by omega)]
    · exact ⟨H.length, .t .nil, [], by simp [Fr.get_put], fun E => by simp [sq], fun E => by simp [sX]⟩
    · simp [Fr.get_put]
  | true =>
    simp only [sailR, if_true] at hr
    refine ⟨_, _, (by simp [nth, rst, ir4_c, Fr.get_put, e1001, n1, e1002, n2, d1002, hz, d1003, hr]; exact ⟨rfl, rfl⟩), ⟨fun t ht hn => ?_, ⟨_, rfl⟩⟩, ?_, ?_⟩
    · simp only [Fr.get_put]
      simp only [List.mem_cons, not_or, List.not_mem_nil, not_false_eq_true, and_true] at hn
      repeat rw [if_neg (by omega)]
    · exact ⟨H.length + 1, .ref H.length 0 n, [(H.length, .froz 1 (til L))], by simp [Fr.get_put], fun E => by simp [sq], fun E => by simp [sX, htk]⟩
    · simp [Fr.get_put]
theorem s201_14 (hI : PIx H (fr.get 30) a1 b1 c1001) (hP : PBx H (fr.get 31) X1 p1001) (hZ : LVx H (fr.get 32) Z) {ok : Bool} {n : Nat} {L : List Int} {q : Int} (hn : L.length = n) (hr : ownR env 19 [.agg [ti a1, ti b1, ti c1001], .agg [X1, ti p1001], Z] = sailR ok n L q) :
    ∃ fr' H', execD env (nth 14 ir4_c) (fr, H) = some (.norm, fr', H') ∧ Mq [35, 36] fr H fr' H' ∧ PBx H' (fr'.get 35) (sX ok L) (sq ok q) ∧ fr'.get 36 = .t (tb ok) := by
  have htk : L.take n = L := List.take_of_length_le (by omega)
  obtain ⟨j1, e1001, n1, -⟩ := hI.all
  obtain ⟨j2, v2, l1002, e1002, n2, d1002, -, -⟩ := hP.all
  obtain ⟨l1003, d1003, -⟩ := hZ.all
  generalize hz : fr.get 32 = z at *
  cases ok with
  | false =>
    simp only [sailR, Bool.false_eq_true, if_false] at hr
    refine ⟨_, _, (by simp [nth, rst, ir4_c, Fr.get_put, e1001, n1, e1002, n2, d1002, hz, d1003, hr]; exact ⟨rfl, rfl⟩), ⟨fun t ht hn => ?_, ⟨_, rfl⟩⟩, ?_, ?_⟩
    · simp only [Fr.get_put]
      simp only [List.mem_cons, not_or, List.not_mem_nil, not_false_eq_true, and_true] at hn
      repeat rw [if_neg (by omega)]
    · exact ⟨H.length, .t .nil, [], by simp [Fr.get_put], fun E => by simp [sq], fun E => by simp [sX]⟩
    · simp [Fr.get_put]
  | true =>
    simp only [sailR, if_true] at hr
    refine ⟨_, _, (by simp [nth, rst, ir4_c, Fr.get_put, e1001, n1, e1002, n2, d1002, hz, d1003, hr]; exact ⟨rfl, rfl⟩), ⟨fun t ht hn => ?_, ⟨_, rfl⟩⟩, ?_, ?_⟩
    · simp only [Fr.get_put]
      simp only [List.mem_cons, not_or, List.not_mem_nil, not_false_eq_true, and_true] at hn
      repeat rw [if_neg (by omega)]
    · exact ⟨H.length + 1, .ref H.length 0 n, [(H.length, .froz 1 (til L))], by simp [Fr.get_put], fun E => by simp [sq], fun E => by simp [sX, htk]⟩
    · simp [Fr.get_put]
theorem s201_15 (hI : PIx H (fr.get 30) a1 b1 c1001) (hP : PBx H (fr.get 31) X1 p1001) (hZ : LVx H (fr.get 32) Z) {r : Int × Bool} (hr : ownR env 20 [.agg [ti a1, ti b1, ti c1001], .agg [X1, ti p1001], Z] = some (.tup [.t (ti r.1), .t (tb r.2)], [])) :
    ∃ fr' H', execD env (nth 15 ir4_c) (fr, H) = some (.norm, fr', H') ∧ Mq [37, 38] fr H fr' H' ∧ fr'.get 37 = .t (ti r.1) ∧ fr'.get 38 = .t (tb r.2) := by
  obtain ⟨j1, e1001, n1, -⟩ := hI.all
  obtain ⟨j2, v2, l1002, e1002, n2, d1002, -, -⟩ := hP.all
  obtain ⟨l1003, d1003, -⟩ := hZ.all
  generalize hz : fr.get 32 = z at *
  refine ⟨_, H, (by simp [nth, rst, ir4_c, Fr.get_put, e1001, n1, e1002, n2, d1002, hz, d1003, hr]; rfl), ⟨fun t ht hn => ?_, ⟨[], (List.append_nil _).symm⟩⟩, ?_, ?_⟩
  · simp only [Fr.get_put]
    simp only [List.mem_cons, not_or, List.not_mem_nil, not_false_eq_true, and_true] at hn
    repeat rw [if_neg (by omega)]
  · simp [Fr.get_put]
  · simp [Fr.get_put]
theorem s201_16 (hI : PIx H (fr.get 30) a1 b1 c1001) (hP : PBx H (fr.get 31) X1 p1001) (hZ : LVx H (fr.get 32) Z) {r : Int × Bool} (hr : ownR env 21 [.agg [ti a1, ti b1, ti c1001], .agg [X1, ti p1001], Z] = some (.tup [.t (ti r.1), .t (tb r.2)], [])) :
    ∃ fr' H', execD env (nth 16 ir4_c) (fr, H) = some (.norm, fr', H') ∧ Mq [39, 40] fr H fr' H' ∧ fr'.get 39 = .t (ti r.1) ∧ fr'.get 40 = .t (tb r.2) := by
  obtain ⟨j1, e1001, n1, -⟩ := hI.all
  obtain ⟨j2, v2, l1002, e1002, n2, d1002, -, -⟩ := hP.all
  obtain ⟨l1003, d1003, -⟩ := hZ.all
  generalize hz : fr.get 32 = z at *
  refine ⟨_, H, (by simp [nth, rst, ir4_c, Fr.get_put, e1001, n1, e1002, n2, d1002, hz, d1003, hr]; rfl), ⟨fun t ht hn => ?_, ⟨[], (List.append_nil _).symm⟩⟩, ?_, ?_⟩
  · simp only [Fr.get_put]
    simp only [List.mem_cons, not_or, List.not_mem_nil, not_false_eq_true, and_true] at hn
    repeat rw [if_neg (by omega)]
  · simp [Fr.get_put]
  · simp [Fr.get_put]
theorem s201_18 (hI : PIx H (fr.get 41) a1 b1 c1001) {ok : Bool} {n : Nat} {L : List Int} {q : Int} (hn : L.length = n) (hr : ownR env 22 [.agg [ti a1, ti b1, ti c1001]] = sailR ok n L q) :
    ∃ fr' H', execD env (nth 18 ir4_c) (fr, H) = some (.norm, fr', H') ∧ Mq [42, 43] fr H fr' H' ∧ PBx H' (fr'.get 42) (sX ok L) (sq ok q) ∧ fr'.get 43 = .t (tb ok) := by
  have htk : L.take n = L := List.take_of_length_le (by omega)
  obtain ⟨j1, e1001, n1, -⟩ := hI.all
  cases ok with
  | false =>
    simp only [sailR, Bool.false_eq_true, if_false] at hr
    refine ⟨_, _, (by simp [nth, rst, ir4_c, Fr.get_put, e1001, n1, hr]; exact ⟨rfl, rfl⟩), ⟨fun t ht hn => ?_, ⟨_, rfl⟩⟩, ?_, ?_⟩
    · simp only [Fr.get_put]
      simp only [List.mem_cons, not_or, List.not_mem_nil, not_false_eq_true, and_true] at hn
      repeat rw [if_neg (by omega)]
    · exact ⟨H.length, .t .nil, [], by simp [Fr.get_put], fun E => by simp [sq], fun E => by simp [sX]⟩
    · simp [Fr.get_put]
  | true =>
    simp only [sailR, if_true] at hr
    refine ⟨_, _, (by simp [nth, rst, ir4_c, Fr.get_put, e1001, n1, hr]; exact ⟨rfl, rfl⟩), ⟨fun t ht hn => ?_, ⟨_, rfl⟩⟩, ?_, ?_⟩
    · simp only [Fr.get_put]
      simp only [List.mem_cons, not_or, List.not_mem_nil, not_false_eq_true, and_true] at hn
      repeat rw [if_neg (by omega)]
    · exact ⟨H.length + 1, .ref H.length 0 n, [(H.length, .froz 1 (til L))], by simp [Fr.get_put], fun E => by simp [sq], fun E => by simp [sX, htk]⟩
    · simp [Fr.get_put]
theorem s201_19 (hI : PIx H (fr.get 41) a1 b1 c1001) {ok : Bool} {n : Nat} {L : List Int} {q : Int} (hn : L.length = n) (hr : ownR env 23 [.agg [ti a1, ti b1, ti c1001]] = sailR ok n L q) :
    ∃ fr' H', execD env (nth 19 ir4_c) (fr, H) = some (.norm, fr', H') ∧ Mq [44, 45] fr H fr' H' ∧ PBx H' (fr'.get 44) (sX ok L) (sq ok q) ∧ fr'.get 45 = .t (tb ok) := by
  have htk : L.take n = L := List.take_of_length_le (by omega)
  obtain ⟨j1, e1001, n1, -⟩ := hI.all
  cases ok with
  | false =>
    simp only [sailR, Bool.false_eq_true, if_false] at hr
    refine ⟨_, _, (by simp [nth, rst, ir4_c, Fr.get_put, e1001, n1, hr]; exact ⟨rfl, rfl⟩), ⟨fun t ht hn => ?_, ⟨_, rfl⟩⟩, ?_, ?_⟩
    · simp only [Fr.get_put]
      simp only [List.mem_cons, not_or, List.not_mem_nil, not_false_eq_true, and_true] at hn
      repeat rw [if_neg (by omega)]
    · exact ⟨H.length, .t .nil, [], by simp [Fr.get_put], fun E => by simp [sq], fun E => by simp [sX]⟩
    · simp [Fr.get_put]
  | true =>
    simp only [sailR, if_true] at hr
    refine ⟨_, _, (by simp [nth, rst, ir4_c, Fr.get_put, e1001, n1, hr]; exact ⟨rfl, rfl⟩), ⟨fun t ht hn => ?_, ⟨_, rfl⟩⟩, ?_, ?_⟩
    · simp only [Fr.get_put]
      simp only [List.mem_cons, not_or, List.not_mem_nil, not_false_eq_true, and_true] at hn
      repeat rw [if_neg (by omega)]
    · exact ⟨H.length + 1, .ref H.length 0 n, [(H.length, .froz 1 (til L))], by simp [Fr.get_put], fun E => by simp [sq], fun E => by simp [sX, htk]⟩
    · simp [Fr.get_put]
theorem s201_20 (hI : PIx H (fr.get 41) a1 b1 c1001) {ok : Bool} {n : Nat} {L : List Int} {q : Int} (hn : L.length = n) (hr : ownR env 24 [.agg [ti a1, ti b1, ti c1001]] = sailR ok n L q) :
    ∃ fr' H', execD env (nth 20 ir4_c) (fr, H) = some (.norm, fr', H') ∧ Mq [46, 47] fr H fr' H' ∧ PBx H' (fr'.get 46) (sX ok L) (sq ok q) ∧ fr'.get 47 = .t (tb ok) := by
  have htk : L.take n = L := List.take_of_length_le (by omega)
  obtain ⟨j1, e1001, n1, -⟩ := hI.all
  cases ok with
  | false =>
    simp only [sailR, Bool.false_eq_true, if_false] at hr
    refine ⟨_, _, (by simp [nth, rst, ir4_c, Fr.get_put, e1001, n1, hr]; exact ⟨rfl, rfl⟩), ⟨fun t ht hn => ?_, ⟨_, rfl⟩⟩, ?_, ?_⟩
    · simp only [Fr.get_put]
      simp only [List.mem_cons, not_or, List.not_mem_nil, not_false_eq_true, and_true] at hn
      repeat rw [if_neg (by omega)]
    · exact ⟨H.length, .t .nil, [], by simp [Fr.get_put], fun E => by simp [sq], fun E => by simp [sX]⟩
    · simp [Fr.get_put]
  | true =>
    simp only [sailR, if_true] at hr
    refine ⟨_, _, (by simp [nth, rst, ir4_c, Fr.get_put, e1001, n1, hr]; exact ⟨rfl, rfl⟩), ⟨fun t ht hn => ?_, ⟨_, rfl⟩⟩, ?_, ?_⟩
    · simp only [Fr.get_put]
      simp only [List.mem_cons, not_or, List.not_mem_nil, not_false_eq_true, and_true] at hn
      repeat rw [if_neg (by omega)]
    · exact ⟨H.length + 1, .ref H.length 0 n, [(H.length, .froz 1 (til L))], by simp [Fr.get_put], fun E => by simp [sq], fun E => by simp [sX, htk]⟩
    · simp [Fr.get_put]
theorem s201_21 (hI : PIx H (fr.get 41) a1 b1 c1001) {ok : Bool} {n : Nat} {L : List Int} {q : Int} (hn : L.length = n) (hr : ownR env 25 [.agg [ti a1, ti b1, ti c1001]] = sailR ok n L q) :
    ∃ fr' H', execD env (nth 21 ir4_c) (fr, H) = some (.norm, fr', H') ∧ Mq [48, 49] fr H fr' H' ∧ PBx H' (fr'.get 48) (sX ok L) (sq ok q) ∧ fr'.get 49 = .t (tb ok) := by
  have htk : L.take n = L := List.take_of_length_le (by omega)
  obtain ⟨j1, e1001, n1, -⟩ := hI.all
  cases ok with
  | false =>
    simp only [sailR, Bool.false_eq_true, if_false] at hr
    refine ⟨_, _, (by simp [nth, rst, ir4_c, Fr.get_put, e1001, n1, hr]; exact ⟨rfl, rfl⟩), ⟨fun t ht hn => ?_, ⟨_, rfl⟩⟩, ?_, ?_⟩
    · simp only [Fr.get_put]
      simp only [List.mem_cons, not_or, List.not_mem_nil, not_false_eq_true, and_true] at hn
      repeat rw [if_neg (by omega)]
    · exact ⟨H.length, .t .nil, [], by simp [Fr.get_put], fun E => by simp [sq], fun E => by simp [sX]⟩
    · simp [Fr.get_put]
  | true =>
    simp only [sailR, if_true] at hr
    refine ⟨_, _, (by simp [nth, rst, ir4_c, Fr.get_put, e1001, n1, hr]; exact ⟨rfl, rfl⟩), ⟨fun t ht hn => ?_, ⟨_, rfl⟩⟩, ?_, ?_⟩
    · simp only [Fr.get_put]
      simp only [List.mem_cons, not_or, List.not_mem_nil, not_false_eq_true, and_true] at hn
      repeat rw [if_neg (by omega)]
    · exact ⟨H.length + 1, .ref H.length 0 n, [(H.length, .froz 1 (til L))], by simp [Fr.get_put], fun E => by simp [sq], fun E => by simp [sX, htk]⟩
    · simp [Fr.get_put]
end Go.Proofs.Ytdgfpjlmpnfcgaa.Ev

namespace Go.Proofs.Ytdgfpjlmpnfcgaa.Ev
open Go
set_option linter.unusedVariables false
set_option linter.unusedSimpArgs false
set_option linter.unusedSectionVars false
attribute [local simp] til_getE til_length til_get til_drop til_take til_snoc til_fold take_snoc til_set
variable {a1 b1 c1001 a2 b2 c1002 a3 b3 c1003 : Int} {X1 G1 X2 Z : T} {p1001 t1001 p1002 : Int} {fr : Fr} {H : Heap}
set_option maxHeartbeats 4000000 in
set_option maxRecDepth 20000 in
theorem s201_22 (hI : PIx H (fr.get 41) a3 b3 c1003) {s1 b5 b7 : Bool} {L1 L5 L9 LA : List Int} {q1001 q1005 q1009 qA k : Int}
    (hl1 : L1.length ≤ 2 ^ 40) (hl5 : L5.length ≤ 2 ^ 40) (hl9 : L9.length ≤ 2 ^ 40) (hlA : LA.length ≤ 2 ^ 40)
    (B35 : PBx H (fr.get 26) (sX s1 L1) (sq s1 q1001)) (f36 : fr.get 27 = .t (tb s1)) (B37 : PBx H (fr.get 28) (sX s1 L1) (sq s1 q1001)) (f38 : fr.get 29 = .t (tb s1))
    (B39 : PBx H (fr.get 33) (sX b5 L5) (sq b5 q1005)) (f40 : fr.get 34 = .t (tb b5)) (B41 : PBx H (fr.get 35) (sX b5 L5) (sq b5 q1005)) (f42 : fr.get 36 = .t (tb b5))
    (f43 : fr.get 37 = .t (ti k)) (f44 : fr.get 38 = .t (tb b7)) (f45 : fr.get 39 = .t (ti k)) (f46 : fr.get 40 = .t (tb b7)) (h57 : (b5 && b7) = false)
    (B47 : PBx H (fr.get 42) (sX (good a3 b3 c1003) L9) (sq (good a3 b3 c1003) q1009)) (f48 : fr.get 43 = .t (tb (good a3 b3 c1003))) (B49 : PBx H (fr.get 44) (sX (good a3 b3 c1003) L9) (sq (good a3 b3 c1003) q1009)) (f50 : fr.get 45 = .t (tb (good a3 b3 c1003)))
    (B51 : PBx H (fr.get 46) (sX (good a3 b3 c1003) LA) (sq (good a3 b3 c1003) qA)) (f52 : fr.get 47 = .t (tb (good a3 b3 c1003))) (B53 : PBx H (fr.get 48) (sX (good a3 b3 c1003) LA) (sq (good a3 b3 c1003) qA)) (f54 : fr.get 49 = .t (tb (good a3 b3 c1003))) :
    ∃ fr' H', execD env (nth 22 ir4_c) (fr, H) = some (.norm, fr', H') ∧ Mq [] fr H fr' H' := by
  obtain ⟨jz, f17, n7, -⟩ := hI.all
  have g1 := same211 s1 L1 (sq s1 q1001) hl1
  have g5 := same211 b5 L5 (sq b5 q1005) hl5
  have g9 := same211 (good a3 b3 c1003) L9 (sq (good a3 b3 c1003) q1009) hl9
  have gA := same211 (good a3 b3 c1003) LA (sq (good a3 b3 c1003) qA) hlA
  obtain ⟨j35, v35, l1035, e1035, h35, d1035, -, -⟩ := B35.all
  obtain ⟨j37, v37, l1037, e1037, h37, d1037, -, -⟩ := B37.all
  obtain ⟨j39, v39, l40, e40, h39, d40, -, -⟩ := B39.all
  obtain ⟨j41, v41, l1041, e1041, h41, d1041, -, -⟩ := B41.all
  obtain ⟨j47, v47, l1047, e1047, h47, d1047, -, -⟩ := B47.all
  obtain ⟨j49, v49, l51, e51, h49, d51, -, -⟩ := B49.all
  obtain ⟨j51, v51, l1051, e1051, h51, d1051, -, -⟩ := B51.all
  obtain ⟨j53, v53, l45, e45, h53, d45, -, -⟩ := B53.all
  cases b5 <;> cases b7 <;> simp at h57
  all_goals
   refine ⟨_, H, (by simp [nth, rst, ir4_c, Fr.get_put, f17, n7, e1035, h35, d1035, e1037, h37, d1037, e40, h39, d40, e1041, h41, d1041, e1047, h47, d1047, e51, h49, d51, e1051, h51, d1051, e45, h53, d45, f36, f38, f40, f42, f43, f44, f45, f46, f48, f50, f52, f54, g1, g5, g9, gA]; rfl), ⟨fun t ht hn => ?_, ⟨[], (List.append_nil _).symm⟩⟩⟩
   simp only [Fr.get_put]
   repeat rw [if_neg (by omega)]
set_option maxHeartbeats 4000000 in
set_option maxRecDepth 20000 in
theorem s201_23 (hI : PIx H (fr.get 41) a3 b3 c1003) {g3 : Bool} {L9 LA : List Int} {q1009 qA : Int}
    (B47 : PBx H (fr.get 42) (sX g3 L9) (sq g3 q1009)) (f48 : fr.get 43 = .t (tb g3)) (B51 : PBx H (fr.get 46) (sX g3 LA) (sq g3 qA))
    (h1 : g3 = true → ownR env 7 [.agg [ti a3, ti b3, ti c1003], .agg [.lst 1 (til L9), ti q1009]] = some (.tup [.t (tb true), .t (tb true)], []))
    (h2 : g3 = true → ownR env 7 [.agg [ti a3, ti b3, ti c1003], .agg [.lst 1 (til LA), ti qA]] = some (.tup [.t (tb true), .t (tb true)], [])) :
    ∃ fr' H', execD env (nth 23 ir4_c) (fr, H) = some (.norm, fr', H') ∧ Mq [50, 51, 52, 53] fr H fr' H' := by
  obtain ⟨jz, f17, n7, -⟩ := hI.all
  obtain ⟨j47, v47, l1047, e1047, h47, d1047, -, -⟩ := B47.all
  obtain ⟨j51, v51, l1051, e1051, h51, d1051, -, -⟩ := B51.all
  cases g3 with
  | false =>
    refine ⟨_, H, (by simp [nth, rst, ir4_c, Fr.get_put, f48]; rfl), ⟨fun t ht hn => ?_, ⟨[], (List.append_nil _).symm⟩⟩⟩
    simp only [Fr.get_put]
    repeat rw [if_neg (by omega)]
  | true =>
    have h1 := h1 rfl
    have h2 := h2 rfl
    simp only [sX, sq, if_true] at d1047 d1051 h47 h51
    refine ⟨_, H, (by simp [nth, rst, ir4_c, Fr.get_put, f48, f17, n7, e1047, h47, d1047, e1051, h51, d1051, h1, h2]; rfl), ⟨fun t ht hn => ?_, ⟨[], (List.append_nil _).symm⟩⟩⟩
    simp only [Fr.get_put]
    simp only [List.mem_cons, not_or, List.not_mem_nil, not_false_eq_true, and_true] at hn
    repeat rw [if_neg (by omega)]
end Go.Proofs.Ytdgfpjlmpnfcgaa.Ev

namespace Go.Proofs.Ytdgfpjlmpnfcgaa.Ev
open Go
set_option linter.unusedVariables false
set_option linter.unusedSimpArgs false
set_option linter.unusedSectionVars false
attribute [local simp] til_getE til_length til_get til_drop til_take til_snoc til_fold take_snoc til_set
variable {a1 b1 c1001 a2 b2 c1002 a3 b3 c1003 : Int} {X1 G1 X2 Z : T} {p1001 t1001 p1002 : Int} {fr : Fr} {H : Heap}
set_option maxHeartbeats 4000000 in
set_option maxRecDepth 20000 in
theorem s201_24 (hI : PIx H (fr.get 30) a2 b2 c1002) (hP : PBx H (fr.get 31) X2 p1002) (hL : LVx H (fr.get 32) Z) {b5 : Bool} {L5 : List Int} {q1005 : Int} (hl5 : L5.length ≤ 2 ^ 40)
    (B39 : PBx H (fr.get 33) (sX b5 L5) (sq b5 q1005)) (f40 : fr.get 34 = .t (tb b5))
    (hZ : b5 = false ∨ Z = .nil ∨ Z = .lst 2 [] ∨ ∃ (v : Int) (G0 : T) (ts : List T) (L : List Int), Z = .lst 2 (.agg [ti v, G0] :: ts) ∧ L.length ≤ 1000 ∧ ts.length ≤ 2 ^ 30 ∧ ownR env 14 [.agg [ti a2, ti b2, ti c1002], .agg [X2, ti p1002], .agg [ti v, G0]] = sailR true L.length L v ∧
      ownR env 18 [.agg [ti a2, ti b2, ti c1002], .agg [.lst 1 (til L), ti v], .lst 2 ts] = sailR true L5.length L5 q1005) :
    ∃ fr' H', execD env (nth 24 ir4_c) (fr, H) = some (.norm, fr', H') ∧ Mq [54, 55, 56, 57] fr H fr' H' := by
  obtain ⟨jy, f14, n5, m1005⟩ := hI.all
  obtain ⟨jp, vp, lp, f15, n6, d1006, m1006, r1006⟩ := hP.all
  obtain ⟨j39, v39, l40, e40, h39, d40, k40, r40⟩ := B39.all
  have fin : ∀ (fr' : Fr) (E : Heap), execD env (nth 24 ir4_c) (fr, H) = some (.norm, fr', H ++ E) → (∀ t, t < 62 → t ∉ [54, 55, 56, 57] → fr'.get t = fr.get t) → ∃ fr' H', execD env (nth 24 ir4_c) (fr, H) = some (.norm, fr', H') ∧ Mq [54, 55, 56, 57] fr H fr' H' := fun fr' E h1 h2 => ⟨fr', H ++ E, h1, h2, E, rfl⟩
  rcases hL with f7 | ⟨i0, ts0, f7, hZ0, u7⟩
  · cases b5 with
    | false =>
      refine fin _ [] (by simp [nth, rst, ir4_c, Fr.get_put, f40]; rfl) fun t ht hn => ?_
      simp only [Fr.get_put]
      repeat rw [if_neg (by omega)]
    | true =>
      rcases hZ with h | rfl | rfl | ⟨v, G0, ts, L, rfl, hL, hts, r1001, r1002⟩
      · cases h
      · refine fin _ [] (by simp [nth, rst, ir4_c, Fr.get_put, f40, f7]; rfl) fun t ht hn => ?_
        simp only [Fr.get_put]
        repeat rw [if_neg (by omega)]
      · refine fin _ [] (by simp [nth, rst, ir4_c, Fr.get_put, f40, f7]; rfl) fun t ht hn => ?_
        simp only [Fr.get_put]
        repeat rw [if_neg (by omega)]
      · have g5 := same211 true L5 q1005 hl5
        have htk : L.take L.length = L := List.take_length
        simp only [sailR, if_true] at r1001 r1002
        simp only [sX, sq, if_true] at d40 h39 k40 r40 g5
        refine fin _ _ (by simp [nth, rst, ir4_c, Fr.get_put, f40, f7, f14, f15, n5, n6, m1005, m1006, d1006, r1006, r1001, r1002, e40, h39, d40, k40, r40, g5, til_flat]; exact ⟨rfl, rfl⟩) fun t ht hn => ?_
        simp only [Fr.get_put]
        simp only [List.mem_cons, not_or, List.not_mem_nil, not_false_eq_true, and_true] at hn
        repeat rw [if_neg (by omega)]
  · have n7 := u7 []
    rw [List.append_nil] at n7
    have hi0 := (List.getElem?_eq_some_iff.1 n7).1
    have ne0 : ¬ i0 = H.length := by omega
    have ne1 : ¬ i0 = H.length + 1 := by omega
    have ne0' : ¬ H.length = i0 := by omega
    have ne1' : ¬ H.length + 1 = i0 := by omega
    cases b5 with
    | false =>
      refine fin _ [] (by simp [nth, rst, ir4_c, Fr.get_put, f40]; rfl) fun t ht hn => ?_
      simp only [Fr.get_put]
      repeat rw [if_neg (by omega)]
    | true =>
      rcases hZ with h | h | h | ⟨v, G0, ts, L, h, hL, hts, r1001, r1002⟩
      · cases h
      · rw [hZ0] at h; cases h
      · rw [hZ0] at h; cases h
        refine fin _ [] (by simp [nth, rst, ir4_c, Fr.get_put, f40, f7]; rfl) fun t ht hn => ?_
        simp only [Fr.get_put]
        repeat rw [if_neg (by omega)]
      · rw [hZ0] at h; cases h
        have g5 := same211 true L5 q1005 hl5
        have htk : L.take L.length = L := List.take_length
        simp only [sailR, if_true] at r1001 r1002
        simp only [sX, sq, if_true] at d40 h39 k40 r40 g5
        refine fin _ _ (by simp [nth, rst, ir4_c, Fr.get_put, f40, f7, n7, u7, ne0, ne1, ne0', ne1', f14, f15, n5, n6, m1005, m1006, d1006, r1006, r1001, r1002, e40, h39, d40, k40, r40, g5, til_flat]; exact ⟨rfl, rfl⟩) fun t ht hn => ?_
        simp only [Fr.get_put]
        simp only [List.mem_cons, not_or, List.not_mem_nil, not_false_eq_true, and_true] at hn
        repeat rw [if_neg (by omega)]
set_option maxHeartbeats 4000000 in
set_option maxRecDepth 20000 in
theorem s201_25 (hI : PIx H (fr.get 30) a2 b2 c1002) (hP : PBx H (fr.get 31) X2 p1002) (hL : LVx H (fr.get 32) Z) {b7 : Bool} {k : Int} (f43 : fr.get 37 = .t (ti k)) (f44 : fr.get 38 = .t (tb b7))
    (hZ : b7 = false ∨ ∃ (v : Int) (G0 : T) (ts : List T) (L : List Int) (q : Int) (i : Nat), k = i ∧ Z = .lst 2 ts ∧ ts.length ≤ 2 ^ 30 ∧ ∃ hi : i < ts.length, ts[i] = .agg [ti v, G0] ∧ ownR env 18 [.agg [ti a2, ti b2, ti c1002], .agg [X2, ti p1002], .lst 2 (ts.take i)] = sailR true L.length L q ∧
      ownR env 14 [.agg [ti a2, ti b2, ti c1002], .agg [.lst 1 (til L), ti q], .agg [ti v, G0]] = some (.tup [.agg [.t .nil, .t (ti 0)], .t (tb false)], [])) :
    ∃ fr' H', execD env (nth 25 ir4_c) (fr, H) = some (.norm, fr', H') ∧ Mq [58, 59, 60, 61] fr H fr' H' := by
  obtain ⟨jy, f14, n5, m1005⟩ := hI.all
  obtain ⟨jp, vp, lp, f15, n6, d1006, m1006, r1006⟩ := hP.all
  have fin : ∀ (fr' : Fr) (E : Heap), execD env (nth 25 ir4_c) (fr, H) = some (.norm, fr', H ++ E) → (∀ t, t < 62 → t ∉ [58, 59, 60, 61] → fr'.get t = fr.get t) → ∃ fr' H', execD env (nth 25 ir4_c) (fr, H) = some (.norm, fr', H') ∧ Mq [58, 59, 60, 61] fr H fr' H' := fun fr' E h1 h2 => ⟨fr', H ++ E, h1, h2, E, rfl⟩
  rcases hL with f7 | ⟨i0, ts0, f7, hZ0, u7⟩
  · cases b7 with
    | false =>
      refine fin _ [] (by simp [nth, rst, ir4_c, Fr.get_put, f44]; rfl) fun t ht hn => ?_
      simp only [Fr.get_put]
      repeat rw [if_neg (by omega)]
    | true =>
      rcases hZ with h | ⟨v, G0, ts, L, q, i, rfl, rfl, hts, hi, he, r1001, r1002⟩
      · cases h
      · have htk : L.take L.length = L := List.take_length
        have hi2 : i ≤ ts.length := by omega
        simp only [sailR, if_true] at r1001
        refine fin _ _ (by simp [nth, rst, ir4_c, Fr.get_put, f44, f43, f7, f14, f15, n5, n6, m1005, m1006, d1006, r1006, hi, hi2, he, r1001, r1002, til_flat]; exact ⟨rfl, rfl⟩) fun t ht hn => ?_
        simp only [Fr.get_put]
        simp only [List.mem_cons, not_or, List.not_mem_nil, not_false_eq_true, and_true] at hn
        repeat rw [if_neg (by omega)]
  · have n7 := u7 []
    rw [List.append_nil] at n7
    have hi0 := (List.getElem?_eq_some_iff.1 n7).1
    have ne0 : ¬ i0 = H.length := by omega
    have ne1 : ¬ i0 = H.length + 1 := by omega
    have ne0' : ¬ H.length = i0 := by omega
    have ne1' : ¬ H.length + 1 = i0 := by omega
    cases b7 with
    | false =>
      refine fin _ [] (by simp [nth, rst, ir4_c, Fr.get_put, f44]; rfl) fun t ht hn => ?_
      simp only [Fr.get_put]
      repeat rw [if_neg (by omega)]
    | true =>
      rcases hZ with h | ⟨v, G0, ts, L, q, i, rfl, h, hts, hi, he, r1001, r1002⟩
      · cases h
      · rw [hZ0] at h; cases h
        have htk : L.take L.length = L := List.take_length
        have hi2 : i ≤ ts0.length := by omega
        simp only [sailR, if_true] at r1001
        refine fin _ _ (by simp [nth, rst, ir4_c, Fr.get_put, f44, f43, f7, n7, u7, ne0, ne1, ne0', ne1', f14, f15, n5, n6, m1005, m1006, d1006, r1006, hi, hi2, he, r1001, r1002, til_flat]; exact ⟨rfl, rfl⟩) fun t ht hn => ?_
        simp only [Fr.get_put]
        simp only [List.mem_cons, not_or, List.not_mem_nil, not_false_eq_true, and_true] at hn
        repeat rw [if_neg (by omega)]
end Go.Proofs.Ytdgfpjlmpnfcgaa.Ev

namespace Go.Proofs.Ytdgfpjlmpnfcgaa.Ev
open Go
set_option linter.unusedVariables false
set_option linter.unusedSimpArgs false
set_option linter.unusedSectionVars false

theorem step_201 {k : Nat} {s s' : Fr × Heap} {r : Option Out} (h : rst k ir4_c = .seq (nth k ir4_c) (rst (k + 1) ir4_c)) (h1 : execD env (nth k ir4_c) s = some (.norm, s')) (h2 : execD env (rst (k + 1) ir4_c) s' = r) : execD env (rst k ir4_c) s = r := by
  rw [h, execD_seq, h1]; exact h2
variable {a1 b1 c1001 a2 b2 c1002 a3 b3 c1003 : Int} {X1 G1 X2 Z : T} {p1001 t1001 p1002 : Int} {fr : Fr} {H : Heap}
theorem factsA {l1001 g1 : List Int} (hX1 : LN X1 l1001) (hG1 : LN G1 g1) : ∃ s1 L1 q1001, ownR env 14 [.agg [ti a1, ti b1, ti c1001], .agg [X1, ti p1001], .agg [ti t1001, G1]] = sailR s1 L1.length L1 q1001 ∧ ownR env 17 [.agg [ti a1, ti b1, ti c1001], .agg [X1, ti p1001], .agg [ti t1001, G1]] = sailR s1 L1.length L1 q1001 ∧ L1.length ≤ 2 ^ 40 := by
  have q1008 := r14 a1 b1 c1001 X1 l1001 hX1 p1001 t1001 G1 g1 hG1
  have q1009 := r17 a1 b1 c1001 X1 l1001 hX1 p1001 t1001 G1 g1 hG1
  rw [sail_eq _ _ _ _ (setAll_length _ _ _)] at q1008 q1009
  refine ⟨_, _, _, q1008, q1009, ?_⟩
  split
  · rename_i h
    rw [Bool.and_eq_true] at h
    obtain ⟨k, rfl, hgd, hl2, _⟩ := askB_parts h.1
    have := good_of hgd
    rw [setAll_length]; omega
  · simp
theorem factsB {l1002 : List Int} {vs : List (Int × List Int)} (hX2 : LN X2 l1002) (hZ : LW Z vs) (hn : vs.length ≤ 10000) : ∃ (b5 : Bool) (L5 : List Int) (q1005 : Int) (r : Int × Bool),
    ownR env 18 [.agg [ti a2, ti b2, ti c1002], .agg [X2, ti p1002], Z] = sailR b5 L5.length L5 q1005 ∧ ownR env 19 [.agg [ti a2, ti b2, ti c1002], .agg [X2, ti p1002], Z] = sailR b5 L5.length L5 q1005 ∧
    ownR env 20 [.agg [ti a2, ti b2, ti c1002], .agg [X2, ti p1002], Z] = some (.tup [.t (ti r.1), .t (tb r.2)], []) ∧ ownR env 21 [.agg [ti a2, ti b2, ti c1002], .agg [X2, ti p1002], Z] = some (.tup [.t (ti r.1), .t (tb r.2)], []) ∧ (b5 && r.2) = false ∧ L5.length ≤ 2 ^ 40 ∧
    (b5 = false ∨ Z = .nil ∨ Z = .lst 2 [] ∨ ∃ (v : Int) (G0 : T) (ts : List T) (L : List Int), Z = .lst 2 (.agg [ti v, G0] :: ts) ∧ L.length ≤ 1000 ∧ ts.length ≤ 2 ^ 30 ∧ ownR env 14 [.agg [ti a2, ti b2, ti c1002], .agg [X2, ti p1002], .agg [ti v, G0]] = sailR true L.length L v ∧
      ownR env 18 [.agg [ti a2, ti b2, ti c1002], .agg [.lst 1 (til L), ti v], .lst 2 ts] = sailR true L5.length L5 q1005) ∧
    (r.2 = false ∨ ∃ (v : Int) (G0 : T) (ts : List T) (L : List Int) (q : Int) (i : Nat), r.1 = i ∧ Z = .lst 2 ts ∧ ts.length ≤ 2 ^ 30 ∧ ∃ hi : i < ts.length, ts[i] = .agg [ti v, G0] ∧ ownR env 18 [.agg [ti a2, ti b2, ti c1002], .agg [X2, ti p1002], .lst 2 (ts.take i)] = sailR true L.length L q ∧
      ownR env 14 [.agg [ti a2, ti b2, ti c1002], .agg [.lst 1 (til L), ti q], .agg [ti v, G0]] = some (.tup [.agg [.t .nil, .t (ti 0)], .t (tb false)], [])) := by
  have q1010 := r18 a2 b2 c1002 X2 l1002 hX2 p1002 Z vs hZ (by omega)
  have q1011 := r19 a2 b2 c1002 X2 l1002 hX2 p1002 Z vs hZ (by omega)
  have q1012 := r20 a2 b2 c1002 X2 l1002 hX2 p1002 Z vs hZ (by omega)
  have q1013 := r21 a2 b2 c1002 X2 l1002 hX2 p1002 Z vs hZ (by omega)
  have w1020 := law20 (a2 := a2) (b2 := b2) (c1002 := c1002) (p1002 := p1002) hX2 hZ hn
  have w1021 := law21 (a2 := a2) (b2 := b2) (c1002 := c1002) (p1002 := p1002) hX2 hZ hn
  have w66 := law57 (a2 := a2) (b2 := b2) (c1002 := c1002) (p1002 := p1002) (l1002 := l1002) (vs := vs)
  have hpl := play_len a2.toNat b2 c1002 vs (l1002, p1002) 0
  simp only at hpl
  rw [sail_eq _ _ _ _ hpl] at q1010 q1011
  refine ⟨_, _, _, _, q1010, q1011, q1012, q1013, w66, ?_, ?_, w1021⟩
  · split
    · rename_i h
      unfold allB at h
      rw [Bool.and_eq_true] at h
      obtain ⟨k, rfl, hgd, hl2, _⟩ := askB_parts h.1
      have := good_of hgd
      rw [hpl]; omega
    · simp
  · cases hb : allB a2 b2 c1002 l1002 p1002 vs with
    | false => exact .inl rfl
    | true => rw [hb] at w1020; exact w1020
theorem factsC : ∃ (L9 LA : List Int) (q1009 qA : Int),
    ownR env 22 [.agg [ti a3, ti b3, ti c1003]] = sailR (good a3 b3 c1003) L9.length L9 q1009 ∧ ownR env 23 [.agg [ti a3, ti b3, ti c1003]] = sailR (good a3 b3 c1003) L9.length L9 q1009 ∧
    ownR env 24 [.agg [ti a3, ti b3, ti c1003]] = sailR (good a3 b3 c1003) LA.length LA qA ∧ ownR env 25 [.agg [ti a3, ti b3, ti c1003]] = sailR (good a3 b3 c1003) LA.length LA qA ∧ L9.length ≤ 2 ^ 40 ∧ LA.length ≤ 2 ^ 40 ∧
    (good a3 b3 c1003 = true → ownR env 7 [.agg [ti a3, ti b3, ti c1003], .agg [.lst 1 (til L9), ti q1009]] = some (.tup [.t (tb true), .t (tb true)], [])) ∧
    (good a3 b3 c1003 = true → ownR env 7 [.agg [ti a3, ti b3, ti c1003], .agg [.lst 1 (til LA), ti qA]] = some (.tup [.t (tb true), .t (tb true)], [])) := by
  have q1014 : ownR env 22 [.agg [ti a3, ti b3, ti c1003]] = sailR (good a3 b3 c1003) (2 * a3.toNat) (List.replicate (2 * a3.toNat) ((0 : Nat) : Int)) ((0 : Nat) : Int) := r22 a3 b3 c1003
  have q1015 : ownR env 23 [.agg [ti a3, ti b3, ti c1003]] = sailR (good a3 b3 c1003) (2 * a3.toNat) (List.replicate (2 * a3.toNat) ((0 : Nat) : Int)) ((0 : Nat) : Int) := r23 a3 b3 c1003
  have q1016 : ownR env 24 [.agg [ti a3, ti b3, ti c1003]] = sailR (good a3 b3 c1003) (2 * a3.toNat) (List.replicate (2 * a3.toNat) (c1003 + 1)) (c1003 + 1) := r24 a3 b3 c1003
  have q1017 : ownR env 25 [.agg [ti a3, ti b3, ti c1003]] = sailR (good a3 b3 c1003) (2 * a3.toNat) (List.replicate (2 * a3.toNat) (c1003 + 1)) (c1003 + 1) := r25 a3 b3 c1003
  have w19a : good a3 b3 c1003 = true → _ := fun hg => law19 (a3 := a3) (b3 := b3) (c1003 := c1003) 0 (by have := good_of hg; omega) hg
  have w19b : good a3 b3 c1003 = true → ownR env 7 [.agg [ti a3, ti b3, ti c1003], .agg [.lst 1 (til (List.replicate (2 * a3.toNat) (c1003 + 1))), ti (c1003 + 1)]] = some (.tup [.t (tb true), .t (tb true)], []) := fun hg => by
    have hgo := good_of hg
    have := law19 (a3 := a3) (b3 := b3) (c1003 := c1003) (c1003 + 1).toNat (by omega) hg
    rw [show (((c1003 + 1).toNat : Nat) : Int) = c1003 + 1 by omega] at this
    exact this
  have hl9 : good a3 b3 c1003 = true → 2 * a3.toNat ≤ 1000 := fun h => by have := good_of h; omega
  rw [sail_eq _ _ _ _ List.length_replicate] at q1014 q1015 q1016 q1017
  refine ⟨_, _, _, _, q1014, q1015, q1016, q1017, ?_, ?_, fun h => by rw [if_pos h]; exact w19a h, fun h => by rw [if_pos h]; exact w19b h⟩
  · split
    · rename_i h; have := hl9 h; rw [List.length_replicate]; omega
    · simp
  · split
    · rename_i h; have := hl9 h; rw [List.length_replicate]; omega
    · simp
variable {C : T} {bs : List Int}
theorem tail201 (hC : BL C bs) (f1 : fr.get 1 = .t C) : ∃ fr' H', execD env (rst 9 ir4_c) (fr, H) = some (.ret, fr', H') ∧ fr'.get 4 = .t (tb true) := by
  obtain ⟨fr9, H9, a1, b1, c1001, p1001, t1001, X1, G1, l1001, g1, x1009, m1009, I23, B24, hX1, P25, hG1⟩ := s201_9 (fr := fr) (H := H) hC f1
  replace f1 := m1009.get f1 (by decide) (by simp)
  obtain ⟨s1, L1, q1001, q1010, q1011, hL1⟩ := factsA (a1 := a1) (b1 := b1) (c1001 := c1001) (p1001 := p1001) (t1001 := t1001) hX1 hG1
  obtain ⟨fr10, H10, x1010, m1010, B26, f27⟩ := s201_10 I23 B24 P25 rfl q1010
  replace f1 := m1010.get f1 (by decide) (by simp)
  replace I23 := I23.mq m1010 (by decide) (by simp)
  replace B24 := B24.mq m1010 (by decide) (by simp)
  replace P25 := P25.mq m1010 (by decide) (by simp)
  obtain ⟨fr11, H11, x1011, m1011, B28, f29⟩ := s201_11 I23 B24 P25 rfl q1011
  replace f1 := m1011.get f1 (by decide) (by simp)
  replace I23 := I23.mq m1011 (by decide) (by simp)
  replace B24 := B24.mq m1011 (by decide) (by simp)
  replace P25 := P25.mq m1011 (by decide) (by simp)
  replace B26 := B26.mq m1011 (by decide) (by simp)
  replace f27 := m1011.get f27 (by decide) (by simp)
  obtain ⟨fr12, H12, a2, b2, c1002, p1002, X2, Z, l1002, vs, x1012, m1012, I30, B31, hX2, L32, hZ, hvs⟩ := s201_12 (fr := fr11) (H := H11) hC f1
  replace f1 := m1012.get f1 (by decide) (by simp)
  replace B26 := B26.mq m1012 (by decide) (by simp)
  replace f27 := m1012.get f27 (by decide) (by simp)
  replace B28 := B28.mq m1012 (by decide) (by simp)
  replace f29 := m1012.get f29 (by decide) (by simp)
  obtain ⟨b5, L5, q1005, r, q1013, q1014, q1015, q1016, w66, hL5, w1020, w1021⟩ := factsB (a2 := a2) (b2 := b2) (c1002 := c1002) (p1002 := p1002) hX2 hZ (by omega)
  obtain ⟨fr13, H13, x1013, m1013, B33, f34⟩ := s201_13 I30 B31 L32 rfl q1013
  replace f1 := m1013.get f1 (by decide) (by simp)
  replace B26 := B26.mq m1013 (by decide) (by simp)
  replace f27 := m1013.get f27 (by decide) (by simp)
  replace B28 := B28.mq m1013 (by decide) (by simp)
  replace f29 := m1013.get f29 (by decide) (by simp)
  replace I30 := I30.mq m1013 (by decide) (by simp)
  replace B31 := B31.mq m1013 (by decide) (by simp)
  replace L32 := L32.mq m1013 (by decide) (by simp)
  obtain ⟨fr14, H14, x1014, m1014, B35, f36⟩ := s201_14 I30 B31 L32 rfl q1014
  replace f1 := m1014.get f1 (by decide) (by simp)
  replace B26 := B26.mq m1014 (by decide) (by simp)
  replace f27 := m1014.get f27 (by decide) (by simp)
  replace B28 := B28.mq m1014 (by decide) (by simp)
  replace f29 := m1014.get f29 (by decide) (by simp)
  replace I30 := I30.mq m1014 (by decide) (by simp)
  replace B31 := B31.mq m1014 (by decide) (by simp)
  replace L32 := L32.mq m1014 (by decide) (by simp)
  replace B33 := B33.mq m1014 (by decide) (by simp)
  replace f34 := m1014.get f34 (by decide) (by simp)
  obtain ⟨fr15, H15, x1015, m1015, f37, f38⟩ := s201_15 I30 B31 L32 q1015
  replace f1 := m1015.get f1 (by decide) (by simp)
  replace B26 := B26.mq m1015 (by decide) (by simp)
  replace f27 := m1015.get f27 (by decide) (by simp)
  replace B28 := B28.mq m1015 (by decide) (by simp)
  replace f29 := m1015.get f29 (by decide) (by simp)
  replace I30 := I30.mq m1015 (by decide) (by simp)
  replace B31 := B31.mq m1015 (by decide) (by simp)
  replace L32 := L32.mq m1015 (by decide) (by simp)
  replace B33 := B33.mq m1015 (by decide) (by simp)
  replace f34 := m1015.get f34 (by decide) (by simp)
  replace B35 := B35.mq m1015 (by decide) (by simp)
  replace f36 := m1015.get f36 (by decide) (by simp)
  obtain ⟨fr16, H16, x1016, m1016, f39, f40⟩ := s201_16 I30 B31 L32 q1016
  replace f1 := m1016.get f1 (by decide) (by simp)
  replace B26 := B26.mq m1016 (by decide) (by simp)
  replace f27 := m1016.get f27 (by decide) (by simp)
  replace B28 := B28.mq m1016 (by decide) (by simp)
  replace f29 := m1016.get f29 (by decide) (by simp)
  replace I30 := I30.mq m1016 (by decide) (by simp)
  replace B31 := B31.mq m1016 (by decide) (by simp)
  replace L32 := L32.mq m1016 (by decide) (by simp)
  replace B33 := B33.mq m1016 (by decide) (by simp)
  replace f34 := m1016.get f34 (by decide) (by simp)
  replace B35 := B35.mq m1016 (by decide) (by simp)
  replace f36 := m1016.get f36 (by decide) (by simp)
  replace f37 := m1016.get f37 (by decide) (by simp)
  replace f38 := m1016.get f38 (by decide) (by simp)
  obtain ⟨fr17, H17, a3, b3, c1003, x1017, m1017, I41⟩ := s201_17 (fr := fr16) (H := H16) hC f1
  replace f1 := m1017.get f1 (by decide) (by simp)
  replace B26 := B26.mq m1017 (by decide) (by simp)
  replace f27 := m1017.get f27 (by decide) (by simp)
  replace B28 := B28.mq m1017 (by decide) (by simp)
  replace f29 := m1017.get f29 (by decide) (by simp)
  replace I30 := I30.mq m1017 (by decide) (by simp)
  replace B31 := B31.mq m1017 (by decide) (by simp)
  replace L32 := L32.mq m1017 (by decide) (by simp)
  replace B33 := B33.mq m1017 (by decide) (by simp)
  replace f34 := m1017.get f34 (by decide) (by simp)
  replace B35 := B35.mq m1017 (by decide) (by simp)
  replace f36 := m1017.get f36 (by decide) (by simp)
  replace f37 := m1017.get f37 (by decide) (by simp)
  replace f38 := m1017.get f38 (by decide) (by simp)
  replace f39 := m1017.get f39 (by decide) (by simp)
  replace f40 := m1017.get f40 (by decide) (by simp)
  obtain ⟨L9, LA, q1009, qA, q1018, q1019, q1020, q1021, hL9, hLA, w19a, w19b⟩ := factsC (a3 := a3) (b3 := b3) (c1003 := c1003)
  obtain ⟨fr18, H18, x1018, m1018, B42, f43⟩ := s201_18 I41 rfl q1018
  replace B26 := B26.mq m1018 (by decide) (by simp)
  replace f27 := m1018.get f27 (by decide) (by simp)
  replace B28 := B28.mq m1018 (by decide) (by simp)
  replace f29 := m1018.get f29 (by decide) (by simp)
  replace I30 := I30.mq m1018 (by decide) (by simp)
  replace B31 := B31.mq m1018 (by decide) (by simp)
  replace L32 := L32.mq m1018 (by decide) (by simp)
  replace B33 := B33.mq m1018 (by decide) (by simp)
  replace f34 := m1018.get f34 (by decide) (by simp)
  replace B35 := B35.mq m1018 (by decide) (by simp)
  replace f36 := m1018.get f36 (by decide) (by simp)
  replace f37 := m1018.get f37 (by decide) (by simp)
  replace f38 := m1018.get f38 (by decide) (by simp)
  replace f39 := m1018.get f39 (by decide) (by simp)
  replace f40 := m1018.get f40 (by decide) (by simp)
  replace I41 := I41.mq m1018 (by decide) (by simp)
  obtain ⟨fr19, H19, x1019, m1019, B44, f45⟩ := s201_19 I41 rfl q1019
  replace B26 := B26.mq m1019 (by decide) (by simp)
  replace f27 := m1019.get f27 (by decide) (by simp)
  replace B28 := B28.mq m1019 (by decide) (by simp)
  replace f29 := m1019.get f29 (by decide) (by simp)
  replace I30 := I30.mq m1019 (by decide) (by simp)
  replace B31 := B31.mq m1019 (by decide) (by simp)
  replace L32 := L32.mq m1019 (by decide) (by simp)
  replace B33 := B33.mq m1019 (by decide) (by simp)
  replace f34 := m1019.get f34 (by decide) (by simp)
  replace B35 := B35.mq m1019 (by decide) (by simp)
  replace f36 := m1019.get f36 (by decide) (by simp)
  replace f37 := m1019.get f37 (by decide) (by simp)
  replace f38 := m1019.get f38 (by decide) (by simp)
  replace f39 := m1019.get f39 (by decide) (by simp)
  replace f40 := m1019.get f40 (by decide) (by simp)
  replace I41 := I41.mq m1019 (by decide) (by simp)
  replace B42 := B42.mq m1019 (by decide) (by simp)
  replace f43 := m1019.get f43 (by decide) (by simp)
  obtain ⟨fr20, H20, x1020, m1020, B46, f47⟩ := s201_20 I41 rfl q1020
  replace B26 := B26.mq m1020 (by decide) (by simp)
  replace f27 := m1020.get f27 (by decide) (by simp)
  replace B28 := B28.mq m1020 (by decide) (by simp)
  replace f29 := m1020.get f29 (by decide) (by simp)
  replace I30 := I30.mq m1020 (by decide) (by simp)
  replace B31 := B31.mq m1020 (by decide) (by simp)
  replace L32 := L32.mq m1020 (by decide) (by simp)
  replace B33 := B33.mq m1020 (by decide) (by simp)
  replace f34 := m1020.get f34 (by decide) (by simp)
  replace B35 := B35.mq m1020 (by decide) (by simp)
  replace f36 := m1020.get f36 (by decide) (by simp)
  replace f37 := m1020.get f37 (by decide) (by simp)
  replace f38 := m1020.get f38 (by decide) (by simp)
  replace f39 := m1020.get f39 (by decide) (by simp)
  replace f40 := m1020.get f40 (by decide) (by simp)
  replace I41 := I41.mq m1020 (by decide) (by simp)
  replace B42 := B42.mq m1020 (by decide) (by simp)
  replace f43 := m1020.get f43 (by decide) (by simp)
  replace B44 := B44.mq m1020 (by decide) (by simp)
  replace f45 := m1020.get f45 (by decide) (by simp)
  obtain ⟨fr21, H21, x1021, m1021, B48, f49⟩ := s201_21 I41 rfl q1021
  replace B26 := B26.mq m1021 (by decide) (by simp)
  replace f27 := m1021.get f27 (by decide) (by simp)
  replace B28 := B28.mq m1021 (by decide) (by simp)
  replace f29 := m1021.get f29 (by decide) (by simp)
  replace I30 := I30.mq m1021 (by decide) (by simp)
  replace B31 := B31.mq m1021 (by decide) (by simp)
  replace L32 := L32.mq m1021 (by decide) (by simp)
  replace B33 := B33.mq m1021 (by decide) (by simp)
  replace f34 := m1021.get f34 (by decide) (by simp)
  replace B35 := B35.mq m1021 (by decide) (by simp)
  replace f36 := m1021.get f36 (by decide) (by simp)
  replace f37 := m1021.get f37 (by decide) (by simp)
  replace f38 := m1021.get f38 (by decide) (by simp)
  replace f39 := m1021.get f39 (by decide) (by simp)
  replace f40 := m1021.get f40 (by decide) (by simp)
  replace I41 := I41.mq m1021 (by decide) (by simp)
  replace B42 := B42.mq m1021 (by decide) (by simp)
  replace f43 := m1021.get f43 (by decide) (by simp)
  replace B44 := B44.mq m1021 (by decide) (by simp)
  replace f45 := m1021.get f45 (by decide) (by simp)
  replace B46 := B46.mq m1021 (by decide) (by simp)
  replace f47 := m1021.get f47 (by decide) (by simp)
  obtain ⟨fr22, H22, x41, m41⟩ := s201_22 I41 hL1 hL5 hL9 hLA B26 f27 B28 f29 B33 f34 B35 f36 f37 f38 f39 f40 w66 B42 f43 B44 f45 B46 f47 B48 f49
  replace I30 := I30.mq m41 (by decide) (by simp)
  replace B31 := B31.mq m41 (by decide) (by simp)
  replace L32 := L32.mq m41 (by decide) (by simp)
  replace B33 := B33.mq m41 (by decide) (by simp)
  replace f34 := m41.get f34 (by decide) (by simp)
  replace f37 := m41.get f37 (by decide) (by simp)
  replace f38 := m41.get f38 (by decide) (by simp)
  replace I41 := I41.mq m41 (by decide) (by simp)
  replace B42 := B42.mq m41 (by decide) (by simp)
  replace f43 := m41.get f43 (by decide) (by simp)
  replace B46 := B46.mq m41 (by decide) (by simp)
  obtain ⟨fr23, H23, x1023, m1023⟩ := s201_23 I41 B42 f43 B46 w19a w19b
  replace I30 := I30.mq m1023 (by decide) (by simp)
  replace B31 := B31.mq m1023 (by decide) (by simp)
  replace L32 := L32.mq m1023 (by decide) (by simp)
  replace B33 := B33.mq m1023 (by decide) (by simp)
  replace f34 := m1023.get f34 (by decide) (by simp)
  replace f37 := m1023.get f37 (by decide) (by simp)
  replace f38 := m1023.get f38 (by decide) (by simp)
  obtain ⟨fr24, H24, x50, m50⟩ := s201_24 I30 B31 L32 hL5 B33 f34 w1020
  replace I30 := I30.mq m50 (by decide) (by simp)
  replace B31 := B31.mq m50 (by decide) (by simp)
  replace L32 := L32.mq m50 (by decide) (by simp)
  replace f37 := m50.get f37 (by decide) (by simp)
  replace f38 := m50.get f38 (by decide) (by simp)
  obtain ⟨fr25, H25, x12, m12⟩ := s201_25 I30 B31 L32 f37 f38 w1021
  refine ⟨fr25.put 4 (.t (tb true)), H25, ?_, by simp [Fr.get_put]⟩
  refine step_201 rfl x1009 ?_
  refine step_201 rfl x1010 ?_
  refine step_201 rfl x1011 ?_
  refine step_201 rfl x1012 ?_
  refine step_201 rfl x1013 ?_
  refine step_201 rfl x1014 ?_
  refine step_201 rfl x1015 ?_
  refine step_201 rfl x1016 ?_
  refine step_201 rfl x1017 ?_
  refine step_201 rfl x1018 ?_
  refine step_201 rfl x1019 ?_
  refine step_201 rfl x1020 ?_
  refine step_201 rfl x1021 ?_
  refine step_201 rfl x41 ?_
  refine step_201 rfl x1023 ?_
  refine step_201 rfl x50 ?_
  refine step_201 rfl x12 ?_
  simp [rst, ir4_c]
end Go.Proofs.Ytdgfpjlmpnfcgaa.Ev

namespace Go.Proofs.Ytdgfpjlmpnfcgaa.Ev
open Go
set_option linter.unusedVariables false
set_option linter.unusedSimpArgs false
set_option linter.unusedSectionVars false
attribute [local simp] til_getE til_length til_get til_drop til_take til_snoc til_fold take_snoc til_set tlv_getE tlv_length tlv_take
set_option maxHeartbeats 4000000 in
set_option maxRecDepth 20000 in
theorem w201T (a : Nat) (b c : Int) (hgd : good a b c = true) (l : List Int) (hl : l.length = 2 * a) (p : Int) (hok : okP a c (l, p)) (hcm : calmS a c l = true) (hask : askB a b c l p = true) (L : List (Int × List Int)) (hLn : L.length ≤ 2 ^ 30) (hL : L = voysAll a b c (l, p)) (M : T) :
    ∀ (d i : Nat), i + d = L.length →
    loopF env true [1, 5, 6, 7, 153, 154, 155] ir4_b0 ([(1, .t M), (5, .ptr 0 0 0), (6, .ptr 1 0 0), (7, .ref 2 0 L.length), (153, .ref 2 0 L.length), (154, .t (ti L.length)), (155, .t (ti i))], [.box 3 [.t (ti a), .t (ti b), .t (ti c)], .box 2 [.t (tl l), .t (ti p)], .pure 2 (tlv L)]) =
      some (.exit 0, [(1, .t M), (5, .ptr 0 0 0), (6, .ptr 1 0 0), (7, .ref 2 0 L.length), (153, .ref 2 0 L.length), (154, .t (ti L.length)), (155, .t (ti L.length)), (156, .t (tb false))], [.box 3 [.t (ti a), .t (ti b), .t (ti c)], .box 2 [.t (tl l), .t (ti p)], .pure 2 (tlv L)])
  | 0, i, hi => by
    have : i = L.length := by omega
    subst this
    rw [x4_0]
    simp [ir4_d0]
  | d + 1, i, hi => by
    rw [x4_0]
    have hgo := good_of hgd
    have hlt : i < L.length := by omega
    have hw : IntKind.i64.wrap ((i : Int) + 1) = (i : Int) + 1 := w76 (by omega)
    have hw2 : IntKind.i64.wrap ((i : Int) - 1) = (i : Int) - 1 := w76 (by omega)
    have hmem : L[i] ∈ voysAll a b c (l, p) := hL ▸ List.getElem_mem hlt
    have hcan := voys_can hmem
    simp only at hcan
    have hpr : ∀ (h0 : 0 < i), befV (L[i - 1]'(by omega)) L[i] := fun h0 => by
      have := voys_pair a b c (l, p)
      rw [← hL, List.pairwise_iff_getElem] at this
      exact this (i - 1) i (by omega) hlt (by omega)
    obtain ⟨b1, b2, b3, b4⟩ := can_back hgd hok hcm hcan
    have hsl := setAll_length L[i].1 L[i].2 l
    have htk : (setAll L[i].1 L[i].2 l).take l.length = setAll L[i].1 L[i].2 l := List.take_of_length_le (by omega)
    have hA := r14 a b c _ l (LN.of l) p L[i].1 _ L[i].2 (LN.of L[i].2)
    have hB := r7 a b c _ _ (LN.of (setAll L[i].1 L[i].2 l)) L[i].1
    have hC := r14 a b c _ _ (LN.of (setAll L[i].1 L[i].2 l)) L[i].1 p _ L[i].2 (LN.of L[i].2)
    have hD := r15 _ _ l l (LN.of l) (LN.of l) (by omega) p p
    have hib : L[i].2.length ≤ 1000000 := by have := (can_in (by omega) hcan).2.1; omega
    have ih := w201T a b c hgd l hl p hok hcm hask L hLn hL M d (i + 1) (by omega)
    rw [b4, hsl, b1, Int.toNat_natCast, b3] at hC
    rw [hask, Int.toNat_natCast, hcan] at hA
    rw [b1, b2] at hB
    simp [sailR] at hA hB hC hD
    by_cases hi0 : 0 < i
    · have hprv := hpr hi0
      have hmem2 : L[i - 1]'(by omega) ∈ voysAll a b c (l, p) := hL ▸ List.getElem_mem (by omega)
      have hcan2 := voys_can hmem2
      have hib2 : (L[i - 1]'(by omega)).2.length ≤ 1000000 := by have := (can_in (by omega) hcan2).2.1; omega
      have hE := r16 (L[i - 1]'(by omega)).2 L[i].2 hib2
      have hi1 : i - 1 < L.length := by omega
      have hci : (i : Int) - 1 = ((i - 1 : Nat) : Int) := by omega
      rw [hci] at hw2
      simp at ih
      rcases hprv with hp1 | ⟨hp1, hp2⟩
      · have hn1 : ¬ (L[i].1 < L[i - 1].1) := by omega
        have hn2 : ¬ (L[i - 1].1 = L[i].1) := by omega
        simp [ir4_d0, hlt, hA, hB, hC, hD, til_flat, hsl, htk, hlt, hw, hi0, hci, hw2, hi1, hn1, hn2, ih]
      · have hn1 : ¬ (L[i].1 < L[i - 1].1) := by omega
        rw [hp2] at hE
        simp [ir4_d0, hlt, hA, hB, hC, hD, til_flat, hsl, htk, hlt, hw, hi0, hci, hw2, hi1, hn1, hp1, hE, ih]
    · have hi0' : i = 0 := by omega
      subst hi0'
      rw [show ((0 : Nat) : Int) + 1 = 1 from rfl] at hw
      simp at ih
      simp [ir4_d0, hlt, hA, hB, hC, hD, til_flat, hsl, htk, hlt, hw, ih]
end Go.Proofs.Ytdgfpjlmpnfcgaa.Ev

namespace Go.Proofs.Ytdgfpjlmpnfcgaa.Ev
open Go
set_option linter.unusedVariables false
set_option linter.unusedSimpArgs false
set_option linter.unusedSectionVars false
attribute [local simp] til_getE til_length til_get til_snoc take_snoc til_take tlv_getE tlv_length tlv_take til_set
variable {C : T} {bs : List Int}
theorem r236c (hC : BL C bs) : ∃ a b c l p v H, ownFR env 52 [C] = some (.tup [.agg [.t (ti a), .t (ti b), .t (ti c)], .agg [v, .t (ti p)]], H) ∧ (v = .t (tl l) ∧ H = [] ∨ v = .ref 0 0 l.length ∧ H = [.pure 1 (til l)]) ∧ l.length ≤ 1000 := by
  obtain ⟨a, b, c, l, p, v, X', E, e, _, hv, hl⟩ := r77 hC [z3, z2] [] (by omega) (cur0 C)
  have h1 := hC.cells
  rw [ownF_ir e52 _ rfl]
  simp [z3, z2] at e
  rcases hv with rfl | ⟨k, rfl, hk⟩
  · simp [ir52, ir52_c, e, h1]
    exact ⟨_, _, _, l, _, _, _, ⟨⟨⟨rfl, rfl, rfl⟩, rfl, rfl⟩, rfl⟩, .inl ⟨rfl, rfl⟩, hl⟩
  · have g : ∀ x y z : Blk, (x :: y :: z :: E)[2 + (k + 1)]? = some (.pure 1 (til l)) := fun x y z => by rw [show 2 + (k + 1) = k + 3 by omega]; simpa using hk
    simp at e
    simp [ir52, ir52_c, e, h1, hk, g]
    exact ⟨_, _, _, l, _, _, _, ⟨⟨⟨rfl, rfl, rfl⟩, rfl, rfl⟩, rfl⟩, .inr ⟨rfl, rfl⟩, hl⟩
theorem r223c (hC : BL C bs) : ∃ a b c l p v H, ownFR env 27 [C] = some (.tup [.agg [.t (ti a), .t (ti b), .t (ti c)], .agg [v, .t (ti p)]], H) ∧ (v = .t (tl l) ∧ H = [] ∨ v = .ref 0 0 l.length ∧ H = [.pure 1 (til l)]) ∧ l.length ≤ 1000 := by
  obtain ⟨a, b, c, l, p, v, H, e, hv, hl⟩ := r236c hC
  rw [ownF_ir e27 _ rfl]
  rcases hv with ⟨rfl, rfl⟩ | ⟨rfl, rfl⟩
  · simp [ir27, ir27_c, e]
    exact ⟨_, _, _, l, _, _, _, ⟨⟨⟨rfl, rfl, rfl⟩, rfl, rfl⟩, rfl⟩, .inl ⟨rfl, rfl⟩, hl⟩
  · simp [ir27, ir27_c, e]
    exact ⟨_, _, _, l, _, _, _, ⟨⟨⟨rfl, rfl, rfl⟩, rfl, rfl⟩, rfl⟩, .inr ⟨rfl, rfl⟩, hl⟩
theorem r26 {C1 C2 : T} {n1 n2 : Nat} (h1 : ∀ H, evLen H 1 (.t C1) = some (n1 : Int)) (h2 : ∀ H, evLen H 1 (.t C2) = some (n2 : Int)) :
    ownR env 26 [C1, C2] = some (.t (tb (decide (1048576 < n1 + n2))), []) := by
  rw [own_ir e26 _ rfl]
  by_cases h : (1048576 : Int) < n1
  · have : 1048576 < n1 + n2 := by omega
    simp [ir26, ir26_c, h1, h, this]
  · have hw : IntKind.i64.wrap (1048576 - (n1 : Int)) = 1048576 - n1 := w76 (by omega)
    by_cases h3 : (1048576 : Int) - n1 < n2
    · have : 1048576 < n1 + n2 := by omega
      simp [ir26, ir26_c, h1, h2, h, hw, h3, this]
    · have : ¬ 1048576 < n1 + n2 := by omega
      simp [ir26, ir26_c, h1, h2, h, hw, h3, this]
end Go.Proofs.Ytdgfpjlmpnfcgaa.Ev

namespace Go.Proofs.Ytdgfpjlmpnfcgaa.Ev
open Go
set_option linter.unusedVariables false
set_option linter.unusedSimpArgs false
set_option linter.unusedSectionVars false
attribute [local simp] til_getE til_length til_get til_drop til_take til_snoc til_fold take_snoc til_set tlv_getE tlv_length tlv_take
set_option maxHeartbeats 4000000 in
set_option maxRecDepth 20000 in
theorem w201R (a : Nat) (b c : Int) (hgd : good a b c = true) (l : List Int) (hl : l.length = 2 * a) (p : Int) (hok : okP a c (l, p)) (hcm : calmS a c l = true) (hask : askB a b c l p = true) (L : List (Int × List Int)) (hLn : L.length ≤ 2 ^ 30) (hL : L = voysAll a b c (l, p)) (M : T) :
    ∀ (d i : Nat), i + d = L.length →
    loopF env true [1, 5, 6, 7, 153, 154, 155] ir4_b0 ([(1, .t M), (5, .ptr 0 0 0), (6, .ptr 1 0 0), (7, .ref 2 0 L.length), (153, .ref 2 0 L.length), (154, .t (ti L.length)), (155, .t (ti i))], [.box 3 [.t (ti a), .t (ti b), .t (ti c)], .box 2 [.ref 3 0 l.length, .t (ti p)], .pure 2 (tlv L), .froz 1 (til l)]) =
      some (.exit 0, [(1, .t M), (5, .ptr 0 0 0), (6, .ptr 1 0 0), (7, .ref 2 0 L.length), (153, .ref 2 0 L.length), (154, .t (ti L.length)), (155, .t (ti L.length)), (156, .t (tb false))], [.box 3 [.t (ti a), .t (ti b), .t (ti c)], .box 2 [.ref 3 0 l.length, .t (ti p)], .pure 2 (tlv L), .froz 1 (til l)])
  | 0, i, hi => by
    have : i = L.length := by omega
    subst this
    rw [x4_0]
    simp [ir4_d0]
  | d + 1, i, hi => by
    rw [x4_0]
    have hgo := good_of hgd
    have hlt : i < L.length := by omega
    have hw : IntKind.i64.wrap ((i : Int) + 1) = (i : Int) + 1 := w76 (by omega)
    have hw2 : IntKind.i64.wrap ((i : Int) - 1) = (i : Int) - 1 := w76 (by omega)
    have hmem : L[i] ∈ voysAll a b c (l, p) := hL ▸ List.getElem_mem hlt
    have hcan := voys_can hmem
    simp only at hcan
    have hpr : ∀ (h0 : 0 < i), befV (L[i - 1]'(by omega)) L[i] := fun h0 => by
      have := voys_pair a b c (l, p)
      rw [← hL, List.pairwise_iff_getElem] at this
      exact this (i - 1) i (by omega) hlt (by omega)
    obtain ⟨b1, b2, b3, b4⟩ := can_back hgd hok hcm hcan
    have hsl := setAll_length L[i].1 L[i].2 l
    have htk : (setAll L[i].1 L[i].2 l).take l.length = setAll L[i].1 L[i].2 l := List.take_of_length_le (by omega)
    have hA := r14 a b c _ l (LN.of l) p L[i].1 _ L[i].2 (LN.of L[i].2)
    have hB := r7 a b c _ _ (LN.of (setAll L[i].1 L[i].2 l)) L[i].1
    have hC := r14 a b c _ _ (LN.of (setAll L[i].1 L[i].2 l)) L[i].1 p _ L[i].2 (LN.of L[i].2)
    have hD := r15 _ _ l l (LN.of l) (LN.of l) (by omega) p p
    have hib : L[i].2.length ≤ 1000000 := by have := (can_in (by omega) hcan).2.1; omega
    have ih := w201R a b c hgd l hl p hok hcm hask L hLn hL M d (i + 1) (by omega)
    rw [b4, hsl, b1, Int.toNat_natCast, b3] at hC
    rw [hask, Int.toNat_natCast, hcan] at hA
    rw [b1, b2] at hB
    simp [sailR] at hA hB hC hD
    by_cases hi0 : 0 < i
    · have hprv := hpr hi0
      have hmem2 : L[i - 1]'(by omega) ∈ voysAll a b c (l, p) := hL ▸ List.getElem_mem (by omega)
      have hcan2 := voys_can hmem2
      have hib2 : (L[i - 1]'(by omega)).2.length ≤ 1000000 := by have := (can_in (by omega) hcan2).2.1; omega
      have hE := r16 (L[i - 1]'(by omega)).2 L[i].2 hib2
      have hi1 : i - 1 < L.length := by omega
      have hci : (i : Int) - 1 = ((i - 1 : Nat) : Int) := by omega
      rw [hci] at hw2
      simp at ih
      rcases hprv with hp1 | ⟨hp1, hp2⟩
      · have hn1 : ¬ (L[i].1 < L[i - 1].1) := by omega
        have hn2 : ¬ (L[i - 1].1 = L[i].1) := by omega
        simp [ir4_d0, hlt, hA, hB, hC, hD, til_flat, hsl, htk, hlt, hw, hi0, hci, hw2, hi1, hn1, hn2, ih]
      · have hn1 : ¬ (L[i].1 < L[i - 1].1) := by omega
        rw [hp2] at hE
        simp [ir4_d0, hlt, hA, hB, hC, hD, til_flat, hsl, htk, hlt, hw, hi0, hci, hw2, hi1, hn1, hp1, hE, ih]
    · have hi0' : i = 0 := by omega
      subst hi0'
      rw [show ((0 : Nat) : Int) + 1 = 1 from rfl] at hw
      simp at ih
      simp [ir4_d0, hlt, hA, hB, hC, hD, til_flat, hsl, htk, hlt, hw, ih]
end Go.Proofs.Ytdgfpjlmpnfcgaa.Ev

namespace Go.Proofs.Ytdgfpjlmpnfcgaa.Ev
open Go
set_option linter.unusedVariables false
set_option linter.unusedSimpArgs false
set_option linter.unusedSectionVars false
attribute [local simp] til_getE til_length til_get til_drop til_take til_snoc til_fold take_snoc til_set tlv_getE tlv_length tlv_take
variable {C1 C2 : T} {bs1 bs2 : List Int}
set_option maxHeartbeats 4000000 in
set_option maxRecDepth 20000 in
theorem r201T (hC1 : BL C1 bs1) (hC2 : BL C2 bs2) (hb : bs1.length + bs2.length ≤ 1048576) {a b c p : Int} {l : List Int} (q27 : ownFR env 27 [C1] = some (.tup [.agg [.t (ti a), .t (ti b), .t (ti c)], .agg [.t (tl l), .t (ti p)]], [])) (hll : l.length ≤ 1000) :
    ownR env 4 [C1, C2] = some (.t (tb true), []) := by
  have hT : ∀ (fr : Fr) (H : Heap), fr.get 1 = .t C2 → ∃ fr' H', execD env (rst 9 ir4_c) (fr, H) = some (.ret, fr', H') ∧ fr'.get 4 = .t (tb true) := fun fr H h => tail201 hC2 h
  rw [own_ir e4 _ rfl]
  have e : ir4.body = .seq (nth 0 ir4_c) (.seq (nth 1 ir4_c) (.seq (nth 2 ir4_c) (.seq (nth 3 ir4_c) (.seq (nth 4 ir4_c) (.seq (nth 5 ir4_c) (.seq (nth 6 ir4_c) (.seq (nth 7 ir4_c) (.seq (nth 8 ir4_c) (rst 9 ir4_c))))))))) := rfl
  rw [e]
  generalize rst 9 ir4_c = TL at *
  have q26 := r26 hC1.len hC2.len
  have hbn : ¬ 1048576 < bs1.length + bs2.length := by omega
  simp only [hbn, decide_false] at q26
  have hX : LN (tl l) l := .inr rfl
  have q1004 := r7 a b c _ l hX p
  have q1005 := r8 a b c _ l hX p
  have q1007 := r10 a b c _ l hX p
  have q1008 := r11 a b c _ l hX p
  have q1002 := r5 a b c _ l hX p
  obtain ⟨Y, hY, q1003⟩ := r6 a b c _ l hX p
  have hfin : ∀ (fr : Fr) (H : Heap), fr.get 1 = .t C2 → andO (endO ir4.res (execD env TL (fr, H))) ownEnd = some (.t (tb true), []) := fun fr H hS => by
    obtain ⟨fr', H', h1, h2⟩ := hT fr H hS
    simp [ir4, h1, h2]
  cases hask : askB a b c l p with
  | false =>
    rw [hask] at q1002 q1003 q1004 q1005 hY
    simp only [Bool.false_eq_true, if_false] at q1002 q1003 hY
    have q1006 := r9 .nil Y [] [] (.inl ⟨rfl, rfl⟩) hY (by simp) (by simp)
    simp at q1006
    cases hpl : plB a b c l p with
    | false =>
      rw [hpl] at q1004 q1005 q1007 q1008
      rcases q1003 with ⟨q1003, rfl⟩ | ⟨q1003, rfl⟩
      · simp [nth, rst, ir4, ir4_c, q26, q27, q1002, q1003, q1004, q1005, q1006, q1007, q1008, hpl]
        exact hfin _ _ (by simp)
      · simp [nth, rst, ir4, ir4_c, q26, q27, q1002, q1003, q1004, q1005, q1006, q1007, q1008, hpl]
        exact hfin _ _ (by simp)
    | true =>
      have hgd : good a b c = true := by unfold plB at hpl; rw [Bool.and_eq_true] at hpl; exact hpl.1
      rw [hpl] at q1004 q1005 q1007 q1008
      rcases q1003 with ⟨q1003, rfl⟩ | ⟨q1003, rfl⟩
      · simp [nth, rst, ir4, ir4_c, q26, q27, q1002, q1003, q1004, q1005, q1006, q1007, q1008, hgd]
        exact hfin _ _ (by simp)
      · simp [nth, rst, ir4, ir4_c, q26, q27, q1002, q1003, q1004, q1005, q1006, q1007, q1008, hgd]
        exact hfin _ _ (by simp)
  | true =>
    obtain ⟨k, rfl, hgd, hl2, hok, hcm⟩ := askB_parts hask
    have hgo := good_of hgd
    have hpl : plB k b c l p = true := by unfold askB at hask; rw [Bool.and_eq_true] at hask; exact hask.1
    have hvl := voysAll_len hgd hok
    have hvc : ∀ v ∈ voysAll k b c (l, p), v.2.length ≤ 2 ^ 40 := fun v hv => by have := (can_in (by omega) (voys_can hv)).2.1; omega
    have hw := w201T k b c hgd l hl2 p hok hcm hask (voysAll k b c (l, p)) (by omega) rfl C2 (voysAll k b c (l, p)).length 0 (by omega)
    rw [hask] at q1002 q1003 q1004 q1005 hY
    rw [hpl] at q1004 q1005 q1007 q1008
    simp only [if_true, Int.toNat_natCast] at q1002 q1003 hY
    have q1006 := r9 (.lst 2 (tlv (voysAll k b c (l, p)))) Y _ _ (.inr rfl) hY (by omega) hvc
    generalize voysAll k b c (l, p) = L at *
    simp at q1006 hw
    rcases q1003 with ⟨q1003, rfl⟩ | ⟨q1003, rfl⟩
    · simp [nth, rst, ir4, ir4_c, q26, q27, q1002, q1003, q1004, q1005, q1006, q1007, q1008, hgd, hw]
      exact hfin _ _ (by simp)
    · simp [nth, rst, ir4, ir4_c, q26, q27, q1002, q1003, q1004, q1005, q1006, q1007, q1008, hgd, hw]
      exact hfin _ _ (by simp)
end Go.Proofs.Ytdgfpjlmpnfcgaa.Ev

namespace Go.Proofs.Ytdgfpjlmpnfcgaa.Ev
open Go
set_option linter.unusedVariables false
set_option linter.unusedSimpArgs false
set_option linter.unusedSectionVars false
attribute [local simp] til_getE til_length til_get til_drop til_take til_snoc til_fold take_snoc til_set tlv_getE tlv_length tlv_take
variable {C1 C2 : T} {bs1 bs2 : List Int}
set_option maxHeartbeats 4000000 in
set_option maxRecDepth 20000 in
theorem r201R (hC1 : BL C1 bs1) (hC2 : BL C2 bs2) (hb : bs1.length + bs2.length ≤ 1048576) {a b c p : Int} {l : List Int} (q27 : ownFR env 27 [C1] = some (.tup [.agg [.t (ti a), .t (ti b), .t (ti c)], .agg [.ref 0 0 l.length, .t (ti p)]], [.pure 1 (til l)])) (hll : l.length ≤ 1000) :
    ownR env 4 [C1, C2] = some (.t (tb true), []) := by
  have hT : ∀ (fr : Fr) (H : Heap), fr.get 1 = .t C2 → ∃ fr' H', execD env (rst 9 ir4_c) (fr, H) = some (.ret, fr', H') ∧ fr'.get 4 = .t (tb true) := fun fr H h => tail201 hC2 h
  rw [own_ir e4 _ rfl]
  have e : ir4.body = .seq (nth 0 ir4_c) (.seq (nth 1 ir4_c) (.seq (nth 2 ir4_c) (.seq (nth 3 ir4_c) (.seq (nth 4 ir4_c) (.seq (nth 5 ir4_c) (.seq (nth 6 ir4_c) (.seq (nth 7 ir4_c) (.seq (nth 8 ir4_c) (rst 9 ir4_c))))))))) := rfl
  rw [e]
  generalize rst 9 ir4_c = TL at *
  have q26 := r26 hC1.len hC2.len
  have hbn : ¬ 1048576 < bs1.length + bs2.length := by omega
  simp only [hbn, decide_false] at q26
  have hX : LN (tl l) l := .inr rfl
  have q1004 := r7 a b c _ l hX p
  have q1005 := r8 a b c _ l hX p
  have q1007 := r10 a b c _ l hX p
  have q1008 := r11 a b c _ l hX p
  have q1002 := r5 a b c _ l hX p
  obtain ⟨Y, hY, q1003⟩ := r6 a b c _ l hX p
  have hfin : ∀ (fr : Fr) (H : Heap), fr.get 1 = .t C2 → andO (endO ir4.res (execD env TL (fr, H))) ownEnd = some (.t (tb true), []) := fun fr H hS => by
    obtain ⟨fr', H', h1, h2⟩ := hT fr H hS
    simp [ir4, h1, h2]
  cases hask : askB a b c l p with
  | false =>
    rw [hask] at q1002 q1003 q1004 q1005 hY
    simp only [Bool.false_eq_true, if_false] at q1002 q1003 hY
    have q1006 := r9 .nil Y [] [] (.inl ⟨rfl, rfl⟩) hY (by simp) (by simp)
    simp at q1006
    cases hpl : plB a b c l p with
    | false =>
      rw [hpl] at q1004 q1005 q1007 q1008
      rcases q1003 with ⟨q1003, rfl⟩ | ⟨q1003, rfl⟩
      · simp [nth, rst, ir4, ir4_c, q26, q27, q1002, q1003, q1004, q1005, q1006, q1007, q1008, hpl]
        exact hfin _ _ (by simp)
      · simp [nth, rst, ir4, ir4_c, q26, q27, q1002, q1003, q1004, q1005, q1006, q1007, q1008, hpl]
        exact hfin _ _ (by simp)
    | true =>
      have hgd : good a b c = true := by unfold plB at hpl; rw [Bool.and_eq_true] at hpl; exact hpl.1
      rw [hpl] at q1004 q1005 q1007 q1008
      rcases q1003 with ⟨q1003, rfl⟩ | ⟨q1003, rfl⟩
      · simp [nth, rst, ir4, ir4_c, q26, q27, q1002, q1003, q1004, q1005, q1006, q1007, q1008, hgd]
        exact hfin _ _ (by simp)
      · simp [nth, rst, ir4, ir4_c, q26, q27, q1002, q1003, q1004, q1005, q1006, q1007, q1008, hgd]
        exact hfin _ _ (by simp)
  | true =>
    obtain ⟨k, rfl, hgd, hl2, hok, hcm⟩ := askB_parts hask
    have hgo := good_of hgd
    have hpl : plB k b c l p = true := by unfold askB at hask; rw [Bool.and_eq_true] at hask; exact hask.1
    have hvl := voysAll_len hgd hok
    have hvc : ∀ v ∈ voysAll k b c (l, p), v.2.length ≤ 2 ^ 40 := fun v hv => by have := (can_in (by omega) (voys_can hv)).2.1; omega
    have hw := w201R k b c hgd l hl2 p hok hcm hask (voysAll k b c (l, p)) (by omega) rfl C2 (voysAll k b c (l, p)).length 0 (by omega)
    rw [hask] at q1002 q1003 q1004 q1005 hY
    rw [hpl] at q1004 q1005 q1007 q1008
    simp only [if_true, Int.toNat_natCast] at q1002 q1003 hY
    have q1006 := r9 (.lst 2 (tlv (voysAll k b c (l, p)))) Y _ _ (.inr rfl) hY (by omega) hvc
    generalize voysAll k b c (l, p) = L at *
    simp at q1006 hw
    rcases q1003 with ⟨q1003, rfl⟩ | ⟨q1003, rfl⟩
    · simp [nth, rst, ir4, ir4_c, q26, q27, q1002, q1003, q1004, q1005, q1006, q1007, q1008, hgd, hw]
      exact hfin _ _ (by simp)
    · simp [nth, rst, ir4, ir4_c, q26, q27, q1002, q1003, q1004, q1005, q1006, q1007, q1008, hgd, hw]
      exact hfin _ _ (by simp)
end Go.Proofs.Ytdgfpjlmpnfcgaa.Ev

namespace Go.Proofs.Ytdgfpjlmpnfcgaa.Ev
open Go
set_option linter.unusedVariables false
set_option linter.unusedSimpArgs false
def wfB (ts : List T) : Prop := ∃ n, ts = [.int .u8 n] ∧ (Lit.int .u8 n).wf = true
def wfBs (ts : List T) : Prop := ts = [.nil] ∨ ∃ els : List (List T), ts = [.lst 1 (els.map fun x => x.headD .nil)] ∧ ∀ x ∈ els, wfB x
theorem bytes_of : ∀ (els : List (List T)), (∀ x ∈ els, wfB x) → ∃ bs : List Int, (els.map fun x => x.headD .nil) = bs.map (T.int .u8) ∧ ∀ b ∈ bs, 0 ≤ b ∧ b < 256
  | [], _ => ⟨[], rfl, by simp⟩
  | x :: els, h => by
    obtain ⟨n, rfl, hn⟩ := h x (List.mem_cons_self ..)
    obtain ⟨bs, h1, h2⟩ := bytes_of els fun x hx => h x (List.mem_cons_of_mem _ hx)
    refine ⟨n :: bs, by rw [List.map_cons, h1]; rfl, fun b hb => ?_⟩
    rcases List.mem_cons.1 hb with rfl | hb
    · simp only [Lit.wf, Bool.and_eq_true, decide_eq_true_eq] at hn
      have e1001 : IntKind.u8.min = 0 := by decide
      have e1002 : IntKind.u8.max = 255 := by decide
      omega
    · exact h2 b hb
theorem bl_of {ts : List T} (h : wfBs ts) : ∃ C bs, ts = [C] ∧ (∀ H, evLen H 1 (.t C) = some (bs.length : Int)) ∧ (bs.length ≤ 2 ^ 30 → BL C bs) := by
  rcases h with rfl | ⟨els, rfl, h⟩
  · exact ⟨.nil, [], rfl, fun H => rfl, fun _ => ⟨fun H => rfl, fun H i h => by simp at h, by simp, by simp⟩⟩
  · obtain ⟨bs, h1, h2⟩ := bytes_of els h
    rw [h1]
    exact ⟨_, bs, rfl, fun H => by simp, fun hs => ⟨fun H => by simp, fun H i h => by simp [h], h2, hs⟩⟩
theorem big_true {C1 C2 : T} {n1 n2 : Nat} (h1 : ∀ H, evLen H 1 (.t C1) = some (n1 : Int)) (h2 : ∀ H, evLen H 1 (.t C2) = some (n2 : Int)) (hb : 1048576 < n1 + n2) : ownR env 4 [C1, C2] = some (.t (tb true), []) := by
  have q26 := r26 h1 h2
  simp only [hb, decide_true] at q26
  rw [own_ir e4 _ rfl]
  have e : ir4.body = .seq (nth 0 ir4_c) (.seq (nth 1 ir4_c) (rst 2 ir4_c)) := rfl
  rw [e]
  generalize rst 2 ir4_c = TL
  simp [nth, rst, ir4, ir4_c, q26]
theorem r4_top {t1000 t1001 : List T} (h0 : wfBs t1000) (h1 : wfBs t1001) : ∃ C1 C2, t1000 = [C1] ∧ t1001 = [C2] ∧ ownR env 4 [C1, C2] = some (.t (tb true), []) := by
  obtain ⟨C1, bs1, rfl, l1001, k1001⟩ := bl_of h0
  obtain ⟨C2, bs2, rfl, l1002, k1002⟩ := bl_of h1
  refine ⟨C1, C2, rfl, rfl, ?_⟩
  by_cases hb : 1048576 < bs1.length + bs2.length
  · exact big_true l1001 l1002 hb
  · have hC1 := k1001 (by omega)
    have hC2 := k1002 (by omega)
    obtain ⟨a, b, c, l, p, v, H2, q, hv, hl⟩ := r223c hC1
    rcases hv with ⟨rfl, rfl⟩ | ⟨rfl, rfl⟩
    · exact r201T hC1 hC2 (by omega) q hl
    · exact r201R hC1 hC2 (by omega) q hl
end Go.Proofs.Ytdgfpjlmpnfcgaa.Ev

