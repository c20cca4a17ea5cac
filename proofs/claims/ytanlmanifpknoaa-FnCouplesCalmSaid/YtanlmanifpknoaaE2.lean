/- The evaluator and what it gives of the functions, part 2. No conditions of ours: a law's row is in YtanlmanifpknoaaLFnCouplesCalm. -/
import Derived.Test.YtanlmanifpknoaaE1
import Derived.Below
import Derived.DataReads
import Derived.Deep.Slices
import Derived.Orders
import Derived.ProofKit
namespace Go.Proofs.Ytanlmanifpknoaa.Ev
open Go Go.RowKit
set_option linter.unusedVariables false
set_option linter.unusedSimpArgs false


theorem testBit_or_pow (s k i : Nat) : (s ||| 2 ^ k).testBit i = (s.testBit i || decide (k = i)) := by
  rw [Nat.testBit_or, Nat.testBit_two_pow]

theorem before_fold (acc : Array Nat) (i : Nat) : ∀ (es : List Edge) (s : Nat), (es.foldl (fun s e => if Region.binds .any e then s ||| 2 ^ e.on ||| acc.getD e.on 0 else s) s).testBit i = true →
    s.testBit i = true ∨ ∃ e ∈ es, Region.binds .any e = true ∧ (e.on = i ∨ (acc.getD e.on 0).testBit i = true)
  | [], s, h => .inl h
  | e :: es, s, h => by
    rw [List.foldl_cons] at h
    rcases before_fold acc i es _ h with h | ⟨e', he', hb, hh⟩
    · split at h
      · rename_i hb
        rw [Nat.testBit_or, testBit_or_pow] at h
        simp only [Bool.or_eq_true, decide_eq_true_eq] at h
        rcases h with (h | h) | h
        · exact .inl h
        · exact .inr ⟨e, List.mem_cons_self .., hb, .inl h⟩
        · exact .inr ⟨e, List.mem_cons_self .., hb, .inr h⟩
      · exact .inl h
    · exact .inr ⟨e', List.mem_cons_of_mem _ he', hb, hh⟩

def bstep (acc : Array Nat) (o : Oper) : Array Nat := acc.push (o.after.foldl (fun s e => if Region.binds .any e then s ||| 2 ^ e.on ||| acc.getD e.on 0 else s) 0)

theorem before_eq (ops : Array Oper) : Region.before ops = ops.toList.foldl bstep #[] := by
  unfold Region.before
  rw [← Array.foldl_toList]
  rfl

theorem bfold_size : ∀ (l : List Oper) (acc : Array Nat), (l.foldl bstep acc).size = acc.size + l.length
  | [], acc => rfl
  | o :: l, acc => by rw [List.foldl_cons, bfold_size l]; simp [bstep]; omega

theorem bfold_old : ∀ (l : List Oper) (acc : Array Nat) (i : Nat), i < acc.size → (l.foldl bstep acc).getD i 0 = acc.getD i 0
  | [], acc, i, _ => rfl
  | o :: l, acc, i, h => by
    rw [List.foldl_cons, bfold_old l _ i (by simp [bstep]; omega)]
    simp only [bstep, Array.getD_eq_getD_getElem?]
    rw [Array.getElem?_push, if_neg (by omega)]
theorem bfold_closed (ops : List Oper) (S : Nat → Prop) (hS : ∀ (j : Nat) o, ops[j]? = some o → S j → ∀ e ∈ o.after, Region.binds .any e = true → S e.on) :
    ∀ (l : List Oper) (acc : Array Nat) (k : Nat), k = acc.size → (∀ (j : Nat) o, l[j]? = some o → ops[k + j]? = some o) → (∀ (j i : Nat), j < acc.size → (acc.getD j 0).testBit i = true → S j → S i) →
      ∀ (j i : Nat), ((l.foldl bstep acc).getD j 0).testBit i = true → S j → S i
  | [], acc, k, _, _, hacc, j, i, hb, hj => by
    rcases Nat.lt_or_ge j acc.size with h | h
    · exact hacc j i h hb hj
    · rw [List.foldl_nil, Array.getD_eq_getD_getElem?, Array.getElem?_eq_none h] at hb
      simp at hb
  | o :: l, acc, k, hk, hl, hacc, j, i, hb, hj => by
    rw [List.foldl_cons] at hb
    refine bfold_closed ops S hS l (bstep acc o) (k + 1) (by simp [bstep]; omega) (fun j o' h => by have := hl (j + 1) o' (by simpa using h); rwa [show k + 1 + j = k + (j + 1) by omega]) (fun j i hlt hbit hSj => ?_) j i hb hj
    simp only [bstep, Array.size_push] at hlt
    rw [Array.getD_eq_getD_getElem?] at hbit
    simp only [bstep, Array.getElem?_push] at hbit
    split at hbit
    · rename_i hje
      simp only [Option.getD_some] at hbit
      rw [← Array.foldl_toList] at hbit
      rcases before_fold acc i o.after.toList 0 hbit with h | ⟨e, he, hbd, hh⟩
      · simp at h
      · have hon : S e.on := hS j o (by have := hl 0 o rfl; rw [hje, ← hk]; simpa using this) hSj e (by simpa using he) hbd
        rcases hh with rfl | hh
        · exact hon
        · rcases Nat.lt_or_ge e.on acc.size with h | h
          · exact hacc e.on i h hh hon
          · rw [Array.getD_eq_getD_getElem?, Array.getElem?_eq_none h] at hh
            simp at hh
    · rw [← Array.getD_eq_getD_getElem?] at hbit
      exact hacc j i (by omega) hbit hSj

theorem before_closed {ops : Array Oper} {S : Nat → Prop} (hS : ∀ (j : Nat) o, ops[j]? = some o → S j → ∀ e ∈ o.after, Region.binds .any e = true → S e.on) {j i : Nat} (hb : ((Region.before ops).toList.getD j 0).testBit i = true) (hj : S j) : S i := by
  rw [before_eq] at hb
  refine bfold_closed ops.toList S (fun j o h => hS j o (by simpa using h)) ops.toList #[] 0 rfl (fun j o h => by simpa using h) (fun j i h => by simp at h) j i ?_ hj
  rw [Array.getD_eq_getD_getElem?, ← Array.getElem?_toList, ← List.getD_eq_getElem?_getD]
  exact hb


theorem evT_states {E : Env} {rec : Rec} : ∀ (is : List I) (s s' : Fr × Heap) (cs : List Cls), evT E rec is s = some (s', cs) →
    ∃ σ : Nat → Fr × Heap, σ 0 = s ∧ σ is.length = s' ∧ cs.length = is.length ∧ ∀ (i : Nat) ins, is[i]? = some ins → evI E rec (σ i) ins = some (σ (i + 1)) ∧ cs[i]? = some (clsI E (σ i) (σ (i + 1)) ins)
  | [], s, s', cs, h => by
    simp only [evT] at h; cases h
    exact ⟨fun _ => s, rfl, rfl, rfl, fun i ins hi => by simp at hi⟩
  | i :: is, s, s', cs, h => by
    simp only [evT] at h
    split at h
    · cases h
    · rename_i s1 h1
      split at h
      · cases h
      · rename_i s2 cs' h2
        cases h
        obtain ⟨σ, k1, k2, k3, k4⟩ := evT_states is s1 s' cs' h2
        refine ⟨fun n => match n with | 0 => s | n + 1 => σ n, rfl, k2, by simp [k3], fun j ins hj => ?_⟩
        cases j with
        | zero => simp at hj; subst hj; exact ⟨by rw [h1]; show some s1 = some (σ 0); rw [k1], by show _ = some (clsI E s (σ 0) _); rw [k1]; rfl⟩
        | succ j => simp at hj; exact k4 j ins hj

theorem okWith_get {c : Cls} {i : Nat} : ∀ (bs : List Nat) (ds : List Cls), okWith c i bs ds = true → ∀ (j : Nat) d b, ds[j]? = some d → bs[j]? = some b → c.free d = true ∨ b.testBit i = true
  | [], _, _, j, d, b, _, hb => by simp at hb
  | _ :: _, [], _, j, d, b, hd, _ => by simp at hd
  | b0 :: bs, d0 :: ds, h, j, d, b, hd, hb => by
    simp only [okWith, Bool.and_eq_true, Bool.or_eq_true] at h
    cases j with
    | zero => simp at hd hb; subst hd hb; exact h.1
    | succ j => simp at hd hb; exact okWith_get bs ds h.2 j d b hd hb

theorem okDraw_get : ∀ (k : Nat) (bs : List Nat) (cs : List Cls), okDraw k bs cs = true → ∀ (i j : Nat) c d b, i < j → cs[i]? = some c → cs[j]? = some d → bs[j]? = some b → c.free d = true ∨ b.testBit (k + i) = true
  | k, [], _, _, i, j, c, d, b, _, _, _, hb => by simp at hb
  | k, _ :: _, [], _, i, j, c, d, b, _, hc, _, _ => by simp at hc
  | k, b0 :: bs, c0 :: cs, h, i, j, c, d, b, hij, hc, hd, hb => by
    simp only [okDraw, Bool.and_eq_true] at h
    cases j with
    | zero => omega
    | succ j =>
      simp at hd hb
      cases i with
      | zero => simp at hc; subst hc; exact okWith_get bs cs h.1 j d b hd hb
      | succ i =>
        simp at hc
        have := okDraw_get (k + 1) bs cs h.2 i j c d b (by omega) hc hd hb
        rwa [show k + 1 + i = k + (i + 1) by omega] at this


theorem frz_nil (H : Heap) : frz H [] = H := rfl
theorem evO_grows {E : Env} {rec : Rec} {fr : Fr} {H H' : Heap} {op : O} {v : V} (he : evO E rec fr H op = some (v, H')) : (cls E fr H op = .p → H' = H) ∧ (∀ id, cls E fr H op = .rd id → H' = H) ∧ (cls E fr H op = .q → ∃ Δ, H' = H ++ Δ) ∧
    (∀ b, cls E fr H op = .w b → ∀ (id : Nat) x, id ≠ b → H[id]? = some x → H'[id]? = some x) := by
  cases op with
  | alc sz z => simp only [evO] at he; cases he; simp only [cls]; exact ⟨nofun, nofun, fun _ => ⟨_, rfl⟩, nofun⟩
  | box x =>
    simp only [evO] at he
    split at he
    · cases he; simp only [cls]; exact ⟨nofun, nofun, fun _ => ⟨_, rfl⟩, nofun⟩
    · cases he
  | mks sz z l c =>
    simp only [evO] at he
    split at he
    · split at he
      · cases he; simp only [cls]; exact ⟨nofun, nofun, fun _ => ⟨_, rfl⟩, nofun⟩
      · cases he
    · cases he
  | mkm => simp only [evO] at he; cases he; simp only [cls]; exact ⟨nofun, nofun, fun _ => ⟨_, rfl⟩, nofun⟩
  | bsl m sz n z ps =>
    cases m with
    | true =>
      simp only [evO] at he
      split at he
      · cases he
      · cases he; simp only [cls]; exact ⟨nofun, nofun, fun _ => ⟨_, rfl⟩, nofun⟩
    | false =>
      simp only [evO] at he
      simp only [cls]
      split at he
      · cases he
      · rename_i ts L hrd
        split at he
        · cases he
        · cases he
          rw [hrd]
          cases L with
          | nil => simp only; exact ⟨nofun, nofun, fun _ => ⟨_, rfl⟩, nofun⟩
          | cons p L => simp only; exact ⟨nofun, nofun, nofun, nofun⟩
  | call f as =>
    simp only [cls]
    have own : ∀ (g : List V → Heap → Option (V × Heap)) (args : List V), callM .own g args H = some (v, H') → ∃ Δ, H' = H ++ Δ := fun g args h => by
      unfold callM at h
      split at h <;> first | (rename_i e; cases e; done) | skip
      split at h
      · cases h
      · split at h
        · cases h
        · split at h
          · cases h; exact ⟨_, rfl⟩
          · cases h
    split
    · rename_i G hG
      split
      · rename_i hm
        refine ⟨nofun, nofun, fun _ => ?_, nofun⟩
        simp only [evO, evCall, hG] at he
        cases G with
        | ir F => simp only [Fun.mode] at hm; simp only [hm] at he; exact own _ _ he
        | prim m s => simp only [Fun.mode] at hm; simp only [hm] at he; exact own _ _ he
      · exact ⟨nofun, nofun, nofun, nofun⟩
    · exact ⟨nofun, nofun, nofun, nofun⟩
  | app m sz x y =>
    cases m with
    | true => simp only [cls]; exact ⟨nofun, nofun, nofun, nofun⟩
    | false =>
      simp only [evO] at he
      simp only [cls]
      split
      · rename_i id off len hx
        refine ⟨nofun, nofun, nofun, fun b hb id' z hne hz => ?_⟩
        cases hb
        unfold evApp at he
        rw [hx] at he
        have hlt := (List.getElem?_eq_some_iff.1 hz).1
        split at he
        · cases he
        · split at he
          · rename_i e; cases e
          · rename_i id2 len2 e
            cases e
            split at he
            · split at he
              · split at he
                · split at he
                  · cases he
                    rw [List.getElem?_append_left (by simpa using hlt), List.getElem?_set_ne (Ne.symm hne)]; exact hz
                  · cases he
                · split at he
                  · cases he
                    rw [List.getElem?_set_ne (Ne.symm hne)]; exact hz
                  · cases he
              · cases he
            · cases he
          · cases he
      · rename_i hx
        refine ⟨nofun, nofun, fun _ => ?_, nofun⟩
        unfold evApp at he
        rw [hx] at he
        split at he
        · cases he
        · simp only at he
          split at he
          · cases he; exact ⟨_, rfl⟩
          · cases he
      · exact ⟨nofun, nofun, nofun, nofun⟩
  | st sz a x =>
    simp only [evO] at he
    simp only [cls]
    split
    · rename_i id i c ha
      have hst : ∀ H1, evSt H sz (a.ev fr) (x.ev fr) = some H1 → ((∃ s vs, H[id]? = some (.box s vs)) ∨ ((∃ s xs, H[id]? = some (.pure s xs)) ∧ ∃ t, x.ev fr = .t t)) → ∃ b', H1 = H.set id b' := by
        intro H1 h1 hk
        rw [ha] at h1
        simp only [evSt] at h1
        rcases hk with ⟨s, vs, hb⟩ | ⟨⟨s, xs, hb⟩, t, hx⟩
        · rw [hb] at h1
          simp only at h1
          split at h1
          · split at h1
            · cases h1; exact ⟨_, rfl⟩
            · cases h1
          · cases h1
        · rw [hb, hx] at h1
          simp only [depth, rd] at h1
          split at h1
          · rename_i e1 e2
            cases e1
            split at h1
            · cases h1; exact ⟨_, rfl⟩
            · cases h1
          · cases h1
      have hw : ((∃ s vs, H[id]? = some (.box s vs)) ∨ ((∃ s xs, H[id]? = some (.pure s xs)) ∧ ∃ t, x.ev fr = .t t)) → (Cls.w id = .p → H' = H) ∧ (∀ id', Cls.w id = .rd id' → H' = H) ∧ (Cls.w id = .q → ∃ X, H' = H ++ X) ∧ ∀ b, Cls.w id = .w b → ∀ (id' : Nat) z, id' ≠ b → H[id']? = some z → H'[id']? = some z := by
        intro hk
        refine ⟨nofun, nofun, nofun, fun b hb id' z hne hz => ?_⟩
        cases hb
        split at he
        · rename_i H1 h1
          cases he
          obtain ⟨b', rfl⟩ := hst _ h1 hk
          rw [List.getElem?_set_ne (Ne.symm hne)]; exact hz
        · cases he
      split
      · rename_i s vs hb; exact hw (.inl ⟨_, _, hb⟩)
      · rename_i s xs hb
        split
        · rename_i t hx; exact hw (.inr ⟨⟨_, _, hb⟩, _, hx⟩)
        · exact ⟨nofun, nofun, nofun, nofun⟩
      · exact ⟨nofun, nofun, nofun, nofun⟩
    · exact ⟨nofun, nofun, nofun, nofun⟩
  | callv f as => simp only [cls]; exact ⟨nofun, nofun, nofun, nofun⟩
  | cpy sz a x => simp only [cls]; exact ⟨nofun, nofun, nofun, nofun⟩
  | clr sz z x => simp only [cls]; exact ⟨nofun, nofun, nofun, nofun⟩
  | mup k a b c => simp only [cls]; exact ⟨nofun, nofun, nofun, nofun⟩
  | bad => simp [evO] at he
  | _ =>
    have hH : H' = H := by
      simp only [evO] at he
      first
      | (cases he; rfl)
      | (repeat' (split at he)
         all_goals first | (cases he; rfl) | (cases he; done))
    refine ⟨fun _ => hH, fun _ _ => hH, fun h => ⟨[], by simp [hH]⟩, fun b hb id x _ hx => by rw [hH]; exact hx⟩

theorem dynC_inv {H H' : Heap} {c d : Cls} (h : dynC H H' c = d) : (∀ f, d ≠ .x f) → c = d := by
  intro hx
  cases c <;> simp only [dynC] at h <;> first | exact h | exact absurd h.symm (hx _)
theorem dynC_x {H H' : Heap} {c : Cls} {f : Nat → Bool} (h : dynC H H' c = .x f) : f = sameB H H' := by
  cases c <;> simp only [dynC] at h <;> cases h <;> rfl
theorem clsI_x {E : Env} {s s' : Fr × Heap} {i : I} {f : Nat → Bool} (h : clsI E s s' i = .x f) : f = sameB s.2 s'.2 := dynC_x h
theorem evI_grows {E : Env} {rec : Rec} {s s' : Fr × Heap} {i : I} (he : evI E rec s i = some s') : (clsI E s s' i = .p → s'.2 = s.2) ∧ (∀ id, clsI E s s' i = .rd id → s'.2 = s.2) ∧ (clsI E s s' i = .q → ∃ Δ, s'.2 = s.2 ++ Δ) ∧
    (∀ b, clsI E s s' i = .w b → ∀ (id : Nat) x, id ≠ b → s.2[id]? = some x → s'.2[id]? = some x) := by
  unfold evI at he
  unfold clsI
  split at he
  · cases he
  · rename_i hw
    cases he
    rw [hw]
    exact ⟨fun _ => rfl, nofun, nofun, nofun⟩
  · rename_i hw
    split at he
    · cases he
    · rename_i v H hev
      cases he
      rw [hw]
      obtain ⟨g1, g2, g3, g4⟩ := evO_grows hev
      exact ⟨fun h => g1 (dynC_inv h nofun), fun id h => g2 id (dynC_inv h nofun), fun h => g3 (dynC_inv h nofun), fun b h => g4 b (dynC_inv h nofun)⟩

theorem evO_f {E : Env} {rec : Rec} {fr : Fr} {H H' : Heap} {op : O} {v : V} (he : evO E rec fr H op = some (v, H')) (hc : cls E fr H op = .f) : H' = H ∧ (∀ H2, evO E rec fr H2 op = some (v, H2)) := by
  cases op with
  | bsf sz n z ps =>
    simp only [evO] at he ⊢
    split at he
    · cases he
    · rename_i ts hts
      split at he
      · cases he
      · rename_i xs hf
        cases he
        exact ⟨rfl, fun H2 => by simp only [hts, hf]⟩
  | msf sz z l c =>
    simp only [evO] at he ⊢
    split at he
    · rename_i e1 e2
      split at he
      · rename_i h
        cases he
        exact ⟨rfl, fun H2 => by rw [if_pos h]⟩
      · cases he
    · cases he
  | bsl m sz n z ps =>
    cases m with
    | true => simp [cls] at hc
    | false => simp only [cls] at hc; split at hc <;> simp at hc
  | app m sz x y =>
    cases m with
    | true => simp [cls] at hc
    | false => simp only [cls] at hc; split at hc <;> simp at hc
  | _ =>
    exfalso
    unfold cls at hc
    (repeat' (split at hc)) <;> first | (cases hc; done) | simp_all
theorem evI_f {E : Env} {rec : Rec} {s s' : Fr × Heap} {i : I} (he : evI E rec s i = some s') (hc : clsI E s s' i = .f) : s'.2 = s.2 := by
  unfold evI at he
  unfold clsI at hc
  split at he
  · cases he
  · cases he; rfl
  · rename_i hw
    split at he
    · cases he
    · rename_i v H hev
      cases he
      rw [hw] at hc
      exact (evO_f hev (dynC_inv hc nofun)).1

theorem evI_slot {E : Env} {rec : Rec} {s s' : Fr × Heap} {i : I} (he : evI E rec s i = some s') (t : Nat) (ht : i.dst ≠ some t) : s'.1.get t = s.1.get t := by
  have : ∀ (fr : Fr) (v : V), (putD fr i.dst v).get t = fr.get t := fun fr v => by
    cases hd : i.dst with
    | none => rfl
    | some d =>
      simp only [putD, Fr.get_put]
      rw [if_neg fun e => ht (by rw [hd, e])]
  unfold evI at he
  split at he
  · cases he
  · cases he; exact this _ _
  · split at he
    · cases he
    · cases he; exact this _ _

end Go.Proofs.Ytanlmanifpknoaa.Ev
namespace Go.Proofs.Ytanlmanifpknoaa.Ev
open Go Go.RowKit
set_option linter.unusedVariables false
set_option linter.unusedSimpArgs false

section
variable {E : Env} {rec : Rec} {fr fr' : Fr} {H : Heap}

theorem A.ev_same {x : A} (h : ∀ t ∈ x.tmps, fr.get t = fr'.get t) : x.ev fr = x.ev fr' := by
  cases x with
  | v t => exact h t (by simp [A.tmps])
  | k x => rfl
theorem A.evs_same : ∀ {xs : List A}, (∀ t ∈ xs.flatMap A.tmps, fr.get t = fr'.get t) → A.evs fr xs = A.evs fr' xs
  | [], _ => rfl
  | x :: xs, h => by
    simp only [A.evs]
    rw [A.ev_same fun t ht => h t (by simp [ht]), A.evs_same fun t ht => h t (by rw [List.flatMap_cons]; exact List.mem_append_right _ ht)]
theorem A.map_same {x : Option A} (h : ∀ t ∈ x.toList.flatMap A.tmps, fr.get t = fr'.get t) : x.map (·.ev fr) = x.map (·.ev fr') := by
  cases x with
  | none => rfl
  | some x => simp only [Option.map_some]; rw [A.ev_same fun t ht => h t (by simpa using ht)]

theorem evO_same {op : O} (h : ∀ t ∈ op.reads.flatMap A.tmps, fr.get t = fr'.get t) : evO E rec fr H op = evO E rec fr' H op ∧ cls E fr H op = cls E fr' H op := by
  have h1 : ∀ x ∈ op.reads, x.ev fr = x.ev fr' := fun x hx => A.ev_same fun t ht => h t (List.mem_flatMap.2 ⟨x, hx, ht⟩)
  have hs : ∀ xs : List A, (∀ x ∈ xs, x ∈ op.reads) → A.evs fr xs = A.evs fr' xs := fun xs hx => A.evs_same fun t ht => by
    obtain ⟨x, hx', ht'⟩ := List.mem_flatMap.1 ht
    exact h t (List.mem_flatMap.2 ⟨x, hx x hx', ht'⟩)
  have ho : ∀ x : Option A, (∀ y ∈ x.toList, y ∈ op.reads) → x.map (·.ev fr) = x.map (·.ev fr') := fun x hx => A.map_same fun t ht => by
    obtain ⟨y, hy, ht'⟩ := List.mem_flatMap.1 ht
    exact h t (List.mem_flatMap.2 ⟨y, hx y hy, ht'⟩)
  cases op with
  | bld z ps =>
    have : (ps.map fun p => (p.1, p.2.1, p.2.2.ev fr)) = ps.map fun p => (p.1, p.2.1, p.2.2.ev fr') := List.map_congr_left fun p hp => by rw [h1 p.2.2 (List.mem_map_of_mem hp)]
    simp only [evO, cls, this, and_self]
  | bsf sz n z ps =>
    have k1 : (ps.map fun p => p.2.ev fr) = ps.map fun p => p.2.ev fr' := List.map_congr_left fun p hp => by rw [h1 p.2 (List.mem_map_of_mem hp)]
    simp only [evO, cls, k1, and_self]
  | bsl m sz n z ps =>
    have k1 : (ps.map fun p => p.2.ev fr) = ps.map fun p => p.2.ev fr' := List.map_congr_left fun p hp => by rw [h1 p.2 (List.mem_map_of_mem hp)]
    have k2 : (ps.map fun p => (p.1 * sz, sz, p.2.ev fr)) = ps.map fun p => (p.1 * sz, sz, p.2.ev fr') := List.map_congr_left fun p hp => by rw [h1 p.2 (List.mem_map_of_mem hp)]
    cases m <;> simp only [evO, cls, k1, k2, and_self]
  | mkf f a b => simp only [evO, cls, hs a fun x hx => by simp [O.reads, hx], hs b fun x hx => by simp [O.reads, hx], and_self]
  | call f as => simp only [evO, cls, hs as fun x hx => hx, and_self]
  | callv f as => simp only [evO, cls, hs as fun x hx => by simp [O.reads, hx], h1 f (by simp [O.reads]), and_self]
  | slc sz x l u => simp only [evO, cls, h1 x (by simp [O.reads]), ho l fun y hy => by simp only [O.reads]; exact List.mem_cons_of_mem _ (List.mem_append_left _ hy), ho u fun y hy => by simp only [O.reads]; exact List.mem_cons_of_mem _ (List.mem_append_right _ hy), and_self]
  | sls x l u => simp only [evO, cls, h1 x (by simp [O.reads]), ho l fun y hy => by simp only [O.reads]; exact List.mem_cons_of_mem _ (List.mem_append_left _ hy), ho u fun y hy => by simp only [O.reads]; exact List.mem_cons_of_mem _ (List.mem_append_right _ hy), and_self]
  | app m sz x y => cases m <;> simp only [evO, cls, h1 x (by simp [O.reads]), h1 y (by simp [O.reads]), and_self]
  | alc sz z => exact ⟨rfl, rfl⟩
  | mkm => exact ⟨rfl, rfl⟩
  | bad => exact ⟨rfl, rfl⟩
  | mv x | box x | ld _ _ x | nck x | un _ x | cnv _ x | fad _ x | fld _ _ _ x | ext x _ | len _ x | clr _ _ x => simp only [evO, cls, h1 x (by simp [O.reads]), and_self]
  | st _ x y | bin _ _ x y | mks _ _ x y | msf _ _ x y | ixa _ x y | idx x y | cpy _ x y | mx _ x y | lkp _ _ _ x y => simp only [evO, cls, h1 x (by simp [O.reads]), h1 y (by simp [O.reads]), and_self]
  | pick x y z | mup _ x y z => simp only [evO, cls, h1 x (by simp [O.reads]), h1 y (by simp [O.reads]), h1 z (by simp [O.reads]), and_self]

end

theorem keep_same (live : List Nat) : ∀ (fr : Fr) (t : Nat), t ∈ live → (keep live fr).get t = fr.get t
  | [], t, _ => rfl
  | (s, v) :: r, t, ht => by
    simp only [keep]
    split
    · simp only [Fr.get]; rw [keep_same live r t ht]
    · rename_i hs
      simp only [Fr.get]
      rw [if_neg fun e => hs (by simpa [e] using ht), keep_same live r t ht]
theorem keep_other (live : List Nat) : ∀ (fr : Fr) (t : Nat), t ∉ live → (keep live fr).get t = .any
  | [], t, _ => rfl
  | (s, v) :: r, t, ht => by
    simp only [keep]
    split
    · rename_i hs
      simp only [Fr.get]
      rw [if_neg fun e => ht (by simpa [← e] using hs), keep_other live r t ht]
    · exact keep_other live r t ht
theorem clsI_eq {E : Env} {s s' : Fr × Heap} {i : I} : clsI E s s' i = dynC s.2 s'.2 (match wantedI s.1 i with | some true => cls E s.1 s.2 i.op | _ => .p) := rfl

end Go.Proofs.Ytanlmanifpknoaa.Ev
namespace Go.Proofs.Ytanlmanifpknoaa.Ev
open Go Go.RowKit
set_option linter.unusedVariables false
set_option linter.unusedSimpArgs false

theorem get_app {H Δ : Heap} {id : Nat} (h : id < H.length) : (H ++ Δ)[id]? = H[id]? := List.getElem?_append_left h

section
variable {μ0 μ μ' : Nat → Option Loc} {D0 D D' F0 F F' : Nat → Prop} {H0 H Hj Δ Δ' : Heap} {w0 w w' : World}

theorem Rel.pre (h : Rel μ D F (Hj ++ Δ) w) : Rel μ (fun id => D id ∧ id < Hj.length) F Hj w where
  blk id b hd hb := h.blk id b hd.1 (by rw [get_app hd.2]; exact hb)
  inj i j li lj bi bj hi hj h1 h2 := h.inj i j li lj bi bj hi.1 hj.1 (by rw [get_app hi.2]; exact h1) (by rw [get_app hj.2]; exact h2)
  frz := h.frz
  lt id hd := hd.2
  non id b l hb := h.non id b l (by rw [get_app (List.getElem?_eq_some_iff.1 hb).1]; exact hb)

theorem OwnS.pre {m : Nat} (h : OwnS μ (fun id => D id ∧ id < Hj.length) Hj m) : OwnS μ D (Hj ++ Δ) m := by
  obtain ⟨id, b, l, h1, h2, h3⟩ := h
  exact ⟨id, b, l, h1.1, by rw [get_app h1.2]; exact h2, h3⟩

theorem Rel.ext (h : Rel μ D F H w) (hf : ∀ id, H.length ≤ id → μ id = none) (Δ : Heap) : Rel μ D F (H ++ Δ) w where
  blk id b hd hb := h.blk id b hd (by rw [get_app (h.lt id hd)] at hb; exact hb)
  inj i j li lj bi bj hi hj h1 h2 := h.inj i j li lj bi bj hi hj (by rw [get_app (h.lt i hi)] at h1; exact h1) (by rw [get_app (h.lt j hj)] at h2; exact h2)
  frz := h.frz
  lt id hd := Nat.lt_of_lt_of_le (h.lt id hd) (by simp)
  non id b l hb hl := by
    rcases Nat.lt_or_ge id H.length with a | a
    · exact h.non id b l (by rw [get_app a] at hb; exact hb) hl
    · rw [hf id a] at hl; cases hl

theorem OwnS.ext (h : Rel μ D F H w) {m : Nat} (ho : OwnS μ D (H ++ Δ) m) : OwnS μ D H m := by
  obtain ⟨id, b, l, h1, h2, h3⟩ := ho
  exact ⟨id, b, l, h1, by rw [get_app (h.lt id h1)] at h2; exact h2, h3⟩

theorem Post.ext (p : Post μ0 D0 F0 H0 w0 μ D F H w) (hf : ∀ id, H.length ≤ id → μ id = none) (Δ : Heap) : Post μ0 D0 F0 H0 w0 μ D F (H ++ Δ) w where
  mu id hid := p.mu id (hid.elim .inl fun a => .inr (Nat.le_trans (by simp) a))
  mono := p.mono
  len := Nat.le_trans p.len (by simp)
  dom id := by
    rw [p.dom]
    refine or_congr_right ⟨fun ⟨a, b, c⟩ => ⟨a, Nat.lt_of_lt_of_le b (by simp), c⟩, fun ⟨a, b, l, hl, hr⟩ => ⟨a, ?_, l, hl, hr⟩⟩
    rcases Nat.lt_or_ge id H.length with c | c
    · exact c
    · rw [hf id c] at hl; cases hl
  old := p.old
  new := p.new
  rel := p.rel.ext hf Δ
  frame := p.frame
  own m hm := p.own m (OwnS.ext p.rel hm)
  size := p.size
  os := p.os
  tape := p.tape
  output := p.output
theorem Post.hole (p : Post μ0 D0 F0 H0 w0 μ D F (Hj ++ Δ ++ Δ') w) (hreal : ∀ id, D id ↔ id < (Hj ++ Δ ++ Δ').length ∧ ∃ L, μ id = some L ∧ L.real = true)
    (hole : ∀ id, Hj.length ≤ id → id < (Hj ++ Δ).length → μ id = none) (h0 : H0.length ≤ Hj.length)
    (q : Post μ (fun id => D id ∧ id < Hj.length) F Hj w μ' D' F' (Hj ++ Δ) w') :
    Post μ0 D0 F0 H0 w0 μ' (fun id => id < (Hj ++ Δ ++ Δ').length ∧ ∃ L, μ' id = some L ∧ L.real = true) F' (Hj ++ Δ ++ Δ') w' := by
  have hle : Hj.length ≤ (Hj ++ Δ).length := by simp
  have hle2 : (Hj ++ Δ).length ≤ (Hj ++ Δ ++ Δ').length := by simp
  have relj : Rel μ (fun id => D id ∧ id < Hj.length) F Hj w := by
    have := p.rel; rw [List.append_assoc] at this; exact this.pre
  have ownj : ∀ {m}, OwnS μ (fun id => D id ∧ id < Hj.length) Hj m → OwnS μ D (Hj ++ Δ ++ Δ') m := fun {m} h => by rw [List.append_assoc]; exact h.pre
  have low : ∀ id, id < (Hj ++ Δ).length → (∃ L, μ' id = some L ∧ L.real = true) → D' id := fun id hlt ⟨L, hL, hr⟩ => by
    rw [q.dom]
    rcases Nat.lt_or_ge id Hj.length with a | a
    · rw [q.mu id (.inl a)] at hL
      exact .inl ⟨(hreal id).2 ⟨by omega, L, hL, hr⟩, a⟩
    · exact .inr ⟨a, hlt, L, hL, hr⟩
  have high : ∀ id, (Hj ++ Δ).length ≤ id → μ' id = μ id := fun id h => q.mu id (.inr h)
  have notown : ∀ id b l, (Hj ++ Δ).length ≤ id → D id → (Hj ++ Δ ++ Δ')[id]? = some b → b.own = true → μ id = some l → ¬ OwnS μ (fun id => D id ∧ id < Hj.length) Hj l.m := fun id b l hge hd hb ho hl ⟨id2, b2, l2, h1, h2, h3, h4, h5⟩ => by
    have := p.rel.inj id2 id l2 l b2 b h1.1 hd (by rw [List.append_assoc, get_app h1.2]; exact h2) hb h3 ho h4 hl h5
    omega
  refine ⟨fun id hid => ?_, fun id l hl => q.mono id l (p.mono id l hl), p.len, fun id => ⟨fun ⟨hlt, L, hL, hr⟩ => ?_, fun h => ?_⟩, fun m hm => q.old m (p.old m hm), fun m hm => ?_, ⟨fun id b hd hb => ?_, ?_, fun m hm => q.rel.frz m hm, fun id hd => hd.1, fun id b l hb hl hr ho => ?_⟩, fun m hm hno => ?_, fun m hm => ?_, Nat.le_trans p.size q.size, q.os.trans p.os, q.tape.trans p.tape, q.output.trans p.output⟩
  · rcases hid with a | a
    · rw [q.mu id (.inl (by omega)), p.mu id (.inl a)]
    · rw [q.mu id (.inr (by omega)), p.mu id (.inr a)]
  · rcases Nat.lt_or_ge id H0.length with a | a
    · left
      rw [q.mu id (.inl (by omega))] at hL
      rcases (p.dom id).1 ((hreal id).2 ⟨hlt, L, hL, hr⟩) with b | b
      · exact b
      · omega
    · exact .inr ⟨a, hlt, L, hL, hr⟩
  · rcases h with h | ⟨_, b, c⟩
    · obtain ⟨a, L, hL, hr⟩ := (hreal id).1 ((p.dom id).2 (.inl h))
      exact ⟨a, L, q.mono id L hL, hr⟩
    · exact ⟨b, c⟩
  · rcases q.new m hm with a | a | a
    · exact p.new m a
    · exact .inr (.inl (Nat.le_trans p.size a))
    · exact .inr (p.own m (ownj a))
  · rcases Nat.lt_or_ge id (Hj ++ Δ).length with a | a
    · exact q.rel.blk id b (low id a hd.2) (by rw [get_app a] at hb; exact hb)
    · obtain ⟨_, L, hL, hr⟩ := hd
      rw [high id a] at hL
      have hD := (hreal id).2 ⟨by assumption, L, hL, hr⟩
      have hbr := p.rel.blk id b hD hb
      refine hbr.mono q.mono (q.pres relj) q.old fun l hl ho => ?_
      obtain ⟨l', hl', hlt, hnF⟩ := hbr.own_lt ho
      rw [hl] at hl'; cases hl'
      have hno := notown id b l a hD hb ho hl
      refine ⟨q.frame l.m hlt hno, fun hF' => ?_⟩
      rcases q.new l.m hF' with c | c | c
      · exact hnF c
      · omega
      · exact hno c
  · -- two of one machine block
    have cross : ∀ i j li lj bi bj, i < (Hj ++ Δ).length → (Hj ++ Δ).length ≤ j → (∃ L, μ' i = some L ∧ L.real = true) → (j < (Hj ++ Δ ++ Δ').length ∧ ∃ L, μ' j = some L ∧ L.real = true) → (Hj ++ Δ ++ Δ')[i]? = some bi → (Hj ++ Δ ++ Δ')[j]? = some bj → bi.own = true → bj.own = true → μ' i = some li → μ' j = some lj → li.m = lj.m → False := by
      intro i j li lj bi bj ha hb hi hj h1 h2 o1 o2 h3 h4 e
      rw [get_app ha] at h1
      rw [high j hb] at h4
      obtain ⟨hjl, L, hL, hr⟩ := hj
      rw [high j hb] at hL
      have hDj := (hreal j).2 ⟨hjl, L, hL, hr⟩
      have hno := notown j bj lj hb hDj h2 o2 h4
      obtain ⟨l', hl', hlt, _⟩ := (p.rel.blk j bj hDj h2).own_lt o2
      rw [h4] at hl'; cases hl'
      rcases q.own li.m ⟨i, bi, li, low i ha hi, h1, o1, h3, rfl⟩ with c | c
      · omega
      · exact hno (e ▸ c)
    intro i j li lj bi bj hi hj h1 h2 o1 o2 h3 h4 e
    rcases Nat.lt_or_ge i (Hj ++ Δ).length with a | a <;> rcases Nat.lt_or_ge j (Hj ++ Δ).length with b | b
    · exact q.rel.inj i j li lj bi bj (low i a hi.2) (low j b hj.2) (by rw [get_app a] at h1; exact h1) (by rw [get_app b] at h2; exact h2) o1 o2 h3 h4 e
    · exact (cross i j li lj bi bj a b hi.2 hj h1 h2 o1 o2 h3 h4 e).elim
    · exact (cross j i lj li bj bi b a hj.2 hi h2 h1 o2 o1 h4 h3 e.symm).elim
    · obtain ⟨hil, L, hL, hr⟩ := hi
      obtain ⟨hjl, L', hL', hr'⟩ := hj
      rw [high i a] at hL h3
      rw [high j b] at hL' h4
      exact p.rel.inj i j li lj bi bj ((hreal i).2 ⟨hil, L, hL, hr⟩) ((hreal j).2 ⟨hjl, L', hL', hr'⟩) h1 h2 o1 o2 h3 h4 e
  · rcases Nat.lt_or_ge id (Hj ++ Δ).length with a | a
    · exact q.rel.non id b l (by rw [get_app a] at hb; exact hb) hl hr ho
    · rw [high id a] at hl
      exact p.rel.non id b l hb hl hr ho
  · rw [q.frame m (Nat.lt_of_lt_of_le hm p.size) fun h => (p.own m (ownj h)).elim (fun a => by omega) hno, p.frame m hm hno]
  · obtain ⟨id, b, l, ⟨hlt, hex⟩, h2, h3, h4, h5⟩ := hm
    rcases Nat.lt_or_ge id (Hj ++ Δ).length with a | a
    · rcases q.own m ⟨id, b, l, low id a hex, by rw [get_app a] at h2; exact h2, h3, h4, h5⟩ with c | c
      · exact .inl (Nat.le_trans p.size c)
      · exact p.own m (ownj c)
    · rw [high id a] at h4 hex
      exact p.own m ⟨id, b, l, (hreal id).2 ⟨hlt, hex⟩, h2, h3, h4, h5⟩

end
end Go.Proofs.Ytanlmanifpknoaa.Ev
namespace Go.Proofs.Ytanlmanifpknoaa.Ev
open Go Go.RowKit
set_option linter.unusedVariables false
set_option linter.unusedSimpArgs false

def Cls.loud : Cls → Bool
  | .w _ => true
  | .l => true
  | .x _ => true
  | _ => false
structure Txt (E : Env) (rec : Rec) (is : List I) (σ : Nat → Fr × Heap) (cs : List Cls) (B : Nat → Nat → Prop) : Prop where
  len : cs.length = is.length
  step : ∀ (i : Nat) ins, is[i]? = some ins → evI E rec (σ i) ins = some (σ (i + 1)) ∧ cs[i]? = some (clsI E (σ i) (σ (i + 1)) ins)
  slots : ∀ (i j : Nat) a b d, is[i]? = some a → is[j]? = some b → a.dst = some d → (b.dst = some d ∨ d ∈ b.reads) → i ≠ j → B (max i j) (min i j)
  cls : ∀ (i j : Nat) c d, i < j → cs[i]? = some c → cs[j]? = some d → c.free d = true ∨ B j i

section
variable {P : Program} {E : Env} {rec : Rec} {is : List I} {σ : Nat → Fr × Heap} {cs : List Cls} {B : Nat → Nat → Prop}

theorem Txt.get (T : Txt E rec is σ cs B) {i : Nat} (h : i < is.length) : ∃ ins c, is[i]? = some ins ∧ cs[i]? = some c ∧ c = clsI E (σ i) (σ (i + 1)) ins ∧ evI E rec (σ i) ins = some (σ (i + 1)) := by
  have h1 : is[i]? = some is[i] := List.getElem?_eq_getElem h
  obtain ⟨a, b⟩ := T.step i _ h1
  exact ⟨_, _, h1, b, rfl, a⟩

theorem Txt.slot_same (T : Txt E rec is σ cs B) (t m : Nat) : ∀ (k : Nat), m + k ≤ is.length → (∀ i ins, m ≤ i → i < m + k → is[i]? = some ins → ins.dst ≠ some t) → (σ (m + k)).1.get t = (σ m).1.get t
  | 0, _, _ => rfl
  | k + 1, hk, h => by
    obtain ⟨ins, c, h1, h2, h3, h4⟩ := T.get (show m + k < is.length by omega)
    rw [show m + (k + 1) = m + k + 1 by omega, evI_slot h4 t (h (m + k) ins (by omega) (by omega) h1)]
    exact T.slot_same t m k (by omega) fun i ins a b => h i ins a (by omega)

theorem Txt.heap_pre (T : Txt E rec is σ cs B) (m : Nat) : ∀ (k : Nat), m + k ≤ is.length → (∀ i c, m ≤ i → i < m + k → cs[i]? = some c → c.loud = false) → ∃ Δ, (σ (m + k)).2 = (σ m).2 ++ Δ
  | 0, _, _ => ⟨[], by simp⟩
  | k + 1, hk, h => by
    obtain ⟨ins, c, h1, h2, h3, h4⟩ := T.get (show m + k < is.length by omega)
    obtain ⟨Δ, hΔ⟩ := T.heap_pre m k (by omega) fun i c a b => h i c a (by omega)
    have hl := h (m + k) c (by omega) (by omega) h2
    obtain ⟨g1, g2, g3, g4⟩ := evI_grows h4
    rw [← h3] at g1 g2 g3 g4
    rw [show m + (k + 1) = m + k + 1 by omega]
    cases c with
    | p => exact ⟨Δ, by rw [g1 rfl, hΔ]⟩
    | rd id => exact ⟨Δ, by rw [g2 id rfl, hΔ]⟩
    | q => obtain ⟨Δ', e⟩ := g3 rfl; exact ⟨Δ ++ Δ', by rw [e, hΔ, List.append_assoc]⟩
    | w b => simp [Cls.loud] at hl
    | l => simp [Cls.loud] at hl
    | x f => simp [Cls.loud] at hl
    | f => exact ⟨Δ, by rw [evI_f h4 h3.symm, hΔ]⟩

theorem Txt.heap_id (T : Txt E rec is σ cs B) (m id : Nat) (x : Blk) (hx : (σ m).2[id]? = some x) : ∀ (k : Nat), m + k ≤ is.length → (∀ i c, m ≤ i → i < m + k → cs[i]? = some c → (Cls.rd id).free c = true) → (σ (m + k)).2[id]? = some x
  | 0, _, _ => hx
  | k + 1, hk, h => by
    obtain ⟨ins, c, h1, h2, h3, h4⟩ := T.get (show m + k < is.length by omega)
    have ih := T.heap_id m id x hx k (by omega) fun i c a b => h i c a (by omega)
    have hl := h (m + k) c (by omega) (by omega) h2
    obtain ⟨g1, g2, g3, g4⟩ := evI_grows h4
    rw [← h3] at g1 g2 g3 g4
    rw [show m + (k + 1) = m + k + 1 by omega]
    cases c with
    | p => rw [g1 rfl]; exact ih
    | rd id => rw [g2 id rfl]; exact ih
    | q => obtain ⟨Δ', e⟩ := g3 rfl; rw [e, get_app (List.getElem?_eq_some_iff.1 ih).1]; exact ih
    | w b => exact g4 b rfl id x (by simpa [Cls.free] using hl) ih
    | l => simp [Cls.free] at hl
    | f => rw [evI_f h4 h3.symm]; exact ih
    | x f =>
      have hf := clsI_x h3.symm
      simp only [Cls.free] at hl
      rw [hf] at hl
      exact sameB_get hl ih

theorem free_symm (a b : Cls) : a.free b = b.free a := by
  cases a <;> cases b <;> simp [Cls.free, bne_comm]
structure Inv (T : Txt E rec is σ cs B) (μ0 : Nat → Option Loc) (D0 F0 : Nat → Prop) (H0 : Heap) (w0 : World) (n : Nat) (S : Nat → Prop) (l : Nat) (μ : Nat → Option Loc) (D F : Nat → Prop) (a : Act) (w : World) : Prop where
  size : a.tmps.size = n
  defers : a.defers = []
  slot : ∀ t, ∃ m, m ≤ is.length ∧ (∀ i ins, is[i]? = some ins → ins.dst = some t → (S i ↔ i < m)) ∧ VR μ w F ((σ m).1.get t) (a.tmps.getD t undef)
  lt : l ≤ is.length
  loud : ∀ i c, cs[i]? = some c → c.loud = true → (S i ↔ i < l)
  atl : l < is.length → ∃ c, cs[l]? = some c ∧ c.loud = true
  post : Post μ0 D0 F0 H0 w0 μ D F (σ l).2 w
  real : ∀ id, D id ↔ id < (σ l).2.length ∧ ∃ L, μ id = some L ∧ L.real = true
  fresh : ∀ id, (σ l).2.length ≤ id → μ id = none
  holes : ∀ i, i < l → cs[i]? = some .q → ¬ S i → ∀ id, (σ i).2.length ≤ id → id < (σ (i + 1)).2.length → μ id = none
  low : ∀ i, i ≤ l → H0.length ≤ (σ i).2.length
theorem next_loud (cs : List Cls) : ∀ (k m : Nat), m + k = cs.length → ∃ l, m ≤ l ∧ l ≤ cs.length ∧ (l < cs.length → ∃ c, cs[l]? = some c ∧ c.loud = true) ∧ ∀ i c, m ≤ i → i < l → cs[i]? = some c → c.loud = false
  | 0, m, h => ⟨m, Nat.le_refl _, by omega, fun h' => by omega, fun i c a b => by omega⟩
  | k + 1, m, h => by
    have hm : m < cs.length := by omega
    by_cases hl : (cs[m]).loud = true
    · exact ⟨m, Nat.le_refl _, by omega, fun _ => ⟨_, List.getElem?_eq_getElem hm, hl⟩, fun i c a b => by omega⟩
    · obtain ⟨l, h1, h2, h3, h4⟩ := next_loud cs k (m + 1) (by omega)
      refine ⟨l, by omega, h2, h3, fun i c a b hc => ?_⟩
      rcases Nat.eq_or_lt_of_le a with e | e
      · subst e
        rw [List.getElem?_eq_getElem hm] at hc
        cases hc
        simpa using hl
      · exact h4 i c e b hc

variable {T : Txt E rec is σ cs B} {μ0 μ μ' : Nat → Option Loc} {D0 D D' F0 F F' : Nat → Prop} {H0 : Heap} {w0 w w' : World} {n l : Nat} {S : Nat → Prop} {a : Act}
theorem Inv.read (h : Inv T μ0 D0 F0 H0 w0 n S l μ D F a w) {j : Nat} {ins : I} (hj : is[j]? = some ins) (hS : ¬ S j) (hcl : ∀ i k, B k i → S k → S i) (hcl' : ∀ i, B j i → i ≠ j → S i) {t : Nat} (ht : t ∈ ins.reads) : VR μ w F ((σ j).1.get t) (a.tmps.getD t undef) := by
  obtain ⟨m, h1, h2, h3⟩ := h.slot t
  have hjl : j < is.length := (List.getElem?_eq_some_iff.1 hj).1
  have key : ∀ i b, is[i]? = some b → b.dst = some t → (i < m ↔ i < j) := fun i b hi hb => by
    rw [← h2 i b hi hb]
    rcases Nat.lt_trichotomy i j with c | c | c
    · have := T.slots i j b ins t hi hj hb (.inr ht) (by omega)
      rw [Nat.max_eq_right (by omega), Nat.min_eq_left (by omega)] at this
      exact ⟨fun _ => c, fun _ => hcl' i this (by omega)⟩
    · subst c; exact ⟨fun s => absurd s hS, fun s => by omega⟩
    · have := T.slots i j b ins t hi hj hb (.inr ht) (by omega)
      rw [Nat.max_eq_left (by omega), Nat.min_eq_right (by omega)] at this
      exact ⟨fun s => absurd (hcl j i this s) hS, fun s => by omega⟩
  have : (σ m).1.get t = (σ j).1.get t := by
    rcases Nat.le_total m j with c | c
    · have := T.slot_same t m (j - m) (by omega) fun i b x y hi hb => by
        have := (key i b hi hb).2 (by omega); omega
      rw [show m + (j - m) = j by omega] at this
      exact this.symm
    · have := T.slot_same t j (m - j) (by omega) fun i b x y hi hb => by
        have := (key i b hi hb).1 (by omega); omega
      rw [show j + (m - j) = m by omega] at this
      exact this
  rw [← this]; exact h3

theorem Inv.frame (h : Inv T μ0 D0 F0 H0 w0 n S l μ D F a w) {j : Nat} {ins : I} (hj : is[j]? = some ins) (hS : ¬ S j) (hcl : ∀ i k, B k i → S k → S i) (hcl' : ∀ i, B j i → i ≠ j → S i) : FR μ w F n (keep ins.reads (σ j).1) a :=
  ⟨h.size, h.defers, fun t => by
    by_cases ht : t ∈ ins.reads
    · rw [keep_same _ _ _ ht]; exact h.read hj hS hcl hcl' ht
    · rw [keep_other _ _ _ ht]; exact .any _⟩
theorem Inv.slots' (h : Inv T μ0 D0 F0 H0 w0 n S l μ D F a w) {j : Nat} {ins : I} (hj : is[j]? = some ins) (hlt : ∀ d, ins.dst = some d → d < n) (hS : ¬ S j) (hcl : ∀ i k, B k i → S k → S i) (hcl' : ∀ i, B j i → i ≠ j → S i) (hμ : ∀ id L, μ id = some L → μ' id = some L) (hp : Pres F w w') (hF : ∀ m, F m → F' m)
    {v : V} {x : Value} (hv : VR μ' w' F' v x) (hs : (σ (j + 1)).1 = putD (σ j).1 ins.dst v) :
    ∀ t, ∃ m, m ≤ is.length ∧ (∀ i b, is[i]? = some b → b.dst = some t → ((S i ∨ i = j) ↔ i < m)) ∧ VR μ' w' F' ((σ m).1.get t) ((a.put ins.dst x).tmps.getD t undef) := fun t => by
  have hjl : j < is.length := (List.getElem?_eq_some_iff.1 hj).1
  by_cases ht : ins.dst = some t
  · refine ⟨j + 1, hjl, fun i b hi hb => ?_, ?_⟩
    · rcases Nat.lt_trichotomy i j with c | c | c
      · have := T.slots i j b ins t hi hj hb (.inl ht) (by omega)
        rw [Nat.max_eq_right (by omega), Nat.min_eq_left (by omega)] at this
        exact ⟨fun _ => by omega, fun _ => .inl (hcl' i this (by omega))⟩
      · exact ⟨fun _ => by omega, fun _ => .inr c⟩
      · have := T.slots i j b ins t hi hj hb (.inl ht) (by omega)
        rw [Nat.max_eq_left (by omega), Nat.min_eq_right (by omega)] at this
        exact ⟨fun s => s.elim (fun s => absurd (hcl j i this s) hS) fun s => by omega, fun s => by omega⟩
    · rw [hs, ht]
      simp only [putD, Fr.get_put, if_true, Act.put]
      have : (a.tmps.setIfInBounds t x).getD t undef = x := by
        simp [Array.getD_eq_getD_getElem?, h.size, hlt t ht]
      rw [this]; exact hv
  · obtain ⟨m, h1, h2, h3⟩ := h.slot t
    refine ⟨m, h1, fun i b hi hb => ?_, ?_⟩
    · rw [← h2 i b hi hb]
      refine ⟨fun s => s.elim id fun e => ?_, .inl⟩
      subst e; rw [hj] at hi; cases hi; exact absurd hb ht
    · have : (a.put ins.dst x).tmps.getD t undef = a.tmps.getD t undef := by
        cases hd : ins.dst with
        | none => rfl
        | some d =>
          have : d ≠ t := fun e => ht (by rw [hd, e])
          simp [Act.put, Array.getD_eq_getD_getElem?, this]
      rw [this]; exact h3.mono hμ hp hF

theorem put_size (a : Act) (d : Option Nat) (x : Value) : (a.put d x).tmps.size = a.tmps.size ∧ (a.put d x).defers = a.defers := by
  cases d <;> simp [Act.put]
theorem Inv.still (h : Inv T μ0 D0 F0 H0 w0 n S l μ D F a w) {j : Nat} {ins : I} (hj : is[j]? = some ins) (hlt : ∀ d, ins.dst = some d → d < n) (hS : ¬ S j) (hcl : ∀ i k, B k i → S k → S i) (hcl' : ∀ i, B j i → i ≠ j → S i) {c : Cls} (hc : cs[j]? = some c) (hnl : c.loud = false)
    {v : V} {x : Value} (hv : VR μ w F v x) (hs : (σ (j + 1)).1 = putD (σ j).1 ins.dst v) : Inv T μ0 D0 F0 H0 w0 n (fun i => S i ∨ i = j) l μ D F (a.put ins.dst x) w where
  size := (put_size _ _ _).1.trans h.size
  defers := (put_size _ _ _).2.trans h.defers
  slot := h.slots' hj hlt hS hcl hcl' (fun _ _ h => h) (Pres.refl _ _) (fun _ h => h) hv hs
  lt := h.lt
  loud i c' hi hl := by
    rw [← h.loud i c' hi hl]
    refine ⟨fun s => s.elim id fun e => ?_, .inl⟩
    subst e; rw [hc] at hi; cases hi; rw [hnl] at hl; cases hl
  atl := h.atl
  post := h.post
  real := h.real
  fresh := h.fresh
  holes i hi hq hn := h.holes i hi hq fun s => hn (.inl s)
  low := h.low
theorem Inv.born (h : Inv T μ0 D0 F0 H0 w0 n S l μ D F a w) {j : Nat} {ins : I} (hj : is[j]? = some ins) (hlt : ∀ d, ins.dst = some d → d < n) (hS : ¬ S j) (hcl : ∀ i k, B k i → S k → S i) (hcl' : ∀ i, B j i → i ≠ j → S i) {c : Cls} (hc : cs[j]? = some c) (hnl : c.loud = false) (hnq : c ≠ .q)
    {v : V} {x : Value} (hp : Post μ D F (σ l).2 w μ' D' F' (σ l).2 w') (hv : VR μ' w' F' v x) (hs : (σ (j + 1)).1 = putD (σ j).1 ins.dst v) : Inv T μ0 D0 F0 H0 w0 n (fun i => S i ∨ i = j) l μ' D' F' (a.put ins.dst x) w' := by
  have hmu : μ' = μ := funext fun id => hp.mu id (by omega)
  subst hmu
  have hD : ∀ id, D' id ↔ D id := fun id => by rw [hp.dom]; exact ⟨fun h => h.elim (fun x => x) fun ⟨a, b, _⟩ => by omega, .inl⟩
  exact {
    size := (put_size _ _ _).1.trans h.size
    defers := (put_size _ _ _).2.trans h.defers
    slot := h.slots' hj hlt hS hcl hcl' (fun _ _ h => h) (hp.pres h.post.rel) hp.old hv hs
    lt := h.lt
    loud := fun i c' hi hl => by
      rw [← h.loud i c' hi hl]
      refine ⟨fun s => s.elim (fun s => s) fun e => ?_, .inl⟩
      subst e; rw [hc] at hi; cases hi; rw [hnl] at hl; cases hl
    atl := h.atl
    post := h.post.trans hp
    real := fun id => by rw [hD]; exact h.real id
    fresh := h.fresh
    holes := fun i hi hq hn => h.holes i hi hq fun s => hn (.inl s)
    low := h.low }

end
end Go.Proofs.Ytanlmanifpknoaa.Ev
namespace Go.Proofs.Ytanlmanifpknoaa.Ev
open Go Go.RowKit
set_option linter.unusedVariables false
set_option linter.unusedSimpArgs false

section
variable {P : Program} {E : Env} {rec : Rec} {is : List I} {σ : Nat → Fr × Heap} {cs : List Cls} {B : Nat → Nat → Prop}
variable {T : Txt E rec is σ cs B} {μ0 μ μ' : Nat → Option Loc} {D0 D D' F0 F F' : Nat → Prop} {H0 : Heap} {w0 w w' : World} {n l : Nat} {S : Nat → Prop} {a : Act}
theorem Inv.q_at (h : Inv T μ0 D0 F0 H0 w0 n S l μ D F a w) {j : Nat} (hS : ¬ S j) (hcl : ∀ i k, B k i → S k → S i) (hcl' : ∀ i, B j i → i ≠ j → S i) (hj : j < is.length) (hc : cs[j]? = some .q) :
    j < l ∧ ∀ i c, j ≤ i → i < l → cs[i]? = some c → c.loud = false := by
  have hfree : ∀ c : Cls, c.loud = true → c.free .q = false ∧ Cls.free .q c = false := fun c hl => by cases c <;> simp_all [Cls.loud, Cls.free]
  constructor
  · rcases Nat.lt_or_ge j l with x | x
    · exact x
    · exfalso
      obtain ⟨c, h1, h2⟩ := h.atl (by omega)
      rcases Nat.eq_or_lt_of_le x with e | e
      · subst e; rw [hc] at h1; cases h1; simp [Cls.loud] at h2
      · have hB := (T.cls l j c .q e h1 hc).resolve_left (by rw [(hfree c h2).1]; simp)
        have := (h.loud l c h1 h2).1 (hcl' l hB (by omega))
        omega
  · intro i c x y hi
    rcases Bool.eq_false_or_eq_true c.loud with hl | hl
    · exfalso
      rcases Nat.eq_or_lt_of_le x with e | e
      · subst e; rw [hc] at hi; cases hi; simp [Cls.loud] at hl
      · have hB := (T.cls j i .q c e hc hi).resolve_left (by rw [(hfree c hl).2]; simp)
        exact hS (hcl j i hB ((h.loud i c hi hl).2 y))
    · exact hl

theorem Inv.quiet (h : Inv T μ0 D0 F0 H0 w0 n S l μ D F a w) {j : Nat} {ins : I} (hj : is[j]? = some ins) (hlt : ∀ d, ins.dst = some d → d < n) (hS : ¬ S j) (hcl : ∀ i k, B k i → S k → S i) (hcl' : ∀ i, B j i → i ≠ j → S i) (hc : cs[j]? = some .q)
    {v : V} {x : Value} (hp : Post μ (fun id => D id ∧ id < (σ j).2.length) F (σ j).2 w μ' D' F' (σ (j + 1)).2 w') (hv : VR μ' w' F' v x) (hs : (σ (j + 1)).1 = putD (σ j).1 ins.dst v) :
    ∃ D'', Inv T μ0 D0 F0 H0 w0 n (fun i => S i ∨ i = j) l μ' D'' F' (a.put ins.dst x) w' := by
  have hjl : j < is.length := (List.getElem?_eq_some_iff.1 hj).1
  obtain ⟨hjl', hq⟩ := h.q_at hS hcl hcl' hjl hc
  have hl := h.lt
  obtain ⟨Δ, hΔ⟩ := T.heap_pre j 1 (by omega) fun i c x y hi => hq i c (by omega) (by omega) hi
  obtain ⟨Δ', hΔ'⟩ := T.heap_pre (j + 1) (l - (j + 1)) (by omega) fun i c x y hi => hq i c (by omega) (by omega) hi
  rw [show j + 1 + (l - (j + 1)) = l by omega] at hΔ'
  have hpre : Rel μ (fun id => D id ∧ id < (σ j).2.length) F (σ j).2 w := by
    have := h.post.rel
    rw [hΔ', hΔ, List.append_assoc] at this
    exact this.pre
  have hp' := h.post
  have hreal := h.real
  have hhole := h.holes j hjl' hc hS
  rw [hΔ', hΔ] at hp' hreal
  rw [hΔ] at hp hhole
  have key := hp'.hole hreal hhole (h.low j (by omega)) hp
  rw [← hΔ, ← hΔ'] at key
  refine ⟨_, (put_size _ _ _).1.trans h.size, (put_size _ _ _).2.trans h.defers, h.slots' hj hlt hS hcl hcl' hp.mono (hp.pres hpre) hp.old hv hs, h.lt, fun i c' hi hl => ?_, h.atl, key, fun id => Iff.rfl, fun id hid => ?_, fun i hi hqi hn id x y => ?_, h.low⟩
  · rw [← h.loud i c' hi hl]
    refine ⟨fun s => s.elim id fun e => ?_, .inl⟩
    subst e; rw [hc] at hi; cases hi; simp [Cls.loud] at hl
  · rw [hp.mu id (.inr (by rw [hΔ', hΔ] at hid; exact Nat.le_trans (by simp) hid))]
    exact h.fresh id hid
  · have hSi : ¬ S i := fun s => hn (.inl s)
    have hij : i ≠ j := fun e => hn (.inr e)
    have hi' := h.holes i hi hqi hSi id x y
    rcases Nat.lt_or_ge i j with c | c
    · -- the block lies before
      have hil : i < is.length := by omega
      have hq' : ∀ k c, i + 1 ≤ k → k < l → cs[k]? = some c → c.loud = false := fun k c' xk yk hk => by
        rcases Bool.eq_false_or_eq_true c'.loud with hlc | hlc
        · exfalso
          have hB := (T.cls i k .q c' (by omega) hqi hk).resolve_left (by cases c' <;> simp_all [Cls.loud, Cls.free])
          exact hSi (hcl i k hB ((h.loud k c' hk hlc).2 yk))
        · exact hlc
      obtain ⟨Δ2, h2⟩ := T.heap_pre (i + 1) (j - (i + 1)) (by omega) fun k c' a b hk => hq' k c' a (by omega) hk
      rw [show i + 1 + (j - (i + 1)) = j by omega] at h2
      rw [hp.mu id (.inl (by rw [h2]; simp; omega))]
      exact hi'
    · obtain ⟨Δ2, h2⟩ := T.heap_pre (j + 1) (i - (j + 1)) (by omega) fun k c' a b hk => hq k c' (by omega) (by omega) hk
      rw [show j + 1 + (i - (j + 1)) = i by omega] at h2
      rw [hp.mu id (.inr (by rw [h2, hΔ] at x; exact Nat.le_trans (by simp) x))]
      exact hi'

theorem Inv.w_at (h : Inv T μ0 D0 F0 H0 w0 n S l μ D F a w) {j : Nat} (hS : ¬ S j) (hcl' : ∀ i, B j i → i ≠ j → S i) (hj : j < is.length) {c : Cls} (hc : cs[j]? = some c) (hl : c.loud = true) :
    j = l ∧ ∀ i, i < l → cs[i]? = some .q → S i := by
  have hge : l ≤ j := by
    rcases Nat.lt_or_ge j l with x | x
    · exact absurd ((h.loud j c hc hl).2 x) hS
    · exact x
  have e : j = l := by
    rcases Nat.eq_or_lt_of_le hge with e | e
    · exact e.symm
    · exfalso
      obtain ⟨c', h1, h2⟩ := h.atl (by omega)
      have hB := (T.cls l j c' c e h1 hc).resolve_left (by cases c <;> cases c' <;> simp_all [Cls.loud, Cls.free])
      have := (h.loud l c' h1 h2).1 (hcl' l hB (by omega))
      omega
  refine ⟨e, fun i hi hq => ?_⟩
  subst e
  exact hcl' i ((T.cls i j .q c hi hq hc).resolve_left (by cases c <;> simp_all [Cls.loud, Cls.free])) (by omega)

theorem Inv.write (h : Inv T μ0 D0 F0 H0 w0 n S l μ D F a w) {ins : I} (hj : is[l]? = some ins) (hlt : ∀ d, ins.dst = some d → d < n) (hS : ¬ S l) (hcl : ∀ i k, B k i → S k → S i) (hcl' : ∀ i, B l i → i ≠ l → S i) {c : Cls} (hc : cs[l]? = some c) (hl : c.loud = true)
    {v : V} {x : Value} (hp : Post μ D F (σ l).2 w μ' D' F' (σ (l + 1)).2 w') (hv : VR μ' w' F' v x) (hs : (σ (l + 1)).1 = putD (σ l).1 ins.dst v) :
    ∃ l', Inv T μ0 D0 F0 H0 w0 n (fun i => S i ∨ i = l) l' μ' D' F' (a.put ins.dst x) w' := by
  have hjl : l < is.length := (List.getElem?_eq_some_iff.1 hj).1
  obtain ⟨_, hqs⟩ := h.w_at hS hcl' hjl hc hl
  obtain ⟨l', h1, h2, h3, h4⟩ := next_loud cs (cs.length - (l + 1)) (l + 1) (by rw [T.len]; omega)
  rw [T.len] at h2 h3
  obtain ⟨Δ, hΔ⟩ := T.heap_pre (l + 1) (l' - (l + 1)) (by omega) fun i c x y hi => h4 i c x (by omega) hi
  rw [show l + 1 + (l' - (l + 1)) = l' by omega] at hΔ
  have hfresh : ∀ id, (σ (l + 1)).2.length ≤ id → μ' id = none := fun id hid => by
    rw [hp.mu id (.inr hid)]; exact h.fresh id (Nat.le_trans hp.len hid)
  have hpost := (h.post.trans hp).ext hfresh Δ
  refine ⟨l', (put_size _ _ _).1.trans h.size, (put_size _ _ _).2.trans h.defers, h.slots' hj hlt hS hcl hcl' hp.mono (hp.pres h.post.rel) hp.old hv hs, h2, fun i c' hi hl' => ?_, h3, hΔ ▸ hpost, fun id => ?_, fun id hid => hfresh id (by rw [hΔ] at hid; simp at hid; omega), fun i hi hqi hn id x y => ?_, fun i hi => ?_⟩
  · refine ⟨fun s => s.elim (fun s => ?_) fun e => by omega, fun s => ?_⟩
    · have := (h.loud i c' hi hl').1 s; omega
    · rcases Nat.lt_trichotomy i l with x | x | x
      · exact .inl ((h.loud i c' hi hl').2 x)
      · exact .inr x
      · have := h4 i c' x s hi
        rw [hl'] at this; cases this
  · rw [hp.dom, h.real]
    constructor
    · rintro (⟨a1, L, hL, hr⟩ | ⟨_, a2, L, hL, hr⟩)
      · have := hp.len
        exact ⟨by rw [hΔ]; simp; omega, L, hp.mono id L hL, hr⟩
      · exact ⟨by rw [hΔ]; simp; omega, L, hL, hr⟩
    · rintro ⟨_, L, hL, hr⟩
      rcases Nat.lt_or_ge id (σ l).2.length with x | x
      · rw [hp.mu id (.inl x)] at hL; exact .inl ⟨x, L, hL, hr⟩
      · rcases Nat.lt_or_ge id (σ (l + 1)).2.length with y | y
        · exact .inr ⟨x, y, L, hL, hr⟩
        · rw [hfresh id y] at hL; cases hL
  · rcases Nat.lt_trichotomy i l with z | z | z
    · exact absurd (hqs i z hqi) fun s => hn (.inl s)
    · exact absurd (.inr z) hn
    · obtain ⟨Δ2, e2⟩ := T.heap_pre (l + 1) (i - (l + 1)) (by omega) fun k c' a b hk => h4 k c' a (by omega) hk
      rw [show l + 1 + (i - (l + 1)) = i by omega] at e2
      exact hfresh id (by rw [e2] at x; simp at x; omega)
  · rcases Nat.lt_or_ge l i with z | z
    · obtain ⟨Δ2, e2⟩ := T.heap_pre (l + 1) (i - (l + 1)) (by omega) fun k c' a b hk => h4 k c' a (by omega) hk
      rw [show l + 1 + (i - (l + 1)) = i by omega] at e2
      have := (h.post.trans hp).len
      rw [e2]; simp; omega
    · exact h.low i z
theorem Inv.rd (h : Inv T μ0 D0 F0 H0 w0 n S l μ D F a w) {j id : Nat} {ins : I} (hj : is[j]? = some ins) (hS : ¬ S j) (hcl : ∀ i k, B k i → S k → S i) (hcl' : ∀ i, B j i → i ≠ j → S i) (hc : cs[j]? = some (.rd id)) :
    RelB μ (fun i => i = id ∧ ∃ L, μ i = some L ∧ L.real = true) F (σ j).2 w := by
  have hjl : j < is.length := (List.getElem?_eq_some_iff.1 hj).1
  rintro i b ⟨rfl, L, hL, hr⟩ hb
  have hil : i < (σ l).2.length := by
    rcases Nat.lt_or_ge i (σ l).2.length with x | x
    · exact x
    · rw [h.fresh i x] at hL; cases hL
  have hD := (h.real i).2 ⟨hil, L, hL, hr⟩
  have hlt := h.lt
  suffices e : (σ l).2[i]? = some b from h.post.rel.blk i b hD e
  rcases Nat.le_total j l with c | c
  · have := T.heap_id j i b hb (l - j) (by omega) fun k ck x y hk => by
      rcases Nat.eq_or_lt_of_le x with e | e
      · subst e; rw [hc] at hk; cases hk; rfl
      · rcases T.cls j k (.rd i) ck e hc hk with f | f
        · exact f
        · rcases Bool.eq_false_or_eq_true ck.loud with hl | hl
          · exact absurd (hcl j k f ((h.loud k ck hk hl).2 (by omega))) hS
          · cases ck <;> simp_all [Cls.loud, Cls.free]
    rw [show j + (l - j) = l by omega] at this
    exact this
  · have hb' : ∃ b', (σ l).2[i]? = some b' := ⟨_, List.getElem?_eq_getElem hil⟩
    obtain ⟨b', hb'⟩ := hb'
    have := T.heap_id l i b' hb' (j - l) (by omega) fun k ck x y hk => by
      rcases Bool.eq_false_or_eq_true ck.loud with hl | hl
      · rcases T.cls k j ck (.rd i) (by omega) hk hc with f | f
        · rw [free_symm]; exact f
        · have := (h.loud k ck hk hl).1 (hcl' k f (by omega)); omega
      · cases ck <;> simp_all [Cls.loud, Cls.free]
    rw [show l + (j - l) = j by omega, hb] at this
    rw [hb', this]

end
end Go.Proofs.Ytanlmanifpknoaa.Ev
namespace Go.Proofs.Ytanlmanifpknoaa.Ev
open Go Go.RowKit
set_option linter.unusedVariables false
set_option linter.unusedSimpArgs false

theorem cls_still {E : Env} {rec : Rec} {fr : Fr} {H H' : Heap} {op : O} {v : V} (he : evO E rec fr H op = some (v, H')) : (cls E fr H op = .p ∨ ∃ id, cls E fr H op = .rd id) → op.still = true := by
  intro h
  cases op with
  | alc | box | mks | mkm | bsf | msf => simp [cls] at h
  | bsl m sz n z ps =>
    cases m with
    | true => simp [cls] at h
    | false => simp only [cls] at h; split at h <;> simp at h
  | call f as => simp only [cls] at h; (repeat' split at h) <;> simp at h
  | app m sz x y =>
    cases m with
    | true => simp [cls] at h
    | false => simp only [cls] at h; split at h <;> simp at h
  | st sz a x => simp only [cls] at h; (repeat' split at h) <;> simp at h
  | callv | cpy | clr | mup | bad => simp [cls] at h
  | _ => rfl

theorem cls_not_still {E : Env} {fr : Fr} {H : Heap} {op : O} (h : cls E fr H op = .q ∨ (cls E fr H op).loud = true) : op.still = false := by
  cases op with
  | ld agg size a => simp only [cls] at h; split at h <;> simp [Cls.loud] at h
  | len k a => simp only [cls] at h; split at h <;> simp [Cls.loud] at h
  | ixa k a i => simp only [cls] at h; split at h <;> simp [Cls.loud] at h
  | slc k a i j => simp only [cls] at h; split at h <;> simp [Cls.loud] at h
  | lkp k ok z m kk => simp only [cls] at h; split at h <;> simp [Cls.loud] at h
  | mv | pick | bld | nck | bin | un | cnv | mkf | sls | fad | fld | idx | ext | mx => simp [cls, Cls.loud] at h
  | _ => rfl
theorem q_grows {E : Env} {rec : Rec} {fr : Fr} {H H' : Heap} {op : O} {v : V} (he : evO E rec fr H op = some (v, H')) (hc : cls E fr H op = .q) (hn : op.isCall = false) : H.length < H'.length := by
  cases op with
  | alc sz z => simp only [evO] at he; cases he; simp
  | box x => simp only [evO] at he; split at he <;> cases he; simp
  | mks sz z l c =>
    simp only [evO] at he
    split at he
    · split at he <;> cases he; simp
    · cases he
  | mkm => simp only [evO] at he; cases he; simp
  | bsl m sz n z ps =>
    cases m with
    | true => simp only [evO] at he; split at he <;> cases he; simp
    | false =>
      simp only [evO] at he
      split at he
      · cases he
      · split at he <;> cases he; simp [frz_length]
  | call f as => simp [O.isCall] at hn
  | ld agg size a => simp only [cls] at hc; split at hc <;> simp at hc
  | len k a => simp only [cls] at hc; split at hc <;> simp at hc
  | ixa k a i => simp only [cls] at hc; split at hc <;> simp at hc
  | slc k a i j => simp only [cls] at hc; split at hc <;> simp at hc
  | lkp k ok z m kk => simp only [cls] at hc; split at hc <;> simp at hc
  | app m sz x y =>
    cases m with
    | true => simp [cls] at hc
    | false =>
      simp only [cls] at hc
      simp only [evO] at he
      split at hc
      · simp at hc
      · rename_i hx
        unfold evApp at he
        rw [hx] at he
        split at he
        · cases he
        · simp only at he
          split at he
          · cases he; simp
          · cases he
      · simp at hc
  | st sz a x => simp only [cls] at hc; (repeat' split at hc) <;> simp at hc
  | _ => simp [cls] at hc

section
variable {P : Program} {E : Env} {rec : Rec} {is : List I} {σ : Nat → Fr × Heap} {cs : List Cls} {B : Nat → Nat → Prop}
variable {T : Txt E rec is σ cs B} {μ0 μ μ' : Nat → Option Loc} {D0 D D' F0 F F' : Nat → Prop} {H0 : Heap} {w0 w w' : World} {n l : Nat} {S : Nat → Prop} {a : Act} {mix : Mx}

theorem draw_step (hE : EnvOk P E) (hrec : RecOk P rec) {ops : Array Oper} {o : Oper} {j : Nat} (hj : is[j]? = some (compI P mix ops o)) (hlt : ∀ d, o.dst = some d → d < n) (hS : ¬ S j) (hcl : ∀ i k, B k i → S k → S i) (hcl' : ∀ i, B j i → i ≠ j → S i)
    (h : Inv T μ0 D0 F0 H0 w0 n S l μ D F a w) (next : Act → World → Prop) (Q : Exit → Act → World → Prop) (hn : ∀ l' μ' D' F' a' w', Inv T μ0 D0 F0 H0 w0 n (fun i => S i ∨ i = j) l' μ' D' F' a' w' → next a' w') :
    if Region.wanted o (yielded ops a.tmps) then o.wp P a w next Q else next (a.put o.dst undef) w := by
  have hjl : j < is.length := (List.getElem?_eq_some_iff.1 hj).1
  obtain ⟨he, hc⟩ := T.step j _ hj
  have hfr := h.frame hj hS hcl hcl'
  have hdst : (compI P mix ops o).dst = o.dst := by unfold compI; split <;> rfl
  have hlt' : ∀ d, (compI P mix ops o).dst = some d → d < n := by rw [hdst]; exact hlt
  have hwant : wantedI (keep (compI P mix ops o).reads (σ j).1) (compI P mix ops o) = wantedI (σ j).1 (compI P mix ops o) := by
    unfold wantedI
    split
    · rfl
    · rename_i s b hg
      rw [keep_same _ _ _ (by unfold I.reads; rw [hg]; simp)]
  have hop := evO_same (E := E) (rec := rec) (H := (σ j).2) (op := (compI P mix ops o).op) (fr := keep (compI P mix ops o).reads (σ j).1) (fr' := (σ j).1) fun t ht => keep_same _ _ _ (by unfold I.reads; exact List.mem_append_right _ ht)
  generalize keep (compI P mix ops o).reads (σ j).1 = fr0 at hfr hwant hop
  rw [clsI_eq] at hc
  unfold evI at he
  rw [← hwant] at he hc
  rw [← hop.1] at he
  rw [← hop.2] at hc
  have stl : ∀ {v : V} {x : Value} {c : Cls}, cs[j]? = some c → c.loud = false → VR μ w F v x → (σ (j + 1)).1 = putD (σ j).1 (compI P mix ops o).dst v → next (a.put o.dst x) w := fun {v x c} h1 h2 h3 h4 => by
    have := h.still hj hlt' hS hcl hcl' h1 h2 h3 h4
    rw [hdst] at this
    exact hn _ _ _ _ _ _ this
  have main : ∀ {op : O} {g : Option (Nat × Bool)}, guardOf ops o = some g → (compI P mix ops o).grd = g → (compI P mix ops o).op = op → compO P mix o = some op → if Region.wanted o (yielded ops a.tmps) then o.wp P a w next Q else next (a.put o.dst undef) w := by
    intro op g hg hgi hopi hco
    rw [hopi] at he hc
    split at he
    · cases he
    · rename_i hw
      rw [wanted_ok hg hgi hw hfr]
      rw [hw] at hc
      simp only [Bool.false_eq_true, if_false]
      exact stl hc rfl .undef (congrArg Prod.fst (Option.some.inj he)).symm
    · rename_i hw
      rw [wanted_ok hg hgi hw hfr]
      rw [hw] at hc
      simp only [if_true]
      split at he
      · cases he
      · rename_i v H2 hev
        have e1 := (congrArg Prod.fst (Option.some.inj he)).symm
        have e2 : H2 = (σ (j + 1)).2 := congrArg Prod.snd (Option.some.inj he)
        subst e2
        simp only at hc e1
        cases hcc : cls E fr0 (σ j).2 op with
        | p =>
          rw [hcc] at hc
          obtain ⟨_, hd⟩ := op_still (D := fun _ => False) hco (cls_still hev (.inl hcc)) hev (fun id b hd => hd.elim) hfr fun id l hid => by rw [hcc] at hid; cases hid
          refine hd next Q fun x w' ⟨e, hv⟩ => ?_
          subst e
          exact stl hc rfl hv e1
        | rd id =>
          rw [hcc] at hc
          obtain ⟨_, hd⟩ := op_still hco (cls_still hev (.inr ⟨id, hcc⟩)) hev (h.rd hj hS hcl hcl' hc) hfr fun id' l hid hl hr => by
            rw [hcc] at hid; cases hid
            exact ⟨rfl, l, hl, hr⟩
          refine hd next Q fun x w' ⟨e, hv⟩ => ?_
          subst e
          exact stl hc rfl hv e1
        | q =>
          rw [hcc] at hc
          have hqa := h.q_at hS hcl hcl' hjl hc
          have hll := h.lt
          obtain ⟨Δ, hΔ⟩ := T.heap_pre j (l - j) (by omega) fun i c x y hi => hqa.2 i c x (by omega) hi
          rw [show j + (l - j) = l by omega] at hΔ
          have hrel : Rel μ (fun id => D id ∧ id < (σ j).2.length) F (σ j).2 w := by
            have := h.post.rel
            rw [hΔ] at this
            exact this.pre
          have hD : ∀ id L, id < (σ j).2.length → μ id = some L → L.real = true → D id ∧ id < (σ j).2.length := fun id L hid hL hr => ⟨(h.real id).2 ⟨by rw [hΔ]; simp; omega, L, hL, hr⟩, hid⟩
          have hhole := h.holes j hqa.1 hc hS
          have hdo : Does P o a w (Leaves μ (fun id => D id ∧ id < (σ j).2.length) F (σ j).2 w v (σ (j + 1)).2) := by
            cases hcall : op.isCall with
            | true => exact op_call hrec hE.prim hE.body hco hcall hev hrel hD hhole (.inl hcc) (fun id hid => ((h.real id).1 hid.1).2) hfr
            | false => exact op_heap hco (cls_not_still (.inl hcc)) hcall hev hrel hD (hhole _ (Nat.le_refl _) (q_grows hev hcc hcall)) hfr
          refine hdo next Q fun x w' ⟨μ', D', F', hp, hv⟩ => ?_
          obtain ⟨D'', hi⟩ := h.quiet hj hlt' hS hcl hcl' hc hp hv e1
          rw [hdst] at hi
          exact hn _ _ _ _ _ _ hi
        | f =>
          rw [hcc] at hc
          have hev2 := (evO_f hev hcc).2 (σ l).2
          have hm : Mem (fun _ _ _ _ _ => True) μ D F (σ l).2 w := ⟨trivial, h.post.rel, fun id L hid hL hr => (h.real id).2 ⟨hid, L, hL, hr⟩, fun id hid => ((h.real id).1 hid).2, h.fresh⟩
          refine op_any hE hrec hco hev2 hm hfr next Q fun x w' ⟨μ', D', F', hp, hv⟩ => ?_
          have hi := h.born hj hlt' hS hcl hcl' hc rfl (by simp [dynC]) hp hv e1
          rw [hdst] at hi
          exact hn _ _ _ _ _ _ hi
        | w b | l | x f =>
          have hloud : (dynC (σ j).2 (σ (j + 1)).2 (cls E fr0 (σ j).2 op)).loud = true := by rw [hcc]; rfl
          obtain ⟨ejl, _⟩ := h.w_at hS hcl' hjl hc hloud
          subst ejl
          have hm : Mem (fun _ _ _ _ _ => True) μ D F (σ j).2 w := ⟨trivial, h.post.rel, fun id L hid hL hr => (h.real id).2 ⟨hid, L, hL, hr⟩, fun id hid => ((h.real id).1 hid).2, h.fresh⟩
          refine op_any hE hrec hco hev hm hfr next Q fun x w' ⟨μ', D', F', hp, hv⟩ => ?_
          obtain ⟨l', hi⟩ := h.write hj hlt' hS hcl hcl' hc hloud hp hv e1
          rw [hdst] at hi
          exact hn _ _ _ _ _ _ hi
  cases hg : guardOf ops o with
  | none =>
    exfalso
    have : (compI P mix ops o).op = .bad ∧ (compI P mix ops o).grd = none := by unfold compI; rw [hg]; exact ⟨rfl, rfl⟩
    unfold wantedI at he
    rw [this.1, this.2] at he
    simp [evO] at he
  | some g =>
    cases hco : compO P mix o with
    | none =>
      have e1 : (compI P mix ops o).op = .bad := by unfold compI; rw [hg, hco]
      have e2 : (compI P mix ops o).grd = g := by unfold compI; rw [hg, hco]
      rw [e1] at he hc
      split at he
      · cases he
      · rename_i hw
        rw [wanted_ok hg e2 hw hfr]
        rw [hw] at hc
        simp only [Bool.false_eq_true, if_false]
        exact stl hc rfl .undef (congrArg Prod.fst (Option.some.inj he)).symm
      · simp [evO] at he
    | some op => exact main hg (by unfold compI; rw [hg, hco]) (by unfold compI; rw [hg, hco]) hco

theorem Inv.start (h : Rel μ D F H0 w) (hreal : ∀ id L, id < H0.length → μ id = some L → L.real = true → D id) (hdD : ∀ id, D id → ∃ L, μ id = some L ∧ L.real = true) (hf : ∀ id, H0.length ≤ id → μ id = none) {fr : Fr} (hσ : σ 0 = (fr, H0)) (hfr : FR μ w F n fr a) :
    ∃ l, Inv T μ D F H0 w n (fun _ => False) l μ D F a w := by
  obtain ⟨l, h1, h2, h3, h4⟩ := next_loud cs cs.length 0 (by omega)
  rw [T.len] at h2 h3
  have hpre : ∀ i, i ≤ l → ∃ Δ, (σ i).2 = H0 ++ Δ := fun i hi => by
    obtain ⟨Δ, e⟩ := T.heap_pre 0 i (by omega) fun k c x y hk => h4 k c x (by omega) hk
    rw [Nat.zero_add, hσ] at e
    exact ⟨Δ, e⟩
  obtain ⟨Δ, hΔ⟩ := hpre l (Nat.le_refl _)
  refine ⟨l, hfr.size, hfr.defers, fun t => ⟨0, Nat.zero_le _, fun i ins _ _ => ⟨fun s => s.elim, fun s => by omega⟩, by rw [hσ]; exact hfr.slot t⟩, h2, fun i c hi hl => ⟨fun s => s.elim, fun s => by rw [h4 i c (Nat.zero_le _) s hi] at hl; cases hl⟩, h3, hΔ ▸ (Post.refl h).ext hf Δ, fun id => ⟨fun hd => ⟨?_, hdD id hd⟩, fun ⟨hlt, L, hL, hr⟩ => ?_⟩, fun id hid => hf id ?_, fun i hi hq _ id x y => hf id ?_, fun i hi => ?_⟩
  · have := h.lt id hd; rw [hΔ]; simp; omega
  · rcases Nat.lt_or_ge id H0.length with c | c
    · exact hreal id L c hL hr
    · rw [hf id c] at hL; cases hL
  · rw [hΔ] at hid; simp at hid; omega
  · obtain ⟨Δ', e⟩ := hpre i (by omega)
    rw [e] at x; simp at x; omega
  · obtain ⟨Δ', e⟩ := hpre i hi
    rw [e]; simp

theorem Inv.done (h : Inv T μ0 D0 F0 H0 w0 n S l μ D F a w) (hS : ∀ i, i < is.length → S i) : l = is.length ∧ FR μ w F n (σ is.length).1 a := by
  have hl : l = is.length := by
    rcases Nat.eq_or_lt_of_le h.lt with e | e
    · exact e
    · obtain ⟨c, h1, h2⟩ := h.atl e
      have := (h.loud l c h1 h2).1 (hS l e)
      omega
  refine ⟨hl, h.size, h.defers, fun t => ?_⟩
  obtain ⟨m, h1, h2, h3⟩ := h.slot t
  have := T.slot_same t m (is.length - m) (by omega) fun i ins x y hi hd => by
    have := (h2 i ins hi hd).1 (hS i (by omega)); omega
  rw [show m + (is.length - m) = is.length by omega] at this
  rw [this]; exact h3

end


theorem slotsOk_spec {bits : List Nat} {is : List I} (h : slotsOk bits is = true) : ∀ (i j : Nat) a b d, is[i]? = some a → is[j]? = some b → a.dst = some d → (b.dst = some d ∨ d ∈ b.reads) → i ≠ j → (bits.getD (max i j) 0).testBit (min i j) = true := by
  intro i j a b d hi hj ha hb hne
  unfold slotsOk at h
  rw [List.all_eq_true] at h
  have h1 := h (a, i) (List.mk_mem_zipIdx_iff_getElem?.2 hi)
  simp only [ha, List.all_eq_true] at h1
  have h2 := h1 (b, j) (List.mk_mem_zipIdx_iff_getElem?.2 hj)
  simp only [Bool.or_eq_true, beq_iff_eq, Bool.not_eq_true', Bool.or_eq_false_iff] at h2
  rcases h2 with (h2 | h2) | h2
  · exact absurd h2 hne
  · exfalso
    rcases hb with hb | hb
    · rw [hb] at h2; simp at h2
    · have := h2.2; simp at this; exact this hb
  · exact h2

def unl (l : Array Bool) : Nat := l.toList.countP fun b => !b

theorem unl_set {l : Array Bool} {i : Nat} (h : l[i]? = some false) : unl l = unl (l.setIfInBounds i true) + 1 := by
  have hlt := (Array.getElem?_eq_some_iff.1 h).1
  have key : ∀ (xs : List Bool) (i : Nat), xs[i]? = some false → xs.countP (fun b => !b) = (xs.set i true).countP (fun b => !b) + 1 := by
    intro xs
    induction xs with
    | nil => intro i h; simp at h
    | cons x xs ih =>
      intro i h
      cases i with
      | zero => simp at h; subst h; simp
      | succ i =>
        simp only [List.getElem?_cons_succ] at h
        simp only [List.set_cons_succ, List.countP_cons]
        rw [ih i h]; omega
  unfold unl
  rw [Array.toList_setIfInBounds]
  exact key _ _ (by simpa using h)

theorem draw_ok {P : Program} {E : Env} (hE : EnvOk P E) (rec : Rec) (hrec : RecOk P rec) : DrawOk P E rec := by
  intro K gc mix n id ops fr fr' H H' cs a w Q hK hltn hedges hslots hmixed hev hdraw hsta hQ
  obtain ⟨σ, hσ0, hσN, hlen, hstep⟩ := evT_states _ _ _ _ hev
  obtain ⟨μ0, D0, F0, hm, hfr⟩ := hsta
  have hlenis : (ops.toList.map (compI P mix ops)).length = ops.size := by simp
  have T : Txt E rec (ops.toList.map (compI P mix ops)) σ cs fun j i => ((Region.before ops).toList.getD j 0).testBit i = true := by
    refine ⟨hlen, hstep, slotsOk_spec hslots, fun i j c d hij hc hd => ?_⟩
    have hj : j < (Region.before ops).toList.length := by
      have := (List.getElem?_eq_some_iff.1 hd).1
      rw [hlen, hlenis] at this
      rw [before_eq, Array.length_toList, bfold_size]; simpa using this
    have := okDraw_get 0 _ cs hdraw i j c d _ hij hc hd (List.getElem?_eq_getElem hj)
    rw [Nat.zero_add] at this
    rw [List.getD_eq_getElem?_getD, List.getElem?_eq_getElem hj]
    exact this
  have hm1 : Mem K μ0 D0 F0 H { w with drawn := w.drawn + 1 } := hm.post hK (Post.same hm.rel rfl rfl rfl rfl)
  have hfr1 : FR μ0 { w with drawn := w.drawn + 1 } F0 n fr a := hfr.mono (fun _ _ h => h) (fun _ _ => rfl) fun _ h => h
  generalize hw1 : ({ w with drawn := w.drawn + 1 } : World) = w1 at hm1 hfr1
  refine wp_region_any hmixed ?_
  rw [hw1]
  have main : ∀ (fuel : Nat) (listed : Array Bool) (l : Nat) (μ : Nat → Option Loc) (D F : Nat → Prop) (a : Act) (w : World), listed.size = ops.size → unl listed = fuel →
      (∀ j o, ops[j]? = some o → listed.getD j false = true → ∀ e ∈ o.after, Region.binds .any e = true → listed.getD e.on false = true) → Inv T μ0 D0 F0 H w1 n (fun i => listed.getD i false = true) l μ D F a w → wpAny P .any ops Q fuel listed a w := by
    intro fuel
    induction fuel with
    | zero =>
      intro listed l μ D F a w hsz hun hclo hinv
      have hall : ∀ i, i < ops.size → listed.getD i false = true := fun i hi => by
        have hi' : i < listed.toList.length := by simpa [hsz] using hi
        have h0 := List.countP_eq_zero.1 hun _ (List.getElem_mem hi')
        simp at h0
        simp [Array.getD_eq_getD_getElem?, hsz, hi, h0]
      refine ⟨?_, ?_⟩
      · rw [List.eq_nil_iff_forall_not_mem]
        intro j hj
        obtain ⟨h1, o, ho, _⟩ := mem_ready.1 hj
        have hjl := (Array.getElem?_eq_some_iff.1 ho).1
        have := hall j hjl
        simp [Array.getD_eq_getD_getElem?, hsz, hjl] at h1 this
        rw [h1] at this; cases this
      · obtain ⟨e, hfr2⟩ := hinv.done fun i hi => hall i (by rw [hlenis] at hi; exact hi)
        have hp := hinv.post
        rw [e, hσN] at hp
        rw [hσN] at hfr2
        exact hQ _ _ ⟨_, _, _, hm1.post hK hp, hfr2⟩
    | succ fuel ih =>
      intro listed l μ D F a w hsz hun hclo hinv
      refine ⟨fun hnil => ?_, fun j hj => ?_⟩
      · -- something is ready
        exfalso
        have hex : ∃ i, i < ops.size ∧ listed.getD i true = false := by
          have : 0 < listed.toList.countP fun b => !b := by unfold unl at hun; omega
          obtain ⟨b, hb, hb2⟩ := List.countP_pos_iff.1 this
          obtain ⟨i, hi, e⟩ := List.getElem_of_mem hb
          refine ⟨i, by simpa [hsz] using hi, ?_⟩
          have hi' : i < listed.size := by simpa using hi
          simp at hb2 e
          simp [Array.getD_eq_getD_getElem?, hi', e, hb2]
        have low : ∀ m i, i < m → i < ops.size → listed.getD i true = false → False := by
          intro m
          induction m with
          | zero => intro i hi; omega
          | succ m im =>
            intro i him hi hun
            have ho : ops[i]? = some ops[i] := Array.getElem?_eq_getElem hi
            have hnr : i ∉ Region.ready .any ops listed := by rw [hnil]; simp
            apply hnr
            refine mem_ready.2 ⟨hun, _, ho, fun e he hb => ?_⟩
            have hon : e.on < i := by
              unfold edgesOk at hedges
              rw [List.all_eq_true] at hedges
              have := hedges (ops[i], i) (List.mk_mem_zipIdx_iff_getElem?.2 (by simp [ho]))
              rw [Array.all_eq_true_iff_forall_mem] at this
              have := this e he
              rw [hb] at this
              simpa using this
            cases hl : listed.getD e.on false with
            | true => rfl
            | false =>
              exfalso
              refine im e.on (by omega) (by omega) ?_
              have : e.on < listed.size := by omega
              simp [Array.getD_eq_getD_getElem?, this] at hl ⊢
              exact hl
        obtain ⟨i, hi, hu⟩ := hex
        exact low (i + 1) i (by omega) hi hu
      · obtain ⟨h0, o, ho, hafter⟩ := mem_ready.1 hj
        have hjl := (Array.getElem?_eq_some_iff.1 ho).1
        have hget : listed[j]? = some false := by
          have hj' : j < listed.size := by omega
          simp [Array.getD_eq_getD_getElem?, hj'] at h0 ⊢
          exact h0
        have hS : ¬ (listed.getD j false = true) := by
          rw [Array.getD_eq_getD_getElem?, hget]; simp
        have hset : ∀ i, (listed.setIfInBounds j true).getD i false = true ↔ listed.getD i false = true ∨ i = j := fun i => by
          by_cases e : i = j
          · subst e
            have : i < listed.size := by omega
            simp [this]
          · rw [getD_set_ne false (Ne.symm e)]
            exact ⟨.inl, fun s => s.elim (fun x => x) fun x => absurd x e⟩
        have hclo' : ∀ k o, ops[k]? = some o → (listed.setIfInBounds j true).getD k false = true → ∀ e ∈ o.after, Region.binds .any e = true → (listed.setIfInBounds j true).getD e.on false = true := fun k o' hk hlk e he hb => by
          rcases (hset k).1 hlk with c | c
          · exact getD_set_true (hclo k o' hk c e he hb)
          · subst c; rw [ho] at hk; cases hk
            exact getD_set_true (hafter e he hb)
        unfold wpOp
        rw [ho]
        have hcl : ∀ i k, ((Region.before ops).toList.getD k 0).testBit i = true → listed.getD k false = true → listed.getD i false = true := fun i k hb hk => before_closed (S := fun i => listed.getD i false = true) hclo hb hk
        have hcl' : ∀ i, ((Region.before ops).toList.getD j 0).testBit i = true → i ≠ j → listed.getD i false = true := fun i hb hne => by
          have := before_closed (S := fun i => (listed.setIfInBounds j true).getD i false = true) hclo' hb ((hset j).2 (.inr rfl))
          exact ((hset i).1 this).resolve_right hne
        have hstep2 := draw_step (T := T) (mix := mix) hE hrec (ops := ops) (o := o) (j := j) (by rw [List.getElem?_map]; simp [ho]) (ltN_ok hltn rfl o (by simpa using Array.mem_of_getElem? ho)) hS hcl hcl' hinv (wpAny P .any ops Q fuel (listed.setIfInBounds j true)) Q fun l' μ' D' F' a' w' hi => by
          refine ih _ l' μ' D' F' a' w' (by simpa using hsz) (by have := unl_set hget; omega) hclo' ?_
          have : (fun i => listed.getD i false = true ∨ i = j) = fun i => (listed.setIfInBounds j true).getD i false = true := funext fun i => propext (hset i).symm
          rw [this] at hi
          exact hi
        simp only
        split
        · rename_i hw; rw [if_pos hw] at hstep2; exact .inl hstep2
        · rename_i hw; rw [if_neg hw] at hstep2; exact hstep2
  obtain ⟨l, hinv⟩ := Inv.start (T := T) hm1.rel hm1.hD hm1.dD hm1.fresh hσ0 hfr1
  refine main _ _ l μ0 D0 F0 a w1 (by simp) ?_ (fun j o _ hlj => ?_) ?_
  · unfold unl
    rw [Array.toList_replicate, List.countP_replicate]; simp
  · exfalso; rw [Array.getD_eq_getD_getElem?, Array.getElem?_replicate] at hlj; split at hlj <;> simp at hlj
  · have : (fun i => (Array.replicate ops.size false).getD i false = true) = fun _ => False := funext fun i => propext ⟨fun h => by rw [Array.getD_eq_getD_getElem?, Array.getElem?_replicate] at h; split at h <;> simp at h, fun h => h.elim⟩
    rw [this]
    exact hinv
theorem sound {P : Program} {E : Env} (hE : EnvOk P E) (k : Nat) : RecOk P (run E k) := run_ok hE (fun k h => draw_ok hE (run E k) h) k

end Go.Proofs.Ytanlmanifpknoaa.Ev
namespace Go.Proofs.Ytanlmanifpknoaa.Ev
open Go Go.RowKit
set_option linter.unusedVariables false
set_option linter.unusedSimpArgs false

def RecLe (r r' : Rec) : Prop := ∀ f args H x, r f args H = some x → r' f args H = some x

section
variable {E : Env} {r r' : Rec}

theorem callM_mono {m : Mode} {g g' : List V → Heap → Option (V × Heap)} (h : ∀ args H x, g args H = some x → g' args H = some x) {args : List V} {H : Heap} {x : V × Heap} (he : callM m g args H = some x) : callM m g' args H = some x := by
  unfold callM at *
  split at he
  · exact h _ _ _ he
  · split at he
    · cases he
    · exact h _ _ _ he
  · split at he
    · cases he
    · split at he
      · cases he
      · rename_i v H1 h1
        rw [h _ _ _ h1]; exact he
  · split at he
    · cases he
    · split at he
      · cases he
      · rename_i v H1 h1
        rw [h _ _ _ h1]; exact he

theorem evCall_mono (h : RecLe r r') {f : FuncId} {args : List V} {H : Heap} {x : V × Heap} (he : evCall E r f args H = some x) : evCall E r' f args H = some x := by
  unfold evCall at *
  split at he
  · cases he
  · exact he
  · exact callM_mono (h f) he

theorem evO_mono (h : RecLe r r') {fr : Fr} {H : Heap} {op : O} {x : V × Heap} (he : evO E r fr H op = some x) : evO E r' fr H op = some x := by
  cases op with
  | call f as => exact evCall_mono h he
  | callv f as =>
    simp only [evO] at he ⊢
    split at he
    · exact evCall_mono h he
    · exact evCall_mono h he
    · cases he
  | bsl m sz n z ps => cases m <;> exact he
  | app m sz x y => cases m <;> exact he
  | _ => exact he

theorem evI_mono (h : RecLe r r') {s s' : Fr × Heap} {i : I} (he : evI E r s i = some s') : evI E r' s i = some s' := by
  unfold evI at *
  split at he
  · cases he
  · exact he
  · split at he
    · cases he
    · rename_i v H h1
      rw [evO_mono h h1]; exact he

theorem evIs_mono (h : RecLe r r') : ∀ {is : List I} {s s' : Fr × Heap}, evIs E r is s = some s' → evIs E r' is s = some s'
  | [], s, s', he => he
  | i :: is, s, s', he => by
    simp only [evIs] at *
    split at he
    · cases he
    · rename_i s1 h1
      rw [evI_mono h h1]; exact evIs_mono h he

theorem evT_mono (h : RecLe r r') : ∀ {is : List I} {s : Fr × Heap} {x}, evT E r is s = some x → evT E r' is s = some x
  | [], s, x, he => he
  | i :: is, s, x, he => by
    simp only [evT] at *
    split at he
    · cases he
    · rename_i s1 h1
      rw [evI_mono h h1]
      split at he
      · cases he
      · rename_i s2 cs h2
        simp only [evT_mono h h2]; exact he

theorem iter_mono {gc : Bool} {live : List Nat} {g g' : Fr × Heap → Option Out} (h : ∀ s x, g s = some x → g' s = some x) : ∀ {n n' : Nat} {s : Fr × Heap} {x : Out}, n ≤ n' → iter gc live g n s = some x → iter gc live g' n' s = some x
  | 0, _, _, _, _, he => by simp [iter] at he
  | n + 1, 0, _, _, hn, _ => by omega
  | n + 1, n' + 1, s, x, hn, he => by
    simp only [iter] at *
    cases hg : g s with
    | none => simp [hg] at he
    | some y =>
      rw [hg] at he
      rw [h s y hg]
      obtain ⟨e, s'⟩ := y
      cases e with
      | norm => exact iter_mono h (by omega) he
      | exit id => exact he
      | ret => exact he

theorem exec_mono (h : RecLe r r') {n n' : Nat} (hn : n ≤ n') : ∀ {c : C} {s : Fr × Heap} {x : Out}, exec E r n c s = some x → exec E r' n' c s = some x := by
  intro c
  induction c with
  | skip => intro s x he; exact he
  | reg d bits is =>
    intro s x he
    cases d with
    | false =>
      simp only [exec] at *
      split at he
      · cases he
      · rename_i s' h1
        rw [evIs_mono h h1]; exact he
    | true =>
      simp only [exec] at *
      split at he
      · cases he
      · rename_i s' cs h1
        rw [evT_mono h h1]; exact he
  | seq a b ia ib =>
    intro s x he
    simp only [exec] at *
    cases ha : exec E r n a s with
    | none => simp [ha] at he
    | some y =>
      rw [ha] at he
      rw [ia ha]
      obtain ⟨e, s'⟩ := y
      cases e with
      | norm => exact ib he
      | exit id => exact he
      | ret => exact he
  | cond c a b ia ib =>
    intro s x he
    simp only [exec] at *
    split at he
    · rename_i t ht
      cases t with
      | true => exact ia he
      | false => exact ib he
    · cases he
  | block id c ic =>
    intro s x he
    simp only [exec] at *
    cases hc : exec E r n c s with
    | none => simp [hc] at he
    | some y =>
      rw [hc] at he
      rw [ic hc]
      exact he
  | loop gc live c ic =>
    intro s x he
    simp only [exec] at *
    exact iter_mono (fun s x => ic) hn he
  | exit id => intro s x he; exact he
  | ret => intro s x he; exact he
  | bad => intro s x he; exact he

theorem run_succ : ∀ k, RecLe (run E k) (run E (k + 1))
  | 0 => fun f args H x he => by simp [run] at he
  | k + 1 => fun f args H x he => by
    simp only [run] at he
    rw [run]
    split at he
    · rename_i F hF
      split at he
      · rename_i hc
        simp only [hF]
        rw [if_pos hc]
        split at he
        · rename_i fr H1 h1
          rw [exec_mono (run_succ k) (Nat.le_succ k) h1]; exact he
        · rename_i fr H1 h1
          rw [exec_mono (run_succ k) (Nat.le_succ k) h1]; exact he
        · cases he
      · cases he
    · cases he

theorem run_mono {k k' : Nat} (h : k ≤ k') : RecLe (run E k) (run E k') := by
  induction h with
  | refl => exact fun _ _ _ _ h => h
  | step h ih => exact fun f args H x he => run_succ _ f args H x (ih f args H x he)

end
noncomputable def den (E : Env) : Rec := fun f args H => open Classical in if h : ∃ x, ∃ k, run E k f args H = some x then some h.choose else none
noncomputable def execD (E : Env) (c : C) (s : Fr × Heap) : Option Out := open Classical in if h : ∃ x, ∃ k, exec E (run E k) k c s = some x then some h.choose else none

section
variable {E : Env}

theorem run_det {f : FuncId} {args : List V} {H : Heap} {k k' : Nat} {x x' : V × Heap} (h : run E k f args H = some x) (h' : run E k' f args H = some x') : x = x' := by
  have h1 := run_mono (Nat.le_max_left k k') f args H x h
  have h2 := run_mono (Nat.le_max_right k k') f args H x' h'
  rw [h1] at h2; exact Option.some.inj h2

theorem den_iff {f : FuncId} {args : List V} {H : Heap} {x : V × Heap} : den E f args H = some x ↔ ∃ k, run E k f args H = some x := by
  unfold den
  constructor
  · intro h
    split at h
    · rename_i hx
      obtain ⟨k, hk⟩ := hx.choose_spec
      exact ⟨k, by rw [hk]; exact h⟩
    · cases h
  · rintro ⟨k, hk⟩
    have hx : ∃ x, ∃ k, run E k f args H = some x := ⟨x, k, hk⟩
    rw [dif_pos hx]
    obtain ⟨k', hk'⟩ := hx.choose_spec
    rw [run_det hk' hk]

theorem execD_iff {c : C} {s : Fr × Heap} {x : Out} : execD E c s = some x ↔ ∃ k, exec E (run E k) k c s = some x := by
  have det : ∀ {k k' x x'}, exec E (run E k) k c s = some x → exec E (run E k') k' c s = some x' → x = x' := fun {k k' x x'} h h' => by
    have h1 := exec_mono (run_mono (Nat.le_max_left k k')) (Nat.le_max_left k k') h
    have h2 := exec_mono (run_mono (Nat.le_max_right k k')) (Nat.le_max_right k k') h'
    rw [h1] at h2; exact Option.some.inj h2
  unfold execD
  constructor
  · intro h
    split at h
    · rename_i hx
      obtain ⟨k, hk⟩ := hx.choose_spec
      exact ⟨k, by rw [hk]; exact h⟩
    · cases h
  · rintro ⟨k, hk⟩
    have hx : ∃ x, ∃ k, exec E (run E k) k c s = some x := ⟨x, k, hk⟩
    rw [dif_pos hx]
    obtain ⟨k', hk'⟩ := hx.choose_spec
    rw [det hk' hk]

theorem run_le_den (k : Nat) : RecLe (run E k) (den E) := fun f args H x h => den_iff.2 ⟨k, h⟩

theorem callM_lim {m : Mode} {f : FuncId} {args : List V} {H : Heap} {x : V × Heap} (he : callM m (den E f) args H = some x) : ∃ k, callM m (run E k f) args H = some x := by
  unfold callM at he
  split at he
  · obtain ⟨k, hk⟩ := den_iff.1 he
    exact ⟨k, hk⟩
  · split at he
    · cases he
    · rename_i as l h1
      obtain ⟨k, hk⟩ := den_iff.1 he
      exact ⟨k, by unfold callM; simp only [h1]; exact hk⟩
  · split at he
    · cases he
    · rename_i ts l h1
      split at he
      · cases he
      · rename_i v H1 h2
        obtain ⟨k, hk⟩ := den_iff.1 h2
        exact ⟨k, by unfold callM; simp only [h1, hk]; exact he⟩
  · split at he
    · cases he
    · rename_i ts l h1
      split at he
      · cases he
      · rename_i v H1 h2
        obtain ⟨k, hk⟩ := den_iff.1 h2
        exact ⟨k, by unfold callM; simp only [h1, hk]; exact he⟩

theorem evCall_lim {f : FuncId} {args : List V} {H : Heap} {x : V × Heap} (he : evCall E (den E) f args H = some x) : ∃ k, evCall E (run E k) f args H = some x := by
  unfold evCall at he
  split at he
  · cases he
  · rename_i m s hs
    exact ⟨0, by unfold evCall; rw [hs]; exact he⟩
  · rename_i F hF
    obtain ⟨k, hk⟩ := callM_lim he
    exact ⟨k, by unfold evCall; rw [hF]; exact hk⟩

theorem evO_lim {fr : Fr} {H : Heap} {op : O} {x : V × Heap} (he : evO E (den E) fr H op = some x) : ∃ k, evO E (run E k) fr H op = some x := by
  cases op with
  | call f as => exact evCall_lim he
  | callv f as =>
    simp only [evO] at he ⊢
    split at he
    · exact evCall_lim he
    · exact evCall_lim he
    · cases he
  | bsl m sz n z ps => cases m <;> exact ⟨0, he⟩
  | app m sz x y => cases m <;> exact ⟨0, he⟩
  | _ => exact ⟨0, he⟩

theorem evI_lim {s s' : Fr × Heap} {i : I} (he : evI E (den E) s i = some s') : ∃ k, evI E (run E k) s i = some s' := by
  unfold evI at *
  split at he
  · cases he
  · exact ⟨0, he⟩
  · split at he
    · cases he
    · rename_i v H h1
      obtain ⟨k, hk⟩ := evO_lim h1
      exact ⟨k, by rw [hk]; exact he⟩

theorem evIs_lim : ∀ {is : List I} {s s' : Fr × Heap}, evIs E (den E) is s = some s' → ∃ k, evIs E (run E k) is s = some s'
  | [], s, s', he => ⟨0, he⟩
  | i :: is, s, s', he => by
    simp only [evIs] at he
    split at he
    · cases he
    · rename_i s1 h1
      obtain ⟨k1, hk1⟩ := evI_lim h1
      obtain ⟨k2, hk2⟩ := evIs_lim he
      exact ⟨max k1 k2, by simp only [evIs]; rw [evI_mono (run_mono (Nat.le_max_left k1 k2)) hk1]; exact evIs_mono (run_mono (Nat.le_max_right k1 k2)) hk2⟩

theorem evT_lim : ∀ {is : List I} {s : Fr × Heap} {x}, evT E (den E) is s = some x → ∃ k, evT E (run E k) is s = some x
  | [], s, x, he => ⟨0, he⟩
  | i :: is, s, x, he => by
    simp only [evT] at he
    split at he
    · cases he
    · rename_i s1 h1
      split at he
      · cases he
      · rename_i s2 cs h2
        obtain ⟨k1, hk1⟩ := evI_lim h1
        obtain ⟨k2, hk2⟩ := evT_lim h2
        exact ⟨max k1 k2, by simp only [evT]; rw [evI_mono (run_mono (Nat.le_max_left k1 k2)) hk1]; simp only [evT_mono (run_mono (Nat.le_max_right k1 k2)) hk2]; exact he⟩


def andN (r : Option Out) (f : Fr × Heap → Option Out) : Option Out :=
  match r with
  | some (.norm, s) => f s
  | r => r

theorem opt_ext {α : Type} {a b : Option α} (h : ∀ x, a = some x ↔ b = some x) : a = b := by
  cases a with
  | none => cases b with
    | none => rfl
    | some y => have := (h y).2 rfl; cases this
  | some x => exact ((h x).1 rfl).symm

theorem execD_skip (s : Fr × Heap) : execD E .skip s = some (.norm, s) := execD_iff.2 ⟨0, rfl⟩
theorem execD_exit (id : Nat) (s : Fr × Heap) : execD E (.exit id) s = some (.exit id, s) := execD_iff.2 ⟨0, rfl⟩
theorem execD_ret (s : Fr × Heap) : execD E .ret s = some (.ret, s) := execD_iff.2 ⟨0, rfl⟩

theorem execD_reg (bits : List Nat) (is : List I) (s : Fr × Heap) : execD E (.reg false bits is) s = match evIs E (den E) is s with | none => none | some s' => some (.norm, s') := by
  refine opt_ext fun x => ?_
  rw [execD_iff]
  constructor
  · rintro ⟨k, hk⟩
    simp only [exec] at hk
    split at hk
    · cases hk
    · rename_i s' h1
      rw [evIs_mono (run_le_den k) h1]; exact hk
  · intro h
    split at h
    · cases h
    · rename_i s' h1
      obtain ⟨k, hk⟩ := evIs_lim h1
      exact ⟨k, by simp only [exec, hk]; exact h⟩

theorem execD_draw (bits : List Nat) (is : List I) (s : Fr × Heap) : execD E (.reg true bits is) s = match evT E (den E) is s with | none => none | some (s', cs) => if okDraw 0 bits cs then some (.norm, s') else none := by
  refine opt_ext fun x => ?_
  rw [execD_iff]
  constructor
  · rintro ⟨k, hk⟩
    simp only [exec] at hk
    split at hk
    · cases hk
    · rename_i s' cs h1
      rw [evT_mono (run_le_den k) h1]; exact hk
  · intro h
    split at h
    · cases h
    · rename_i s' cs h1
      obtain ⟨k, hk⟩ := evT_lim h1
      exact ⟨k, by simp only [exec, hk]; exact h⟩

theorem execD_seq (a b : C) (s : Fr × Heap) : execD E (.seq a b) s = andN (execD E a s) (execD E b) := by
  refine opt_ext fun x => ?_
  rw [execD_iff]
  constructor
  · rintro ⟨k, hk⟩
    simp only [exec] at hk
    cases ha : exec E (run E k) k a s with
    | none => simp [ha] at hk
    | some y =>
      rw [execD_iff.2 ⟨k, ha⟩]
      rw [ha] at hk
      obtain ⟨e, s'⟩ := y
      cases e with
      | norm => exact execD_iff.2 ⟨k, hk⟩
      | exit id => exact hk
      | ret => exact hk
  · intro h
    cases ha : execD E a s with
    | none => simp [ha, andN] at h
    | some y =>
      rw [ha] at h
      obtain ⟨k, hk⟩ := execD_iff.1 ha
      obtain ⟨e, s'⟩ := y
      cases e with
      | norm =>
        obtain ⟨k2, hk2⟩ := execD_iff.1 (show execD E b s' = some x from h)
        exact ⟨max k k2, by simp only [exec, exec_mono (run_mono (Nat.le_max_left k k2)) (Nat.le_max_left k k2) hk]; exact exec_mono (run_mono (Nat.le_max_right k k2)) (Nat.le_max_right k k2) hk2⟩
      | exit id => exact ⟨k, by simp only [exec, hk]; exact h⟩
      | ret => exact ⟨k, by simp only [exec, hk]; exact h⟩

theorem execD_cond (c : A) (a b : C) (s : Fr × Heap) {t : Bool} (h : c.ev s.1 = .t (.bool t)) : execD E (.cond c a b) s = if t then execD E a s else execD E b s := by
  refine opt_ext fun x => ?_
  rw [execD_iff]
  simp only [exec, h]
  cases t with
  | true => simp only [if_true]; rw [execD_iff]
  | false => simp only [Bool.false_eq_true, if_false]; rw [execD_iff]

theorem execD_cond' (c : A) (a b : C) (s : Fr × Heap) : execD E (.cond c a b) s = match c.ev s.1 with | .t (.bool t) => if t then execD E a s else execD E b s | _ => none := by
  split
  · rename_i t h; exact execD_cond c a b s h
  · rename_i h
    refine opt_ext fun x => ?_
    rw [execD_iff]
    refine ⟨fun ⟨k, hk⟩ => ?_, fun h => by cases h⟩
    simp only [exec] at hk
    cases hk

def outB (id : Nat) (r : Option Out) : Option Out :=
  match r with
  | some (.exit j, s) => if j = id then some (.norm, s) else some (.exit j, s)
  | r => r

theorem execD_block (id : Nat) (c : C) (s : Fr × Heap) : execD E (.block id c) s = outB id (execD E c s) := by
  refine opt_ext fun x => ?_
  rw [execD_iff]
  constructor
  · rintro ⟨k, hk⟩
    simp only [exec] at hk
    cases hc : exec E (run E k) k c s with
    | none => simp [hc] at hk
    | some y =>
      rw [execD_iff.2 ⟨k, hc⟩]
      rw [hc] at hk
      exact hk
  · intro h
    cases hc : execD E c s with
    | none => simp [hc, outB] at h
    | some y =>
      rw [hc] at h
      obtain ⟨k, hk⟩ := execD_iff.1 hc
      exact ⟨k, by simp only [exec, hk]; exact h⟩

theorem execD_loop (gc : Bool) (live : List Nat) (c : C) (s : Fr × Heap) : execD E (.loop gc live c) s = andN (execD E c (gcFr gc live s)) (execD E (.loop gc live c)) := by
  refine opt_ext fun x => ?_
  rw [execD_iff]
  constructor
  · rintro ⟨k, hk⟩
    simp only [exec] at hk
    cases k with
    | zero => simp [iter] at hk
    | succ k =>
      simp only [iter] at hk
      cases hc : exec E (run E (k + 1)) (k + 1) c (gcFr gc live s) with
      | none => simp [hc] at hk
      | some y =>
        rw [execD_iff.2 ⟨k + 1, hc⟩]
        rw [hc] at hk
        obtain ⟨e, s'⟩ := y
        cases e with
        | norm =>
          refine execD_iff.2 ⟨k + 1, ?_⟩
          simp only [exec]
          exact iter_mono (fun _ _ h => h) (Nat.le_succ k) hk
        | exit id => exact hk
        | ret => exact hk
  · intro h
    cases hc : execD E c (gcFr gc live s) with
    | none => simp [hc, andN] at h
    | some y =>
      rw [hc] at h
      obtain ⟨k, hk⟩ := execD_iff.1 hc
      obtain ⟨e, s'⟩ := y
      cases e with
      | norm =>
        obtain ⟨k2, hk2⟩ := execD_iff.1 (show execD E (.loop gc live c) s' = some x from h)
        refine ⟨max k k2 + 1, ?_⟩
        simp only [exec] at hk2 ⊢
        simp only [iter]
        rw [exec_mono (run_mono (Nat.le_succ_of_le (Nat.le_max_left k k2))) (Nat.le_succ_of_le (Nat.le_max_left k k2)) hk]
        exact iter_mono (fun s x h => exec_mono (run_mono (Nat.le_succ_of_le (Nat.le_max_right k k2))) (Nat.le_succ_of_le (Nat.le_max_right k k2)) h) (Nat.le_max_right k k2) hk2
      | exit id => exact ⟨k + 1, by simp only [exec, iter]; rw [exec_mono (run_mono (Nat.le_succ k)) (Nat.le_succ k) hk]; exact h⟩
      | ret => exact ⟨k + 1, by simp only [exec, iter]; rw [exec_mono (run_mono (Nat.le_succ k)) (Nat.le_succ k) hk]; exact h⟩
def endO (res : List R) : Option Out → Option (V × Heap)
  | some (.norm, fr, H) => match resV fr H res with | some vs => some (resOf vs, H) | none => none
  | some (.ret, fr, H) => match resV fr H res with | some vs => some (resOf vs, H) | none => none
  | _ => none

theorem den_ir {f : FuncId} {F : Fn} (hE : E f = some (.ir F)) (args : List V) (H : Heap) (hl : args.length = F.nargs) (hH : (F.mode == .own || F.mode == .ownF) = false ∨ H.length = 0) :
    den E f args H = endO F.res (execD E F.body (frameOf 0 args, H)) := by
  refine opt_ext fun x => ?_
  rw [den_iff]
  constructor
  · rintro ⟨k, hk⟩
    cases k with
    | zero => simp [run] at hk
    | succ k =>
      simp only [run, hE, hl, hH, and_self, if_true] at hk
      split at hk
      · rename_i fr H1 h1
        rw [execD_iff.2 ⟨k, h1⟩]; exact hk
      · rename_i fr H1 h1
        rw [execD_iff.2 ⟨k, h1⟩]; exact hk
      · cases hk
  · intro h
    cases hc : execD E F.body (frameOf 0 args, H) with
    | none => simp [hc, endO] at h
    | some y =>
      rw [hc] at h
      obtain ⟨k, hk⟩ := execD_iff.1 hc
      refine ⟨k + 1, ?_⟩
      simp only [run, hE, hl, hH, and_self, if_true, hk]
      obtain ⟨e, fr, H1⟩ := y
      cases e with
      | norm => exact h
      | exit id => cases h
      | ret => exact h
theorem loop_to {gc : Bool} {live : List Nat} {c : C} (st : Nat → Fr × Heap) (n : Nat) (h : ∀ i, i < n → execD E c (gcFr gc live (st i)) = some (.norm, st (i + 1))) : execD E (.loop gc live c) (st 0) = execD E (.loop gc live c) (st n) := by
  induction n with
  | zero => rfl
  | succ n ih =>
    rw [ih fun i hi => h i (by omega), execD_loop, h n (by omega)]; rfl

end
theorem den_sound {P : Program} {E : Env} (hE : EnvOk P E) : RecOk P (den E) := fun f args H v H' h => by
  obtain ⟨k, hk⟩ := den_iff.1 h
  exact sound hE k f args H v H' hk

end Go.Proofs.Ytanlmanifpknoaa.Ev
namespace Go.Proofs.Ytanlmanifpknoaa.Ev
open Go Go.RowKit
set_option linter.unusedVariables false
set_option linter.unusedSimpArgs false
noncomputable def loopF (E : Env) (gc : Bool) (live : List Nat) (c : C) (s : Fr × Heap) : Option Out := andN (execD E c s) (fun s' => execD E (.loop gc live c) s')

theorem execD_loopF {E : Env} (gc : Bool) (live : List Nat) (c : C) (s : Fr × Heap) : execD E (.loop gc live c) s = loopF E gc live c (gcFr gc live s) := execD_loop gc live c s
theorem loopF_eq {E : Env} (gc : Bool) (live : List Nat) (c : C) (s : Fr × Heap) : loopF E gc live c s = andN (execD E c s) (fun s' => loopF E gc live c (gcFr gc live s')) := by
  show andN (execD E c s) (fun s' => execD E (.loop gc live c) s') = _
  congr 1
  exact funext fun s' => execD_loopF gc live c s'

noncomputable def loopK (E : Env) (gc : Bool) (live : List Nat) (c : C) (s : Fr × Heap) : Option Out := loopF E gc live c (gcFr gc live s)
@[simp] theorem loopK_eq {E : Env} (gc : Bool) (live : List Nat) (c : C) (fr : Fr) (H : Heap) : loopK E gc live c (fr, H) = loopF E gc live c (gcFr gc live (fr, H)) := rfl
theorem loopF_K {E : Env} (gc : Bool) (live : List Nat) (c : C) (s : Fr × Heap) : loopF E gc live c s = andN (execD E c s) (loopK E gc live c) := loopF_eq gc live c s

@[reducible] def ti (n : Int) : T := .int .i64 n
@[reducible] def tb (b : Bool) : T := .bool b
def til (l : List Int) : List T := l.map fun n => .int .i64 n
@[reducible] def tl (l : List Int) : T := .lst 1 (til l)
theorem tl_eq (l : List Int) : tl l = .lst 1 (til l) := rfl
theorem til_length (l : List Int) : (til l).length = l.length := by simp [til]
theorem til_get (l : List Int) (i : Nat) : (til l)[i]? = l[i]?.map fun n => .int .i64 n := by simp [til]
theorem til_getE (l : List Int) (i : Nat) (h : i < (til l).length) : (til l)[i] = .int .i64 (l[i]'(by simpa [til] using h)) := by simp [til]
theorem til_append (a b : List Int) : til (a ++ b) = til a ++ til b := by simp [til]
theorem til_nil : til [] = [] := rfl
theorem til_cons (x : Int) (l : List Int) : til (x :: l) = .int .i64 x :: til l := rfl
theorem til_drop (l : List Int) (n : Nat) : (til l).drop n = til (l.drop n) := by simp [til, List.map_drop]
theorem til_take (l : List Int) (n : Nat) : (til l).take n = til (l.take n) := by simp [til, List.map_take]
theorem til_set (l : List Int) (n : Nat) (x : Int) : (til l).set n (.int .i64 x) = til (l.set n x) := by simp [til, List.map_set]
theorem til_replicate (n : Nat) (x : Int) : List.replicate n (T.int .i64 x) = til (List.replicate n x) := by simp [til]
theorem til_flat (l : List Int) : (til l).all T.flat = true := by simp [til, T.flat, T.sc]
noncomputable def ownR (E : Env) (f : FuncId) (ts : List T) : Option (V × Heap) :=
  match den E f (ts.map .t) [] with
  | none => none
  | some (v, H1) => if (gcV v H1).1.flat && (gcV v H1).2.all Blk.flat then some (gcV v H1) else none
noncomputable def ownFR (E : Env) (f : FuncId) (ts : List T) : Option (V × Heap) :=
  match den E f (ts.map .t) [] with
  | none => none
  | some (v, H1) => some (gcV v H1)

def ownIn (r : Option (V × Heap)) (H : Heap) : Option (V × Heap) :=
  match r with
  | none => none
  | some (v, H2) => some (v.ren (fun i => some (H.length + i)), H ++ H2.map (Blk.ren fun i => some (H.length + i)))

def ownC (g : List T → Option (V × Heap)) (H : Heap) (args : Option (List T × List (Nat × Blk))) : Option (V × Heap) :=
  match args with
  | none => none
  | some (ts, _) => ownIn (g ts) H
def ownFC (g : List T → Option (V × Heap)) (H : Heap) (args : Option (List T × List (Nat × Blk))) : Option (V × Heap) :=
  match args with
  | none => none
  | some (ts, l) => match g ts with
    | none => none
    | some (v, H2) => some (v.ren (fun i => some (H.length + i)), frz H l ++ H2.map (Blk.ren fun i => some (H.length + i)))

theorem call_own {E : Env} {f : FuncId} {F : Fn} (hE : E f = some (.ir F)) (hm : F.mode = .own) (args : List V) (H : Heap) : evCall E (den E) f args H = ownC (ownR E f) H (rdL (rd H depth) args) := by
  unfold evCall ownC ownIn ownR
  simp only [hE, hm, callM]
  cases rdL (rd H depth) args with
  | none => rfl
  | some p =>
    obtain ⟨ts, l⟩ := p
    simp only
    cases den E f (ts.map .t) [] with
    | none => rfl
    | some q =>
      obtain ⟨v, H1⟩ := q
      simp only
      by_cases hc : ((gcV v H1).1.flat && (gcV v H1).2.all Blk.flat) = true
      · simp only [hc, if_true]
      · simp only [hc, if_false, Bool.false_eq_true]
theorem call_ownF {E : Env} {f : FuncId} {F : Fn} (hE : E f = some (.ir F)) (hm : F.mode = .ownF) (args : List V) (H : Heap) : evCall E (den E) f args H = ownFC (ownFR E f) H (rdL (rd H depth) args) := by
  unfold evCall ownFC ownFR
  simp only [hE, hm, callM]
  cases rdL (rd H depth) args with
  | none => rfl
  | some p =>
    obtain ⟨ts, l⟩ := p
    simp only
    cases den E f (ts.map .t) [] with
    | none => rfl
    | some q => rfl
def refC2 (g : List V → Heap → Option (V × Heap)) (H : Heap) (args : Option (List V × List (Nat × Blk))) : Option (V × Heap) :=
  match args with
  | none => none
  | some (as, l) => g as (frz H l)
theorem call_ref {E : Env} {f : FuncId} {F : Fn} (hE : E f = some (.ir F)) (hm : F.mode = .ref) (args : List V) (H : Heap) : evCall E (den E) f args H = refC2 (den E f) H (callM.rdArgs H args) := by
  unfold evCall refC2
  simp only [hE, hm, callM]
  cases callM.rdArgs H args <;> rfl
theorem call_refM {E : Env} {f : FuncId} {F : Fn} (hE : E f = some (.ir F)) (hm : F.mode = .refM) (args : List V) (H : Heap) : evCall E (den E) f args H = den E f args H := by
  unfold evCall
  simp only [hE, hm, callM]
def primR (s : Prim) (ts : List T) : Option (V × Heap) :=
  match s (ts.map .t) [] with
  | none => none
  | some (v, H1) => if (gcV v H1).1.flat && (gcV v H1).2.all Blk.flat then some (gcV v H1) else none
def primFR (s : Prim) (ts : List T) : Option (V × Heap) :=
  match s (ts.map .t) [] with
  | none => none
  | some (v, H1) => some (gcV v H1)
theorem call_prim {E : Env} {f : FuncId} {s : Prim} (hE : E f = some (.prim .own s)) (args : List V) (H : Heap) : evCall E (den E) f args H = ownC (primR s) H (rdL (rd H depth) args) := by
  unfold evCall ownC ownIn primR
  simp only [hE, callM]
  cases rdL (rd H depth) args with
  | none => rfl
  | some p =>
    obtain ⟨ts, l⟩ := p
    simp only
    cases s (ts.map .t) [] with
    | none => rfl
    | some q =>
      obtain ⟨v, H1⟩ := q
      simp only
      by_cases hc : ((gcV v H1).1.flat && (gcV v H1).2.all Blk.flat) = true
      · simp only [hc, if_true]
      · simp only [hc, if_false, Bool.false_eq_true]
theorem call_primF {E : Env} {f : FuncId} {s : Prim} (hE : E f = some (.prim .ownF s)) (args : List V) (H : Heap) : evCall E (den E) f args H = ownFC (primFR s) H (rdL (rd H depth) args) := by
  unfold evCall ownFC primFR
  simp only [hE, callM]
  cases rdL (rd H depth) args with
  | none => rfl
  | some p =>
    obtain ⟨ts, l⟩ := p
    simp only
    cases s (ts.map .t) [] with
    | none => rfl
    | some q => rfl
def cloneP (sz : Nat) : Prim := fun args H => match args, H with
  | [.t (.lst s xs)], [] => if s = sz ∧ xs.length ≤ lim then some (.ref 1 0 xs.length, [.dead, .pure sz xs]) else none
  | [.t .nil], [] => some (.ref 1 0 0, [.dead, .pure sz []])
  | _, _ => none

theorem ownR_ir {E : Env} {f : FuncId} {F : Fn} (hE : E f = some (.ir F)) (ts : List T) (hl : ts.length = F.nargs) : ownR E f ts =
    match endO F.res (execD E F.body (frameOf 0 (ts.map .t), [])) with
    | none => none
    | some (v, H1) => if (gcV v H1).1.flat && (gcV v H1).2.all Blk.flat then some (gcV v H1) else none := by
  unfold ownR
  rw [den_ir hE _ [] (by simpa using hl) (.inr rfl)]
theorem ownFR_ir {E : Env} {f : FuncId} {F : Fn} (hE : E f = some (.ir F)) (ts : List T) (hl : ts.length = F.nargs) : ownFR E f ts =
    match endO F.res (execD E F.body (frameOf 0 (ts.map .t), [])) with
    | none => none
    | some (v, H1) => some (gcV v H1) := by
  unfold ownFR
  rw [den_ir hE _ [] (by simpa using hl) (.inr rfl)]


theorem rd_t (H : Heap) (n : Nat) (x : T) : rd H (n + 1) (.t x) = some (x, []) := rfl

end Go.Proofs.Ytanlmanifpknoaa.Ev
namespace Go.Proofs.Ytanlmanifpknoaa.Ev
open Go Go.RowKit
set_option linter.unusedVariables false
set_option linter.unusedSimpArgs false

section
variable {α β : Type} {E : Env} {rec : Rec}
def andO (r : Option α) (f : α → Option β) : Option β := match r with | none => none | some x => f x
@[simp] theorem andO_some (x : α) (f : α → Option β) : andO (some x) f = f x := rfl
@[simp] theorem andO_none (f : α → Option β) : andO none f = none := rfl
@[congr] theorem andO_congr {r r' : Option α} (f : α → Option β) (h : r = r') : andO r f = andO r' f := by rw [h]

@[simp] theorem andN_norm (s : Fr × Heap) (f : Fr × Heap → Option Out) : andN (some (.norm, s)) f = f s := rfl
@[simp] theorem andN_ret (s : Fr × Heap) (f : Fr × Heap → Option Out) : andN (some (.ret, s)) f = some (.ret, s) := rfl
@[simp] theorem andN_exit (i : Nat) (s : Fr × Heap) (f : Fr × Heap → Option Out) : andN (some (.exit i, s)) f = some (.exit i, s) := rfl
@[congr] theorem andN_congr {r r' : Option Out} (f : Fr × Heap → Option Out) (h : r = r') : andN r f = andN r' f := by rw [h]
@[simp] theorem outB_norm (i : Nat) (s : Fr × Heap) : outB i (some (.norm, s)) = some (.norm, s) := rfl
@[simp] theorem outB_ret (i : Nat) (s : Fr × Heap) : outB i (some (.ret, s)) = some (.ret, s) := rfl
@[simp] theorem outB_exit (i j : Nat) (s : Fr × Heap) : outB i (some (.exit j, s)) = if j = i then some (.norm, s) else some (.exit j, s) := rfl

def nOut (s : Fr × Heap) : Option Out := some (.norm, s)
@[simp] theorem nOut_eq (s : Fr × Heap) : nOut s = some (.norm, s) := rfl
@[simp] theorem x_seq (a b : C) (s : Fr × Heap) : execD E (.seq a b) s = andN (execD E a s) (execD E b) := execD_seq a b s
@[simp] theorem x_reg (bits : List Nat) (is : List I) (s : Fr × Heap) : execD E (.reg false bits is) s = andO (evIs E (den E) is s) nOut := by
  rw [execD_reg]; cases evIs E (den E) is s <;> rfl
def drawOut (bits : List Nat) (x : (Fr × Heap) × List Cls) : Option Out := if okDraw 0 bits x.2 then some (.norm, x.1) else none
@[simp] theorem drawOut_eq (bits : List Nat) (s : Fr × Heap) (cs : List Cls) : drawOut bits (s, cs) = if okDraw 0 bits cs then some (.norm, s) else none := rfl
@[simp] theorem x_draw (bits : List Nat) (is : List I) (s : Fr × Heap) : execD E (.reg true bits is) s = andO (evT E (den E) is s) (drawOut bits) := by
  rw [execD_draw]; cases evT E (den E) is s <;> rfl
def condV (v : V) (f g : Fr × Heap → Option Out) (s : Fr × Heap) : Option Out := match v with | .t (.bool t) => if t then f s else g s | _ => none
@[simp] theorem condV_true (f g : Fr × Heap → Option Out) (s : Fr × Heap) : condV (.t (.bool true)) f g s = f s := rfl
@[simp] theorem condV_false (f g : Fr × Heap → Option Out) (s : Fr × Heap) : condV (.t (.bool false)) f g s = g s := rfl
@[simp] theorem x_cond (c : A) (a b : C) (s : Fr × Heap) : execD E (.cond c a b) s = condV (c.ev s.1) (execD E a) (execD E b) s := execD_cond' c a b s
@[simp] theorem x_block (id : Nat) (c : C) (s : Fr × Heap) : execD E (.block id c) s = outB id (execD E c s) := execD_block id c s
attribute [simp] execD_skip execD_exit execD_ret

@[simp] theorem s_nil (s : Fr × Heap) : evIs E rec [] s = some s := rfl
@[simp] theorem s_cons (i : I) (is : List I) (s : Fr × Heap) : evIs E rec (i :: is) s = andO (evI E rec s i) (evIs E rec is) := by
  simp only [evIs]; cases evI E rec s i <;> rfl
@[simp] theorem t_nil (s : Fr × Heap) : evT E rec [] s = some (s, []) := rfl
def addC (c : Cls) (x : (Fr × Heap) × List Cls) : Option ((Fr × Heap) × List Cls) := some (x.1, c :: x.2)
@[simp] theorem addC_eq (c : Cls) (s : Fr × Heap) (cs : List Cls) : addC c (s, cs) = some (s, c :: cs) := rfl
noncomputable def evTK (E : Env) (rec : Rec) (is : List I) (s : Fr × Heap) (i : I) (s' : Fr × Heap) : Option ((Fr × Heap) × List Cls) := andO (evT E rec is s') (addC (clsI E s s' i))
@[simp] theorem evTK_eq (is : List I) (s : Fr × Heap) (i : I) (s' : Fr × Heap) : evTK E rec is s i s' = andO (evT E rec is s') (addC (clsI E s s' i)) := rfl
@[simp] theorem t_cons (i : I) (is : List I) (s : Fr × Heap) : evT E rec (i :: is) s = andO (evI E rec s i) (evTK E rec is s i) := by
  simp only [evT]
  cases evI E rec s i with
  | none => rfl
  | some s' =>
    show (match evT E rec is s' with | none => none | some (s'', cs) => some (s'', clsI E s s' i :: cs)) = andO (evT E rec is s') _
    cases evT E rec is s' <;> rfl

@[simp] theorem w_none (fr : Fr) (d : Option Nat) (op : O) : wantedI fr ⟨d, none, op⟩ = some true := rfl
def wantV (v : V) (b : Bool) : Option Bool := match v with | .t (.bool c) => some (c == b) | .tup _ => some false | _ => none
@[simp] theorem wantV_u (vs : List V) (b : Bool) : wantV (.tup vs) b = some false := rfl
@[simp] theorem wantV_eq (c b : Bool) : wantV (.t (.bool c)) b = some (c == b) := rfl
@[simp] theorem w_some (fr : Fr) (d : Option Nat) (op : O) (s : Nat) (b : Bool) : wantedI fr ⟨d, some (s, b), op⟩ = wantV (fr.get s) b := rfl
def putV (fr : Fr) (d : Option Nat) (x : V × Heap) : Option (Fr × Heap) := some (putD fr d x.1, x.2)
@[simp] theorem putV_eq (fr : Fr) (d : Option Nat) (v : V) (H : Heap) : putV fr d (v, H) = some (putD fr d v, H) := rfl
def evW (E : Env) (rec : Rec) (s : Fr × Heap) (d : Option Nat) (op : O) (b : Bool) : Option (Fr × Heap) := match b with
  | true => andO (evO E rec s.1 s.2 op) (putV s.1 d)
  | false => some (putD s.1 d (.tup []), s.2)
@[simp] theorem evW_true (fr : Fr) (H : Heap) (d : Option Nat) (op : O) : evW E rec (fr, H) d op true = andO (evO E rec fr H op) (putV fr d) := rfl
@[simp] theorem evW_false (fr : Fr) (H : Heap) (d : Option Nat) (op : O) : evW E rec (fr, H) d op false = some (putD fr d (.tup []), H) := rfl
@[simp] theorem i_eq (s : Fr × Heap) (d : Option Nat) (g : Option (Nat × Bool)) (op : O) : evI E rec s ⟨d, g, op⟩ = andO (wantedI s.1 ⟨d, g, op⟩) (evW E rec s d op) := by
  unfold evI
  cases wantedI s.1 ⟨d, g, op⟩ with
  | none => rfl
  | some b => cases b with
    | false => rfl
    | true => show _ = andO (evO E rec s.1 s.2 op) (putV s.1 d); cases evO E rec s.1 s.2 op <;> rfl
def clsW (E : Env) (s : Fr × Heap) (op : O) (b : Option Bool) : Cls := match b with | some true => cls E s.1 s.2 op | _ => .p
@[simp] theorem clsW_true (fr : Fr) (H : Heap) (op : O) : clsW E (fr, H) op (some true) = cls E fr H op := rfl
@[simp] theorem clsW_false (s : Fr × Heap) (op : O) : clsW E s op (some false) = .p := rfl
@[simp] theorem clsI_w (s s' : Fr × Heap) (d : Option Nat) (g : Option (Nat × Bool)) (op : O) : clsI E s s' ⟨d, g, op⟩ = dynC s.2 s'.2 (clsW E s op (wantedI s.1 ⟨d, g, op⟩)) := rfl
@[simp] theorem dynC_p (H H' : Heap) : dynC H H' .p = .p := rfl
@[simp] theorem dynC_rd (H H' : Heap) (id : Nat) : dynC H H' (.rd id) = .rd id := rfl
@[simp] theorem dynC_q (H H' : Heap) : dynC H H' .q = .q := rfl
@[simp] theorem dynC_w (H H' : Heap) (id : Nat) : dynC H H' (.w id) = .w id := rfl
@[simp] theorem dynC_l (H H' : Heap) : dynC H H' .l = .x (sameB H H') := rfl
theorem sameB_t {H H' : Heap} {id : Nat} (h : H'[id]? = H[id]?) : sameB H H' id = true := by
  unfold sameB
  simp only [decide_eq_true_eq]
  intro x hx
  rw [h]; exact hx
attribute [simp] sameB_t

@[simp] theorem g_nil (t : Nat) : Fr.get [] t = .any := rfl
@[simp] theorem g_cons (s : Nat) (v : V) (r : Fr) (t : Nat) : Fr.get ((s, v) :: r) t = if s = t then v else Fr.get r t := rfl
@[simp] theorem p_nil (t : Nat) (v : V) : Fr.put [] t v = [(t, v)] := rfl
@[simp] theorem p_cons (s : Nat) (u : V) (r : Fr) (t : Nat) (v : V) : Fr.put ((s, u) :: r) t v = if s = t then (t, v) :: r else (s, u) :: Fr.put r t v := rfl
@[simp] theorem pd_none (fr : Fr) (v : V) : putD fr none v = fr := rfl
@[simp] theorem pd_some (fr : Fr) (d : Nat) (v : V) : putD fr (some d) v = fr.put d v := rfl
attribute [simp] A.ev A.evs frameOf


variable {fr : Fr} {H : Heap}
def keepH (H : Heap) (v : V) : Option (V × Heap) := some (v, H)
@[simp] theorem keepH_eq (H : Heap) (v : V) : keepH H v = some (v, H) := rfl
def keepT (H : Heap) (t : T) : Option (V × Heap) := some (.t t, H)
@[simp] theorem keepT_eq (H : Heap) (t : T) : keepT H t = some (.t t, H) := rfl

@[simp] theorem o_mv (x : A) : evO E rec fr H (.mv x) = some (x.ev fr, H) := rfl
def pickV (c a b : V) (H : Heap) : Option (V × Heap) := match c with | .t (.bool c) => some (bif c then a else b, H) | _ => none
@[simp] theorem pickV_t (a b : V) (H : Heap) : pickV (.t (.bool true)) a b H = some (a, H) := rfl
@[simp] theorem pickV_f (a b : V) (H : Heap) : pickV (.t (.bool false)) a b H = some (b, H) := rfl
@[simp] theorem o_pick (c a b : A) : evO E rec fr H (.pick c a b) = pickV (c.ev fr) (a.ev fr) (b.ev fr) H := rfl
@[simp] theorem o_alc (sz : Nat) (z : List T) : evO E rec fr H (.alc sz z) = some (.ptr H.length 0 0, H ++ [.box sz (z.map .t)]) := rfl
def boxV (H : Heap) (cs : List V) : Option (V × Heap) := some (.ptr H.length 0 0, H ++ [.box cs.length cs])
@[simp] theorem boxV_eq (H : Heap) (cs : List V) : boxV H cs = some (.ptr H.length 0 0, H ++ [.box cs.length cs]) := rfl
@[simp] theorem o_box (x : A) : evO E rec fr H (.box x) = andO (x.ev fr).cells (boxV H) := by simp only [evO]; cases (x.ev fr).cells <;> rfl
@[simp] theorem vc_agg (vs : List V) : V.cells (.agg vs) = some vs := rfl
@[simp] theorem vc_tagg (ts : List T) : V.cells (.t (.agg ts)) = some (ts.map .t) := rfl
@[simp] theorem vc_int (k : IntKind) (n : Int) : V.cells (.t (.int k n)) = some [.t (.int k n)] := rfl
@[simp] theorem vc_bool (b : Bool) : V.cells (.t (.bool b)) = some [.t (.bool b)] := rfl
@[simp] theorem vc_str (s : ByteArray) : V.cells (.t (.str s)) = some [.t (.str s)] := rfl
@[simp] theorem vc_lst (n : Nat) (l : List T) : V.cells (.t (.lst n l)) = some [.t (.lst n l)] := rfl
@[simp] theorem vc_nil : V.cells (.t .nil) = some [.t .nil] := rfl
@[simp] theorem vc_nilf : V.cells (.t .nilf) = some [.t .nilf] := rfl
@[simp] theorem vc_tclo (f : FuncId) (a b : List T) : V.cells (.t (.clo f a b)) = some [.t (.clo f a b)] := rfl
@[simp] theorem vc_tptr (t : T) : V.cells (.t (.ptr t)) = some [.t (.ptr t)] := rfl
@[simp] theorem vc_ref (a b c : Nat) : V.cells (.ref a b c) = some [.ref a b c] := rfl
@[simp] theorem vc_ptr (a b c : Nat) : V.cells (.ptr a b c) = some [.ptr a b c] := rfl
@[simp] theorem vc_rptr (t : T) (c : Nat) : V.cells (.rptr t c) = some [.rptr t c] := rfl
@[simp] theorem vc_clo (f : FuncId) (a b : List V) : V.cells (.clo f a b) = some [.clo f a b] := rfl
@[simp] theorem vc_map (id : Nat) : V.cells (.map id) = some [.map id] := rfl
@[simp] theorem tc_agg (ts : List T) : T.cells (.agg ts) = ts := rfl
@[simp] theorem tc_int (k : IntKind) (n : Int) : T.cells (.int k n) = [.int k n] := rfl
@[simp] theorem tc_bool (b : Bool) : T.cells (.bool b) = [.bool b] := rfl
@[simp] theorem tc_str (s : ByteArray) : T.cells (.str s) = [.str s] := rfl
@[simp] theorem tc_lst (n : Nat) (l : List T) : T.cells (.lst n l) = [.lst n l] := rfl
@[simp] theorem tc_nil : T.cells .nil = [.nil] := rfl
@[simp] theorem tc_nilf : T.cells .nilf = [.nilf] := rfl
@[simp] theorem tc_clo (f : FuncId) (a b : List T) : T.cells (.clo f a b) = [.clo f a b] := rfl
@[simp] theorem tc_ptr (t : T) : T.cells (.ptr t) = [.ptr t] := rfl
attribute [simp] T.one V.one splice one

def fillX (vs : List V) (o n : Nat) (r : List (Nat × Nat × V)) (cs : List V) : Option (List V) := if cs.length = n ∧ o + n ≤ vs.length then fillV (splice vs o cs) r else none
@[simp] theorem fillX_eq (vs : List V) (o n : Nat) (r : List (Nat × Nat × V)) (cs : List V) : fillX vs o n r cs = if cs.length = n ∧ o + n ≤ vs.length then fillV (splice vs o cs) r else none := rfl
@[simp] theorem fv_nil (vs : List V) : fillV vs [] = some vs := rfl
@[simp] theorem fv_cons (vs : List V) (o n : Nat) (x : V) (r : List (Nat × Nat × V)) : fillV vs ((o, n, x) :: r) = andO x.cells (fillX vs o n r) := by
  simp only [fillV]; cases x.cells <;> rfl
def aggV (H : Heap) (vs : List V) : Option (V × Heap) := some (.agg vs, H)
@[simp] theorem aggV_eq (H : Heap) (vs : List V) : aggV H vs = some (.agg vs, H) := rfl
@[simp] theorem o_bld (z : List T) (ps : List (Nat × Nat × A)) : evO E rec fr H (.bld z ps) = andO (fillV (z.map .t) (ps.map fun p => (p.1, p.2.1, p.2.2.ev fr))) (aggV H) := by
  simp only [evO]; cases fillV (z.map .t) (ps.map fun p => (p.1, p.2.1, p.2.2.ev fr)) <;> rfl
@[simp] theorem ft_nil (sz : Nat) (xs : List T) : fillT sz xs [] = some xs := rfl
@[simp] theorem ft_cons (sz : Nat) (xs : List T) (i : Nat) (t : T) (r : List (Nat × T)) : fillT sz xs ((i, t) :: r) = if t.el sz ∧ i < xs.length then fillT sz (xs.set i t) r else none := rfl
attribute [simp] T.el
def bslF (H : Heap) (sz n : Nat) (l : List (Nat × Blk)) (xs : List T) : Option (V × Heap) := some (.ref H.length 0 n, frz H l ++ [.pure sz xs])
@[simp] theorem bslF_eq (H : Heap) (sz n : Nat) (l : List (Nat × Blk)) (xs : List T) : bslF H sz n l xs = some (.ref H.length 0 n, frz H l ++ [.pure sz xs]) := rfl
def bslG (H : Heap) (sz n : Nat) (z : T) (ks : List Nat) (p : List T × List (Nat × Blk)) : Option (V × Heap) := andO (fillT sz (List.replicate n z) (ks.zip p.1)) (bslF H sz n p.2)
@[simp] theorem bslG_eq (H : Heap) (sz n : Nat) (z : T) (ks : List Nat) (ts : List T) (l : List (Nat × Blk)) : bslG H sz n z ks (ts, l) = andO (fillT sz (List.replicate n z) (ks.zip ts)) (bslF H sz n l) := rfl
@[simp] theorem o_bsl (sz n : Nat) (z : T) (ps : List (Nat × A)) : evO E rec fr H (.bsl false sz n z ps) = andO (rdL (rd H depth) (ps.map fun p => p.2.ev fr)) (bslG H sz n z (ps.map (·.1))) := by
  simp only [evO]
  cases rdL (rd H depth) (ps.map fun p => p.2.ev fr) with
  | none => rfl
  | some p =>
    obtain ⟨ts, l⟩ := p
    simp only [andO_some, bslG]
    cases fillT sz (List.replicate n z) ((ps.map (·.1)).zip ts) <;> rfl
@[simp] theorem ta_nil : tsAll [] = some [] := rfl
def tsC (x : T) (ts : List T) : Option (List T) := some (x :: ts)
@[simp] theorem tsC_eq (x : T) (ts : List T) : tsC x ts = some (x :: ts) := rfl
@[simp] theorem tf_nil : tsF [] = some [] := rfl
@[simp] theorem tf_cons (x : T) (vs : List V) : tsF (.t x :: vs) = andO (tsF vs) (tsC x) := by
  simp only [tsF]; cases tsF vs <;> rfl
def tsD (vs : List V) (xs : List T) : Option (List T) := andO (tsAll vs) (tsC (.agg xs))
@[simp] theorem tsD_eq (vs : List V) (xs : List T) : tsD vs xs = andO (tsAll vs) (tsC (.agg xs)) := rfl
@[simp] theorem ta_agg (us vs : List V) : tsAll (.agg us :: vs) = andO (tsF us) (tsD vs) := by
  simp only [tsAll]
  cases tsF us with
  | none => rfl
  | some xs => simp only [andO_some, tsD]; cases tsAll vs <;> rfl
@[simp] theorem ta_cons (x : T) (vs : List V) : tsAll (.t x :: vs) = andO (tsAll vs) (tsC x) := by
  simp only [tsAll]; cases tsAll vs <;> rfl
def bsfF (H : Heap) (sz : Nat) (xs : List T) : Option (V × Heap) := some (.t (.lst sz xs), H)
@[simp] theorem bsfF_eq (H : Heap) (sz : Nat) (xs : List T) : bsfF H sz xs = some (.t (.lst sz xs), H) := rfl
def bsfG (H : Heap) (sz n : Nat) (z : T) (ks : List Nat) (ts : List T) : Option (V × Heap) := andO (fillT sz (List.replicate n z) (ks.zip ts)) (bsfF H sz)
@[simp] theorem bsfG_eq (H : Heap) (sz n : Nat) (z : T) (ks : List Nat) (ts : List T) : bsfG H sz n z ks ts = andO (fillT sz (List.replicate n z) (ks.zip ts)) (bsfF H sz) := rfl
@[simp] theorem o_bsf (sz n : Nat) (z : T) (ps : List (Nat × A)) : evO E rec fr H (.bsf sz n z ps) = andO (tsAll (ps.map fun p => p.2.ev fr)) (bsfG H sz n z (ps.map (·.1))) := by
  simp only [evO]
  cases tsAll (ps.map fun p => p.2.ev fr) with
  | none => rfl
  | some ts =>
    simp only [andO_some, bsfG]
    cases fillT sz (List.replicate n z) ((ps.map (·.1)).zip ts) <;> rfl
def msfV (H : Heap) (sz : Nat) (z : T) (a b : V) : Option (V × Heap) := match a, b with
  | .t (.int _ l), .t (.int _ c) => if 0 ≤ l ∧ l ≤ c ∧ c ≤ lim then some (.t (.lst sz (List.replicate l.toNat z)), H) else none
  | _, _ => none
@[simp] theorem msfV_i (sz : Nat) (z : T) (k k' : IntKind) (l c : Int) : msfV H sz z (.t (.int k l)) (.t (.int k' c)) = if 0 ≤ l ∧ l ≤ c ∧ c ≤ lim then some (.t (.lst sz (List.replicate l.toNat z)), H) else none := rfl
@[simp] theorem o_msf (sz : Nat) (z : T) (l c : A) : evO E rec fr H (.msf sz z l c) = msfV H sz z (l.ev fr) (c.ev fr) := by
  simp only [evO]
  generalize l.ev fr = v
  generalize c.ev fr = u
  cases v with
  | t y => cases y <;> first | rfl | (cases u with | t z => cases z <;> rfl | _ => rfl)
  | _ => rfl
@[simp] theorem z_nil : frz H [] = H := rfl
@[simp] theorem z_cons (id : Nat) (b : Blk) (l : List (Nat × Blk)) : frz H ((id, b) :: l) = frz (H.set id b) l := rfl

@[simp] theorem rl_nil (g : V → Option (T × List (Nat × Blk))) : rdL g [] = some ([], []) := rfl
def rdL2 (p : T × List (Nat × Blk)) (q : List T × List (Nat × Blk)) : Option (List T × List (Nat × Blk)) := some (p.1 :: q.1, p.2 ++ q.2)
@[simp] theorem rdL2_eq (t : T) (l : List (Nat × Blk)) (ts : List T) (l' : List (Nat × Blk)) : rdL2 (t, l) (ts, l') = some (t :: ts, l ++ l') := rfl
def rdL1 (g : V → Option (T × List (Nat × Blk))) (vs : List V) (p : T × List (Nat × Blk)) : Option (List T × List (Nat × Blk)) := andO (rdL g vs) (rdL2 p)
@[simp] theorem rdL1_eq (g : V → Option (T × List (Nat × Blk))) (vs : List V) (p : T × List (Nat × Blk)) : rdL1 g vs p = andO (rdL g vs) (rdL2 p) := rfl
@[simp] theorem rl_cons (g : V → Option (T × List (Nat × Blk))) (v : V) (vs : List V) : rdL g (v :: vs) = andO (g v) (rdL1 g vs) := by
  simp only [rdL]
  cases g v with
  | none => rfl
  | some p =>
    show (match rdL g vs with | none => none | some (ts, l') => some (p.1 :: ts, p.2 ++ l')) = andO (rdL g vs) _
    cases rdL g vs <;> rfl
@[simp] theorem depth_eq : depth = 6 := rfl
@[simp] theorem r_t (n : Nat) (x : T) : rd H (n + 1) (.t x) = some (x, []) := rfl
@[simp] theorem r_t6 (x : T) : rd H 6 (.t x) = some (x, []) := rfl
def rdRef (id off len : Nat) (b : Blk) : Option (T × List (Nat × Blk)) := match b with
  | .pure sz xs => some (.lst sz ((xs.drop off).take len), [(id, .froz sz xs)])
  | .froz sz xs => some (.lst sz ((xs.drop off).take len), [])
  | _ => none
@[simp] theorem rdRef_p (id off len sz : Nat) (xs : List T) : rdRef id off len (.pure sz xs) = some (.lst sz ((xs.drop off).take len), [(id, .froz sz xs)]) := rfl
@[simp] theorem rdRef_f (id off len sz : Nat) (xs : List T) : rdRef id off len (.froz sz xs) = some (.lst sz ((xs.drop off).take len), []) := rfl
theorem r_ref (n id off len : Nat) : rd H (n + 1) (.ref id off len) = andO H[id]? (rdRef id off len) := by
  simp only [rd]
  cases h : H[id]? with
  | none => rfl
  | some b => cases b <;> rfl
@[simp] theorem r_ref6 (id off len : Nat) : rd H 6 (.ref id off len) = andO H[id]? (rdRef id off len) := r_ref 5 id off len
@[simp] theorem r_ref5 (id off len : Nat) : rd H 5 (.ref id off len) = andO H[id]? (rdRef id off len) := r_ref 4 id off len
@[simp] theorem r_ref4 (id off len : Nat) : rd H 4 (.ref id off len) = andO H[id]? (rdRef id off len) := r_ref 3 id off len
@[simp] theorem r_t5 (x : T) : rd H 5 (.t x) = some (x, []) := rfl
@[simp] theorem r_t4 (x : T) : rd H 4 (.t x) = some (x, []) := rfl
def rdAgg (p : List T × List (Nat × Blk)) : Option (T × List (Nat × Blk)) := some (.agg p.1, p.2)
@[simp] theorem rdAgg_eq (ts : List T) (l : List (Nat × Blk)) : rdAgg (ts, l) = some (.agg ts, l) := rfl
theorem r_agg (n : Nat) (vs : List V) : rd H (n + 1) (.agg vs) = andO (rdL (rd H n) vs) rdAgg := by
  simp only [rd]; cases rdL (rd H n) vs <;> rfl
@[simp] theorem r_agg6 (vs : List V) : rd H 6 (.agg vs) = andO (rdL (rd H 5) vs) rdAgg := r_agg 5 vs
@[simp] theorem r_agg5 (vs : List V) : rd H 5 (.agg vs) = andO (rdL (rd H 4) vs) rdAgg := r_agg 4 vs
def rdBox (id sz : Nat) (p : List T × List (Nat × Blk)) : Option (T × List (Nat × Blk)) := if 0 < sz ∧ sz = p.1.length ∧ p.1.all T.one then some (.ptr (one p.1), (id, .froz sz [one p.1]) :: p.2) else none
@[simp] theorem rdBox_eq (id sz : Nat) (ts : List T) (l : List (Nat × Blk)) : rdBox id sz (ts, l) = if 0 < sz ∧ sz = ts.length ∧ ts.all T.one then some (.ptr (one ts), (id, .froz sz [one ts]) :: l) else none := rfl
def rdPtr (g : V → Option (T × List (Nat × Blk))) (id : Nat) (b : Blk) : Option (T × List (Nat × Blk)) := match b with
  | .box sz vs => andO (rdL g vs) (rdBox id sz)
  | .froz sz [t] => if sz = t.cells.length then some (.ptr t, []) else none
  | _ => none
@[simp] theorem rdPtr_b (g : V → Option (T × List (Nat × Blk))) (id sz : Nat) (vs : List V) : rdPtr g id (.box sz vs) = andO (rdL g vs) (rdBox id sz) := rfl
@[simp] theorem rdPtr_f (g : V → Option (T × List (Nat × Blk))) (id sz : Nat) (t : T) : rdPtr g id (.froz sz [t]) = if sz = t.cells.length then some (.ptr t, []) else none := rfl
theorem r_ptr (n id : Nat) : rd H (n + 1) (.ptr id 0 0) = andO H[id]? (rdPtr (rd H n) id) := by
  simp only [rd]
  cases h : H[id]? with
  | none => rfl
  | some b => cases b with
    | box sz vs => show (match rdL (rd H n) vs with | some (ts, l) => _ | none => none) = andO (rdL (rd H n) vs) _; cases rdL (rd H n) vs <;> rfl
    | froz sz xs => cases xs with
      | nil => rfl
      | cons x xs => cases xs <;> rfl
    | _ => rfl
@[simp] theorem r_ptr6 (id : Nat) : rd H 6 (.ptr id 0 0) = andO H[id]? (rdPtr (rd H 5) id) := r_ptr 5 id
@[simp] theorem r_ptr5 (id : Nat) : rd H 5 (.ptr id 0 0) = andO H[id]? (rdPtr (rd H 4) id) := r_ptr 4 id
@[simp] theorem r_ptr4 (id : Nat) : rd H 4 (.ptr id 0 0) = andO H[id]? (rdPtr (rd H 3) id) := r_ptr 3 id
def rdClo2 (f : FuncId) (p q : List T × List (Nat × Blk)) : Option (T × List (Nat × Blk)) := some (.clo f p.1 q.1, p.2 ++ q.2)
@[simp] theorem rdClo2_eq (f : FuncId) (ta tb : List T) (l l' : List (Nat × Blk)) : rdClo2 f (ta, l) (tb, l') = some (.clo f ta tb, l ++ l') := rfl
def rdClo1 (g : V → Option (T × List (Nat × Blk))) (f : FuncId) (b : List V) (p : List T × List (Nat × Blk)) : Option (T × List (Nat × Blk)) := andO (rdL g b) (rdClo2 f p)
@[simp] theorem rdClo1_eq (g : V → Option (T × List (Nat × Blk))) (f : FuncId) (b : List V) (p : List T × List (Nat × Blk)) : rdClo1 g f b p = andO (rdL g b) (rdClo2 f p) := rfl
theorem r_clo (n : Nat) (f : FuncId) (a b : List V) : rd H (n + 1) (.clo f a b) = andO (rdL (rd H n) a) (rdClo1 (rd H n) f b) := by
  simp only [rd]
  cases rdL (rd H n) a with
  | none => rfl
  | some p => show (match rdL (rd H n) b with | none => none | some (tb, l') => _) = andO (rdL (rd H n) b) _; cases rdL (rd H n) b <;> rfl
@[simp] theorem r_clo6 (f : FuncId) (a b : List V) : rd H 6 (.clo f a b) = andO (rdL (rd H 5) a) (rdClo1 (rd H 5) f b) := r_clo 5 f a b
@[simp] theorem r_clo5 (f : FuncId) (a b : List V) : rd H 5 (.clo f a b) = andO (rdL (rd H 4) a) (rdClo1 (rd H 4) f b) := r_clo 4 f a b

@[simp] theorem part_f (t : T) (c size : Nat) : T.part t false c size = t.cells[c]?.map .t := rfl
@[simp] theorem part_t (t : T) (c size : Nat) : T.part t true c size = if c + size ≤ t.cells.length then some (.t (.agg ((t.cells.drop c).take size))) else none := rfl
def ldEl (agg : Bool) (c size : Nat) (t : T) : Option V := t.part agg c size
@[simp] theorem ldEl_eq (agg : Bool) (c size : Nat) (t : T) : ldEl agg c size t = t.part agg c size := rfl
def ldB (agg : Bool) (size i c : Nat) (b : Blk) : Option V := match b with
  | .pure _ xs => andO xs[i]? (ldEl agg c size)
  | .froz _ xs => andO xs[i]? (ldEl agg c size)
  | .box sz vs => if agg then (if i * sz + c + size ≤ vs.length then some (.agg ((vs.drop (i * sz + c)).take size)) else none) else vs[i * sz + c]?
  | _ => none
@[simp] theorem ldB_p (agg : Bool) (size i c n : Nat) (xs : List T) : ldB agg size i c (.pure n xs) = andO xs[i]? (ldEl agg c size) := rfl
@[simp] theorem ldB_z (agg : Bool) (size i c n : Nat) (xs : List T) : ldB agg size i c (.froz n xs) = andO xs[i]? (ldEl agg c size) := rfl
@[simp] theorem ldB_bf (size i c sz : Nat) (vs : List V) : ldB false size i c (.box sz vs) = vs[i * sz + c]? := rfl
@[simp] theorem ldB_bt (size i c sz : Nat) (vs : List V) : ldB true size i c (.box sz vs) = if i * sz + c + size ≤ vs.length then some (.agg ((vs.drop (i * sz + c)).take size)) else none := rfl
@[simp] theorem ld_rptr (agg : Bool) (size : Nat) (t : T) (c : Nat) : evLd H agg size (.rptr t c) = t.part agg c size := rfl
@[simp] theorem ld_tptr (agg : Bool) (size : Nat) (t : T) : evLd H agg size (.t (.ptr t)) = t.part agg 0 size := rfl
@[simp] theorem ld_ptr (agg : Bool) (size id i c : Nat) : evLd H agg size (.ptr id i c) = andO H[id]? (ldB agg size i c) := by
  simp only [evLd]
  cases H[id]? with
  | none => rfl
  | some b => cases b with
    | pure n xs => show (match xs[i]? with | some t => _ | none => none) = andO xs[i]? _; cases xs[i]? <;> rfl
    | froz n xs => show (match xs[i]? with | some t => _ | none => none) = andO xs[i]? _; cases xs[i]? <;> rfl
    | _ => rfl
@[simp] theorem o_ld (agg : Bool) (size : Nat) (a : A) : evO E rec fr H (.ld agg size a) = andO (evLd H agg size (a.ev fr)) (keepH H) := by
  simp only [evO]; cases evLd H agg size (a.ev fr) <;> rfl
def stBox (H : Heap) (size id i c sz : Nat) (vs cs : List V) : Option Heap := if cs.length = size ∧ i * sz + c + size ≤ vs.length ∧ cs.all V.one then some (H.set id (.box sz (splice vs (i * sz + c) cs))) else none
@[simp] theorem stBox_eq (size id i c sz : Nat) (vs cs : List V) : stBox H size id i c sz vs cs = if cs.length = size ∧ i * sz + c + size ≤ vs.length ∧ cs.all V.one then some (H.set id (.box sz (splice vs (i * sz + c) cs))) else none := rfl
def stEl2 (H : Heap) (size id i c sz : Nat) (xs : List T) (p : T × List (Nat × Blk)) (u : T) : Option Heap := if p.1.cells.length = size ∧ c + size ≤ u.cells.length ∧ p.1.cells.all T.one ∧ (p.2.map (·.1)).contains id = false then some ((frz H p.2).set id (.pure sz (xs.set i (u.upd c p.1.cells)))) else none
@[simp] theorem stEl2_eq (size id i c sz : Nat) (xs : List T) (t : T) (l : List (Nat × Blk)) (u : T) : stEl2 H size id i c sz xs (t, l) u = if t.cells.length = size ∧ c + size ≤ u.cells.length ∧ t.cells.all T.one ∧ (l.map (·.1)).contains id = false then some ((frz H l).set id (.pure sz (xs.set i (u.upd c t.cells)))) else none := rfl
def stEl (H : Heap) (size id i c sz : Nat) (xs : List T) (p : T × List (Nat × Blk)) : Option Heap := andO xs[i]? (stEl2 H size id i c sz xs p)
@[simp] theorem stEl_eq (size id i c sz : Nat) (xs : List T) (p : T × List (Nat × Blk)) : stEl H size id i c sz xs p = andO xs[i]? (stEl2 H size id i c sz xs p) := rfl
def stB (H : Heap) (size id i c : Nat) (x : V) (b : Blk) : Option Heap := match b with
  | .box sz vs => andO x.cells (stBox H size id i c sz vs)
  | .pure sz xs => andO (rd H depth x) (stEl H size id i c sz xs)
  | _ => none
@[simp] theorem stB_b (size id i c : Nat) (x : V) (sz : Nat) (vs : List V) : stB H size id i c x (.box sz vs) = andO x.cells (stBox H size id i c sz vs) := rfl
@[simp] theorem stB_p (size id i c : Nat) (x : V) (sz : Nat) (xs : List T) : stB H size id i c x (.pure sz xs) = andO (rd H depth x) (stEl H size id i c sz xs) := rfl
@[simp] theorem st_ptr (size id i c : Nat) (x : V) : evSt H size (.ptr id i c) x = andO H[id]? (stB H size id i c x) := by
  simp only [evSt]
  cases H[id]? with
  | none => rfl
  | some b => cases b with
    | box sz vs => show (match x.cells with | some cs => _ | none => none) = andO x.cells _; cases x.cells <;> rfl
    | pure sz xs =>
      simp only [stB, andO_some]
      cases rd H depth x with
      | none => rfl
      | some p => simp only [andO_some, stEl]; cases xs[i]? <;> rfl
    | _ => rfl
def anyH (H : Heap) : Option (V × Heap) := some (.any, H)
@[simp] theorem anyH_eq (H : Heap) : anyH H = some (.any, H) := rfl
@[simp] theorem o_st (size : Nat) (a x : A) : evO E rec fr H (.st size a x) = andO (evSt H size (a.ev fr) (x.ev fr)) anyH := by
  simp only [evO]; cases evSt H size (a.ev fr) (x.ev fr) <;> rfl
@[simp] theorem upd_agg (cs : List T) (c : Nat) (xs : List T) : T.upd (.agg cs) c xs = .agg (splice cs c xs) := rfl
@[simp] theorem upd_int (k : IntKind) (n : Int) (c : Nat) (x : T) : T.upd (.int k n) c [x] = x := rfl
@[simp] theorem upd_bool (b : Bool) (c : Nat) (x : T) : T.upd (.bool b) c [x] = x := rfl
@[simp] theorem upd_lst (n : Nat) (l : List T) (c : Nat) (x : T) : T.upd (.lst n l) c [x] = x := rfl
@[simp] theorem upd_nil (c : Nat) (x : T) : T.upd .nil c [x] = x := rfl

def nckV (H : Heap) (v : V) : Option (V × Heap) := match v with | .ptr id i c => some (.ptr id i c, H) | .rptr t c => some (.rptr t c, H) | .t (.ptr t) => some (.t (.ptr t), H) | _ => none
@[simp] theorem nckV_p (a b c : Nat) : nckV H (.ptr a b c) = some (.ptr a b c, H) := rfl
@[simp] theorem nckV_r (t : T) (c : Nat) : nckV H (.rptr t c) = some (.rptr t c, H) := rfl
@[simp] theorem nckV_t (t : T) : nckV H (.t (.ptr t)) = some (.t (.ptr t), H) := rfl
@[simp] theorem o_nck (x : A) : evO E rec fr H (.nck x) = nckV H (x.ev fr) := by
  simp only [evO]
  generalize x.ev fr = v
  cases v with
  | t y => cases y <;> rfl
  | _ => rfl
@[simp] theorem o_bin (op : BinOp) (kd : EqK) (x y : A) : evO E rec fr H (.bin op kd x y) = andO (evBin op kd (x.ev fr) (y.ev fr)) (keepT H) := by simp only [evO]; cases evBin op kd (x.ev fr) (y.ev fr) <;> rfl
@[simp] theorem o_un (op : UnOp) (x : A) : evO E rec fr H (.un op x) = andO (evUn op (x.ev fr)) (keepT H) := by simp only [evO]; cases evUn op (x.ev fr) <;> rfl
def orI (k : IntKind) (a b : Int) : Int := k.wrap (BitVec.ofInt k.bits a ||| BitVec.ofInt k.bits b).toNat
def andI (k : IntKind) (a b : Int) : Int := k.wrap (BitVec.ofInt k.bits a &&& BitVec.ofInt k.bits b).toNat
def xorI (k : IntKind) (a b : Int) : Int := k.wrap (BitVec.ofInt k.bits a ^^^ BitVec.ofInt k.bits b).toNat
def shlI (k : IntKind) (a b : Int) : Int := k.wrap (a * 2 ^ (min b.toNat k.bits))
def shrI (k : IntKind) (a b : Int) : Int := a.fdiv (2 ^ (min b.toNat k.bits))
@[simp] theorem b_add (kd : EqK) (k : IntKind) (a b : Int) : evBin .add kd (.t (.int k a)) (.t (.int k b)) = some (.int k (k.wrap (a + b))) := by simp [evBin, evInt]
@[simp] theorem b_sub (kd : EqK) (k : IntKind) (a b : Int) : evBin .sub kd (.t (.int k a)) (.t (.int k b)) = some (.int k (k.wrap (a - b))) := by simp [evBin, evInt]
@[simp] theorem b_mul (kd : EqK) (k : IntKind) (a b : Int) : evBin .mul kd (.t (.int k a)) (.t (.int k b)) = some (.int k (k.wrap (a * b))) := by simp [evBin, evInt]
@[simp] theorem b_quo (kd : EqK) (k : IntKind) (a b : Int) : evBin .quo kd (.t (.int k a)) (.t (.int k b)) = if b = 0 then none else some (.int k (k.wrap (a.tdiv b))) := by simp [evBin, evInt]
@[simp] theorem b_rem (kd : EqK) (k : IntKind) (a b : Int) : evBin .rem kd (.t (.int k a)) (.t (.int k b)) = if b = 0 then none else some (.int k (a.tmod b)) := by simp [evBin, evInt]
@[simp] theorem b_and (kd : EqK) (k : IntKind) (a b : Int) : evBin .and kd (.t (.int k a)) (.t (.int k b)) = some (.int k (andI k a b)) := by simp [evBin, evInt, andI]
@[simp] theorem b_or (kd : EqK) (k : IntKind) (a b : Int) : evBin .or kd (.t (.int k a)) (.t (.int k b)) = some (.int k (orI k a b)) := by simp [evBin, evInt, orI]
@[simp] theorem b_xor (kd : EqK) (k : IntKind) (a b : Int) : evBin .xor kd (.t (.int k a)) (.t (.int k b)) = some (.int k (xorI k a b)) := by simp [evBin, evInt, xorI]
@[simp] theorem b_shl (kd : EqK) (k k' : IntKind) (a b : Int) : evBin .shl kd (.t (.int k a)) (.t (.int k' b)) = if b < 0 then none else some (.int k (shlI k a b)) := by simp [evBin, shlI]
@[simp] theorem b_shr (kd : EqK) (k k' : IntKind) (a b : Int) : evBin .shr kd (.t (.int k a)) (.t (.int k' b)) = if b < 0 then none else some (.int k (shrI k a b)) := by simp [evBin, shrI]
@[simp] theorem b_eql (kd : EqK) (k : IntKind) (a b : Int) : evBin .eql kd (.t (.int k a)) (.t (.int k b)) = some (.bool (decide (a = b))) := by by_cases h : a = b <;> simp [evBin, evInt, h]
@[simp] theorem b_neq (kd : EqK) (k : IntKind) (a b : Int) : evBin .neq kd (.t (.int k a)) (.t (.int k b)) = some (.bool (!decide (a = b))) := by by_cases h : a = b <;> simp [evBin, evInt, h]
@[simp] theorem b_lss (kd : EqK) (k : IntKind) (a b : Int) : evBin .lss kd (.t (.int k a)) (.t (.int k b)) = some (.bool (decide (a < b))) := by simp [evBin, evInt]
@[simp] theorem b_leq (kd : EqK) (k : IntKind) (a b : Int) : evBin .leq kd (.t (.int k a)) (.t (.int k b)) = some (.bool (decide (a ≤ b))) := by simp [evBin, evInt]
@[simp] theorem b_gtr (kd : EqK) (k : IntKind) (a b : Int) : evBin .gtr kd (.t (.int k a)) (.t (.int k b)) = some (.bool (decide (b < a))) := by simp [evBin, evInt]
@[simp] theorem b_geq (kd : EqK) (k : IntKind) (a b : Int) : evBin .geq kd (.t (.int k a)) (.t (.int k b)) = some (.bool (decide (b ≤ a))) := by simp [evBin, evInt]
@[simp] theorem b_eqb (a b : Bool) : evBin .eql .bool (.t (.bool a)) (.t (.bool b)) = some (.bool (a == b)) := rfl
@[simp] theorem b_neb (a b : Bool) : evBin .neq .bool (.t (.bool a)) (.t (.bool b)) = some (.bool (!(a == b))) := rfl
@[simp] theorem u_neg (k : IntKind) (n : Int) : evUn .neg (.t (.int k n)) = some (.int k (k.wrap (0 - n))) := rfl
@[simp] theorem u_not (b : Bool) : evUn .not (.t (.bool b)) = some (.bool (!b)) := rfl
def cnvV (c : Cnv) (H : Heap) (v : V) : Option (V × Heap) := match c, v with | .int k, .t (.int _ n) => some (.t (.int k (k.wrap n)), H) | .same, .t (.str s) => some (.t (.str s), H) | _, _ => none
@[simp] theorem cnvV_i (k k' : IntKind) (n : Int) : cnvV (.int k) H (.t (.int k' n)) = some (.t (.int k (k.wrap n)), H) := rfl
@[simp] theorem o_cnv (c : Cnv) (x : A) : evO E rec fr H (.cnv c x) = cnvV c H (x.ev fr) := by
  simp only [evO]
  generalize x.ev fr = v
  cases v with
  | t y => cases c <;> cases y <;> rfl
  | _ => cases c <;> rfl
@[simp] theorem o_mkf (f : FuncId) (a b : List A) : evO E rec fr H (.mkf f a b) = some (.clo f (A.evs fr a) (A.evs fr b), H) := rfl
def mksV (H : Heap) (sz : Nat) (z : T) (a b : V) : Option (V × Heap) := match a, b with
  | .t (.int _ l), .t (.int _ c) => if 0 ≤ l ∧ l ≤ c ∧ c ≤ lim then some (.ref H.length 0 l.toNat, H ++ [.pure sz (List.replicate l.toNat z)]) else none
  | _, _ => none
@[simp] theorem mksV_i (sz : Nat) (z : T) (k k' : IntKind) (l c : Int) : mksV H sz z (.t (.int k l)) (.t (.int k' c)) = if 0 ≤ l ∧ l ≤ c ∧ c ≤ lim then some (.ref H.length 0 l.toNat, H ++ [.pure sz (List.replicate l.toNat z)]) else none := rfl
@[simp] theorem o_mks (sz : Nat) (z : T) (l c : A) : evO E rec fr H (.mks sz z l c) = mksV H sz z (l.ev fr) (c.ev fr) := by
  simp only [evO]
  generalize l.ev fr = v
  generalize c.ev fr = u
  cases v with
  | t y => cases y <;> first | rfl | (cases u with | t z => cases z <;> rfl | _ => rfl)
  | _ => rfl
@[simp] theorem lim_eq : lim = 68719476736 := rfl
@[simp] theorem o_fad (off : Nat) (a : A) : evO E rec fr H (.fad off a) = andO (evFad off (a.ev fr)) (keepH H) := by simp only [evO]; cases evFad off (a.ev fr) <;> rfl
@[simp] theorem fad_p (off id i c : Nat) : evFad off (.ptr id i c) = some (.ptr id i (c + off)) := rfl
@[simp] theorem fad_r (off : Nat) (t : T) (c : Nat) : evFad off (.rptr t c) = some (.rptr t (c + off)) := rfl
@[simp] theorem fad_t (off : Nat) (t : T) : evFad off (.t (.ptr t)) = some (.rptr t off) := rfl
@[simp] theorem o_fld (agg : Bool) (off size : Nat) (x : A) : evO E rec fr H (.fld agg off size x) = andO (evFld agg off size (x.ev fr)) (keepH H) := by simp only [evO]; cases evFld agg off size (x.ev fr) <;> rfl
@[simp] theorem fld_t (agg : Bool) (off size : Nat) (xs : List T) : evFld agg off size (.t (.agg xs)) = (T.agg xs).part agg off size := rfl
@[simp] theorem fld_vf (off size : Nat) (vs : List V) : evFld false off size (.agg vs) = vs[off]? := rfl
@[simp] theorem fld_vt (off size : Nat) (vs : List V) : evFld true off size (.agg vs) = if off + size ≤ vs.length then some (.agg ((vs.drop off).take size)) else none := rfl
@[simp] theorem o_ixa (sz : Nat) (x i : A) : evO E rec fr H (.ixa sz x i) = andO (evIxa H sz (x.ev fr) (i.ev fr)) (keepH H) := by simp only [evO]; cases evIxa H sz (x.ev fr) (i.ev fr) <;> rfl
def ixaB (sz id off len : Nat) (n : Int) (s : Nat) : Option V := if s = sz ∧ 0 ≤ n ∧ n < len then some (.ptr id (off + n.toNat) 0) else none
@[simp] theorem ixaB_eq (sz id off len : Nat) (n : Int) (s : Nat) : ixaB sz id off len n s = if s = sz ∧ 0 ≤ n ∧ n < len then some (.ptr id (off + n.toNat) 0) else none := rfl
@[simp] theorem bsz_p (s : Nat) (xs : List T) : Blk.sz (.pure s xs) = some s := rfl
@[simp] theorem bsz_f (s : Nat) (xs : List T) : Blk.sz (.froz s xs) = some s := rfl
@[simp] theorem bsz_b (s : Nat) (xs : List V) : Blk.sz (.box s xs) = some s := rfl
@[simp] theorem ixa_ref (sz id off len : Nat) (k : IntKind) (n : Int) : evIxa H sz (.ref id off len) (.t (.int k n)) = andO (andO H[id]? Blk.sz) (ixaB sz id off len n) := by
  simp only [evIxa]
  cases H[id]? with
  | none => rfl
  | some b => show (match b.sz with | some s => _ | none => none) = andO b.sz _; cases b.sz <;> rfl
def rpt (t : T) : Option V := some (.rptr t 0)
@[simp] theorem rpt_eq (t : T) : rpt t = some (.rptr t 0) := rfl
@[simp] theorem ixa_lst (sz s : Nat) (xs : List T) (k : IntKind) (n : Int) : evIxa H sz (.t (.lst s xs)) (.t (.int k n)) = if s = sz ∧ 0 ≤ n then andO xs[n.toNat]? rpt else none := by
  simp only [evIxa]
  split
  · cases xs[n.toNat]? <;> rfl
  · rfl
@[simp] theorem o_slc (sz : Nat) (x : A) (lo hi : Option A) : evO E rec fr H (.slc sz x lo hi) = andO (evSlc H sz (x.ev fr) (lo.map (·.ev fr)) (hi.map (·.ev fr))) (keepH H) := by simp only [evO]; cases evSlc H sz (x.ev fr) (lo.map (·.ev fr)) (hi.map (·.ev fr)) <;> rfl
@[simp] theorem bound_none (d : Nat) : bound d none = some d := rfl
@[simp] theorem bound_some (d : Nat) (k : IntKind) (n : Int) : bound d (some (.t (.int k n))) = if 0 ≤ n then some n.toNat else none := rfl
def extV (H : Heap) (i : Nat) (v : V) : Option (V × Heap) := match v with | .tup vs => andO vs[i]? (keepH H) | _ => none
@[simp] theorem extV_eq (i : Nat) (vs : List V) : extV H i (.tup vs) = andO vs[i]? (keepH H) := rfl
@[simp] theorem o_ext (x : A) (i : Nat) : evO E rec fr H (.ext x i) = extV H i (x.ev fr) := by
  simp only [evO]
  generalize x.ev fr = v
  cases v with
  | tup vs => simp only [extV]; cases vs[i]? <;> rfl
  | _ => rfl
@[simp] theorem o_call (f : FuncId) (as : List A) : evO E rec fr H (.call f as) = evCall E rec f (A.evs fr as) H := rfl
def callvV (E : Env) (rec : Rec) (H : Heap) (as : List V) (f : V) : Option (V × Heap) := match f with
  | .clo f a b => evCall E rec f (a ++ as ++ b) H
  | .t (.clo f a b) => evCall E rec f (a.map .t ++ as ++ b.map .t) H
  | _ => none
@[simp] theorem callvV_c (as : List V) (f : FuncId) (a b : List V) : callvV E rec H as (.clo f a b) = evCall E rec f (a ++ as ++ b) H := rfl
@[simp] theorem callvV_t (as : List V) (f : FuncId) (a b : List T) : callvV E rec H as (.t (.clo f a b)) = evCall E rec f (a.map .t ++ as ++ b.map .t) H := rfl
@[simp] theorem o_callv (f : A) (as : List A) : evO E rec fr H (.callv f as) = callvV E rec H (A.evs fr as) (f.ev fr) := by
  simp only [evO]
  generalize f.ev fr = v
  cases v with
  | t y => cases y <;> rfl
  | _ => rfl
def intV (H : Heap) (n : Int) : Option (V × Heap) := some (.t (.int .i64 n), H)
@[simp] theorem intV_eq (n : Int) : intV H n = some (.t (.int .i64 n), H) := rfl
@[simp] theorem o_len (k : Nat) (x : A) : evO E rec fr H (.len k x) = andO (evLen H k (x.ev fr)) (intV H) := by simp only [evO]; cases evLen H k (x.ev fr) <;> rfl
@[simp] theorem len_ref (a b n : Nat) : evLen H 1 (.ref a b n) = some (n : Int) := rfl
@[simp] theorem len_lst (s : Nat) (xs : List T) : evLen H 1 (.t (.lst s xs)) = some (xs.length : Int) := rfl
@[simp] theorem len_nil : evLen H 1 (.t .nil) = some 0 := rfl
@[simp] theorem len_str (s : ByteArray) : evLen H 0 (.t (.str s)) = some (s.size : Int) := rfl
@[simp] theorem o_app (sz : Nat) (x y : A) : evO E rec fr H (.app false sz x y) = evApp H sz (x.ev fr) (y.ev fr) := rfl
def elB (sz off len : Nat) (b : Blk) : Option (List T) := match b with
  | .pure s xs => if s = sz then some ((xs.drop off).take len) else none
  | .froz s xs => if s = sz then some ((xs.drop off).take len) else none
  | _ => none
@[simp] theorem elB_p (sz off len s : Nat) (xs : List T) : elB sz off len (.pure s xs) = if s = sz then some ((xs.drop off).take len) else none := rfl
@[simp] theorem elB_f (sz off len s : Nat) (xs : List T) : elB sz off len (.froz s xs) = if s = sz then some ((xs.drop off).take len) else none := rfl
@[simp] theorem el_nil (sz : Nat) : elems H sz (.t .nil) = some [] := rfl
@[simp] theorem el_lst (sz s : Nat) (xs : List T) : elems H sz (.t (.lst s xs)) = if s = sz then some xs else none := rfl
@[simp] theorem el_ref (sz id off len : Nat) : elems H sz (.ref id off len) = andO H[id]? (elB sz off len) := by
  simp only [elems]
  cases H[id]? with
  | none => rfl
  | some b => cases b <;> rfl
def appB (H : Heap) (sz id len : Nat) (ys : List T) (b : Blk) : Option (V × Heap) := match b with
  | .pure s xs => if s = sz then (if len = xs.length then (if xs.length + ys.length ≤ lim then some (.ref H.length 0 (xs.length + ys.length), H.set id .dead ++ [.pure sz (xs ++ ys)]) else none)
      else if len + ys.length ≤ xs.length then some (.ref id 0 (len + ys.length), H.set id (.pure sz (splice xs len ys))) else none) else none
  | _ => none
@[simp] theorem appB_p (sz id len : Nat) (ys : List T) (s : Nat) (xs : List T) : appB H sz id len ys (.pure s xs) = if s = sz then (if len = xs.length then (if xs.length + ys.length ≤ lim then some (.ref H.length 0 (xs.length + ys.length), H.set id .dead ++ [.pure sz (xs ++ ys)]) else none)
      else if len + ys.length ≤ xs.length then some (.ref id 0 (len + ys.length), H.set id (.pure sz (splice xs len ys))) else none) else none := rfl
def appV (H : Heap) (sz : Nat) (x : V) (ys : List T) : Option (V × Heap) := match x with
  | .t .nil => if ys.length ≤ lim then some (.ref H.length 0 ys.length, H ++ [.pure sz ys]) else none
  | .ref id 0 len => andO H[id]? (appB H sz id len ys)
  | _ => none
@[simp] theorem appV_n (sz : Nat) (ys : List T) : appV H sz (.t .nil) ys = if ys.length ≤ lim then some (.ref H.length 0 ys.length, H ++ [.pure sz ys]) else none := rfl
@[simp] theorem appV_r (sz id len : Nat) (ys : List T) : appV H sz (.ref id 0 len) ys = andO H[id]? (appB H sz id len ys) := rfl
@[simp] theorem app_eq (sz : Nat) (x y : V) : evApp H sz x y = andO (elems H sz y) (appV H sz x) := by
  unfold evApp
  cases elems H sz y with
  | none => rfl
  | some ys =>
    simp only [andO_some]
    cases x with
    | t x => cases x <;> rfl
    | ref id off len =>
      cases off with
      | zero =>
        simp only [appV]
        cases H[id]? with
        | none => rfl
        | some b => cases b <;> rfl
      | succ n => rfl
    | _ => rfl
def clrB (H : Heap) (sz id off len : Nat) (z : T) (b : Blk) : Option (V × Heap) := match b with
  | .pure s xs => if s = sz ∧ off + len ≤ xs.length then some (.tup [], H.set id (.pure sz (splice xs off (List.replicate len z)))) else none
  | _ => none
@[simp] theorem clrB_p (sz id off len : Nat) (z : T) (s : Nat) (xs : List T) : clrB H sz id off len z (.pure s xs) = if s = sz ∧ off + len ≤ xs.length then some (.tup [], H.set id (.pure sz (splice xs off (List.replicate len z)))) else none := rfl
def clrV (H : Heap) (sz : Nat) (z : T) (x : V) : Option (V × Heap) := match x with | .ref id off len => andO H[id]? (clrB H sz id off len z) | _ => none
@[simp] theorem clrV_r (sz id off len : Nat) (z : T) : clrV H sz z (.ref id off len) = andO H[id]? (clrB H sz id off len z) := rfl
@[simp] theorem o_clr (sz : Nat) (z : T) (x : A) : evO E rec fr H (.clr sz z x) = clrV H sz z (x.ev fr) := by
  simp only [evO, evClr]
  generalize x.ev fr = v
  cases v with
  | ref id off len =>
    simp only [clrV]
    cases H[id]? with
    | none => rfl
    | some b => cases b <;> rfl
  | _ => rfl
@[simp] theorem o_cpy (sz : Nat) (x y : A) : evO E rec fr H (.cpy sz x y) = evCpy H sz (x.ev fr) (y.ev fr) := rfl
def mxV (H : Heap) (m : Bool) (x y : V) : Option (V × Heap) := match x, y with
  | .t (.int k a), .t (.int _ b) => some (.t (.int k (if m then (if b > a then b else a) else (if b < a then b else a))), H)
  | _, _ => none
@[simp] theorem mxV_i (m : Bool) (k k' : IntKind) (a b : Int) : mxV H m (.t (.int k a)) (.t (.int k' b)) = some (.t (.int k (if m then (if b > a then b else a) else (if b < a then b else a))), H) := rfl
@[simp] theorem o_mx (m : Bool) (x y : A) : evO E rec fr H (.mx m x y) = mxV H m (x.ev fr) (y.ev fr) := by
  simp only [evO]
  generalize x.ev fr = v
  generalize y.ev fr = u
  cases v with
  | t y => cases y <;> first | rfl | (cases u with | t z => cases z <;> rfl | _ => rfl)
  | _ => rfl

def slcB (sz id off len : Nat) (l h : Option Nat) (s : Nat) : Option V := match l, h with | some l, some h => if s = sz ∧ l ≤ h ∧ h ≤ len then some (.ref id (off + l) (h - l)) else none | _, _ => none
@[simp] theorem slcB_eq (sz id off len l h s : Nat) : slcB sz id off len (some l) (some h) s = if s = sz ∧ l ≤ h ∧ h ≤ len then some (.ref id (off + l) (h - l)) else none := rfl
@[simp] theorem slc_ref (sz id off len : Nat) (lo hi : Option V) : evSlc H sz (.ref id off len) lo hi = andO (andO H[id]? Blk.sz) (slcB sz id off len (bound 0 lo) (bound len hi)) := by
  simp only [evSlc]
  cases H[id]? with
  | none => rfl
  | some b =>
    simp only [andO_some]
    cases b.sz with
    | none => rfl
    | some s => simp only [andO_some, slcB]; cases bound 0 lo <;> cases bound len hi <;> rfl
def slcT (sz s : Nat) (xs : List T) (l h : Option Nat) : Option V := match l, h with | some l, some h => if s = sz ∧ l ≤ h ∧ h ≤ xs.length then some (.t (.lst sz ((xs.drop l).take (h - l)))) else none | _, _ => none
@[simp] theorem slcT_eq (sz s : Nat) (xs : List T) (l h : Nat) : slcT sz s xs (some l) (some h) = if s = sz ∧ l ≤ h ∧ h ≤ xs.length then some (.t (.lst sz ((xs.drop l).take (h - l)))) else none := rfl
@[simp] theorem slc_lst (sz s : Nat) (xs : List T) (lo hi : Option V) : evSlc H sz (.t (.lst s xs)) lo hi = slcT sz s xs (bound 0 lo) (bound xs.length hi) := by
  simp only [evSlc, slcT]; cases bound 0 lo <;> cases bound xs.length hi <;> rfl
def cpyB (H : Heap) (sz id off len : Nat) (ys : List T) (b : Blk) : Option (V × Heap) := match b with
  | .pure s xs => if s = sz ∧ off + len ≤ xs.length then some (.t (.int .i64 (min ys.length len : Nat)), H.set id (.pure sz (splice xs off (ys.take len)))) else none
  | _ => none
@[simp] theorem cpyB_p (sz id off len : Nat) (ys : List T) (s : Nat) (xs : List T) : cpyB H sz id off len ys (.pure s xs) = if s = sz ∧ off + len ≤ xs.length then some (.t (.int .i64 (min ys.length len : Nat)), H.set id (.pure sz (splice xs off (ys.take len)))) else none := rfl
def cpyV (H : Heap) (sz : Nat) (x : V) (ys : List T) : Option (V × Heap) := match x with | .ref id off len => andO H[id]? (cpyB H sz id off len ys) | _ => none
@[simp] theorem cpyV_r (sz id off len : Nat) (ys : List T) : cpyV H sz (.ref id off len) ys = andO H[id]? (cpyB H sz id off len ys) := rfl
@[simp] theorem cpy_eq (sz : Nat) (x y : V) : evCpy H sz x y = andO (elems H sz y) (cpyV H sz x) := by
  unfold evCpy
  cases elems H sz y with
  | none => rfl
  | some ys =>
    simp only [andO_some]
    cases x with
    | ref id off len =>
      simp only [cpyV]
      cases H[id]? with
      | none => rfl
      | some b => cases b <;> rfl
    | _ => rfl

def ptrC (v : V) : Cls := match v with | .ptr id _ _ => .rd id | _ => .p
@[simp] theorem ptrC_p (id i c : Nat) : ptrC (.ptr id i c) = .rd id := rfl
@[simp] theorem ptrC_t (t : T) : ptrC (.t t) = .p := rfl
@[simp] theorem ptrC_r (t : T) (c : Nat) : ptrC (.rptr t c) = .p := rfl
def refC (v : V) : Cls := match v with | .ref id _ _ => .rd id | _ => .p
@[simp] theorem refC_r (id i c : Nat) : refC (.ref id i c) = .rd id := rfl
@[simp] theorem refC_t (t : T) : refC (.t t) = .p := rfl
def mapC (v : V) : Cls := match v with | .map id => .rd id | _ => .p
@[simp] theorem mapC_m (id : Nat) : mapC (.map id) = .rd id := rfl
@[simp] theorem mapC_r (id i c : Nat) : mapC (.ref id i c) = .p := rfl
@[simp] theorem mapC_t (t : T) : mapC (.t t) = .p := rfl
def appC (v : V) : Cls := match v with | .ref id _ _ => .w id | .t .nil => .q | _ => .l
@[simp] theorem appC_r (id i c : Nat) : appC (.ref id i c) = .w id := rfl
@[simp] theorem appC_n : appC (.t .nil) = .q := rfl
def bslC (r : Option (List T × List (Nat × Blk))) : Cls := match r with | some (_, []) => .q | _ => .l
@[simp] theorem bslC_n (ts : List T) : bslC (some (ts, [])) = .q := rfl
@[simp] theorem bslC_c (ts : List T) (p : Nat × Blk) (l : List (Nat × Blk)) : bslC (some (ts, p :: l)) = .l := rfl
def callC (F : Option Fun) : Cls := match F with | some F => (match F.mode with | .own => .q | _ => .l) | none => .l
@[simp] theorem callC_ir (F : Fn) : callC (some (.ir F)) = (match F.mode with | .own => .q | _ => .l) := rfl
@[simp] theorem callC_p (s : Prim) : callC (some (.prim .own s)) = .q := rfl
@[simp] theorem cls_ld (agg : Bool) (size : Nat) (a : A) : cls E fr H (.ld agg size a) = ptrC (a.ev fr) := by simp only [cls]; generalize a.ev fr = v; cases v <;> rfl
@[simp] theorem cls_ixa (sz : Nat) (x i : A) : cls E fr H (.ixa sz x i) = refC (x.ev fr) := by simp only [cls]; generalize x.ev fr = v; cases v <;> rfl
@[simp] theorem cls_slc (sz : Nat) (x : A) (i j : Option A) : cls E fr H (.slc sz x i j) = refC (x.ev fr) := by simp only [cls]; generalize x.ev fr = v; cases v <;> rfl
@[simp] theorem cls_len (k : Nat) (x : A) : cls E fr H (.len k x) = mapC (x.ev fr) := by simp only [cls]; generalize x.ev fr = v; cases v <;> rfl
@[simp] theorem cls_mv (x : A) : cls E fr H (.mv x) = .p := rfl
@[simp] theorem cls_pick (x y z : A) : cls E fr H (.pick x y z) = .p := rfl
@[simp] theorem cls_bin (o : BinOp) (k : EqK) (x y : A) : cls E fr H (.bin o k x y) = .p := rfl
@[simp] theorem cls_un (o : UnOp) (x : A) : cls E fr H (.un o x) = .p := rfl
@[simp] theorem cls_cnv (o : Cnv) (x : A) : cls E fr H (.cnv o x) = .p := rfl
@[simp] theorem cls_bld (z : List T) (p : List (Nat × Nat × A)) : cls E fr H (.bld z p) = .p := rfl
@[simp] theorem cls_fad (o : Nat) (x : A) : cls E fr H (.fad o x) = .p := rfl
@[simp] theorem cls_fld (g : Bool) (o s : Nat) (x : A) : cls E fr H (.fld g o s x) = .p := rfl
@[simp] theorem cls_ext (x : A) (i : Nat) : cls E fr H (.ext x i) = .p := rfl
@[simp] theorem cls_idx (x i : A) : cls E fr H (.idx x i) = .p := rfl
@[simp] theorem cls_mkf (f : FuncId) (a b : List A) : cls E fr H (.mkf f a b) = .p := rfl
@[simp] theorem cls_mx (m : Bool) (x y : A) : cls E fr H (.mx m x y) = .p := rfl
@[simp] theorem cls_nck (x : A) : cls E fr H (.nck x) = .p := rfl
@[simp] theorem cls_bsf (s n : Nat) (z : T) (ps : List (Nat × A)) : cls E fr H (.bsf s n z ps) = .f := rfl
@[simp] theorem cls_msf (s : Nat) (z : T) (a b : A) : cls E fr H (.msf s z a b) = .f := rfl
@[simp] theorem dynC_f (H H' : Heap) : dynC H H' .f = .f := rfl
@[simp] theorem cls_alc (s : Nat) (z : List T) : cls E fr H (.alc s z) = .q := rfl
@[simp] theorem cls_box (x : A) : cls E fr H (.box x) = .q := rfl
@[simp] theorem cls_mks (s : Nat) (z : T) (a b : A) : cls E fr H (.mks s z a b) = .q := rfl
def stBC (id : Nat) (y : V) (b : Option Blk) : Cls := match b with | some (.box ..) => .w id | some (.pure ..) => (match y with | .t _ => .w id | _ => .l) | _ => .l
@[simp] theorem stBC_b (id : Nat) (y : V) (s : Nat) (vs : List V) : stBC id y (some (.box s vs)) = .w id := rfl
@[simp] theorem stBC_t (id : Nat) (t : T) (s : Nat) (xs : List T) : stBC id (.t t) (some (.pure s xs)) = .w id := rfl
@[simp] theorem stBC_r (id i o n : Nat) (s : Nat) (xs : List T) : stBC id (.ref i o n) (some (.pure s xs)) = .l := rfl
@[simp] theorem stBC_a (id : Nat) (vs : List V) (s : Nat) (xs : List T) : stBC id (.agg vs) (some (.pure s xs)) = .l := rfl
def stC (H : Heap) (a y : V) : Cls := match a with | .ptr id _ _ => stBC id y H[id]? | _ => .l
@[simp] theorem stC_p (H : Heap) (id i c : Nat) (y : V) : stC H (.ptr id i c) y = stBC id y H[id]? := rfl
@[simp] theorem cls_st (s : Nat) (x y : A) : cls E fr H (.st s x y) = stC H (x.ev fr) (y.ev fr) := by
  simp only [cls]
  generalize x.ev fr = v
  cases v with
  | ptr id i c =>
    simp only [stC, stBC]
    rcases H[id]? with _ | b
    · rfl
    · cases b <;> first | rfl | (generalize y.ev fr = u; cases u <;> rfl)
  | _ => rfl
@[simp] theorem cls_callv (f : A) (as : List A) : cls E fr H (.callv f as) = .l := rfl
@[simp] theorem cls_clr (s : Nat) (z : T) (x : A) : cls E fr H (.clr s z x) = .l := rfl
@[simp] theorem cls_cpy (s : Nat) (x y : A) : cls E fr H (.cpy s x y) = .l := rfl
@[simp] theorem cls_bsl (s n : Nat) (z : T) (ps : List (Nat × A)) : cls E fr H (.bsl false s n z ps) = bslC (rdL (rd H depth) (ps.map fun p => p.2.ev fr)) := by
  simp only [cls]
  cases rdL (rd H depth) (ps.map fun p => p.2.ev fr) with
  | none => rfl
  | some p => obtain ⟨ts, l⟩ := p; cases l <;> rfl
@[simp] theorem cls_app (s : Nat) (x y : A) : cls E fr H (.app false s x y) = appC (x.ev fr) := by
  simp only [cls]
  generalize x.ev fr = v
  cases v with
  | t x => cases x <;> rfl
  | _ => rfl
@[simp] theorem cls_call (f : FuncId) (as : List A) : cls E fr H (.call f as) = callC (E f) := by
  simp only [cls]
  cases E f with
  | none => rfl
  | some F => simp only [callC]; cases F.mode <;> rfl
attribute [simp] okDraw okWith Cls.free Nat.testBit_eq_decide_div_mod_eq

@[simp] theorem end_norm (res : List R) (fr : Fr) (H : Heap) : endO res (some (.norm, fr, H)) = andO (resV fr H res) (fun vs => some (resOf vs, H)) := by simp only [endO]; cases resV fr H res <;> rfl
@[simp] theorem end_ret (res : List R) (fr : Fr) (H : Heap) : endO res (some (.ret, fr, H)) = andO (resV fr H res) (fun vs => some (resOf vs, H)) := by simp only [endO]; cases resV fr H res <;> rfl
@[simp] theorem rv_nil : resV fr H [] = some [] := rfl
@[simp] theorem rv_tmp (t : Nat) (r : List R) : resV fr H (.tmp t :: r) = andO (resV fr H r) (fun vs => some (fr.get t :: vs)) := by simp only [resV]; cases resV fr H r <;> rfl
@[simp] theorem rv_cell (a : Nat) (agg : Bool) (size : Nat) (r : List R) : resV fr H (.cell a agg size :: r) = andO (evLd H agg size (fr.get a)) (fun v => andO (resV fr H r) (fun vs => some (v :: vs))) := by
  simp only [resV]; cases evLd H agg size (fr.get a) <;> cases resV fr H r <;> rfl
attribute [simp] List.idxOf?_cons
attribute [simp] resOf gcFr gcV keep Fr.vals Fr.ren gcIds close V.idss V.ids Blk.ids V.ren V.rens Blk.ren rho pickB V.flat V.fl0 V.fl1 T.flat T.sc Blk.flat
@[simp] theorem oc_some (g : List T → Option (V × Heap)) (ts : List T) (l : List (Nat × Blk)) : ownC g H (some (ts, l)) = ownIn (g ts) H := rfl
@[simp] theorem oi_some (v : V) (H2 : Heap) : ownIn (some (v, H2)) H = some (v.ren (fun i => some (H.length + i)), H ++ H2.map (Blk.ren fun i => some (H.length + i))) := rfl
def ownFI (H : Heap) (l : List (Nat × Blk)) (p : V × Heap) : Option (V × Heap) := some (p.1.ren (fun i => some (H.length + i)), frz H l ++ p.2.map (Blk.ren fun i => some (H.length + i)))
@[simp] theorem ownFI_eq (l : List (Nat × Blk)) (v : V) (H2 : Heap) : ownFI H l (v, H2) = some (v.ren (fun i => some (H.length + i)), frz H l ++ H2.map (Blk.ren fun i => some (H.length + i))) := rfl
@[simp] theorem of_some (g : List T → Option (V × Heap)) (ts : List T) (l : List (Nat × Blk)) : ownFC g H (some (ts, l)) = andO (g ts) (ownFI H l) := by simp only [ownFC]; cases g ts <;> rfl

end
def ownEnd (p : V × Heap) : Option (V × Heap) := if (gcV p.1 p.2).1.flat && (gcV p.1 p.2).2.all Blk.flat then some (gcV p.1 p.2) else none
@[simp] theorem ownEnd_eq (v : V) (H : Heap) : ownEnd (v, H) = if (gcV v H).1.flat && (gcV v H).2.all Blk.flat then some (gcV v H) else none := rfl
theorem own_ir {E : Env} {f : FuncId} {F : Fn} (hE : E f = some (.ir F)) (ts : List T) (hl : ts.length = F.nargs) : ownR E f ts = andO (endO F.res (execD E F.body (frameOf 0 (ts.map .t), []))) ownEnd := by
  rw [ownR_ir hE ts hl]; cases endO F.res (execD E F.body (frameOf 0 (ts.map .t), [])) <;> rfl
def ownFEnd (p : V × Heap) : Option (V × Heap) := some (gcV p.1 p.2)
@[simp] theorem ownFEnd_eq (v : V) (H : Heap) : ownFEnd (v, H) = some (gcV v H) := rfl
theorem ownF_ir {E : Env} {f : FuncId} {F : Fn} (hE : E f = some (.ir F)) (ts : List T) (hl : ts.length = F.nargs) : ownFR E f ts = andO (endO F.res (execD E F.body (frameOf 0 (ts.map .t), []))) ownFEnd := by
  rw [ownFR_ir hE ts hl]; cases endO F.res (execD E F.body (frameOf 0 (ts.map .t), [])) <;> rfl

def primE (s : Prim) (ts : List T) : Option (V × Heap) := andO (s (ts.map .t) []) ownEnd
theorem primR_E (s : Prim) (ts : List T) : primR s ts = primE s ts := by
  unfold primR primE; cases s (ts.map .t) [] <;> rfl
theorem clone_til (l : List Int) (h : l.length ≤ 68719476736) : primR (cloneP 1) [.lst 1 (til l)] = some (.ref 0 0 l.length, [.pure 1 (til l)]) := by
  simp [primR_E, primE, cloneP, til_length, h, til_flat]

end Go.Proofs.Ytanlmanifpknoaa.Ev
namespace Go.Proofs.Ytanlmanifpknoaa.Ev
open Go Go.RowKit
set_option linter.unusedVariables false
set_option linter.unusedSimpArgs false

def env0 : Env := fun _ => none
theorem env0_ok (P : Program) : EnvOk P env0 := ⟨fun f F' h => by simp [env0] at h, fun f m s h => by simp [env0] at h, fun f G h => by simp [env0] at h⟩
theorem clone_reg {P : Program} {K : Ctx} (hE : EnvOk P env0) {rec : Rec} (hrec : RecOk P rec) (hK : CtxOk K true) {o0 o1 : Oper} {ty te tr : TypeId} {sz : Nat}
    (ho0 : compI P .no #[o0, o1] o0 = ⟨some 3, none, .mv (.v 0)⟩) (hd0 : o0.dst = some 3) (hd1 : o1.dst = some 4) (hg1 : o1.guard = none)
    (ho1 : o1.op = .binOp .eql ty (.tmp 3) (.const (.slice none 0 0)) tr) (hty : P.underlying ty = some (.slice te))
    (X : T) (ys : List T) (hX : X = .nil ∧ ys = [] ∨ X = .lst sz ys) (a1 : Act) (w1 : World) (h1 : Sta K 8 [(0, .t X), (2, .t .nil)] [] a1 w1) (Q : Exit → Act → World → Prop)
    (hn : ∀ (a2 : Act) (w2 : World) (b : Bool), (b = true → ys = []) → Sta K 8 [(0, .t X), (2, .t .nil), (3, .t X), (4, .t (.bool b))] [] a2 w2 → Q .normal a2 w2) :
    wpOps P #[o0, o1] Q (List.range (#[o0, o1] : Array Oper).size) a1 w1 := by
  have hr : List.range (#[o0, o1] : Array Oper).size = [0, 1] := rfl
  rw [hr]
  simp only [wpOps, List.getElem?_toArray, List.getElem?_cons_zero, List.getElem?_cons_succ]
  have hst := step_ok hE hrec hK (fr := [(0, .t X), (2, .t .nil)]) (fr' := [(0, .t X), (2, .t .nil), (3, .t X)]) (H := []) (H' := []) (ops := #[o0, o1]) (mix := .no) (o := o0) (by rw [ho0]; rfl) (fun d hd => by rw [hd0] at hd; cases hd; decide) h1
  have hop1 : ∀ (a : Act) (w : World), Sta K 8 [(0, .t X), (2, .t .nil), (3, .t X)] [] a w → wpOps P #[o0, o1] Q [1] a w := by
    rintro a w ⟨μ, D, F, hm, hfr⟩
    have hw : Region.wanted o1 (yielded #[o0, o1] a.tmps) = true := by unfold Region.wanted; rw [hg1]
    simp only [wpOps, List.getElem?_toArray, List.getElem?_cons_zero, List.getElem?_cons_succ]
    rw [if_pos hw]
    refine .inl ?_
    have h3 := hfr.slot 3
    have h3' : TR w F X (a.tmps.getD 3 undef) := h3.tT
    obtain ⟨ad, n, c, hval, hnil⟩ : ∃ ad n c, a.tmps.getD 3 undef = .slice ad n c ∧ (ad.isNone = true → ys = []) := by
      rcases hX with ⟨rfl, rfl⟩ | rfl
      · generalize a.tmps.getD 3 undef = u at h3'
        cases h3'
        exact ⟨_, _, _, rfl, fun _ => rfl⟩
      · generalize a.tmps.getD 3 undef = u at h3'
        cases h3' with
        | lst0 sz a cap => exact ⟨_, _, _, rfl, fun _ => rfl⟩
        | lst sz xs m off cap cs => exact ⟨_, _, _, rfl, fun h => by cases h⟩
    have hrun : (execOp a.eval o1).run P w = .ok (.value (.bool ad.isNone)) w := by
      have k1 := (run_both (P := P) (w := w) (x := .slice ad n c) (y := .slice none 0 0) (.inl ⟨_, _, _, rfl⟩) (.inl ⟨_, _, _, rfl⟩) (run_eqS 9999 hty ad n c)).1
      have he : a.eval (.tmp 3) = .slice ad n c := hval
      have he2 : a.eval (.const (.slice none 0 0)) = .slice none 0 0 := rfl
      have hs : execOp a.eval o1 = (do pure (.value (← (do eqGuard .eql ty (.tmp 3) (.const (.slice none 0 0)) (a.eval (.tmp 3)) (a.eval (.const (.slice none 0 0))); binOp .eql ty (a.eval (.tmp 3)) (a.eval (.const (.slice none 0 0))))))) := by simp only [execOp, ho1]
      rw [hs, he, he2, guard_plain _ _ _ _ _ _ rfl]
      simp [Sem.run_bind, k1]
    refine Does.value hrun (R := fun x w' => x = .bool ad.isNone ∧ w' = w) ⟨rfl, rfl⟩ _ _ ?_
    rintro x w' ⟨rfl, rfl⟩
    refine hn _ _ ad.isNone hnil ⟨μ, D, F, hm, ?_⟩
    have := hfr.put o1.dst (fun t ht => by rw [hd1] at ht; cases ht; decide) (.t (.bool ad.isNone) : VR μ w' F (.t (.bool ad.isNone)) (.bool ad.isNone))
    rw [hd1] at this ⊢
    exact this
  split
  · rename_i hw
    have := hst (wpOps P #[o0, o1] Q [1]) Q hop1
    rw [if_pos hw] at this
    exact .inl this
  · rename_i hw
    have := hst (wpOps P #[o0, o1] Q [1]) Q hop1
    rw [if_neg hw] at this
    exact this
theorem clone_sound {P : Program} {f : FuncId} {fn : Func} {c0 c2 ct : Code} {o0 o1 : Oper} {ty te tr : TypeId} {id1 sz : Nat} {z : T}
    (hfn : P.funcs[f]? = some fn) (hbody : fn.body = some (c0.seq (((Code.region id1 #[o0, o1] false).seq (.cond (.tmp 4) (c2.seq .ret) .skip)).seq (ct.seq .ret))))
    (hnt : fn.ntmps = 8) (hres : fn.results = #[.tmp 2])
    (h0 : compC P .no true 8 c0 = .reg false [] [⟨some 2, none, .mv (.k .nil)⟩])
    (ho0 : compI P .no #[o0, o1] o0 = ⟨some 3, none, .mv (.v 0)⟩) (hd0 : o0.dst = some 3) (hd1 : o1.dst = some 4) (hg1 : o1.guard = none)
    (ho1 : o1.op = .binOp .eql ty (.tmp 3) (.const (.slice none 0 0)) tr) (hty : P.underlying ty = some (.slice te))
    (h2 : compC P .no true 8 c2 = .reg false [] [⟨some 2, none, .mv (.k .nil)⟩])
    (ht : compC P .no true 8 ct = .reg false [] [⟨some 5, none, .bsl false sz 0 z []⟩, ⟨some 6, none, .mv (.v 0)⟩, ⟨some 7, none, .app false sz (.v 5) (.v 6)⟩, ⟨some 2, none, .mv (.v 7)⟩])
    (X : T) (ys : List T) (hX : X = .nil ∧ ys = [] ∨ X = .lst sz ys) (hys : ys.length ≤ lim) : Sound P f [.t X] [] (.ref 1 0 ys.length) [.dead, .pure sz ys] := by
  intro μ D F w margs hrel hD hdD hfresh hargs
  obtain ⟨a, bs, rfl, hva, hbs⟩ := hargs.head
  have hbs0 : bs = [] := List.length_eq_zero_iff.1 hbs.1
  subst hbs0
  have hE := env0_ok P
  have hrec : RecOk P (run env0 1) := sound hE 1
  have hdraw := draw_ok hE (run env0 1) hrec
  have hK := Kown_ok F w
  refine calls_of_wp hfn hbody ?_
  have hnoD : ∀ id, ¬ D id := fun id hd => absurd (hrel.lt id hd) (Nat.not_lt_zero _)
  have hmu : ∀ id, μ id = none := fun id => hfresh id (Nat.zero_le _)
  have hno : ∀ m, ¬ OwnS μ D [] m := fun m ⟨id, b, l, hd, _⟩ => hnoD id hd
  have hfr0 : FR μ w F 8 [(0, .t X)] { tmps := #[a] ++ Array.replicate (fn.ntmps - 1) undef, defers := [] } := by
    refine ⟨by simp [hnt], rfl, fun t => ?_⟩
    simp only [Fr.get]
    split
    · rename_i h; subst h
      have : (#[a] ++ Array.replicate (fn.ntmps - 1) undef).getD 0 undef = a := by
        rw [Array.getD_eq_getD_getElem?, Array.getElem?_append_left (by simp)]; rfl
      rw [this]; exact hva
    · exact .any _
  have hsta : Sta (Kown F w) 8 [(0, .t X)] [] { tmps := #[a] ++ Array.replicate (fn.ntmps - 1) undef, defers := [] } w :=
    ⟨μ, D, F, ⟨⟨fun _ h => h, fun _ h => .inl h, fun m hm => absurd hm (hno m), fun _ _ => rfl, Nat.le_refl _, ⟨rfl, rfl, rfl⟩, fun id hd => absurd hd (hnoD id)⟩, hrel, hD, hdD, hfresh⟩, hfr0⟩
  have hend : ∀ (v : V) (H' : Heap) (fr' : Fr) (a' : Act) (w' : World), fr'.get 2 = v → Sta (Kown F w) 8 fr' H' a' w' → a'.defers = [] ∧ ∃ x, (results fn a'.tmps).run P w' = .ok x w' ∧ Leaves μ D F [] w v H' x w' := by
    rintro v H' fr' a' w' rfl ⟨μ', D', F', hm, hfr⟩
    obtain ⟨⟨h1, h2, h3, h4, h5, ⟨h6, h7, h8⟩, h9⟩, hr', hD', hdD', hf'⟩ := hm
    refine ⟨hfr.defers, a'.tmps.getD 2 undef, ?_, μ', D', F', ⟨fun id hid => ?_, fun id l hl => ?_, Nat.zero_le _, fun id => ⟨fun hd => ?_, fun hd => ?_⟩, h1, fun m hm => (h2 m hm).elim .inl fun a => .inr (.inl a), hr', fun m hm _ => h4 m hm, fun m hm => .inl (h3 m hm), h5, h6, h7, h8⟩, hfr.slot 2⟩
    · unfold results
      rw [hres]
      simp [Sem.run_bind]
    · rw [hmu id]; exact hf' id (hid.resolve_left (Nat.not_lt_zero _))
    · rw [hmu id] at hl; cases hl
    · obtain ⟨l, hl, hre⟩ := h9 id hd
      exact .inr ⟨Nat.zero_le _, hr'.lt id hd, l, hl, hre⟩
    · rcases hd with a | ⟨_, a, l, hl, hre⟩
      · exact absurd a (hnoD id)
      · exact hD' id l a hl hre
  refine wp_seq (exec_ok hE hrec hdraw hK 1 c0 _ (compC_CM c0) _ [] .norm [(0, .t X), (2, .t .nil)] [] _ w _ (by rw [h0]; rfl) hsta fun a1 w1 h1 => ?_)
  refine wp_seq (wp_seq (wp_region ?_))
  refine clone_reg hE hrec hK ho0 hd0 hd1 hg1 ho1 hty X ys hX a1 w1 h1 _ fun a2 w2 b hb hst => ?_
  have hcv : a2.eval (.tmp 4) = .bool b := by
    obtain ⟨μ2, D2, F2, hm2, hfr2⟩ := hst
    exact (hfr2.slot 4).boolv
  refine wp_cond hcv ?_
  cases b with
  | true =>
    have hys0 := hb rfl
    subst hys0
    refine wp_seq (exec_ok hE hrec hdraw hK 1 c2 _ (compC_CM c2) _ [] .norm [(0, .t X), (2, .t .nil), (3, .t X), (4, .t (.bool true))] [] _ w2 _ (by rw [h2]; rfl) hst fun a3 w3 h3 => ?_)
    refine wp_ret ?_
    obtain ⟨e1, x, e2, μ', D', F', hp, hv⟩ := hend (.t .nil) [] _ a3 w3 rfl h3
    refine ⟨e1, x, e2, x, rfl, ?_⟩
    have hxv : x = .slice none 0 0 := by
      have h5 := hv.tT
      cases h5; rfl
    subst hxv
    have hnoD' : ∀ id, ¬ D' id := fun id hd => by
      rcases (hp.dom id).1 hd with h5 | ⟨_, h5, _⟩
      · exact hnoD id h5
      · exact absurd h5 (Nat.not_lt_zero _)
    have hmu' : ∀ id, μ' id = none := fun id => (hp.mu id (.inr (Nat.zero_le _))).trans (hmu id)
    have hup : ∀ id l, upd μ' 1 (some ⟨0, sz, 0, 0, false⟩) id = some l → id = 1 ∧ l = ⟨0, sz, 0, 0, false⟩ := fun id l h5 => by
      unfold upd at h5
      split at h5
      · rename_i h6; cases h5; exact ⟨h6, rfl⟩
      · rw [hmu' id] at h5; cases h5
    refine ⟨upd μ' 1 (some ⟨0, sz, 0, 0, false⟩), D', F', ⟨fun id hid => ?_, fun id l hl => (by rw [hmu id] at hl; cases hl), Nat.zero_le _, fun id => ⟨fun hd => absurd hd (hnoD' id), fun hd => ?_⟩, hp.old, hp.new, ⟨fun id b hd => absurd hd (hnoD' id), fun i j li lj bi bj hd => absurd hd (hnoD' i), hp.rel.frz, fun id hd => absurd hd (hnoD' id), fun id b l hb hl hre ho => ?_⟩, hp.frame, fun m ⟨id, b, l, hd, _⟩ => absurd hd (hnoD' id), hp.size, hp.os, hp.tape, hp.output⟩, .ref0 1 0 none ⟨0, sz, 0, 0, false⟩ (by simp [upd]) (Nat.le_refl _)⟩
    · have : id ≠ 1 := by
        rcases hid with h5 | h5
        · exact absurd h5 (Nat.not_lt_zero _)
        · simp at h5; omega
      unfold upd
      rw [if_neg this, hmu', hmu]
    · rcases hd with h5 | ⟨_, _, l, h5, h6⟩
      · exact absurd h5 (hnoD id)
      · obtain ⟨_, rfl⟩ := hup id l h5
        cases h6
    · obtain ⟨rfl, rfl⟩ := hup id l hl
      simp at hb
      exact ⟨sz, hb.symm⟩
  | false =>
    refine wp_skip ?_
    refine wp_seq (exec_ok hE hrec hdraw hK 1 ct (compC P .no true 8 ct) (compC_CM ct) _ [] .norm [(0, .t X), (2, .ref 1 0 ys.length), (3, .t X), (4, .t (.bool false)), (5, .ref 0 0 0), (6, .t X), (7, .ref 1 0 ys.length)] [.dead, .pure sz ys] _ w2 _ ?_ hst fun a3 w3 h3 => ?_)
    · rw [ht]
      have hl : ys.length ≤ lim := hys
      rcases hX with ⟨rfl, rfl⟩ | rfl
      · simp [exec]
      · simp [exec, lim] at hl ⊢
        simp [hl]
    · refine wp_ret ?_
      obtain ⟨e1, x, e2, hl⟩ := hend (.ref 1 0 ys.length) _ _ a3 w3 rfl h3
      exact ⟨e1, x, e2, x, rfl, hl⟩
end Go.Proofs.Ytanlmanifpknoaa.Ev
namespace Go.Proofs.Ytanlmanifpknoaa.Ev
open Go Go.RowKit
set_option linter.unusedVariables false
set_option linter.unusedSimpArgs false

theorem lookup_mem {α : Type} : ∀ (l : List (Nat × α)) (f : Nat) (x : α), l.lookup f = some x → (f, x) ∈ l
  | [], f, x, h => by simp at h
  | (k, y) :: l, f, x, h => by
    rw [List.lookup_cons] at h
    split at h
    · rename_i he
      cases h
      have : f = k := by simpa using he
      subst this
      exact List.mem_cons_self ..
    · exact List.mem_cons_of_mem _ (lookup_mem l f x h)
def RowOk (P : Program) (p : Nat × Fun) : Prop := (∃ fn, P.funcs[p.1]? = some fn ∧ fn.body.isSome = true ∧ (fn.name == "runtime.NumGoroutine") = false) ∧
  match p.2 with
  | .ir G => ∃ fn mix, P.funcs[p.1]? = some fn ∧ compF P G.mode mix fn = some G
  | .prim m s => ∀ args H v H', s args H = some (v, H') → Sound P p.1 args H v H'
theorem envOk_of {P : Program} (tab : List (Nat × Fun)) (h : ∀ p ∈ tab, RowOk P p) : EnvOk P (fun f => tab.lookup f) := by
  refine ⟨fun f F' hf => (h _ (lookup_mem tab f F' hf)).1, fun f m s hf => (h _ (lookup_mem tab f _ hf)).2, fun f G hf => (h _ (lookup_mem tab f _ hf)).2⟩
theorem rowOk_ir {P : Program} {i : Nat} {fn : Func} {m : Mode} {mix : Mx} {G : Fn} (hf : P.funcs[i]? = some fn) (hb : fn.body.isSome = true) (hn : (fn.name == "runtime.NumGoroutine") = false) (hm : G.mode = m) (hc : compF P m mix fn = some G) : RowOk P (i, .ir G) :=
  ⟨⟨fn, hf, hb, hn⟩, fn, mix, hf, by rw [hm]; exact hc⟩
theorem clone_row {P : Program} {f : Nat} {fn : Func} {sz : Nat} (hf : P.funcs[f]? = some fn) (hb : fn.body.isSome = true) (hn : (fn.name == "runtime.NumGoroutine") = false)
    (hs : ∀ (X : T) (ys : List T), (X = .nil ∧ ys = [] ∨ X = .lst sz ys) → ys.length ≤ lim → Sound P f [.t X] [] (.ref 1 0 ys.length) [.dead, .pure sz ys]) : RowOk P (f, .prim .own (cloneP sz)) := by
  refine ⟨⟨fn, hf, hb, hn⟩, fun args H v H' h => ?_⟩
  unfold cloneP at h
  split at h
  · split at h
    · rename_i s xs hc
      cases h
      obtain ⟨rfl, hl⟩ := hc
      exact hs _ _ (.inr rfl) hl
    · cases h
  · cases h
    exact hs _ _ (.inl ⟨rfl, rfl⟩) (by simp)
  · cases h

theorem ren_t {r : Nat → Option Nat} {v : V} {t : T} (h : v.ren r = .t t) : v = .t t := by
  cases v with
  | t x => simpa [V.ren] using h
  | ref id off len => simp only [V.ren] at h; split at h <;> cases h
  | ptr id idx c => simp only [V.ren] at h; split at h <;> cases h
  | map id => simp only [V.ren] at h; split at h <;> cases h
  | _ => simp [V.ren] at h
theorem own_den {E : Env} {f : FuncId} {ts : List T} {t : T} {H1 : Heap} (h : ownR E f ts = some (.t t, H1)) : ∃ H', den E f (ts.map .t) [] = some (.t t, H') := by
  unfold ownR at h
  split at h
  · cases h
  · rename_i v H2 hd
    split at h
    · have h2 : gcV v H2 = (.t t, H1) := Option.some.inj h
      have h3 : (gcV v H2).1 = .t t := by rw [h2]
      have := ren_t h3
      subst this
      exact ⟨_, hd⟩
    · cases h
theorem top {P : Program} {E : Env} (hE : EnvOk P E) {f : FuncId} {ts : List T} {t : T} {H1 : Heap} {as : List Value} {w : World} (h : ownR E f ts = some (.t t, H1)) (hl : as.length = ts.length) (ha : ∀ (i : Nat) x a, ts[i]? = some x → as[i]? = some a → TR w (fun m => m < w.heap.size) x a) :
    Calls P f as.toArray w fun e w' => ∃ x F', e = .returned x ∧ TR w' F' t x ∧ Below w.heap.size w w' := by
  obtain ⟨H', hd⟩ := own_den h
  have hs := den_sound hE f _ _ _ _ hd (fun _ => none) (fun _ => False) (fun m => m < w.heap.size) w as ⟨fun id b hd => hd.elim, fun i j li lj bi bj hd => hd.elim, fun m hm => hm, fun id hd => hd.elim, fun id b l hb hl => by cases hl⟩
    (fun id l hid hl => by cases hl) (fun id hd => hd.elim) (fun id _ => rfl) (VRs.ofT hl ha)
  refine hs.mono ?_
  rintro e w' ⟨x, rfl, μ', D', F', hp, hv⟩
  refine ⟨x, F', rfl, hv.tT, hp.os, hp.tape, hp.output, hp.size, fun k hk => hp.frame k hk ?_⟩
  rintro ⟨id, b, l, hd, _⟩
  exact hd.elim
theorem top_true {P : Program} {E : Env} (hE : EnvOk P E) {f : FuncId} {ts : List T} {H1 : Heap} {as : List Value} {w : World} (h : ownR E f ts = some (.t (.bool true), H1)) (hl : as.length = ts.length) (ha : ∀ (i : Nat) x a, ts[i]? = some x → as[i]? = some a → TR w (fun m => m < w.heap.size) x a) :
    Calls P f as.toArray w fun e w' => e = .returned (.bool true) ∧ Below w.heap.size w w' := by
  refine (top hE h hl ha).mono ?_
  rintro e w' ⟨x, F', rfl, hx, hb⟩
  cases hx
  exact ⟨rfl, hb⟩
end Go.Proofs.Ytanlmanifpknoaa.Ev
namespace Go.Proofs.Ytanlmanifpknoaa.Ev
open Go Go.RowKit Go.Deep
set_option linter.unusedVariables false
set_option linter.unusedSimpArgs false
def TRs (w : World) (F : Nat → Prop) (ts : List T) (cs : List Value) : Prop := cs.length = ts.length ∧ ∀ (i : Nat) x a, ts[i]? = some x → cs[i]? = some a → TR w F x a
theorem TRs.one {w : World} {F : Nat → Prop} {t : T} {v : Value} (h : TR w F t v) : TRs w F [t] [v] := ⟨rfl, fun i x a hx ha => by
  cases i with
  | zero => simp at hx ha; subst hx ha; exact h
  | succ i => simp at hx⟩
theorem TRs.app {w : World} {F : Nat → Prop} {ts us : List T} {cs ds : List Value} (h : TRs w F ts cs) (k : TRs w F us ds) : TRs w F (ts ++ us) (cs ++ ds) := by
  refine ⟨by rw [List.length_append, List.length_append, h.1, k.1], fun i x a hx ha => ?_⟩
  rcases Nat.lt_or_ge i ts.length with h1 | h1
  · rw [List.getElem?_append_left h1] at hx
    rw [List.getElem?_append_left (h.1 ▸ h1)] at ha
    exact h.2 i x a hx ha
  · rw [List.getElem?_append_right h1] at hx
    rw [List.getElem?_append_right (h.1 ▸ h1), h.1] at ha
    exact k.2 _ x a hx ha

section
variable {H : Type} {enc : TypeId × Value → H} {P : Program} {w : World} {base : Nat} {spare : Nat → Bool} {held : Bool}
def Opn {H : Type} (enc : TypeId × Value → H) (P : Program) (w : World) (base : Nat) (spare : Nat → Bool) (held : Bool) (t : TypeId) (n : Nat) (wf : List T → Prop) : Prop :=
  ∀ (fuel : Nat) (cs : List Value) (x : DataW H × List MemPlace), DataW.trod enc P w base spare held fuel t cs = some x → ∃ ts, ts.length = n ∧ TRs w (fun m => m < w.heap.size) ts cs ∧ wf ts
theorem opn_int {t : TypeId} {k : IntKind} (h : P.underlying t = some (.int k)) : Opn enc P w base spare held t 1 (fun ts => ∃ n, ts = [.int k n] ∧ (Lit.int k n).wf = true) := by
  intro fuel cs x hx
  obtain ⟨n, rfl, _, hw⟩ := DataW.trod_int h hx
  exact ⟨[.int k n], rfl, .one (.int k n), n, rfl, hw⟩
theorem opn_bool {t : TypeId} (h : P.underlying t = some .bool) : Opn enc P w base spare held t 1 (fun ts => ∃ b, ts = [.bool b]) := by
  intro fuel cs x hx
  obtain ⟨n, rfl, _⟩ := DataW.trod_bool h hx
  exact ⟨[.bool n], rfl, .one (.bool n), n, rfl⟩
theorem opn_string {t : TypeId} (h : P.underlying t = some .string) : Opn enc P w base spare held t 1 (fun ts => ∃ s, ts = [.str s] ∧ s.size ≤ maxLen) := by
  intro fuel cs x hx
  obtain ⟨s, rfl, _, hw⟩ := DataW.trod_string h hx
  exact ⟨[.str s], rfl, .one (.str s), s, rfl, hw⟩
theorem opn_struct2 {n0 n1 : Nat} {wf0 wf1 : List T → Prop} {t : TypeId} {f0 f1 : Field} (hs : P.underlying t = some (.struct #[f0, f1])) (o0 : f0.offset = 0) (o1 : f1.offset = n0)
    (c0 : P.cellsOf f0.type = n0) (c1 : P.cellsOf f1.type = n1) (c : P.cellsOf t = n0 + n1) (h0 : Opn enc P w base spare held f0.type n0 wf0) (h1 : Opn enc P w base spare held f1.type n1 wf1) :
    Opn enc P w base spare held t (n0 + n1) (fun ts => ∃ t0 t1, ts = t0 ++ t1 ∧ wf0 t0 ∧ wf1 t1) := by
  intro fuel cs x hx
  obtain ⟨xs, n, _, _, hl, hxl, hf⟩ := DataW.trod_struct hs hx
  have e0 := hf 0 f0 rfl
  have e1 := hf 1 f1 rfl
  rw [o0, c0, List.drop_zero, List.getElem?_eq_getElem (by rw [hxl]; simp)] at e0
  rw [o1, c1, List.getElem?_eq_getElem (by rw [hxl]; simp)] at e1
  obtain ⟨t0, l0, k0, w0⟩ := h0 _ _ _ e0
  obtain ⟨t1, l1, k1, w1⟩ := h1 _ _ _ e1
  refine ⟨t0 ++ t1, by simp [l0, l1], ?_, t0, t1, rfl, w0, w1⟩
  have := k0.app k1
  rwa [List.take_of_length_le (l := cs.drop n0) (by simp; omega), List.take_append_drop] at this
theorem opn_struct3 {n0 n1 n2 : Nat} {wf0 wf1 wf2 : List T → Prop} {t : TypeId} {f0 f1 f2 : Field} (hs : P.underlying t = some (.struct #[f0, f1, f2])) (o0 : f0.offset = 0) (o1 : f1.offset = n0) (o2 : f2.offset = n0 + n1)
    (c0 : P.cellsOf f0.type = n0) (c1 : P.cellsOf f1.type = n1) (c2 : P.cellsOf f2.type = n2) (c : P.cellsOf t = n0 + (n1 + n2)) (h0 : Opn enc P w base spare held f0.type n0 wf0) (h1 : Opn enc P w base spare held f1.type n1 wf1) (h2 : Opn enc P w base spare held f2.type n2 wf2) :
    Opn enc P w base spare held t (n0 + (n1 + n2)) (fun ts => ∃ t0 t1 t2, ts = t0 ++ (t1 ++ t2) ∧ wf0 t0 ∧ wf1 t1 ∧ wf2 t2) := by
  intro fuel cs x hx
  obtain ⟨xs, n, _, _, hl, hxl, hf⟩ := DataW.trod_struct hs hx
  have e0 := hf 0 f0 rfl
  have e1 := hf 1 f1 rfl
  have e2 := hf 2 f2 rfl
  rw [o0, c0, List.drop_zero, List.getElem?_eq_getElem (by rw [hxl]; simp)] at e0
  rw [o1, c1, List.getElem?_eq_getElem (by rw [hxl]; simp)] at e1
  rw [o2, c2, List.getElem?_eq_getElem (by rw [hxl]; simp)] at e2
  obtain ⟨t0, l0, k0, w0⟩ := h0 _ _ _ e0
  obtain ⟨t1, l1, k1, w1⟩ := h1 _ _ _ e1
  obtain ⟨t2, l2, k2, w2⟩ := h2 _ _ _ e2
  refine ⟨t0 ++ (t1 ++ t2), by simp [l0, l1, l2], ?_, t0, t1, t2, rfl, w0, w1, w2⟩
  have := k0.app (k1.app k2)
  rwa [List.take_of_length_le (l := cs.drop (n0 + n1)) (by simp; omega), ← List.drop_drop, List.take_append_drop, List.take_append_drop] at this
theorem opn_agg {w : World} {ts : List T} {cs : Array Value} {F : Nat → Prop} (h : TRs w F ts cs.toList) : TR w F (.agg ts) (.agg cs) := by
  have := TR.agg ts cs.toList h.1 h.2
  simpa using this
end
end Go.Proofs.Ytanlmanifpknoaa.Ev
namespace Go.Proofs.Ytanlmanifpknoaa.Ev
open Go Go.RowKit Go.Deep
set_option linter.unusedVariables false
set_option linter.unusedSimpArgs false
section
variable {H : Type} {enc : TypeId × Value → H} {P : Program} {w : World} {base : Nat} {spare : Nat → Bool} {held : Bool}
theorem add_none (b off m : Nat) : (⟨b, off, none⟩ : Addr).add m = ⟨b, off + m, none⟩ := by
  unfold Addr.add
  split
  · subst_vars; rfl
  · rfl
theorem opn_slice {e t : TypeId} {sz : Nat} {wf : List T → Prop} (mk : List T → T) (ht : P.underlying t = some (.slice e)) (hc : P.cellsOf e = sz) (h0 : 0 < sz) (he : Opn enc P w base spare held e sz wf) (hmk : ∀ ts, wf ts → (mk ts).cells = ts ∧ ts.all T.one = true) :
    Opn enc P w base spare held t 1 (fun ts => ts = [.nil] ∨ ∃ els : List (List T), ts = [.lst sz (els.map mk)] ∧ ∀ x ∈ els, wf x) := by
  intro fuel cs x hx
  rcases DataW.trod_slice ht hx with ⟨rfl, _⟩ | ⟨a, len, cap, elems, rest, n, _, rfl, _, hb, hlc, _, hl, hel, _, _⟩
  · exact ⟨[.nil], rfl, .one .nil, .inl rfl⟩
  · rw [hc] at hel
    have key : ∀ i, i < len → ∃ (ts : List T), (∃ cs : List Value, w.cells? base (a.add (i * sz)) sz = some cs ∧ TRs w (fun m => m < w.heap.size) ts cs) ∧ ts.length = sz ∧ wf ts := fun i hi => by
      have h1 := hel i hi
      rw [List.getElem?_eq_getElem (by omega)] at h1
      obtain ⟨cs, h2, h3⟩ := Option.bind_eq_some_iff.1 h1
      obtain ⟨ts, k1, k2, k3⟩ := he _ _ _ h3
      exact ⟨ts, ⟨cs, h2, k2⟩, k1, k3⟩
    obtain ⟨f, hf⟩ : ∃ f : Nat → List T, ∀ i, i < len → (∃ cs : List Value, w.cells? base (a.add (i * sz)) sz = some cs ∧ TRs w (fun m => m < w.heap.size) (f i) cs) ∧ (f i).length = sz ∧ wf (f i) :=
      ⟨fun i => if h : i < len then (key i h).choose else [], fun i hi => by simp only [dif_pos hi]; exact (key i hi).choose_spec⟩
    refine ⟨[.lst sz (((List.range len).map f).map mk)], rfl, .one ?_, .inr ⟨_, rfl, fun x hx => ?_⟩⟩
    · cases len with
      | zero => exact .lst0 sz (some a) cap
      | succ m =>
        have cell : ∀ i, i < m + 1 → ∀ j v, (∃ cs : List Value, w.cells? base (a.add (i * sz)) sz = some cs ∧ cs[j]? = some v) → j < sz → w.cell? ((a.add (i * sz)).add j) = some v := fun i hi j v ⟨cs, h1, h2⟩ hj => by
          rw [(World.cells?_some h1).2.2 j hj]; exact h2
        have some0 : ∀ i, i < m + 1 → ∀ j, j < sz → ∃ v, w.cell? ((a.add (i * sz)).add j) = some v := fun i hi j hj => by
          obtain ⟨⟨cs, h1, h2⟩, h3, _⟩ := hf i hi
          have hlen := (World.cells?_some h1).2.1
          exact ⟨cs[j]'(by omega), cell i hi j _ ⟨cs, h1, by rw [List.getElem?_eq_getElem]⟩ hj⟩
        obtain ⟨v0, hv0⟩ := some0 0 (by omega) 0 h0
        have hsp : a.spot = none := by
          have := World.cell?_spot hv0
          simpa [Addr.add] using this
        obtain ⟨b, off, spot⟩ := a
        simp only at hsp
        subst hsp
        have hblk : ∃ c el fr, w.heap[b]? = some (.cells c el fr) := by
          unfold World.cell? at hv0
          rw [add_none, add_none] at hv0
          simp only at hv0
          split at hv0
          · rename_i c el fr h; exact ⟨c, el, fr, h⟩
          · cases hv0
        obtain ⟨c, el, fr, hB⟩ := hblk
        have hcell : ∀ o, w.cell? ⟨b, o, none⟩ = c[o]? := fun o => by unfold World.cell?; rw [hB]; rfl
        have hlt : b < w.heap.size := by
          rcases Nat.lt_or_ge b w.heap.size with h | h
          · exact h
          · rw [Array.getElem?_eq_none h] at hB; cases hB
        have hxl : (((List.range (m + 1)).map f).map mk).length = m + 1 := by simp
        have hget : ∀ (i : Nat) x, (((List.range (m + 1)).map f).map mk)[i]? = some x → i < m + 1 ∧ x = mk (f i) := fun i x hx => by
          have hi : i < m + 1 := by have := (List.getElem?_eq_some_iff.1 hx).1; omega
          refine ⟨hi, ?_⟩
          simp [hi] at hx
          exact hx.symm
        have := TR.lst (w := w) (F := fun m => m < w.heap.size) sz (((List.range (m + 1)).map f).map mk) b off cap c hlt ⟨el, fr, hB⟩ (by
            rw [hxl]
            obtain ⟨v, hv⟩ := some0 m (by omega) (sz - 1) (by omega)
            rw [add_none, add_none, hcell] at hv
            have := (Array.getElem?_eq_some_iff.1 hv).1
            rw [Nat.succ_mul]
            omega) (by rw [hxl]; exact hlc) (fun i x hx => by
            obtain ⟨hi, rfl⟩ := hget i x hx
            obtain ⟨_, h3, h4⟩ := hf i hi
            obtain ⟨h5, h6⟩ := hmk _ h4
            unfold T.el
            rw [h5, h3, h6]
            simp) (fun i x j y hx hy => by
            obtain ⟨hi, rfl⟩ := hget i x hx
            obtain ⟨⟨cs, h1, h2⟩, h3, h4⟩ := hf i hi
            rw [(hmk _ h4).1] at hy
            have hj : j < sz := by have := (List.getElem?_eq_some_iff.1 hy).1; omega
            have hlen := (World.cells?_some h1).2.1
            have hv : cs[j]? = some (cs[j]'(by omega)) := by rw [List.getElem?_eq_getElem]
            have h6 := cell i hi j _ ⟨cs, h1, hv⟩ hj
            rw [add_none, add_none, hcell] at h6
            have h7 : c.getD (off + i * sz + j) undef = cs[j]'(by omega) := by
              rw [Array.getD_eq_getD_getElem?, h6]; rfl
            rw [h7]
            exact h2.2 j y _ hy hv)
        rw [hxl] at this
        exact this
    · obtain ⟨i, hi, rfl⟩ := List.mem_map.1 hx
      exact (hf i (List.mem_range.1 hi)).2.2
end
end Go.Proofs.Ytanlmanifpknoaa.Ev
