/- The evaluator and what it gives of the functions, part 1. No conditions of ours: a law's row is in YtdgfpjlmpnfcgaaLFnVoyagesSail. -/
import Derived.Test.YtdgfpjlmpnfcgaaE0
import Derived.Below
import Derived.Orders
namespace Go.Proofs.Ytdgfpjlmpnfcgaa.Ev
open Go Go.RowKit
set_option linter.unusedVariables false
set_option linter.unusedSimpArgs false

section
variable {P : Program} {μ : Nat → Option Loc} {D F : Nat → Prop} {H : Heap} {w : World}

theorem VRs.oneV {vs : List V} {bs : List Value} (h : VRs μ w F vs bs) (ho : vs.all V.one = true) : ∀ v ∈ bs, v.oneCell' = true := fun v hv => by
  obtain ⟨j, hj⟩ := List.getElem?_of_mem hv
  have hjl := (List.getElem?_eq_some_iff.1 hj).1
  have h1 := h.1
  have hu : vs[j]? = some (vs[j]'(by omega)) := List.getElem?_eq_getElem _
  exact one_V (h.2 j _ _ hu hj) (List.all_of_all ho hu)

theorem box_loads {cs : Array Value} {vs : List V} (h8 : ∀ (i : Nat) (v : V), vs[i]? = some v → VR μ w F v (cs.getD i undef)) (o n : Nat) (hb : o + n ≤ vs.length) :
    VRs μ w F ((vs.drop o).take n) ((List.range n).map fun j => cs.getD (o + j) undef) := by
  refine ⟨by simp; omega, fun k v a hk ha => ?_⟩
  obtain ⟨hlt, rfl⟩ := range_get _ _ _ _ ha
  rw [List.getElem?_take, if_pos hlt, List.getElem?_drop] at hk
  exact h8 _ v hk

theorem elemsV_ok (h : Rel μ D F H w) (hD : ∀ id l, id < H.length → μ id = some l → l.real = true → D id) {sz : Nat} (h0 : 0 < sz) {v : V} {x : Value} {ys : List V} (he : elemsV H sz v = some ys) (hv : VR μ w F v x) :
    ∃ (n : Nat) (bs : List Value), ys.length = n * sz ∧ (Builtin.lenOf x).run P w = .ok n w ∧ (∀ w', w'.heap = w.heap → (Builtin.firstCells sz n x).run P w' = .ok bs.toArray w') ∧ VRs μ w F ys bs := by
  unfold elemsV at he
  split at he
  · rename_i id off len
    split at he
    · rename_i s vs hb
      split at he
      · rename_i hs; subst hs
        cases he
        cases hv with
        | ref0 id off a l hl hl0 =>
          refine ⟨0, [], by simp, rfl, fun w' _ => by cases a <;> simp only [Builtin.firstCells, Nat.zero_mul] <;> rfl, ?_⟩
          rw [Nat.zero_mul, List.take_zero]; exact .nil
        | ref id off len cap l hl hre k1 k2 k3 =>
          obtain ⟨l', cs, q1, q2, q3, q4, q5, q6, q7, q8⟩ := h.blk id _ (hD id l (List.getElem?_eq_some_iff.1 hb).1 hl hre) hb
          rw [hl] at q1; cases q1.1
          have hm : (off + len) * s ≤ l.n * s := Nat.mul_le_mul_right _ k1
          rw [Nat.add_mul] at hm
          refine ⟨len, _, by simp; omega, rfl, fun w' e' => ?_, box_loads q8 (off * s) (len * s) (by omega)⟩
          simp only [Builtin.firstCells, q4]
          exact run_loads (q2.cel.same (by rw [e'])) (by omega)
      · cases he
    · cases he
  · cases he

theorem set_same {α : Type} {l : List α} {i : Nat} {x : α} (h : l[i]? = some x) : l.set i x = l := by
  apply List.ext_getElem?
  intro j
  rw [List.getElem?_set]
  split
  · rename_i e; subst e
    split
    · exact h.symm
    · rename_i hn; exact absurd (List.getElem?_eq_some_iff.1 h).1 hn
  · rfl

theorem appM_ok {argTypes : Array TypeId} {e ty : TypeId} {sz : Nat} {vx vy v : V} {x y : Value} {H' : Heap} (ht : AppT P argTypes e sz) (h : Rel μ D F H w) (hD : ∀ id l, id < H.length → μ id = some l → l.real = true → D id) (hf : μ H.length = none)
    (hx : VR μ w F vx x) (hy : VR μ w F vy y) (he : evAppM H sz vx vy = some (v, H')) : ∃ z w', (Builtin.append_ argTypes ty #[x, y]).run P w = .ok z w' ∧ Leaves μ D F H w v H' z w' := by
  have h0 := ht.pos
  unfold evAppM at he
  split at he
  · cases he
  · rename_i ys hys
    obtain ⟨n, bs, hyl, hlen, hdet, hbs⟩ := elemsV_ok (P := P) h hD h0 hys hy
    have hbl : bs.length = n * sz := by rw [hbs.1, hyl]
    split at he
    · rename_i id len
      split at he
      · rename_i s vs hb
        split at he
        · rename_i hc
          obtain ⟨rfl, hc1, hc2, hc3, hc4, hc5⟩ := hc
          cases he
          have hdivn : ys.length / s = n := by rw [hyl]; exact Nat.mul_div_cancel _ h0
          rw [hdivn]
          have hone := VRs.oneV hbs hc4
          have hkill := Post.kill h id
          have hlen2 : (H.set id .dead).length = H.length := List.length_set
          have hf2 : μ (H.set id .dead).length = none := by rw [hlen2]; exact hf
          have hlim : len + n ≤ lim := by
            have h1 : len * 1 ≤ len * s := Nat.mul_le_mul_left _ h0
            have h2 : n * 1 ≤ n * s := Nat.mul_le_mul_left _ h0
            omega
          have hsum : (len + n) * s = vs.length + ys.length := by rw [Nat.add_mul, hc1, hyl]
          have fresh : ∀ (w0 : World) (os rest : List Value) (c : Nat), w0.heap = w.heap → w0.os = w.os → w0.tape = w.tape → w0.output = w.output → VRs μ w F vs os → len + n ≤ c → rest.length = (c - (len + n)) * s →
              Leaves μ D F H w (.ref H.length 0 (len + n)) (H.set id .dead ++ [.box s (vs ++ ys)]) (.slice (some ⟨w.heap.size, 0, none⟩) (len + n) c) (w0.alloc (.cells (os ++ bs ++ rest).toArray e)) := by
            intro w0 os rest c hw hos htp hout hvo hc hrest
            have hol : os.length = vs.length := hvo.1
            have hs0 : w0.heap.size = w.heap.size := by rw [hw]
            have hp1 := Post.same hkill.rel hw hos htp hout
            have hr1 := hp1.rel
            have hall : VRs μ w0 F (vs ++ ys) (os ++ bs) := (hvo.app hbs).mono (fun _ _ h => h) (fun m _ => by rw [hw]) fun _ h => h
            have hpost := Post.alloc (b := .box s (vs ++ ys)) hr1 hf2 ⟨w0.heap.size, s, len + n, (os ++ bs ++ rest).toArray.size, true⟩ (.cells (os ++ bs ++ rest).toArray e) rfl rfl fun hp hmo => by
              refine ⟨_, _, ⟨upd_same _ _ _, rfl⟩, Wri.alloc w0 _ e, hr1.notF, rfl, by rw [hsum, List.length_append], rfl, by simp; omega, fun i u hu => ?_⟩
              have hlt := (List.getElem?_eq_some_iff.1 hu).1
              have hlt2 : i < (os ++ bs).length := by rw [hall.1]; exact hlt
              refine (hall.2 i u _ hu ?_).mono hmo hp fun _ h => h
              rw [getD_toArray, List.getD_eq_getElem?_getD, List.getElem?_append_left hlt2, List.getElem?_eq_getElem hlt2]; rfl
            refine Leaves.after hkill ⟨_, _, _, hp1.trans hpost, ?_⟩
            have hroom : c * s ≤ (os ++ bs ++ rest).length := by
              have h2 : (c - (len + n)) * s = c * s - (len + n) * s := Nat.sub_mul _ _ _
              have h4 : (len + n) * s ≤ c * s := Nat.mul_le_mul_right _ hc
              simp only [List.length_append]
              rw [hol, hbl, hrest, ← hyl]; omega
            have := VR.ref (μ := upd μ (H.set id .dead).length (some ⟨w0.heap.size, s, len + n, (os ++ bs ++ rest).toArray.size, true⟩)) (w := w0.alloc (.cells (os ++ bs ++ rest).toArray e)) (F := F) (H.set id .dead).length 0 (len + n) c _ (upd_same _ _ _) rfl (by simp) (by simpa using hc) (by simpa using hroom)
            rw [hlen2] at this ⊢
            simpa [hs0] using this
          cases hx with
          | ref0 id off a l hl hl0 =>
            have hvs : vs = [] := List.length_eq_zero_iff.1 (by omega)
            subst hvs
            by_cases hn : n = 0
            · subst hn; omega
            · obtain ⟨c, rest, hc, hrest, hrun⟩ := app_grow (P := P) (ty := ty) (a := a) (len := 0) (cap := 0) (os := []) ht hlen hdet (fun w' _ => by cases a <;> simp only [Builtin.firstCells, Nat.zero_mul] <;> rfl) (by omega) hlim
              exact ⟨_, _, hrun, fresh w.drew [] rest c rfl rfl rfl rfl .nil hc hrest⟩
          | ref id off len' cap l hl hre k1 k2 k3 =>
            have hd := hD id l (List.getElem?_eq_some_iff.1 hb).1 hl hre
            obtain ⟨l', cs, q1, q2, q3, q4, q5, q6, q7, q8⟩ := h.blk id _ hd hb
            rw [hl] at q1; cases q1.1
            rw [Nat.zero_mul]
            rw [Nat.zero_add] at k2 k3
            have hln : l.n = len := Nat.eq_of_mul_eq_mul_right h0 (by omega)
            by_cases hfit : len + n ≤ cap
            · have hroom : (len + n) * s ≤ cs.size := by
                have := Nat.mul_le_mul_right l.sz hfit
                rw [← q4]; omega
              have hct : cs.toList.length = cs.size := Array.length_toList
              obtain ⟨w', e1, e2, e3⟩ := run_stores (P := P) l.m (0 + len * s) bs 0 w cs q2 hone (by omega)
              refine ⟨_, _, app_fit (P := P) (a := some ⟨l.m, 0, none⟩) (bs := bs) (w' := w') ht hlen (hdet w rfl) hfit (by simp only [Addr.add_lit]; exact e1), ?_⟩
              have hbb : len * s + bs.length ≤ cs.toList.length := by omega
              have hpost := Post.replace (w' := w') (b := .box s (vs ++ ys)) (x := ⟨l.m, s, len + n, cs.size, true⟩) h hf hd hb rfl hl (.inr rfl) rfl (by rw [e2.size]; exact Nat.le_refl _) (fun k _ hk => e2.same k hk) e2.os e2.tape e2.output fun hp hmo => by
                refine ⟨_, _, ⟨upd_same _ _ _, rfl⟩, e3, q3, rfl, by rw [hsum, List.length_append], ?_, ?_, fun i u hu => ?_⟩
                · simp only [Nat.zero_add, Nat.add_zero, List.size_toArray]
                  rw [splice_length _ _ _ hbb, hct]
                · simp only [Nat.zero_add, Nat.add_zero, List.size_toArray]
                  rw [splice_length _ _ _ hbb, List.length_append]; omega
                · simp only [Nat.zero_add, Nat.add_zero]
                  rw [getD_toArray, List.getD_eq_getElem?_getD, splice_get _ _ _ hbb]
                  rw [List.getElem?_append] at hu
                  split at hu
                  · rename_i hi
                    rw [if_neg (by omega)]
                    have := q8 i u hu
                    rw [getD_toList, List.getD_eq_getElem?_getD] at this
                    exact this.mono hmo hp fun _ h => h
                  · rename_i hi
                    have hlt := (List.getElem?_eq_some_iff.1 hu).1
                    rw [if_pos (by omega), hc1]
                    have hbg : bs[i - vs.length]? = some (bs[i - vs.length]'(by omega)) := List.getElem?_eq_getElem _
                    rw [hbg]
                    exact (hbs.2 _ u _ hu hbg).mono hmo hp fun _ h => h
              refine ⟨_, _, _, hpost, ?_⟩
              have := VR.ref (μ := upd μ H.length (some ⟨l.m, s, len + n, cs.size, true⟩)) (w := w') (F := F) H.length 0 (len + n) cap _ (upd_same _ _ _) rfl (by simp) (by simpa using hfit) (by
                simp only [Nat.zero_add]
                rw [← q4]; omega)
              simpa using this
            · have hmemo : ∀ w', w'.heap = w.heap → (Builtin.firstCells s len (.slice (some ⟨l.m, 0, none⟩) len cap)).run P w' = .ok ((List.range (len * s)).map fun j => cs.getD (0 + j) undef).toArray w' := fun w' e' => by
                simp only [Builtin.firstCells]
                exact run_loads (q2.cel.same (by rw [e'])) (by omega)
              obtain ⟨c, rest, hc, hrest, hrun⟩ := app_grow (P := P) (ty := ty) (a := some ⟨l.m, 0, none⟩) (cap := cap) ht hlen hdet hmemo hfit hlim
              have hvo := box_loads q8 0 (len * s) (by omega)
              rw [List.drop_zero, hc1, List.take_length, ← hc1] at hvo
              exact ⟨_, _, hrun, fresh w.drew _ rest c rfl rfl rfl rfl hvo hc hrest⟩
        · cases he
      · cases he
    · cases he

theorem cpy_ok {argTypes : Array TypeId} {e ty t : TypeId} {sz : Nat} {vx vy v : V} {x y : Value} {H' : Heap} (h : Rel μ D F H w) (hD : ∀ id l, id < H.length → μ id = some l → l.real = true → D id) (ht : argTypes[0]? = some t) (hu : P.underlying t = some (.slice e)) (hs : szT P e = some sz) (h0 : 0 < sz)
    (hx : VR μ w F vx x) (hy : VR μ w F vy y) (he : evCpy H sz vx vy = some (v, H')) : ∃ z w', (Builtin.copy_ argTypes ty #[x, y]).run P w = .ok z w' ∧ Leaves μ D F H w v H' z w' := by
  unfold evCpy at he
  split at he
  · cases he
  · rename_i ys hys
    have hsrc := elems_ok (P := P) h hD h0 hys hy
    split at he
    · rename_i id off len
      split at he
      · rename_i s xs hb
        split at he
        · rename_i hc
          obtain ⟨rfl, hc1⟩ := hc
          cases he
          obtain ⟨bs, hdet, hb2, hb3⟩ := hsrc.cells (min ys.length len) (Nat.min_le_left _ _)
          have htk : ys.take (min ys.length len) = ys.take len := by
            rw [Nat.min_comm, ← List.take_take, List.take_length]
          rw [htk] at hb2
          have hel := take_el hsrc.el len
          have htl : (ys.take len).length = min ys.length len := by rw [List.length_take, Nat.min_comm]
          have hone := VRs.one (μ' := μ) hb2 (flat_one hel)
          have hrun : ∀ (a : Option Addr) (cap : Nat) (w' : World), (match a with | some a => storeCells a bs | none => pure () : Sem Unit).run P w = .ok () w' →
              (Builtin.copy_ argTypes ty #[.slice a len cap, y]).run P w = .ok (.int .i64 (min ys.length len : Nat)) w' := fun a cap w' hst => by
            unfold Builtin.copy_
            simp only [ht, List.getElem?_toArray, List.getElem?_cons_zero, List.getElem?_cons_succ, Sem.run_bind, run_underlying hu, Result.andThen_ok, hsrc.len, run_sizeOf hs]
            have : Nat.min ys.length len = min ys.length len := rfl
            rw [this]
            simp only [hdet w rfl, Result.andThen_ok]
            cases a with
            | none => simp only [Sem.run_pure] at hst ⊢; cases hst; rfl
            | some a => simp only [Sem.run_bind] at hst ⊢; rw [hst]; rfl
          cases hx with
          | ref0 id off a l hl hl0 =>
            have hbs : bs = [] := by
              rw [Nat.min_zero, Nat.zero_mul] at hb3
              exact List.length_eq_zero_iff.1 hb3
            refine ⟨_, _, hrun a 0 w (by rw [hbs]; cases a <;> rfl), ?_⟩
            have : H.set id (.pure s (splice xs off (ys.take 0))) = H := by
              rw [List.take_zero]
              have : splice xs off [] = xs := by simp [splice]
              rw [this]; exact set_same hb
            rw [this]
            exact ⟨_, _, _, Post.refl h, .t (.int _ _)⟩
          | ref id off len' cap l hl hre k1 k2 k3 =>
            have hd := hD id l (List.getElem?_eq_some_iff.1 hb).1 hl hre
            obtain ⟨l', cs, q1, q2, q3, q4, q5, q6, q7, q8⟩ := h.blk id _ hd hb
            rw [hl] at q1; cases q1.1
            have hct : cs.toList.length = cs.size := Array.length_toList
            have hsum : off + (ys.take len).length ≤ xs.length := by rw [htl]; omega
            have hroom : (off + (ys.take len).length) * s ≤ cs.size := by
              have h1 := Nat.mul_le_mul_right s hsum
              have h2 := q8.size
              omega
            have hroom' : (off + (ys.take len).length) * s = off * s + (ys.take len).length * s := Nat.add_mul _ _ _
            have hbl : bs.length = (ys.take len).length * s := by rw [hb3, htl]
            obtain ⟨w', e1, e2, e3⟩ := run_stores (P := P) l.m (off * s) bs 0 w cs q2 hone (by omega)
            refine ⟨_, _, hrun (some ⟨l.m, off * l.sz, none⟩) cap w' (by rw [q4]; exact e1), ?_⟩
            have hover := ELs.over q8 h0 hel hb2 (k := off) (by omega) hroom
            have hpost := Post.write (b' := .pure s (splice xs off (ys.take len))) h hd hb rfl hl e2 rfl fun hp => by
              have hbb : off * s + bs.length ≤ cs.toList.length := by omega
              refine ⟨l, _, ⟨hl, hre⟩, e3, q3, q4, by rw [splice_length _ _ _ hsum]; exact q5, ?_, h0, ?_⟩
              · simp only [Nat.add_zero, List.size_toArray]
                rw [splice_length _ _ _ hbb, hct]; exact q6
              · simp only [Nat.add_zero]
                exact hover.mono hp fun _ h => h
            exact ⟨_, _, _, hpost, .t (.int _ _)⟩
        · cases he
      · cases he
    · cases he

theorem clr_ok {argTypes : Array TypeId} {e ty t : TypeId} {sz : Nat} {zt : T} {vx v : V} {x : Value} {H' : Heap} (h : Rel μ D F H w) (hD : ∀ id l, id < H.length → μ id = some l → l.real = true → D id) (ht : argTypes[0]? = some t) (hu : P.underlying t = some (.slice e)) (hz : elemT P e = some zt) (h0 : 0 < sz) (hzel : zt.el sz = true)
    (hx : VR μ w F vx x) (he : evClr H sz zt vx = some (v, H')) : ∃ z w', (Builtin.clear_ argTypes ty #[x]).run P w = .ok z w' ∧ Leaves μ D F H w v H' z w' := by
  obtain ⟨zv, hzv, hzr, hzt⟩ := elemT_ok (P := P) (w := w) (F := F) hz
  unfold evClr at he
  split at he
  · rename_i id off len
    split at he
    · rename_i s xs hb
      split at he
      · rename_i hc
        obtain ⟨rfl, hc1⟩ := hc
        cases he
        obtain ⟨hzs, hsz⟩ := zeros_ok (μ := μ) (e := e) len hzr hzt hzel h0
        have hel : ∀ (i : Nat) y, (List.replicate len zt)[i]? = some y → y.el s = true := fun i y hy => by
          rw [List.getElem?_replicate] at hy
          split at hy
          · cases hy; exact hzel
          · cases hy
        have hone := VRs.one (μ' := μ) hzs (flat_one hel)
        have hbl : ((Array.range (len * s)).map (fun i => zv.cells[i % zv.cells.size]!)).toList.length = len * s := by simp
        have hsame : len = 0 → H.set id (.pure s (splice xs off (List.replicate len zt))) = H := fun hl => by
          subst hl
          have : splice xs off (List.replicate 0 zt) = xs := by simp [splice]
          rw [this]; exact set_same hb
        have hrun0 : ∀ (a : Option Addr) (cap : Nat), (Builtin.clear_ argTypes ty #[.slice a 0 cap]).run P w = .ok (.tuple #[]) w := fun a cap => by
          unfold Builtin.clear_
          cases a <;> simp only [ht, List.getElem?_toArray, List.getElem?_cons_zero, Sem.run_bind, run_underlying hu, Result.andThen_ok, Sem.run_pure] <;> rfl
        cases hx with
        | ref0 id off a l hl hl0 =>
          refine ⟨_, _, hrun0 a 0, ?_⟩
          rw [hsame rfl]
          exact ⟨_, _, _, Post.refl h, .tup [] [] rfl (fun i v a hv => by simp at hv)⟩
        | ref id off len' cap l hl hre k1 k2 k3 =>
          by_cases hl0 : len = 0
          · subst hl0
            refine ⟨_, _, hrun0 _ cap, ?_⟩
            rw [hsame rfl]
            exact ⟨_, _, _, Post.refl h, .tup [] [] rfl (fun i v a hv => by simp at hv)⟩
          · have hd := hD id l (List.getElem?_eq_some_iff.1 hb).1 hl hre
            obtain ⟨l', cs, q1, q2, q3, q4, q5, q6, q7, q8⟩ := h.blk id _ hd hb
            rw [hl] at q1; cases q1.1
            have hct : cs.toList.length = cs.size := Array.length_toList
            have hsum : off + (List.replicate len zt).length ≤ xs.length := by rw [List.length_replicate]; exact hc1
            have hroom : (off + (List.replicate len zt).length) * s ≤ cs.size := by
              have h1 := Nat.mul_le_mul_right s hsum
              have h2 := q8.size
              omega
            have hroom' : (off + (List.replicate len zt).length) * s = off * s + len * s := by rw [List.length_replicate, Nat.add_mul]
            obtain ⟨w', e1, e2, e3⟩ := run_stores (P := P) l.m (off * s) ((Array.range (len * s)).map (fun i => zv.cells[i % zv.cells.size]!)).toList 0 w cs q2 hone (by omega)
            have hover := ELs.over q8 h0 hel hzs (k := off) (by omega) hroom
            have hrun : (Builtin.clear_ argTypes ty #[.slice (some ⟨l.m, off * l.sz, none⟩) len cap]).run P w = .ok (.tuple #[]) w' := by
              obtain ⟨n, rfl⟩ : ∃ n, len = n + 1 := ⟨len - 1, by omega⟩
              unfold Builtin.clear_
              simp only [ht, List.getElem?_toArray, List.getElem?_cons_zero, Sem.run_bind, run_underlying hu, Result.andThen_ok, hzv, Sem.run_pure]
              have hzc : Builtin.zeroCells zv.cells (n + 1) = (Array.range ((n + 1) * s)).map (fun i => zv.cells[i % zv.cells.size]!) := by
                unfold Builtin.zeroCells; rw [hsz]
              rw [hzc, q4, e1]
              rfl
            refine ⟨_, _, hrun, ?_⟩
            have hpost := Post.write (b' := .pure s (splice xs off (List.replicate len zt))) h hd hb rfl hl e2 rfl fun hp => by
              have hbb : off * s + ((Array.range (len * s)).map (fun i => zv.cells[i % zv.cells.size]!)).toList.length ≤ cs.toList.length := by omega
              refine ⟨l, _, ⟨hl, hre⟩, e3, q3, q4, by rw [splice_length _ _ _ hsum]; exact q5, ?_, h0, ?_⟩
              · simp only [Nat.add_zero, List.size_toArray]
                rw [splice_length _ _ _ hbb, hct]; exact q6
              · simp only [Nat.add_zero]
                exact hover.mono hp fun _ h => h
            exact ⟨_, _, _, hpost, .tup [] [] rfl (fun i v a hv => by simp at hv)⟩
      · cases he
    · cases he
  · cases he

theorem bytes_refl (s : ByteArray) : (s == s) = true := by
  show (s.data == s.data) = true
  exact BEq.rfl

theorem mkm_ok (h : Rel μ D F H w) (hf : μ H.length = none) (t : TypeId) : ∃ z w', (Instr.makeMap t none).run P w = .ok z w' ∧ Leaves μ D F H w (.map H.length) (H ++ [.map []]) z w' := by
  refine ⟨.map (some w.heap.size), w.alloc (.map #[] 0), rfl, ?_⟩
  have hpost := Post.alloc (b := .map []) h hf ⟨w.heap.size, 0, 0, 0, true⟩ (.map #[] 0) rfl rfl fun hp hmo =>
    ⟨_, #[], 0, ⟨upd_same _ _ _, rfl⟩, by show (w.heap.push _)[w.heap.size]? = _; simp, h.notF, rfl, fun i e k he => by simp at he⟩
  exact ⟨_, _, _, hpost, .map H.length _ (upd_same _ _ _) rfl⟩

theorem mup_ok {t kt et : TypeId} {kk id : Nat} {k x : T} {xm xk xx : Value} {es : List (T × T)} {r : Option (Nat × T)} (h : Rel μ D F H w) (hD : ∀ id l, id < H.length → μ id = some l → l.real = true → D id) (hu : P.underlying t = some (.map kt et)) (hkk : keyK P kt = some kk)
    (hm : VR μ w F (.map id) xm) (hk : TR w F k xk) (hx : TR w F x xx) (hb : H[id]? = some (.map es)) (hok : keyOk kk k = true) (hfd : findT kk k es 0 = some r) :
    ∃ w' μ' D' F', (Instr.mapUpdate t xm xk xx).run P w = .ok () w' ∧ Post μ D F H w μ' D' F' (match r with | some (i, _) => H.set id (.map (es.set i (k, x))) | none => H.set id (.map (es ++ [(k, x)]))) w' := by
  cases hm with
  | map id l hl hre =>
    have hd := hD id l (List.getElem?_eq_some_iff.1 hb).1 hl hre
    obtain ⟨l', mes, clock, k1, k2, k3, k4, k5⟩ := h.blk id _ hd hb
    rw [hl] at k1; cases k1.1
    obtain ⟨d, hdd⟩ : ∃ d, P.underlying kt = some d := by
      rcases keyK_ok hkk with ⟨_, q, hq⟩ | ⟨_, hq⟩ | ⟨_, hq⟩ <;> exact ⟨_, hq⟩
    have hkr : ∀ (j : Nat) e p, mes.toList[j]? = some e → es[j]? = some p → KR w F e p := fun j e p he hp => k5 j e p (by simpa using he) hp
    obtain ⟨q, q1, q2⟩ := findNow_ok hkk hdd hk es mes.toList 0 r (by simpa using k4) hkr hfd
    have hget : (getObj l.m).run P w = .ok (.map mes clock) w := by simp only [getObj, Sem.run, k2]
    have hck := run_checkKey (w := w) hkk hk hok false
    have hfk := run_findKey (P := P) (w := w) hdd q1
    have hks : k.sc = true := by
      rcases keyK_ok hkk with ⟨rfl, _, _⟩ | ⟨rfl, _⟩ | ⟨rfl, _⟩ <;> cases k <;> first | rfl | (simp [keyOk] at hok)
    have hlt : l.m < w.heap.size := (h.own_notF ⟨id, _, l, hd, hb, rfl, hl, rfl⟩).1
    have hset : ∀ (mes' : Array MapEntry) (c' : Nat), (setObj l.m (.map mes' c')).run P w = .ok () { w with heap := w.heap.setIfInBounds l.m (.map mes' c') } ∧ OnlyAt w { w with heap := w.heap.setIfInBounds l.m (.map mes' c') } l.m ∧
        ({ w with heap := w.heap.setIfInBounds l.m (.map mes' c') } : World).heap[l.m]? = some (.map mes' c') := fun mes' c' => by
      refine ⟨by simp only [setObj, Sem.run, k2], ⟨by simp, fun k hk => by simp [Array.getElem?_setIfInBounds, Ne.symm hk], rfl, rfl, rfl⟩, by simp [hlt]⟩
    cases r with
    | none =>
      cases q with
      | some q => exact q2.elim
      | none =>
        obtain ⟨s1, s2, s3⟩ := hset (mes.push { key := xk, val := xx, born := clock }) (clock + 1)
        refine ⟨_, μ, D, F, ?_, Post.write h hd hb rfl hl s2 rfl fun hp => ⟨l, _, _, ⟨hl, hre⟩, s3, k3, by simp [k4], fun i e p he hp' => ?_⟩⟩
        · unfold Instr.mapUpdate
          simp only [Sem.run_bind, run_underlying hu, Result.andThen_ok, hget, hck, hfk]
          exact s1
        · rw [Array.getElem?_push] at he
          rw [List.getElem?_append] at hp'
          split at he
          · rename_i hi
            cases he
            rw [if_neg (by omega), hi, k4, Nat.sub_self] at hp'
            simp at hp'; subst hp'
            exact ⟨hk.mono hp fun _ h => h, hx.mono hp fun _ h => h, hks⟩
          · have hlt2 := (Array.getElem?_eq_some_iff.1 he).1
            rw [if_pos (by omega)] at hp'
            obtain ⟨a, b, c⟩ := k5 i e p he hp'
            exact ⟨a.mono hp fun _ h => h, b.mono hp fun _ h => h, c⟩
    | some r =>
      cases q with
      | none => exact q2.elim
      | some q =>
        obtain ⟨n, tv⟩ := r
        obtain ⟨m, y⟩ := q
        obtain ⟨a1, a2, a3, e0, a4, a5, a6⟩ := q2
        subst a1
        rw [Nat.sub_zero] at a4
        have a4' : mes[n]? = some e0 := by simpa using a4
        let mes' := mes.modify n fun e => { e with key := xk, val := xx }
        obtain ⟨s1, s2, s3⟩ := hset mes' clock
        have hstay : (Instr.keyThatStays (((mes[n]?).map (·.key)).getD xk) xk).run P w = .ok xk w := by
          rw [a4']
          simp only [Option.map_some, Option.getD_some, a5]
          have : Instr.sameBits 10000 xk xk = true := by
            show Instr.sameBits (9999 + 1) xk xk = true
            cases hk <;> first
              | (simp [Instr.sameBits]; done)
              | (simp only [Instr.sameBits]; exact bytes_refl _)
              | (rcases keyK_ok hkk with ⟨rfl, _, _⟩ | ⟨rfl, _⟩ | ⟨rfl, _⟩ <;> simp [keyOk] at hok)
          unfold Instr.keyThatStays
          rw [this]; rfl
        refine ⟨_, μ, D, F, ?_, Post.write h hd hb rfl hl s2 rfl fun hp => ⟨l, _, _, ⟨hl, hre⟩, s3, k3, by simp [mes', k4], fun i e p he hp' => ?_⟩⟩
        · unfold Instr.mapUpdate
          simp only [Sem.run_bind, run_underlying hu, Result.andThen_ok, hget, hck, hfk, hstay]
          exact s1
        · simp only [mes', Array.getElem?_modify] at he
          rw [List.getElem?_set] at hp'
          split at he
          · rename_i hni
            subst hni
            rw [a4'] at he
            simp at he; subst he
            have hln : n < es.length := by rw [← k4]; exact (Array.getElem?_eq_some_iff.1 a4').1
            rw [if_pos rfl] at hp'
            first
            | (rw [if_pos hln] at hp'
               cases hp'
               exact ⟨hk.mono hp fun _ h => h, hx.mono hp fun _ h => h, hks⟩)
            | (cases hp'
               exact ⟨hk.mono hp fun _ h => h, hx.mono hp fun _ h => h, hks⟩)
          · rename_i hni
            rw [if_neg hni] at hp'
            obtain ⟨a, b, c⟩ := k5 i e p he hp'
            exact ⟨a.mono hp fun _ h => h, b.mono hp fun _ h => h, c⟩

end
end Go.Proofs.Ytdgfpjlmpnfcgaa.Ev
namespace Go.Proofs.Ytdgfpjlmpnfcgaa.Ev
open Go Go.RowKit
set_option linter.unusedVariables false
set_option linter.unusedSimpArgs false

def O.isCall : O → Bool
  | .call .. | .callv .. => true
  | _ => false

section
variable {P : Program} {μ : Nat → Option Loc} {D F : Nat → Prop} {H : Heap} {w : World}

theorem partsS_ok {n : Nat} {fr : Fr} {a : Act} (hfr : FR μ w F n fr a) : ∀ (ps : List (Nat × Operand)) (q : List (Nat × A)), partsS ps = some q →
    ps.map (·.1) = q.map (·.1) ∧ VRs μ w F (q.map fun p => p.2.ev fr) (ps.map fun p => a.eval p.2)
  | [], q, h => by simp only [partsS] at h; cases h; exact ⟨rfl, .nil⟩
  | (i, x) :: ps, q, h => by
    simp only [partsS] at h
    split at h
    · rename_i y q' h1 h2
      cases h
      obtain ⟨k1, k2⟩ := partsS_ok hfr ps q' h2
      exact ⟨by simp [k1], .cons (opd_VR hfr h1) k2⟩
    · cases h

theorem zip_maps {α β : Type} (f : α → β) : ∀ (ps : List (Nat × α)), (ps.map (·.1)).zip (ps.map fun p => f p.2) = ps.map fun p => (p.1, f p.2)
  | [] => rfl
  | p :: ps => by simp [zip_maps f ps]

theorem op_heap {mix : Mx} {E : Env} {rec : Rec} {o : Oper} {op : O} {n : Nat} {fr : Fr} {a : Act} {v : V} {H' : Heap} (hc : compO P mix o = some op) (hst : op.still = false) (hnc : op.isCall = false) (he : evO E rec fr H op = some (v, H'))
    (h : Rel μ D F H w) (hD : ∀ id l, id < H.length → μ id = some l → l.real = true → D id) (hf : μ H.length = none) (hfr : FR μ w F n fr a) : Does P o a w (Leaves μ D F H w v H') := by
  unfold compO at hc
  generalize hop : o.op = oo at hc
  cases oo with
  | move x => simp only [Option.map_eq_some_iff] at hc; obtain ⟨_, _, rfl⟩ := hc; simp [O.still] at hst
  | assign x => simp only [Option.map_eq_some_iff] at hc; obtain ⟨_, _, rfl⟩ := hc; simp [O.still] at hst
  | nilCheck x => simp only [Option.map_eq_some_iff] at hc; obtain ⟨_, _, rfl⟩ := hc; simp [O.still] at hst
  | unOp u t x => simp only [Option.map_eq_some_iff] at hc; obtain ⟨_, _, rfl⟩ := hc; simp [O.still] at hst
  | extract x i => simp only [Option.map_eq_some_iff] at hc; obtain ⟨_, _, rfl⟩ := hc; simp [O.still] at hst
  | alloc e =>
    simp only at hc
    split at hc
    · rename_i k z hs hz
      split at hc
      · rename_i hl
        cases hc
        simp only [evO] at he
        cases he
        obtain ⟨zv, h1, h2⟩ := run_zero (P := P) (μ := μ) (w := w) (F := F) hz
        obtain ⟨hleaf, _⟩ := box_ok h hf e h2 1 k (by simp [hl])
        refine Does.semL (s := Instr.alloc e true (.tuple #[])) (by simp only [execOp, hop]) ⟨_, _, ?_, hleaf⟩
        unfold Instr.alloc
        simp only [Sem.run_bind, h1, Result.andThen_ok, newVar, newRow, run_newObj, World.alloc_eq, Sem.run_pure]
      · cases hc
    · cases hc
  | box e x =>
    simp only [Option.map_eq_some_iff] at hc
    obtain ⟨y, hy, rfl⟩ := hc
    simp only [evO] at he
    split at he
    · rename_i cs hcs
      cases he
      have h2 := cells_VRs (opd_VR hfr hy) hcs
      obtain ⟨hleaf, _⟩ := box_ok h hf e h2 1 cs.length (by simp)
      refine Does.semL (s := Instr.box e (a.eval x)) (by simp only [execOp, hop]) ⟨_, _, ?_, hleaf⟩
      unfold Instr.box
      simp only [Sem.run_bind, Result.andThen_ok, newVar, newRow, run_newObj, World.alloc_eq, Sem.run_pure]
    · cases he
  | buildSlice t k ps =>
    simp only at hc
    split at hc
    · rename_i e hu
      split at hc
      · rename_i s z q hs hz hq
        split at hc
        · rename_i hcond
          obtain ⟨h0, hel, hlen⟩ := hcond
          obtain ⟨k1, k2⟩ := partsS_ok hfr ps.toList q hq
          have hps : (ps.map fun (x : Nat × Operand) => match x with | (i, x) => (i, a.eval x)) = (((q.map (·.1)).zip (ps.toList.map fun p => a.eval p.2))).toArray := by
            apply Array.toList_inj.1
            rw [← k1, zip_maps (fun x => a.eval x)]
            simp
          have hil : (q.map (·.1)).length = (ps.toList.map fun p => a.eval p.2).length := by rw [← k1]; simp
          have hexec : execOp a.eval o = (do pure (.value (← Instr.buildSlice t k (ps.map fun (x : Nat × Operand) => match x with | (i, x) => (i, a.eval x))))) := by simp only [execOp, hop]
          cases hmf : mix.f with
          | true =>
            rw [hmf] at hc
            simp only [if_true] at hc
            cases hc
            simp only [evO] at he
            split at he
            · cases he
            · rename_i ts hts
              split at he
              · cases he
              · rename_i ys hfill
                cases he
                refine Does.semL hexec ?_
                rw [hps]
                exact bsf_ok h hu hs hz h0 hel hlen hts k2 hil hfill
          | false =>
          rw [hmf] at hc
          simp only [Bool.false_eq_true, if_false] at hc
          cases hc
          cases hm : (mix.m && !keyB P e) with
          | false =>
            rw [hm] at he
            simp only [evO] at he
            split at he
            · cases he
            · rename_i ts L hrd
              split at he
              · cases he
              · rename_i ys hfill
                cases he
                refine Does.semL hexec ?_
                rw [hps]
                exact bsl_ok h hD hf hu hs hz h0 hel hlen hrd k2 hil hfill
          | true =>
            rw [hm] at he
            simp only [evO] at he
            split at he
            · cases he
            · rename_i us hfill
              cases he
              refine Does.semL hexec ?_
              rw [hps]
              refine bslM_ok h hf hu hs hz h0 hel hlen k2 hil ?_
              have : (q.map fun p => (p.1 * s, s, p.2.ev fr)) = ((q.map (·.1)).zip (q.map fun p => p.2.ev fr)).map fun p => (p.1 * s, s, p.2) := by
                rw [zip_maps (fun x : A => x.ev fr)]; simp
              rw [← this]; exact hfill
        · cases hc
      · cases hc
    · cases hc
  | makeSlice t x y =>
    simp only at hc
    split at hc
    · rename_i e hu
      split at hc
      · rename_i s z x' y' hs hz hx hy
        split at hc
        · rename_i hcond
          obtain ⟨h0, hel, hby⟩ := hcond
          cases hmf : mix.f with
          | true =>
            rw [hmf] at hc
            simp only [if_true] at hc
            cases hc
            simp only [evO] at he
            split at he
            · rename_i k1 l k2 c e1 e2
              split at he
              · rename_i hlc
                cases he
                have hv := opd_VR hfr hx
                have hv2 := opd_VR hfr hy
                rw [e1] at hv; rw [e2] at hv2
                refine Does.semL (s := Instr.makeSlice t (a.eval x) (a.eval y)) (by simp only [execOp, hop]) ?_
                rw [hv.int, hv2.int]
                exact msf_ok h hu hs hz h0 hel hby hlc.1 hlc.2.1 hlc.2.2
              · cases he
            · cases he
          | false =>
          rw [hmf] at hc
          simp only [Bool.false_eq_true, if_false] at hc
          cases hc
          simp only [evO] at he
          split at he
          · rename_i k1 l k2 c e1 e2
            split at he
            · rename_i hlc
              cases he
              have hv := opd_VR hfr hx
              have hv2 := opd_VR hfr hy
              rw [e1] at hv; rw [e2] at hv2
              refine Does.semL (s := Instr.makeSlice t (a.eval x) (a.eval y)) (by simp only [execOp, hop]) ?_
              rw [hv.int, hv2.int]
              exact mks_ok h hf hu hs hz h0 hel hby hlc.1 hlc.2.1 hlc.2.2
            · cases he
          · cases he
        · cases hc
      · cases hc
    · cases hc
  | makeMap t r =>
    cases r with
    | some r => cases hc
    | none =>
      cases hc
      simp only [evO] at he
      cases he
      exact Does.semL (s := Instr.makeMap t none) (by simp only [execOp, hop]; rfl) (mkm_ok h hf t)
  | store t x y =>
    simp only at hc
    split at hc
    · rename_i x' y' k hx hy hs
      cases hc
      simp only [evO] at he
      split at he
      · rename_i H2 hH2
        cases he
        refine Does.semU (s := Instr.storeAt t (a.eval x) (a.eval y)) (by simp only [execOp, hop]) (st_ok h hD hs (opd_VR hfr hx) (opd_VR hfr hy) hH2)
      · cases he
    · cases hc
  | mapUpdate t m k x =>
    simp only at hc
    split at hc
    · rename_i kt et m' k' x' hu hm hk hx
      obtain ⟨kk, hkk, rfl⟩ := Option.map_eq_some_iff.1 hc
      simp only [evO] at he
      split at he
      · rename_i id kt' xt e1 e2 e3
        have hv := opd_VR hfr hm
        have hv2 := opd_VR hfr hk
        have hv3 := opd_VR hfr hx
        rw [e1] at hv; rw [e2] at hv2; rw [e3] at hv3
        split at he
        · rename_i es hb
          split at he
          · cases he
          · rename_i hok
            have hok : keyOk kk kt' = true := by simpa using hok
            have hex : execOp a.eval o = (do Instr.mapUpdate t (a.eval m) (a.eval k) (a.eval x); pure .skip) := by simp only [execOp, hop]
            split at he
            · rename_i i tv hfd
              cases he
              exact Does.semU hex (mup_ok h hD hu hkk hv hv2.tT hv3.tT hb hok hfd)
            · rename_i hfd
              cases he
              exact Does.semU hex (mup_ok h hD hu hkk hv hv2.tT hv3.tT hb hok hfd)
            · cases he
        · cases he
      · cases he
    · cases hc
  | call c =>
    obtain ⟨callee, args, argTypes⟩ := c
    simp only at hc
    cases callee with
    | invoke r m => cases hc
    | value f =>
      cases f with
      | func f =>
        simp only at hc
        split at hc
        · split at hc <;> cases hc; simp [O.isCall] at hnc
        · cases hc
      | _ =>
        simp only at hc
        split at hc
        · cases hc; simp [O.isCall] at hnc
        · cases hc
    | builtin b =>
      have hexec : ∀ (s : Sem Value), builtin b argTypes o.type (args.map fun | .const _ => true | _ => false) (args.map a.eval) = (do pure (.value (← s))) → execOp a.eval o = (do pure (.value (← s))) := fun s hs => by
        simp only [execOp, hop, resolve]
        exact hs
      have hbind : ∀ {i : Nat} {d : TypeDesc}, argTypes[i]?.bind P.underlying = some d → ∃ t, argTypes[i]? = some t ∧ P.underlying t = some d := fun hb => Option.bind_eq_some_iff.1 hb
      have hargs : ∀ {x y : Operand}, args.toList = [x, y] → args.map a.eval = #[a.eval x, a.eval y] := fun hl => by
        apply Array.toList_inj.1; simp [hl]
      cases b with
      | append =>
        simp only at hc
        split at hc
        · rename_i e d x y t0 t1 hl
          obtain ⟨ta, ha1, ha2⟩ := hbind t0
          obtain ⟨tb, hb1, hb2⟩ := hbind t1
          split at hc
          · cases hc
          · rename_i s x' y' hs hx hy hnint
            split at hc
            · rename_i hcond
              obtain ⟨h0, hby, hzl⟩ := hcond
              cases hc
              have ht : AppT P argTypes e s := by
                refine ⟨⟨ta, ha1, ha2⟩, ⟨tb, _, hb1, hb2, hnint⟩, hs, h0, ?_⟩
                unfold okBytes at hby
                cases hz : zeroT P e with
                | none => simp [hz] at hzl
                | some z =>
                  obtain ⟨i, zv, i1, i2, i3⟩ := zeroT_ok hz
                  refine ⟨i, zv, i1, by simpa [i1] using hby, i2, ?_⟩
                  have := (tsOf_TR (w := w) (F := F) i3).1
                  rw [Array.length_toList] at this
                  simp [hz] at hzl
                  omega
              have hex := hexec (Builtin.append_ argTypes o.type (args.map a.eval)) rfl
              rw [hargs hl] at hex
              cases hm : (mix.m && !keyB P e) with
              | false =>
                rw [hm] at he
                simp only [evO] at he
                exact Does.semL hex (app_ok ht h hD hf (opd_VR hfr hx) (opd_VR hfr hy) he)
              | true =>
                rw [hm] at he
                simp only [evO] at he
                exact Does.semL hex (appM_ok ht h hD hf (opd_VR hfr hx) (opd_VR hfr hy) he)
            · cases hc
          · cases hc
        · cases hc
      | copy =>
        simp only at hc
        split at hc
        · rename_i e x y t0 hl
          obtain ⟨ta, ha1, ha2⟩ := hbind t0
          split at hc
          · rename_i s x' y' hs hx hy
            split at hc
            · rename_i h0
              cases hc
              simp only [evO] at he
              have hex := hexec (Builtin.copy_ argTypes o.type (args.map a.eval)) rfl
              rw [hargs hl] at hex
              exact Does.semL hex (cpy_ok h hD ha1 ha2 hs h0 (opd_VR hfr hx) (opd_VR hfr hy) he)
            · cases hc
          · cases hc
        · cases hc
      | clear =>
        simp only at hc
        split at hc
        · rename_i e x t0 hl
          obtain ⟨ta, ha1, ha2⟩ := hbind t0
          split at hc
          · rename_i s z x' hs hz hx
            split at hc
            · rename_i h0
              cases hc
              simp only [evO] at he
              have hex := hexec (Builtin.clear_ argTypes o.type (args.map a.eval)) rfl
              have hargs1 : args.map a.eval = #[a.eval x] := by apply Array.toList_inj.1; simp [hl]
              rw [hargs1] at hex
              exact Does.semL hex (clr_ok h hD ha1 ha2 hz h0.1 h0.2 (opd_VR hfr hx) he)
            · cases hc
          · cases hc
        · cases hc
      | len =>
        simp only at hc
        split at hc <;> first | (obtain ⟨_, _, rfl⟩ := Option.map_eq_some_iff.1 hc; simp [O.still] at hst) | cases hc
      | max =>
        simp only at hc
        split at hc <;> first | (cases hc; simp [O.still] at hst; done) | cases hc
      | min =>
        simp only at hc
        split at hc <;> first | (cases hc; simp [O.still] at hst; done) | cases hc
      | _ => cases hc
  | makeFunc fn x y =>
    cases fn with
    | func f =>
      simp only at hc
      split at hc <;> first | (cases hc; simp [O.still] at hst; done) | cases hc
    | _ => cases hc
  | slice t x lo hi mx =>
    cases mx with
    | some m => cases hc
    | none =>
      simp only at hc
      repeat' (split at hc)
      all_goals first | (cases hc; done) | (cases hc; simp [O.still] at hst; done)
  | indexAddr t x y =>
    simp only at hc
    split at hc
    · obtain ⟨_, _, rfl⟩ := Option.map_eq_some_iff.1 hc; simp [O.still] at hst
    · cases hc
  | build t ps =>
    simp only at hc
    repeat' (split at hc)
    all_goals first | (cases hc; done) | (obtain ⟨_, _, rfl⟩ := Option.map_eq_some_iff.1 hc; simp [O.still] at hst; done)
  | pick | load | binOp | convert | fieldAddr | field | index | lookup =>
    simp only at hc
    repeat' (split at hc)
    all_goals first | (cases hc; done) | (cases hc; simp [O.still] at hst; done)
  | _ => cases hc

end
end Go.Proofs.Ytdgfpjlmpnfcgaa.Ev
namespace Go.Proofs.Ytdgfpjlmpnfcgaa.Ev
open Go Go.RowKit
set_option linter.unusedVariables false
set_option linter.unusedSimpArgs false

theorem rens_map (r : Nat → Option Nat) : ∀ vs : List V, V.rens r vs = vs.map (V.ren r)
  | [] => rfl
  | v :: vs => by simp only [V.rens, List.map_cons, rens_map r vs]

section
variable {P : Program} {μ μ' : Nat → Option Loc} {D F : Nat → Prop} {H : Heap} {w : World}

theorem VR.ren {r : Nat → Option Nat} (hr : ∀ id j l, r id = some j → μ id = some l → μ' j = some l) {v : V} {x : Value} (h : VR μ w F v x) : VR μ' w F (v.ren r) x := by
  have lst : ∀ (vs : List V) (as : List Value), as.length = vs.length → (∀ (i : Nat) v a, vs[i]? = some v → as[i]? = some a → VR μ' w F (v.ren r) a) →
      as.length = (V.rens r vs).length ∧ ∀ (i : Nat) v a, (V.rens r vs)[i]? = some v → as[i]? = some a → VR μ' w F v a := fun vs as hl hh => by
    rw [rens_map]
    refine ⟨by simpa using hl, fun i v a hv ha => ?_⟩
    rw [List.getElem?_map] at hv
    cases hvi : vs[i]? with
    | none => simp [hvi] at hv
    | some u => simp [hvi] at hv; subst hv; exact hh i u a hvi ha
  induction h with
  | any v => simp only [V.ren]; exact .any v
  | t h => simp only [V.ren]; exact .t h
  | ref id off len cap l hl hre h1 h2 h3 =>
    simp only [V.ren]
    split
    · rename_i j hj; exact .ref j off len cap l (hr id j l hj hl) hre h1 h2 h3
    · exact .any _
  | ref0 id off a l hl h0 =>
    simp only [V.ren]
    split
    · rename_i j hj; exact .ref0 j off a l (hr id j l hj hl) h0
    · exact .any _
  | ptr id idx c l hl hre =>
    simp only [V.ren]
    split
    · rename_i j hj; exact .ptr j idx c l (hr id j l hj hl) hre
    · exact .any _
  | rptr t c m off cs hF hm hb h => simp only [V.ren]; exact .rptr t c m off cs hF hm hb h
  | agg vs as hl _ ih =>
    simp only [V.ren]
    obtain ⟨k1, k2⟩ := lst vs as hl ih
    exact .agg _ as k1 k2
  | tup vs as hl _ ih =>
    simp only [V.ren]
    obtain ⟨k1, k2⟩ := lst vs as hl ih
    exact .tup _ as k1 k2
  | clo f xs ys as bs hx hy _ _ ih ih' =>
    simp only [V.ren]
    obtain ⟨k1, k2⟩ := lst xs as hx ih
    obtain ⟨k3, k4⟩ := lst ys bs hy ih'
    exact .clo f _ _ as bs k1 k3 k2 k4
  | map id l hl hre =>
    simp only [V.ren]
    split
    · rename_i j hj; exact .map j l (hr id j l hj hl) hre
    · exact .any _

theorem BR.ren {r : Nat → Option Nat} (hr : ∀ id j l, r id = some j → μ id = some l → μ' j = some l) {id j : Nat} {b : Blk} (h : BR μ w F id b) (hj : ∀ l, μ id = some l → μ' j = some l) : BR μ' w F j (b.ren r) := by
  cases b with
  | dead => trivial
  | pure sz xs => obtain ⟨l, cs, h1, h2⟩ := h; exact ⟨l, cs, ⟨hj l h1.1, h1.2⟩, h2⟩
  | froz sz xs => obtain ⟨l, cs, h1, h2⟩ := h; exact ⟨l, cs, ⟨hj l h1.1, h1.2⟩, h2⟩
  | map es => obtain ⟨l, mes, c, h1, h2⟩ := h; exact ⟨l, mes, c, ⟨hj l h1.1, h1.2⟩, h2⟩
  | box sz vs =>
    obtain ⟨l, cs, h1, h2, h3, h4, h5, h6, h7, h8⟩ := h
    refine ⟨l, cs, ⟨hj l h1.1, h1.2⟩, h2, h3, h4, by rw [rens_map, List.length_map]; exact h5, h6, by rw [rens_map, List.length_map]; exact h7, fun i v hv => ?_⟩
    rw [rens_map, List.getElem?_map] at hv
    cases hvi : vs[i]? with
    | none => simp [hvi] at hv
    | some u => simp [hvi] at hv; subst hv; exact (h8 i u hvi).ren hr

theorem ren_own (r : Nat → Option Nat) (b : Blk) : (b.ren r).own = b.own := by cases b <;> rfl


theorem close_nodup (H : Heap) : ∀ (n : Nat) (todo acc : List Nat), acc.Nodup → (close H n todo acc).Nodup
  | 0, _, _, h => by simpa [close] using h
  | _ + 1, [], _, h => by simpa [close] using h
  | n + 1, id :: todo, acc, h => by
    unfold close
    split
    · exact close_nodup H n todo acc h
    · rename_i hn
      split
      · exact close_nodup H n todo acc h
      · refine close_nodup H n _ _ ?_
        rw [List.nodup_append]
        refine ⟨h, by simp, fun a ha b hb e => ?_⟩
        simp at hb; subst hb; subst e
        exact hn (by simpa using ha)
      · exact close_nodup H n todo acc h

theorem gcIds_nodup (H : Heap) (vs : List V) : (gcIds H vs).Nodup := close_nodup H _ _ _ List.nodup_nil

theorem rho_get {ids : List Nat} {id j : Nat} (h : rho ids id = some j) : ids[j]? = some id := by
  unfold rho at h
  induction ids generalizing j with
  | nil => simp [List.idxOf?] at h
  | cons a ids ih =>
    rw [List.idxOf?_cons] at h
    split at h
    · rename_i e
      cases h
      simp at e; subst e; rfl
    · cases hi : List.idxOf? id ids with
      | none => simp [hi] at h
      | some k => simp [hi] at h; subst h; simpa using ih hi

theorem pickB_get (H : Heap) (ids : List Nat) : ∀ (l : List Nat) (k : Nat), (pickB H ids l)[k]? = (l[k]?).map fun id => match H[id]? with | some b => b.ren (rho ids) | none => .dead
  | [], k => by simp [pickB]
  | id :: l, 0 => by
    simp only [pickB, List.getElem?_cons_zero, Option.map_some]
    cases H[id]? <;> rfl
  | id :: l, k + 1 => by simp [pickB, pickB_get H ids l k]

theorem pickB_length (H : Heap) (ids : List Nat) : ∀ l : List Nat, (pickB H ids l).length = l.length
  | [] => rfl
  | _ :: l => by simp [pickB, pickB_length H ids l]

def muGC (μ : Nat → Option Loc) (ids : List Nat) : Nat → Option Loc := fun j => (ids[j]?).bind μ
def dGC (D : Nat → Prop) (H : Heap) (ids : List Nat) : Nat → Prop := fun j => ∃ id, ids[j]? = some id ∧ D id

theorem muGC_ren {ids : List Nat} : ∀ id j l, rho ids id = some j → μ id = some l → muGC μ ids j = some l := fun id j l hj hl => by
  unfold muGC; rw [rho_get hj]; exact hl

theorem Rel.gc (h : Rel μ D F H w) {ids : List Nat} (hn : ids.Nodup) : Rel (muGC μ ids) (dGC D H ids) F (pickB H ids ids) w := by
  have hget : ∀ (j : Nat) b, (pickB H ids ids)[j]? = some b → ∃ id, ids[j]? = some id ∧ ((∃ b0, H[id]? = some b0 ∧ b = b0.ren (rho ids)) ∨ b = .dead) := fun j b hb => by
    rw [pickB_get] at hb
    cases hj : ids[j]? with
    | none => simp [hj] at hb
    | some id =>
      simp only [hj, Option.map_some] at hb
      cases hb
      refine ⟨id, rfl, ?_⟩
      cases hH : H[id]? with
      | none => exact .inr rfl
      | some b0 => exact .inl ⟨b0, rfl, rfl⟩
  refine ⟨fun j b ⟨id, hj, hd⟩ hb => ?_, fun i j li lj bi bj ⟨id, hi, hdi⟩ ⟨jd, hj, hdj⟩ hbi hbj hoi hoj hli hlj e => ?_, h.frz, fun j ⟨id, hj, _⟩ => ?_, fun j b l hb hl hr ho => ?_⟩
  · obtain ⟨id', hj', hc⟩ := hget j b hb
    rw [hj] at hj'; cases hj'
    rcases hc with ⟨b0, hb0, rfl⟩ | rfl
    · exact (h.blk id b0 hd hb0).ren muGC_ren fun l hl => by unfold muGC; rw [hj]; exact hl
    · trivial
  · obtain ⟨id', hi', hci⟩ := hget i bi hbi
    obtain ⟨jd', hj', hcj⟩ := hget j bj hbj
    rw [hi] at hi'; cases hi'
    rw [hj] at hj'; cases hj'
    unfold muGC at hli hlj
    rw [hi] at hli; rw [hj] at hlj
    rcases hci with ⟨b0, hb0, rfl⟩ | rfl
    · rcases hcj with ⟨c0, hc0, rfl⟩ | rfl
      · rw [ren_own] at hoi hoj
        have := h.inj id jd li lj b0 c0 hdi hdj hb0 hc0 hoi hoj hli hlj e
        subst this
        have h1 := (List.getElem?_eq_some_iff.1 hi).1
        have h2 := (List.getElem?_eq_some_iff.1 hj).1
        exact (List.getElem_inj hn).1 ((List.getElem?_eq_some_iff.1 hi).2.trans (List.getElem?_eq_some_iff.1 hj).2.symm)
      · simp [Blk.own] at hoj
    · simp [Blk.own] at hoi
  · rw [pickB_length]; exact (List.getElem?_eq_some_iff.1 hj).1
  · obtain ⟨id, hj, hc⟩ := hget j b hb
    unfold muGC at hl
    rw [hj] at hl
    rcases hc with ⟨b0, hb0, rfl⟩ | rfl
    · rw [ren_own] at ho
      obtain ⟨sz, rfl⟩ := h.non id b0 l hb0 hl hr ho
      exact ⟨sz, rfl⟩
    · simp [Blk.own] at ho

theorem OwnS.gc {ids : List Nat} {m : Nat} (h : OwnS (muGC μ ids) (dGC D H ids) (pickB H ids ids) m) : OwnS μ D H m := by
  obtain ⟨j, b, l, ⟨id, hj, hd⟩, hb, ho, hl, rfl⟩ := h
  rw [pickB_get, hj] at hb
  unfold muGC at hl
  rw [hj] at hl
  cases hH : H[id]? with
  | none => simp [hH] at hb; subst hb; simp [Blk.own] at ho
  | some b0 => simp [hH] at hb; subst hb; rw [ren_own] at ho; exact ⟨id, b0, l, hd, hH, ho, hl, rfl⟩

theorem Fr.get_ren (r : Nat → Option Nat) : ∀ (fr : Fr) (t : Nat), (fr.ren r).get t = (fr.get t).ren r
  | [], t => by simp [Fr.ren, Fr.get, V.ren]
  | (s, v) :: fr, t => by
    simp only [Fr.ren, Fr.get]
    split
    · rfl
    · exact Fr.get_ren r fr t

theorem keep_get (live : List Nat) : ∀ (fr : Fr) (t : Nat), (keep live fr).get t = fr.get t ∨ (keep live fr).get t = .any
  | [], t => .inl rfl
  | (s, v) :: fr, t => by
    simp only [keep]
    split
    · simp only [Fr.get]
      split
      · exact .inl rfl
      · exact keep_get live fr t
    · rename_i hs
      simp only [Fr.get]
      rcases keep_get live fr t with h | h
      · by_cases e : s = t
        · right
          have : ∀ (fr : Fr), live.contains t = false → (keep live fr).get t = .any := by
            intro fr hl
            induction fr with
            | nil => rfl
            | cons p fr ih =>
              obtain ⟨u, x⟩ := p
              simp only [keep]
              split
              · rename_i hu
                simp only [Fr.get]
                split
                · rename_i e2; subst e2; rw [hl] at hu; cases hu
                · exact ih
              · exact ih
          exact this fr (by subst e; simpa using hs)
        · rw [if_neg e]; exact .inl h
      · exact .inr h

theorem FR.keep {n : Nat} {fr : Fr} {a : Act} (h : FR μ w F n fr a) (live : List Nat) : FR μ w F n (keep live fr) a :=
  ⟨h.size, h.defers, fun t => by
    rcases keep_get live fr t with e | e
    · rw [e]; exact h.slot t
    · rw [e]; exact .any _⟩

theorem FR.ren {r : Nat → Option Nat} {n : Nat} {fr : Fr} {a : Act} (hr : ∀ id j l, r id = some j → μ id = some l → μ' j = some l) (h : FR μ w F n fr a) : FR μ' w F n (fr.ren r) a :=
  ⟨h.size, h.defers, fun t => by rw [Fr.get_ren]; exact (h.slot t).ren hr⟩

def Sound (P : Program) (f : FuncId) (args : List V) (H : Heap) (v : V) (H' : Heap) : Prop :=
  ∀ (μ : Nat → Option Loc) (D F : Nat → Prop) (w : World) (margs : List Value), Rel μ D F H w → (∀ id l, id < H.length → μ id = some l → l.real = true → D id) → (∀ id, D id → ∃ l, μ id = some l ∧ l.real = true) → (∀ id, H.length ≤ id → μ id = none) → VRs μ w F args margs →
    Calls P f margs.toArray w fun e w' => ∃ x, e = .returned x ∧ Leaves μ D F H w v H' x w'

def RecOk (P : Program) (rec : Rec) : Prop := ∀ f args H v H', rec f args H = some (v, H') → Sound P f args H v H'
def PrimOk (P : Program) (E : Env) : Prop := ∀ f m s, E f = some (.prim m s) → ∀ args H v H', s args H = some (v, H') → Sound P f args H v H'

theorem T.scR {w w' : World} {F F' : Nat → Prop} {t : T} {v : Value} (h : TR w F t v) (hs : t.flat = true) : TR w' F' t v := h.flat hs

theorem VR.fl0 {w' : World} {F' : Nat → Prop} {v : V} {x : Value} (h : VR μ w F v x) (hf : v.fl0 = true) : VR μ w' F' v x := by
  cases h with
  | any => exact .any _
  | t h => exact .t (h.flat hf)
  | ref id off len cap l hl hre h1 h2 h3 => exact .ref id off len cap l hl hre h1 h2 h3
  | ref0 id off a l hl h0 => exact .ref0 id off a l hl h0
  | _ => simp [V.fl0] at hf
theorem VR.fl1 {w' : World} {F' : Nat → Prop} {v : V} {x : Value} (h : VR μ w F v x) (hf : v.fl1 = true) : VR μ w' F' v x := by
  cases h with
  | agg vs as hl h =>
    refine .agg vs as hl fun i v a hv ha => (h i v a hv ha).fl0 ?_
    simp only [V.fl1] at hf
    exact List.all_of_all hf hv
  | any => exact .any _
  | t h => exact .t (h.flat hf)
  | ref id off len cap l hl hre h1 h2 h3 => exact .ref id off len cap l hl hre h1 h2 h3
  | ref0 id off a l hl h0 => exact .ref0 id off a l hl h0
  | _ => simp [V.fl1, V.fl0] at hf
theorem VR.flat {w' : World} {F' : Nat → Prop} {v : V} {x : Value} (h : VR μ w F v x) (hf : v.flat = true) : VR μ w' F' v x := by
  cases h with
  | tup vs as hl h =>
    refine .tup vs as hl fun i v a hv ha => (h i v a hv ha).fl1 ?_
    simp only [V.flat] at hf
    exact List.all_of_all hf hv
  | agg vs as hl h => exact (VR.agg vs as hl h).fl1 hf
  | any => exact .any _
  | t h => exact .t (h.flat hf)
  | ref id off len cap l hl hre h1 h2 h3 => exact .ref id off len cap l hl hre h1 h2 h3
  | ref0 id off a l hl h0 => exact .ref0 id off a l hl h0
  | _ => simp [V.flat, V.fl1, V.fl0] at hf

theorem ELs.flat {w' : World} {F' : Nat → Prop} {cs : Array Value} {o sz : Nat} {xs : List T} (h : ELs w F cs o sz xs) (hf : xs.all T.flat = true) : ELs w' F' cs o sz xs := by
  refine ⟨h.size, h.el, fun i x hx j y hy => (h.rd i x hx j y hy).flat ?_⟩
  have hx' := List.all_of_all hf hx
  have hel := h.el i x hx
  cases x with
  | agg cs =>
    simp only [T.cells] at hy
    simp only [T.flat] at hx'
    have := List.all_of_all hx' hy
    cases y <;> first | rfl | (simp [T.sc] at this)
  | _ =>
    all_goals
      simp only [T.cells] at hy
      cases j with
      | zero => simp at hy; subst hy; exact hx'
      | succ j => simp at hy

theorem BR.flat {w : World} {F F' : Nat → Prop} {id : Nat} {b : Blk} (h : BR μ w F id b) (hf : b.flat = true) (hF : ∀ m, F' m → F m) : BR μ w F' id b := by
  cases b with
  | dead => trivial
  | pure sz xs => obtain ⟨l, cs, h1, h2, h3, h4, h5, h6, h7, h8⟩ := h; exact ⟨l, cs, h1, h2, fun k => h3 (hF _ k), h4, h5, h6, h7, h8.flat hf⟩
  | box sz vs => obtain ⟨l, cs, h1, h2, h3, h4, h5, h6, h7, h8⟩ := h; exact ⟨l, cs, h1, h2, fun k => h3 (hF _ k), h4, h5, h6, h7, fun i v hv => (h8 i v hv).fl0 (List.all_of_all hf hv)⟩
  | _ => simp [Blk.flat] at hf
def muIn (μ : Nat → Option Loc) (n k : Nat) (μ2 : Nat → Option Loc) : Nat → Option Loc := fun id => if n ≤ id ∧ id < n + k then μ2 (id - n) else μ id

theorem install {μ μ2 : Nat → Option Loc} {D D2 F F' : Nat → Prop} {H H2 : Heap} {w w' : World} {v : V} {x : Value} (h : Rel μ D F H w) (hf : ∀ id, H.length ≤ id → id < H.length + H2.length → μ id = none)
    (hb2 : ∀ id b, D2 id → H2[id]? = some b → BR μ2 w' F' id b) (hinj : ∀ i j li lj bi bj, D2 i → D2 j → H2[i]? = some bi → H2[j]? = some bj → bi.own = true → bj.own = true → μ2 i = some li → μ2 j = some lj → li.m = lj.m → i = j)
    (hlt : ∀ id, D2 id → id < H2.length) (hD2 : ∀ id l, id < H2.length → μ2 id = some l → l.real = true → D2 id) (hD2' : ∀ id, D2 id → ∃ l, μ2 id = some l ∧ l.real = true) (hnon : ∀ id b l, H2[id]? = some b → μ2 id = some l → l.real = false → b.own = true → ∃ sz, b = .pure sz [])
    (hown : ∀ m, OwnS μ2 D2 H2 m → w.heap.size ≤ m) (hFF : ∀ m, F m → F' m) (hFn : ∀ m, F' m → F m ∨ w.heap.size ≤ m) (hFs : ∀ m, F' m → m < w'.heap.size)
    (hsame : ∀ m, m < w.heap.size → w'.heap[m]? = w.heap[m]?) (hs : w.heap.size ≤ w'.heap.size) (os : w'.os = w.os) (tp : w'.tape = w.tape) (out : w'.output = w.output) (hv : VR μ2 w' F' v x) (hvl : ∀ id l, μ2 id = some l → id < H2.length) :
    Leaves μ D F H w (v.ren fun i => some (H.length + i)) (H ++ H2.map (Blk.ren fun i => some (H.length + i))) x w' := by
  let μ' := muIn μ H.length H2.length μ2
  have hold : ∀ id, id < H.length ∨ H.length + H2.length ≤ id → μ' id = μ id := fun id hid => by show (if _ then _ else _) = _; rw [if_neg (by omega)]
  have hnew : ∀ id, id < H2.length → μ' (H.length + id) = μ2 id := fun id hid => by show (if _ then _ else _) = _; rw [if_pos (by omega), Nat.add_sub_cancel_left]
  have hmo : ∀ id l, μ id = some l → μ' id = some l := fun id l hl => by
    by_cases hid : H.length ≤ id ∧ id < H.length + H2.length
    · rw [hf id hid.1 hid.2] at hl; cases hl
    · rw [hold id (by omega)]; exact hl
  have hren : ∀ id j l, (fun i => some (H.length + i)) id = some j → μ2 id = some l → μ' j = some l := fun id j l hj hl => by
    cases hj; rw [hnew id (hvl id l hl)]; exact hl
  have hp : Pres F w w' := fun m hm => hsame m (h.frz m hm)
  have hget : ∀ (j : Nat) b, (H ++ H2.map (Blk.ren fun i => some (H.length + i)))[j]? = some b → (j < H.length ∧ H[j]? = some b) ∨ ∃ id b0, j = H.length + id ∧ H2[id]? = some b0 ∧ b = b0.ren fun i => some (H.length + i) := fun j b hb => by
    rw [List.getElem?_append] at hb
    split at hb
    · rename_i hj; exact .inl ⟨hj, hb⟩
    · rename_i hj
      rw [List.getElem?_map] at hb
      cases hc : H2[j - H.length]? with
      | none => simp [hc] at hb
      | some b0 => simp [hc] at hb; exact .inr ⟨j - H.length, b0, by omega, hc, hb.symm⟩
  let D' : Nat → Prop := fun id => D id ∨ ∃ k, id = H.length + k ∧ D2 k
  have hDo : ∀ {j}, j < H.length → D' j → D j := fun hj a => a.elim (fun a => a) fun ⟨k, e, _⟩ => by omega
  have hDn : ∀ {k : Nat}, D' (H.length + k) → D2 k := by
    rintro k (a | ⟨k', e, d⟩)
    · exact absurd (h.lt _ a) (by omega)
    · obtain rfl : k' = k := by omega
      exact d
  refine ⟨μ', D', F', ⟨fun id hid => ?_, hmo, by simp, fun id => ?_, hFF, fun m hm => (hFn m hm).elim .inl fun a => .inr (.inl a), ⟨?_, ?_, hFs, ?_, ?_⟩, fun m hm _ => hsame m hm, ?_, hs, os, tp, out⟩, hv.ren hren⟩
  · exact hold id (by simpa using hid)
  · simp only [List.length_append, List.length_map]
    constructor
    · rintro (a | ⟨k, rfl, d⟩)
      · exact .inl a
      · obtain ⟨l, hl, hre⟩ := hD2' k d
        exact .inr ⟨by omega, by have := hlt k d; omega, l, by rw [hnew k (hlt k d)]; exact hl, hre⟩
    · rintro (a | ⟨a, b, l, hl, hre⟩)
      · exact .inl a
      · obtain ⟨k, rfl⟩ : ∃ k, id = H.length + k := ⟨id - H.length, by omega⟩
        rw [hnew k (by omega)] at hl
        exact .inr ⟨k, rfl, hD2 k l (by omega) hl hre⟩
  · intro j b hj hb
    rcases hget j b hb with ⟨hlt', hb⟩ | ⟨id, b0, rfl, hb0, rfl⟩
    · refine (h.blk j b (hDo hlt' hj) hb).mono hmo hp hFF fun l hl ho => ?_
      have hm := h.own_notF ⟨j, b, l, hDo hlt' hj, hb, ho, hl, rfl⟩
      exact ⟨hsame _ hm.1, fun k => (hFn _ k).elim hm.2 fun a => absurd hm.1 (by omega)⟩
    · exact (hb2 id b0 (hDn hj) hb0).ren hren fun l hl => by rw [hnew id (hvl id l hl)]; exact hl
  · intro i j li lj bi bj hi hj hbi hbj hoi hoj hli hlj e
    rcases hget i bi hbi with ⟨hi', hbi⟩ | ⟨id, b0, rfl, hb0, rfl⟩ <;> rcases hget j bj hbj with ⟨hj', hbj⟩ | ⟨jd, c0, rfl, hc0, rfl⟩
    · rw [hold i (.inl hi')] at hli
      rw [hold j (.inl hj')] at hlj
      exact h.inj i j li lj bi bj (hDo hi' hi) (hDo hj' hj) hbi hbj hoi hoj hli hlj e
    · rw [ren_own] at hoj
      rw [hold i (.inl hi')] at hli
      rw [hnew jd (hlt jd (hDn hj))] at hlj
      have h1 := (h.own_notF ⟨i, bi, li, hDo hi' hi, hbi, hoi, hli, rfl⟩).1
      have h2 := hown _ ⟨jd, c0, lj, hDn hj, hc0, hoj, hlj, rfl⟩
      omega
    · rw [ren_own] at hoi
      rw [hold j (.inl hj')] at hlj
      rw [hnew id (hlt id (hDn hi))] at hli
      have h1 := (h.own_notF ⟨j, bj, lj, hDo hj' hj, hbj, hoj, hlj, rfl⟩).1
      have h2 := hown _ ⟨id, b0, li, hDn hi, hb0, hoi, hli, rfl⟩
      omega
    · rw [ren_own] at hoi hoj
      rw [hnew id (hlt id (hDn hi))] at hli
      rw [hnew jd (hlt jd (hDn hj))] at hlj
      rw [hinj id jd li lj b0 c0 (hDn hi) (hDn hj) hb0 hc0 hoi hoj hli hlj e]
  · intro j hj
    simp only [List.length_append, List.length_map]
    rcases hj with a | ⟨k, rfl, d⟩
    · have := h.lt j a; omega
    · have := hlt k d; omega
  · intro j b l hb hl hre ho
    rcases hget j b hb with ⟨hj', hb⟩ | ⟨id, b0, rfl, hb0, rfl⟩
    · rw [hold j (.inl hj')] at hl
      exact h.non j b l hb hl hre ho
    · rw [ren_own] at ho
      rw [hnew id (List.getElem?_eq_some_iff.1 hb0).1] at hl
      obtain ⟨sz, rfl⟩ := hnon id b0 l hb0 hl hre ho
      exact ⟨sz, rfl⟩
  · rintro m ⟨j, b, l, hj, hb, ho, hl, rfl⟩
    rcases hget j b hb with ⟨hj', hb⟩ | ⟨id, b0, rfl, hb0, rfl⟩
    · rw [hold j (.inl hj')] at hl
      exact .inr ⟨j, b, l, hDo hj' hj, hb, ho, hl, rfl⟩
    · rw [ren_own] at ho
      rw [hnew id (hlt id (hDn hj))] at hl
      exact .inl (hown _ ⟨id, b0, l, hDn hj, hb0, ho, hl, rfl⟩)

end
end Go.Proofs.Ytdgfpjlmpnfcgaa.Ev
namespace Go.Proofs.Ytdgfpjlmpnfcgaa.Ev
open Go Go.RowKit
set_option linter.unusedVariables false
set_option linter.unusedSimpArgs false

section
variable {P : Program} {μ : Nat → Option Loc} {D F : Nat → Prop} {H : Heap} {w : World}

def mu0 : Nat → Option Loc := fun _ => none
def d0 : Nat → Prop := fun _ => False

theorem Rel.nil (F : Nat → Prop) (hF : ∀ m, F m → m < w.heap.size) : Rel mu0 d0 F [] w :=
  ⟨fun _ _ h => h.elim, fun _ _ _ _ _ _ h => h.elim, hF, fun _ h => h.elim, fun _ _ _ h => by simp at h⟩
structure Back (w : World) (F1 : Nat → Prop) (v : V) (H2 : Heap) (x : Value) (w' : World) (μ2 : Nat → Option Loc) (D2 F2 : Nat → Prop) : Prop where
  rel : Rel μ2 D2 F2 H2 w'
  hD2 : ∀ id l, id < H2.length → μ2 id = some l → l.real = true → D2 id
  hD2' : ∀ id, D2 id → ∃ l, μ2 id = some l ∧ l.real = true
  hvl : ∀ id l, μ2 id = some l → id < H2.length
  own : ∀ m, OwnS μ2 D2 H2 m → w.heap.size ≤ m
  old : ∀ m, F1 m → F2 m
  new : ∀ m, F2 m → F1 m ∨ w.heap.size ≤ m
  same : ∀ m, m < w.heap.size → w'.heap[m]? = w.heap[m]?
  size : w.heap.size ≤ w'.heap.size
  os : w'.os = w.os
  tape : w'.tape = w.tape
  output : w'.output = w.output
  val : VR μ2 w' F2 v x

theorem back_ok {F1 : Nat → Prop} {v : V} {H1 : Heap} {x : Value} {w' : World} (h : Leaves mu0 d0 F1 [] w v H1 x w') : ∃ μ2 D2 F2, Back w F1 (gcV v H1).1 (gcV v H1).2 x w' μ2 D2 F2 := by
  obtain ⟨μ1, D1, F2, hp, hv⟩ := h
  have hnd := gcIds_nodup H1 [v]
  have hrel := hp.rel.gc hnd
  have hno : ∀ m, ¬ OwnS mu0 d0 [] m := fun m ⟨id, b, l, hd, _⟩ => hd.elim
  have hlt1 : ∀ id l, μ1 id = some l → id < H1.length := fun id l hl => by
    rcases Nat.lt_or_ge id H1.length with h | h
    · exact h
    · rw [hp.mu id (.inr h)] at hl; cases hl
  refine ⟨muGC μ1 (gcIds H1 [v]), dGC D1 H1 (gcIds H1 [v]), F2, hrel, fun id l hid hl hre => ?_, fun id ⟨k, hk, hd⟩ => ?_, fun id l hl => ?_, fun m hm => (hp.own m hm.gc).elim (fun a => a) fun a => absurd a (hno m), hp.old, fun m hm => (hp.new m hm).elim .inl fun a => a.elim .inr fun a => absurd a (hno m),
    fun m hm => hp.frame m hm (hno m), hp.size, hp.os, hp.tape, hp.output, hv.ren muGC_ren⟩
  · unfold muGC at hl
    cases hk : (gcIds H1 [v])[id]? with
    | none => simp [hk] at hl
    | some k =>
      simp [hk] at hl
      exact ⟨k, hk, (hp.dom k).2 (.inr ⟨Nat.zero_le _, hlt1 k l hl, l, hl, hre⟩)⟩
  · rcases (hp.dom k).1 hd with a | ⟨_, _, l, hl, hre⟩
    · exact a.elim
    · exact ⟨l, by unfold muGC; rw [hk]; exact hl, hre⟩
  · unfold muGC at hl
    show id < (pickB H1 (gcIds H1 [v]) (gcIds H1 [v])).length
    rw [pickB_length]
    cases hk : (gcIds H1 [v])[id]? with
    | none => simp [hk] at hl
    | some k => exact (List.getElem?_eq_some_iff.1 hk).1

theorem rdArgs_ok (h : Rel μ D F H w) (hD : ∀ id l, id < H.length → μ id = some l → l.real = true → D id) : ∀ (args us : List V) (L : List (Nat × Blk)) (as : List Value), callM.rdArgs H args = some (us, L) → VRs μ w F args as →
    ∀ F' : Nat → Prop, (∀ m, F m → F' m) → (∀ p ∈ L, ∀ l, μ p.1 = some l → l.real = true → F' l.m) → VRs μ w F' us as ∧ LOk μ D H w F' L
  | [], us, L, as, he, hv, F', hF, hL => by
    simp only [callM.rdArgs] at he; cases he
    have := hv.1
    simp at this; subst this
    exact ⟨.nil, .nil⟩
  | v :: vs, us, L, as, he, hv, F', hF, hL => by
    obtain ⟨a, bs, rfl, ha, hbs⟩ := hv.head
    unfold callM.rdArgs at he
    split at he
    · cases he
    · rename_i u l hu
      split at he
      · cases he
      · rename_i us' l' hus
        cases he
        obtain ⟨k1, k2⟩ := rdArgs_ok h hD vs us' l' bs hus hbs F' hF fun p hp => hL p (List.mem_append.2 (.inr hp))
        have hp : Pres F w w := .refl _ _
        have keyT : (match rd H depth v with | some (t, l) => some (V.t t, l) | none => none) = some (u, l) → VR μ w F' u a ∧ LOk μ D H w F' l := fun hr => by
          split at hr
          · rename_i t l2 hrd
            cases hr
            obtain ⟨q1, q2⟩ := rd_ok h hD depth v t l a hrd ha F' hF fun p hp => hL p (List.mem_append.2 (.inl hp))
            exact ⟨.t q1, q2⟩
          · cases hr
        have key : VR μ w F' u a ∧ LOk μ D H w F' l := by
          split at hu
          · exact keyT hu
          · exact keyT hu
          · exact keyT hu
          · cases hu; exact ⟨ha.mono (fun _ _ h => h) hp hF, .nil⟩
        exact ⟨.cons key.1 k1, key.2.append k2⟩

theorem callM_ok {m : Mode} {f : FuncId} {g : List V → Heap → Option (V × Heap)} {args : List V} {as : List Value} {v : V} {H' : Heap} (hg : ∀ args H v H', g args H = some (v, H') → Sound P f args H v H') (he : callM m g args H = some (v, H')) (h : Rel μ D F H w)
    (hD : ∀ id l, id < H.length → μ id = some l → l.real = true → D id) (hf : ∀ id, H.length ≤ id → id < H'.length → μ id = none) (hm : m = .own ∨ ∀ id, H.length ≤ id → μ id = none) (hdD : ∀ id, D id → ∃ l, μ id = some l ∧ l.real = true) (hv : VRs μ w F args as) :
    Calls P f as.toArray w fun e w' => ∃ x, e = .returned x ∧ Leaves μ D F H w v H' x w' := by
  unfold callM at he
  split at he
  · -- refM
    have hfr : ∀ id, H.length ≤ id → μ id = none := hm.resolve_left (by simp)
    exact hg args H v H' he μ D F w as h hD hdD hfr hv
  · -- ref
    have hfr : ∀ id, H.length ≤ id → μ id = none := hm.resolve_left (by simp)
    split at he
    · cases he
    · rename_i us L hus
      obtain ⟨k1, k2⟩ := rdArgs_ok h hD args us L as hus hv (LF μ F L) (fun m hm => .inl hm) fun p hp l hl hre => .inr ⟨p, hp, l, hl, hre, rfl⟩
      have hpost := Post.freeze h hD k2
      have hlen : (frz H L).length = H.length := frz_length L H
      refine (hg us (frz H L) v H' he μ D (LF μ F L) w as hpost.rel (by rw [hlen]; exact hD) hdD (by rw [hlen]; exact hfr) k1).mono fun e w' ⟨x, hx, hl⟩ => ⟨x, hx, Leaves.after hpost hl⟩
  · -- own
    split at he
    · cases he
    · rename_i ts L hrd
      split at he
      · cases he
      · rename_i v1 H1 hrun
        split at he
        · rename_i hflat
          cases he
          obtain ⟨hts, hLo⟩ := rdL_ok (rd_ok h hD depth) args ts L as hrd hv (LF μ F L) (fun m hm => .inl hm) fun p hp l hl hre => .inr ⟨p, hp, l, hl, hre, rfl⟩
          have hfz := (Post.freeze h hD hLo).rel.frz
          refine (hg (ts.map .t) [] v1 H1 hrun mu0 d0 (LF μ F L) w as (Rel.nil _ hfz) (fun _ _ hh => by simp at hh) (fun _ hh => hh.elim) (fun _ _ => rfl) (VRs.ofTRs hts)).mono fun e w' ⟨x, hx, hl⟩ => ⟨x, hx, ?_⟩
          obtain ⟨μ2, D2, F2, hb⟩ := back_ok hl
          simp only [Bool.and_eq_true] at hflat
          have hFF2 : ∀ m, F m → F2 m := fun m hm => hb.old m (.inl hm)
          exact install h (fun id h1 h2 => hf id h1 (by simpa using h2)) (fun id b hd hbb => (hb.rel.blk id b hd hbb).flat (List.all_of_all hflat.2 hbb) hFF2) hb.rel.inj hb.rel.lt hb.hD2 hb.hD2' hb.rel.non hb.own (fun _ h => h) (fun _ h => .inl h)
            (fun m hm => Nat.lt_of_lt_of_le (h.frz m hm) hb.size) hb.same hb.size hb.os hb.tape hb.output (hb.val.flat hflat.1) hb.hvl
        · cases he
  · -- ownF
    split at he
    · cases he
    · rename_i ts L hrd
      split at he
      · cases he
      · rename_i v1 H1 hrun
        cases he
        obtain ⟨hts, hLo⟩ := rdL_ok (rd_ok h hD depth) args ts L as hrd hv (LF μ F L) (fun m hm => .inl hm) fun p hp l hl hre => .inr ⟨p, hp, l, hl, hre, rfl⟩
        have hpost := Post.freeze h hD hLo
        have hlen : (frz H L).length = H.length := frz_length L H
        refine (hg (ts.map .t) [] v1 H1 hrun mu0 d0 (LF μ F L) w as (Rel.nil _ hpost.rel.frz) (fun _ _ hh => by simp at hh) (fun _ hh => hh.elim) (fun _ _ => rfl) (VRs.ofTRs hts)).mono fun e w' ⟨x, hx, hl⟩ => ⟨x, hx, ?_⟩
        obtain ⟨μ2, D2, F2, hb⟩ := back_ok hl
        have := install hpost.rel (fun id h1 h2 => hf id (by rwa [hlen] at h1) (by rw [hlen] at h2; simp [hlen]; exact h2)) (fun id b hd hbb => hb.rel.blk id b hd hbb) hb.rel.inj hb.rel.lt hb.hD2 hb.hD2' hb.rel.non hb.own hb.old hb.new hb.rel.frz hb.same hb.size hb.os hb.tape hb.output hb.val hb.hvl
        rw [hlen] at this
        exact Leaves.after hpost this

theorem evCall_ok {E : Env} {rec : Rec} {f : FuncId} {args : List V} {as : List Value} {v : V} {H' : Heap} (hrec : RecOk P rec) (hprim : PrimOk P E) (he : evCall E rec f args H = some (v, H')) (h : Rel μ D F H w)
    (hD : ∀ id l, id < H.length → μ id = some l → l.real = true → D id) (hf : ∀ id, H.length ≤ id → id < H'.length → μ id = none) (hm : (∃ G, E f = some G ∧ G.mode = .own) ∨ ∀ id, H.length ≤ id → μ id = none) (hdD : ∀ id, D id → ∃ l, μ id = some l ∧ l.real = true) (hv : VRs μ w F args as) :
    Calls P f as.toArray w fun e w' => ∃ x, e = .returned x ∧ Leaves μ D F H w v H' x w' := by
  unfold evCall at he
  split at he
  · cases he
  · rename_i m s hs
    exact callM_ok (hprim f m s hs) he h hD hf (hm.imp (fun ⟨G, hG, hmo⟩ => by rw [hs] at hG; cases hG; exact hmo) id) hdD hv
  · rename_i G hG
    exact callM_ok (hrec f) he h hD hf (hm.imp (fun ⟨G', hG', hmo⟩ => by rw [hG] at hG'; cases hG'; exact hmo) id) hdD hv
theorem op_call {mix : Mx} {E : Env} {rec : Rec} {o : Oper} {op : O} {n : Nat} {fr : Fr} {a : Act} {v : V} {H' : Heap} (hrec : RecOk P rec) (hprim : PrimOk P E) (hbody : ∀ f F', E f = some F' → ∃ fn, P.funcs[f]? = some fn ∧ fn.body.isSome = true ∧ (fn.name == "runtime.NumGoroutine") = false)
    (hc : compO P mix o = some op) (hcall : op.isCall = true) (he : evO E rec fr H op = some (v, H')) (h : Rel μ D F H w) (hD : ∀ id l, id < H.length → μ id = some l → l.real = true → D id) (hf : ∀ id, H.length ≤ id → id < H'.length → μ id = none)
    (hm : cls E fr H op = .q ∨ ∀ id, H.length ≤ id → μ id = none) (hdD : ∀ id, D id → ∃ l, μ id = some l ∧ l.real = true) (hfr : FR μ w F n fr a) : Does P o a w (Leaves μ D F H w v H') := by
  have henter : ∀ (f : FuncId) (args : Array Value), (∃ F', E f = some F') → (callFunc f args).run P w = .ok (.enter f args) w := fun f args ⟨F', hF'⟩ => by
    obtain ⟨fn, h1, h2, h3⟩ := hbody f F' hF'
    unfold callFunc
    have hb : fn.body.isNone = false := by cases hbd : fn.body <;> simp_all
    simp only [Sem.run_bind, run_program, Result.andThen_ok, h1, h3, hb, Bool.false_eq_true, if_false, Sem.run_pure]
  have hEf : ∀ {f args}, evCall E rec f args H = some (v, H') → ∃ F', E f = some F' := fun {f args} hev => by
    unfold evCall at hev
    cases hE : E f with
    | none => simp [hE] at hev
    | some F' => exact ⟨F', rfl⟩
  unfold compO at hc
  generalize hop : o.op = oo at hc
  cases oo with
  | call c =>
    obtain ⟨callee, args, argTypes⟩ := c
    simp only at hc
    cases callee with
    | invoke r m => cases hc
    | builtin b =>
      exfalso
      cases b <;> simp only at hc <;> (try (cases hc; done)) <;> (repeat' (split at hc)) <;> first
        | (cases hc; done)
        | (cases hc; simp [O.isCall] at hcall; done)
        | (obtain ⟨_, _, rfl⟩ := Option.map_eq_some_iff.1 hc; simp [O.isCall] at hcall; done)
    | value f =>
      have viaV : ∀ (x : Operand) (x' : A) (as : List A), f = x → opd x = some x' → opds args.toList = some as → op = .callv x' as → Does P o a w (Leaves μ D F H w v H') := by
        intro x x' as e1 hx has e2
        subst e1 e2
        have hva := opds_VRs hfr has
        have hvf := opd_VR hfr hx
        have hfr' : ∀ id, H.length ≤ id → μ id = none := hm.resolve_left (by simp [cls])
        have hres : ∀ (g : FuncId) (fi ca : List Value), a.eval f = .func (.func g) fi.toArray ca.toArray → ∀ us, evCall E rec g us H = some (v, H') → VRs μ w F us (fi ++ args.toList.map a.eval ++ ca) → Does P o a w (Leaves μ D F H w v H') := by
          intro g fi ca hfe us hev hus
          have hcalls := evCall_ok hrec hprim hev h hD hf (.inr hfr') hdD hus
          refine Does.enter (f := g) (args := (fi ++ args.toList.map a.eval ++ ca).toArray) (w' := w) ?_ hcalls
          have harr : (fi.toArray ++ args.map a.eval) ++ ca.toArray = (fi ++ args.toList.map a.eval ++ ca).toArray := by
            apply Array.toList_inj.1; simp
          simp only [execOp, hop, resolve, hfe, Deferred.ofValue, Sem.run_bind, Sem.run_pure, Result.andThen_ok, invoke, harr]
          exact henter g _ (hEf hev)
        simp only [evO] at he
        split at he
        · rename_i g fi ca hcl
          rw [hcl] at hvf
          generalize hfe : a.eval f = fv at hvf
          cases hvf with
          | clo g xs ys as' bs' hx' hy' hh hh' =>
            exact hres g as' bs' hfe _ he (VRs.app (VRs.app ⟨hx', hh⟩ hva) ⟨hy', hh'⟩)
        · rename_i g fi ca hcl
          rw [hcl] at hvf
          generalize hfe : a.eval f = fv at hvf
          cases hvf.tT with
          | clo g xs ys as' bs' hx' hy' hh hh' =>
            exact hres g as' bs' hfe _ he (VRs.app (VRs.app (VRs.ofT hx' hh) hva) (VRs.ofT hy' hh'))
        · cases he
      cases f with
      | func f =>
        simp only at hc
        split at hc
        · rename_i fn as hfn has
          split at hc
          · cases hc
          · cases hc
            simp only [evO] at he
            have hva := opds_VRs hfr has
            have hmode : (∃ G, E f = some G ∧ G.mode = .own) ∨ ∀ id, H.length ≤ id → μ id = none := by
              rcases hm with hq | hm
              · left
                simp only [cls] at hq
                split at hq
                · rename_i G hG
                  split at hq
                  · rename_i hmo; exact ⟨G, hG, hmo⟩
                  · cases hq
                · cases hq
              · exact .inr hm
            have hcalls := evCall_ok hrec hprim he h hD hf hmode hdD hva
            refine Does.enter (f := f) (args := (args.toList.map a.eval).toArray) (w' := w) ?_ hcalls
            have harr : #[] ++ args.map a.eval ++ #[] = (args.toList.map a.eval).toArray := by
              apply Array.toList_inj.1; simp
            simp only [execOp, hop, resolve, Act.eval, Deferred.ofValue, Sem.run_bind, Sem.run_pure, Result.andThen_ok, invoke]
            rw [harr]
            exact henter f _ (hEf he)
        · cases hc
      | _ =>
        simp only at hc
        split at hc
        · rename_i x' as hx has
          cases hc
          exact viaV _ x' as rfl hx has rfl
        · cases hc
  | makeFunc fn x y =>
    cases fn with
    | func f =>
      simp only at hc
      split at hc <;> first | (cases hc; simp [O.isCall] at hcall; done) | cases hc
    | _ => cases hc
  | slice t x lo hi mx =>
    cases mx with
    | some m => cases hc
    | none =>
      simp only at hc
      repeat' (split at hc)
      all_goals first | (cases hc; done) | (cases hc; simp [O.isCall] at hcall; done)
  | makeMap t r =>
    cases r with
    | some r => cases hc
    | none => cases hc; simp [O.isCall] at hcall
  | move | assign | box | nilCheck | unOp | extract =>
    simp only [Option.map_eq_some_iff] at hc
    obtain ⟨_, _, rfl⟩ := hc
    simp [O.isCall] at hcall
  | pick | load | binOp | convert | fieldAddr | field | index | lookup | alloc | build | buildSlice | store | makeSlice | indexAddr | mapUpdate =>
    simp only at hc
    repeat' (split at hc)
    all_goals first | (cases hc; done) | (cases hc; simp [O.isCall] at hcall; done) | (obtain ⟨_, _, rfl⟩ := Option.map_eq_some_iff.1 hc; simp [O.isCall] at hcall; done)
  | _ => cases hc

end
end Go.Proofs.Ytdgfpjlmpnfcgaa.Ev
namespace Go.Proofs.Ytdgfpjlmpnfcgaa.Ev
open Go Go.RowKit
set_option linter.unusedVariables false
set_option linter.unusedSimpArgs false
structure EnvOk (P : Program) (E : Env) : Prop where
  body : ∀ f F', E f = some F' → ∃ fn, P.funcs[f]? = some fn ∧ fn.body.isSome = true ∧ (fn.name == "runtime.NumGoroutine") = false
  prim : PrimOk P E
  ir : ∀ f G, E f = some (.ir G) → ∃ fn mix, P.funcs[f]? = some fn ∧ compF P G.mode mix fn = some G

abbrev Ctx := (Nat → Option Loc) → (Nat → Prop) → (Nat → Prop) → Heap → World → Prop

structure CtxOk (K : Ctx) (gc : Bool) : Prop where
  post : ∀ μ D F H w μ' D' F' H' w', K μ D F H w → Rel μ D F H w → Post μ D F H w μ' D' F' H' w' → K μ' D' F' H' w'
  gc : gc = true → ∀ μ D F H w ids, ids.Nodup → K μ D F H w → K (muGC μ ids) (dGC D H ids) F (pickB H ids ids) w
structure Mem (K : Ctx) (μ : Nat → Option Loc) (D F : Nat → Prop) (H : Heap) (w : World) : Prop where
  ctx : K μ D F H w
  rel : Rel μ D F H w
  hD : ∀ id l, id < H.length → μ id = some l → l.real = true → D id
  dD : ∀ id, D id → ∃ l, μ id = some l ∧ l.real = true
  fresh : ∀ id, H.length ≤ id → μ id = none

def Sta (K : Ctx) (n : Nat) (fr : Fr) (H : Heap) (a : Act) (w : World) : Prop := ∃ μ D F, Mem K μ D F H w ∧ FR μ w F n fr a

section
variable {P : Program} {E : Env} {rec : Rec} {K : Ctx} {gc : Bool} {mix : Mx} {n : Nat}

theorem Mem.post {μ μ' : Nat → Option Loc} {D D' F F' : Nat → Prop} {H H' : Heap} {w w' : World} (hK : CtxOk K gc) (h : Mem K μ D F H w) (p : Post μ D F H w μ' D' F' H' w') : Mem K μ' D' F' H' w' := by
  refine ⟨hK.post _ _ _ _ _ _ _ _ _ _ h.ctx h.rel p, p.rel, fun id l hid hl hre => ?_, fun id hid => ?_, fun id hid => ?_⟩
  · rw [p.dom]
    rcases Nat.lt_or_ge id H.length with a | a
    · rw [p.mu id (.inl a)] at hl; exact .inl (h.hD id l a hl hre)
    · exact .inr ⟨a, hid, l, hl, hre⟩
  · rcases (p.dom id).1 hid with a | ⟨_, _, l, hl, hre⟩
    · obtain ⟨l, hl, hre⟩ := h.dD id a
      exact ⟨l, p.mono id l hl, hre⟩
    · exact ⟨l, hl, hre⟩
  · rw [p.mu id (.inr hid)]; exact h.fresh id (Nat.le_trans p.len hid)

theorem op_any (hE : EnvOk P E) (hrec : RecOk P rec) {o : Oper} {op : O} {fr : Fr} {a : Act} {v : V} {μ : Nat → Option Loc} {D F : Nat → Prop} {H H' : Heap} {w : World} (hc : compO P mix o = some op) (he : evO E rec fr H op = some (v, H')) (h : Mem K μ D F H w) (hfr : FR μ w F n fr a) :
    Does P o a w (Leaves μ D F H w v H') := by
  cases hst : op.still with
  | true =>
    obtain ⟨e, hd⟩ := op_still hc hst he h.rel.blk hfr fun id l _ hl hre => by
      rcases Nat.lt_or_ge id H.length with a | a
      · exact h.hD id l a hl hre
      · rw [h.fresh id a] at hl; cases hl
    subst e
    exact hd.mono fun x w' ⟨e, hv⟩ => by subst e; exact ⟨_, _, _, Post.refl h.rel, hv⟩
  | false =>
    cases hcall : op.isCall with
    | true => exact op_call hrec hE.prim hE.body hc hcall he h.rel h.hD (fun id hid _ => h.fresh id hid) (.inr h.fresh) h.dD hfr
    | false => exact op_heap hc hst hcall he h.rel h.hD (h.fresh _ (Nat.le_refl _)) hfr

theorem wanted_ok {ops : Array Oper} {o : Oper} {fr : Fr} {a : Act} {μ : Nat → Option Loc} {F : Nat → Prop} {w : World} {g : Option (Nat × Bool)} {b : Bool} {i : I} (hg : guardOf ops o = some g) (hi : i.grd = g) (hw : wantedI fr i = some b) (hfr : FR μ w F n fr a) :
    Region.wanted o (yielded ops a.tmps) = b := by
  unfold guardOf at hg
  unfold wantedI at hw
  rw [hi] at hw
  unfold Region.wanted
  cases ho : o.guard with
  | none =>
    simp only [ho] at hg ⊢
    cases hg
    simp only at hw
    cases hw; rfl
  | some p =>
    obtain ⟨j, want⟩ := p
    simp only [ho] at hg ⊢
    cases hd : (ops[j]?).bind (·.dst) with
    | none => simp [hd] at hg
    | some s =>
      simp only [hd] at hg
      cases hg
      simp only at hw
      split at hw
      · rename_i c hc
        cases hw
        have hv := hfr.slot s
        rw [hc] at hv
        have hv := hv.boolv
        have hs : a.tmps[s]? = some (.bool c) := by
          rw [Array.getD_eq_getD_getElem?] at hv
          cases ht : a.tmps[s]? with
          | none => rw [ht] at hv; simp [undef] at hv
          | some x => rw [ht] at hv; simpa using hv
        have : yielded ops a.tmps j = some c := by
          unfold yielded
          rw [hd]
          simp only [Option.bind_some, hs]
        rw [this]
        cases c <;> cases want <;> rfl
      · rename_i vs hc
        cases hw
        have hv := hfr.slot s
        rw [hc] at hv
        obtain ⟨as, has⟩ : ∃ as, a.tmps.getD s undef = .tuple as := by
          generalize a.tmps.getD s undef = x at hv
          cases hv with
          | tup vs as _ _ => exact ⟨_, rfl⟩
        have : yielded ops a.tmps j = none := by
          unfold yielded
          rw [hd]
          simp only [Option.bind_some]
          rw [Array.getD_eq_getD_getElem?] at has
          cases ht : a.tmps[s]? with
          | none => rfl
          | some x => rw [ht] at has; simp only [Option.getD_some] at has; rw [has]
        rw [this]
        cases want <;> rfl
      · cases hw

theorem VR.undef {μ : Nat → Option Loc} {F : Nat → Prop} {w : World} : VR μ w F (.tup []) Go.undef := .tup [] [] rfl fun i v a h => by simp at h
theorem step_ok (hE : EnvOk P E) (hrec : RecOk P rec) (hK : CtxOk K gc) {ops : Array Oper} {o : Oper} {fr fr' : Fr} {a : Act} {H H' : Heap} {w : World} (he : evI E rec (fr, H) (compI P mix ops o) = some (fr', H')) (hlt : ∀ d, o.dst = some d → d < n) (h : Sta K n fr H a w)
    (next : Act → World → Prop) (Q : Exit → Act → World → Prop) (hn : ∀ a' w', Sta K n fr' H' a' w' → next a' w') : if Region.wanted o (yielded ops a.tmps) then o.wp P a w next Q else next (a.put o.dst undef) w := by
  obtain ⟨μ, D, F, hm, hfr⟩ := h
  unfold compI at he
  split at he
  · rename_i g op hg hop
    unfold evI at he
    split at he
    · cases he
    · rename_i hw
      cases he
      rw [wanted_ok hg rfl hw hfr]
      simp only [Bool.false_eq_true, if_false]
      exact hn _ _ ⟨μ, D, F, hm, hfr.put o.dst hlt .undef⟩
    · rename_i hw
      rw [wanted_ok hg rfl hw hfr]
      simp only [if_true]
      split at he
      · cases he
      · rename_i v H2 hev
        cases he
        refine op_any hE hrec hop hev hm hfr next Q fun x w' hl => ?_
        obtain ⟨μ', D', F', hp, hv⟩ := hl
        exact hn _ _ ⟨μ', D', F', hm.post hK hp, (hfr.mono hp.mono (hp.pres hm.rel) hp.old).put o.dst hlt hv⟩
  · rename_i g hg hop
    unfold evI at he
    split at he
    · cases he
    · rename_i hw
      cases he
      rw [wanted_ok hg rfl hw hfr]
      simp only [Bool.false_eq_true, if_false]
      exact hn _ _ ⟨μ, D, F, hm, hfr.put o.dst hlt .undef⟩
    · rename_i hw
      simp [evO] at he
  · unfold evI at he
    simp [wantedI, evO] at he

theorem reg_ok (hE : EnvOk P E) (hrec : RecOk P rec) (hK : CtxOk K gc) {ops : Array Oper} {Q : Exit → Act → World → Prop} : ∀ (l : List Nat) (os : List Oper) (fr fr' : Fr) (H H' : Heap) (a : Act) (w : World), l.length = os.length → (∀ (j i : Nat) o, l[j]? = some i → os[j]? = some o → ops[i]? = some o) →
    (∀ o ∈ os, ∀ d, o.dst = some d → d < n) → evIs E rec (os.map (compI P mix ops)) (fr, H) = some (fr', H') → Sta K n fr H a w → (∀ a' w', Sta K n fr' H' a' w' → Q .normal a' w') → wpOps P ops Q l a w
  | [], [], fr, fr', H, H', a, w, _, _, _, he, hs, hQ => by
    simp only [List.map_nil, evIs] at he; cases he
    exact hQ a w hs
  | [], _ :: _, _, _, _, _, _, _, hl, _, _, _, _, _ => by simp at hl
  | _ :: _, [], _, _, _, _, _, _, hl, _, _, _, _, _ => by simp at hl
  | i :: l, o :: os, fr, fr', H, H', a, w, hl, hi, hlt, he, hs, hQ => by
    have hoi := hi 0 i o rfl rfl
    simp only [List.map_cons, evIs] at he
    split at he
    · cases he
    · rename_i s hs1
      obtain ⟨fr1, H1⟩ := s
      simp only [wpOps, hoi]
      have hstep := step_ok hE hrec hK hs1 (hlt o (List.mem_cons_self ..)) hs (wpOps P ops Q l) Q fun a' w' hs' =>
        reg_ok hE hrec hK l os fr1 fr' H1 H' a' w' (by simpa using hl) (fun j i o h1 h2 => hi (j + 1) i o (by simpa using h1) (by simpa using h2)) (fun o ho => hlt o (List.mem_cons_of_mem _ ho)) he hs' hQ
      split
      · rename_i hw; rw [if_pos hw] at hstep; exact .inl hstep
      · rename_i hw; rw [if_neg hw] at hstep; exact hstep

theorem ltN_ok {is : List I} (h : ltN n is = true) {ops : Array Oper} (e : is = ops.toList.map (compI P mix ops)) : ∀ o ∈ ops.toList, ∀ d, o.dst = some d → d < n := fun o ho d hd => by
  unfold ltN at h
  rw [List.all_eq_true] at h
  have := h (compI P mix ops o) (by rw [e]; exact List.mem_map_of_mem ho)
  have hdst : (compI P mix ops o).dst = o.dst := by unfold compI; split <;> rfl
  rw [hdst, hd] at this
  simpa using this

theorem region_ok (hE : EnvOk P E) (hrec : RecOk P rec) (hK : CtxOk K gc) {id : Nat} {ops : Array Oper} {is : List I} {Q : Exit → Act → World → Prop} {fr fr' : Fr} {H H' : Heap} {a : Act} {w : World} (e : is = ops.toList.map (compI P mix ops)) (hlt : ltN n is = true) (he : evIs E rec is (fr, H) = some (fr', H'))
    (hs : Sta K n fr H a w) (hQ : ∀ a' w', Sta K n fr' H' a' w' → Q .normal a' w') : (Code.region id ops false).wp P Q a w := by
  refine wp_region (reg_ok hE hrec hK (List.range ops.size) ops.toList fr fr' H H' a w (by simp) (fun j i o h1 h2 => ?_) (ltN_ok hlt e) (e ▸ he) hs hQ)
  obtain ⟨h3, h4⟩ := List.getElem?_eq_some_iff.1 h1
  simp at h4
  subst h4
  simpa using h2

end
end Go.Proofs.Ytdgfpjlmpnfcgaa.Ev
namespace Go.Proofs.Ytdgfpjlmpnfcgaa.Ev
open Go Go.RowKit
set_option linter.unusedVariables false
set_option linter.unusedSimpArgs false
inductive CM (P : Program) (mix : Mx) (gc : Bool) (n : Nat) : Code → C → Prop
  | skip : CM P mix gc n .skip .skip
  | reg {id : Nat} {ops : Array Oper} {draw : Bool} (hl : ltN n (ops.toList.map (compI P (mix.at draw) ops)) = true) (hd : draw = true → edgesOk ops = true ∧ slotsOk (Region.before ops).toList (ops.toList.map (compI P (mix.at draw) ops)) = true ∧ P.follows .mixedOrders = true) :
      CM P mix gc n (.region id ops draw) (.reg draw (if draw then (Region.before ops).toList else []) (ops.toList.map (compI P (mix.at draw) ops)))
  | seq {a b : Code} {x y : C} (h : CM P mix gc n a x) (k : CM P mix gc n b y) : CM P mix gc n (.seq a b) (.seq x y)
  | cond {c : Operand} {z : A} {a b : Code} {x y : C} (hc : opd c = some z) (h : CM P mix gc n a x) (k : CM P mix gc n b y) : CM P mix gc n (.cond c a b) (.cond z x y)
  | block {id : Nat} {a : Code} {x : C} (h : CM P mix gc n a x) : CM P mix gc n (.block id a) (.block id x)
  | loop {a : Code} {x : C} (live : List Nat) (h : CM P mix gc n a x) : CM P mix gc n (.loop a) (.loop gc live x)
  | exit (id : Nat) : CM P mix gc n (.exit id) (.exit id)
  | ret : CM P mix gc n .ret .ret
  | bad (a : Code) : CM P mix gc n a .bad

section
variable {P : Program} {E : Env} {rec : Rec} {K : Ctx} {gc : Bool} {mix : Mx} {n : Nat}

theorem compC_CM : ∀ c : Code, CM P mix gc n c (compC P mix gc n c)
  | .skip => .skip
  | .region id ops draw => by
    simp only [compC]
    split
    · rename_i h
      simp only [Bool.and_eq_true, Bool.or_eq_true] at h
      refine .reg h.1 fun hd => ?_
      rcases h.2 with h | h
      · subst hd; simp at h
      · exact ⟨h.1.1, h.1.2, h.2⟩
    · exact .bad _
  | .seq a b => .seq (compC_CM a) (compC_CM b)
  | .cond c a b => by
    simp only [compC]
    split
    · rename_i z hz; exact .cond hz (compC_CM a) (compC_CM b)
    · exact .bad _
  | .block id c => .block (compC_CM c)
  | .loop c => .loop [] (compC_CM c)
  | .exit id => .exit id
  | .ret => .ret
  | .rangeFunc .. => .bad _
  | .scope _ => .bad _
  | .label _ => .bad _
  | .goto _ => .bad _
  | .refuse _ => .bad _

theorem annot_CM (ret : List Nat) : ∀ (c : Code) (x : C), CM P mix gc n c x → ∀ out env, CM P mix gc n c (annot ret x out env) := by
  intro c x h
  induction h with
  | seq h k ih ik => intro out env; simp only [annot]; exact .seq (ih _ _) (ik _ _)
  | cond hc h k ih ik => intro out env; simp only [annot]; exact .cond hc (ih _ _) (ik _ _)
  | block h ih => intro out env; simp only [annot]; exact .block (ih _ _)
  | loop live h ih => intro out env; simp only [annot]; exact .loop _ (ih _ _)
  | skip => intro out env; exact .skip
  | reg hl hd => intro out env; exact .reg hl hd
  | exit id => intro out env; exact .exit id
  | ret => intro out env; exact .ret
  | bad a => intro out env; exact .bad a
def LoopAt (P : Program) (c : Code) (Q : Exit → Act → World → Prop) (a : Act) (w : World) : Prop :=
  ∀ (b : Frame) (k : List Item) (cs : List Frame), ∃ e a' w', Q e a' w' ∧ Arrives P (lone (b.at a (.code c :: .inLoop c :: k)) cs w) b k cs e a' w'

theorem loopAt_round {c : Code} {Q : Exit → Act → World → Prop} {a : Act} {w : World} (h : c.wp P (Exit.then (LoopAt P c Q) Q) a w) : LoopAt P c Q a w := fun b k cs => by
  obtain ⟨e, a₁, w₁, hq, harr⟩ := h b (.inLoop c :: k) cs
  cases e with
  | normal =>
    obtain ⟨e₂, a₂, w₂, hq₂, harr₂⟩ := hq b k cs
    exact ⟨e₂, a₂, w₂, hq₂, .of_steps (Steps.trans harr (.one step_inLoop)) harr₂⟩
  | exit id => exact ⟨_, a₁, w₁, hq, .pass (x := .inLoop c) rfl (fun _ _ => .inl (by simp)) harr⟩
  | goto l => exact ⟨_, a₁, w₁, hq, .pass (x := .inLoop c) rfl (fun _ _ => .inl (by simp)) harr⟩
  | ret => exact ⟨_, a₁, w₁, hq, .pass (x := .inLoop c) rfl (fun _ _ => .inl (by simp)) harr⟩
  | panic ch => exact ⟨_, a₁, w₁, hq, .pass (x := .inLoop c) rfl (fun _ _ => .inl (by simp)) harr⟩
  | outgrown => exact ⟨_, a₁, w₁, hq, .pass (x := .inLoop c) rfl (fun _ _ => .inl (by simp)) harr⟩
theorem wp_loopAt {c : Code} {Q : Exit → Act → World → Prop} {a : Act} {w : World} (h : LoopAt P c Q a w) : (Code.loop c).wp P Q a w := fun b k cs => by
  obtain ⟨e, a', w', hq, harr⟩ := h b k cs
  exact ⟨e, a', w', hq, .of_steps (.one step_loop) harr⟩

def Ex.of : Ex → Exit
  | .norm => .normal
  | .exit id => .exit id
  | .ret => .ret

theorem Sta.gcFr (hK : CtxOk K gc) {fr : Fr} {H : Heap} {a : Act} {w : World} (h : Sta K n fr H a w) (live : List Nat) : Sta K n (gcFr gc live (fr, H)).1 (gcFr gc live (fr, H)).2 a w := by
  obtain ⟨μ, D, F, hm, hfr⟩ := h
  unfold Go.Proofs.Ytdgfpjlmpnfcgaa.Ev.gcFr
  cases hg : gc with
  | false => exact ⟨μ, D, F, hm, hfr.keep live⟩
  | true =>
    simp only [if_true]
    have hn := gcIds_nodup H (keep live fr).vals
    refine ⟨muGC μ (gcIds H (keep live fr).vals), dGC D H (gcIds H (keep live fr).vals), F, ⟨hK.gc hg _ _ _ _ _ _ hn hm.ctx, hm.rel.gc hn, fun id l hid hl hre => ?_, fun id ⟨k, hk, hd⟩ => ?_, fun id hid => ?_⟩, (hfr.keep live).ren muGC_ren⟩
    · unfold muGC at hl
      cases hk : (gcIds H (keep live fr).vals)[id]? with
      | none => simp [hk] at hl
      | some k =>
        simp [hk] at hl
        refine ⟨k, hk, ?_⟩
        rcases Nat.lt_or_ge k H.length with a | a
        · exact hm.hD k l a hl hre
        · rw [hm.fresh k a] at hl; cases hl
    · obtain ⟨l, hl, hre⟩ := hm.dD k hd
      exact ⟨l, by unfold muGC; rw [hk]; exact hl, hre⟩
    · rw [pickB_length] at hid
      unfold muGC
      rw [List.getElem?_eq_none hid]; rfl
def DrawOk (P : Program) (E : Env) (rec : Rec) : Prop := ∀ (K : Ctx) (gc : Bool) (mix : Mx) (n id : Nat) (ops : Array Oper) (fr fr' : Fr) (H H' : Heap) (cs : List Cls) (a : Act) (w : World) (Q : Exit → Act → World → Prop), CtxOk K gc →
  ltN n (ops.toList.map (compI P mix ops)) = true → edgesOk ops = true → slotsOk (Region.before ops).toList (ops.toList.map (compI P mix ops)) = true → P.follows .mixedOrders = true → evT E rec (ops.toList.map (compI P mix ops)) (fr, H) = some ((fr', H'), cs) →
  okDraw 0 (Region.before ops).toList cs = true → Sta K n fr H a w → (∀ a' w', Sta K n fr' H' a' w' → Q .normal a' w') → (Code.region id ops true).wp P Q a w

theorem exec_ok (hE : EnvOk P E) (hrec : RecOk P rec) (hdraw : DrawOk P E rec) (hK : CtxOk K gc) (k : Nat) : ∀ (c : Code) (x : C), CM P mix gc n c x → ∀ (fr : Fr) (H : Heap) (e : Ex) (fr' : Fr) (H' : Heap) (a : Act) (w : World) (Q : Exit → Act → World → Prop),
    exec E rec k x (fr, H) = some (e, fr', H') → Sta K n fr H a w → (∀ a' w', Sta K n fr' H' a' w' → Q e.of a' w') → c.wp P Q a w := by
  intro c x h
  induction h with
  | skip =>
    intro fr H e fr' H' a w Q he hs hQ
    simp only [exec] at he; cases he
    exact wp_skip (hQ a w hs)
  | @reg id ops draw hl hd =>
    intro fr H e fr' H' a w Q he hs hQ
    cases draw with
    | false =>
      simp only [exec] at he
      split at he
      · cases he
      · rename_i s hs1
        cases he
        exact region_ok hE hrec hK rfl hl hs1 hs hQ
    | true =>
      simp only [exec, ↓reduceIte] at he
      split at he
      · cases he
      · rename_i s cs hs1
        split at he
        · rename_i hok
          cases he
          obtain ⟨h0, h1, h2⟩ := hd rfl
          exact hdraw K gc (mix.at true) n id ops fr _ H _ cs a w Q hK hl h0 h1 h2 hs1 hok hs hQ
        · cases he
  | seq h k ih ik =>
    intro fr H e fr' H' a w Q he hs hQ
    simp only [exec] at he
    split at he
    · rename_i s hs1
      refine wp_seq (ih fr H .norm s.1 s.2 a w _ hs1 hs fun a1 w1 h1 => ?_)
      exact ik s.1 s.2 e fr' H' a1 w1 Q he h1 hQ
    · rename_i hno
      refine wp_seq (ih fr H e fr' H' a w _ he hs fun a1 w1 h1 => ?_)
      cases e with
      | norm => exact absurd he (by intro h; exact hno _ h)
      | exit id => exact hQ a1 w1 h1
      | ret => exact hQ a1 w1 h1
  | cond hc h k ih ik =>
    intro fr H e fr' H' a w Q he hs hQ
    simp only [exec] at he
    split at he
    · rename_i t ht
      obtain ⟨μ, D, F, hm, hfr⟩ := id hs
      have hv := opd_VR hfr hc
      rw [ht] at hv
      have hv := hv.boolv
      refine wp_cond hv ?_
      cases t with
      | true => exact ih fr H e fr' H' a w Q he hs hQ
      | false => exact ik fr H e fr' H' a w Q he hs hQ
    · cases he
  | @block id a x h ih =>
    intro fr H e fr' H' a w Q he hs hQ
    simp only [exec] at he
    refine wp_block ?_
    split at he
    · rename_i j s hs1
      refine ih fr H (.exit j) s.1 s.2 a w _ hs1 hs fun a1 w1 h1 => ?_
      show Exit.inBlock id Q (.exit j) a1 w1
      unfold Exit.inBlock
      split at he
      · rename_i hj
        cases he
        simp only [hj, if_true]
        exact hQ a1 w1 h1
      · rename_i hj
        cases he
        simp only [hj, if_false]
        exact hQ a1 w1 h1
    · rename_i hno
      refine ih fr H e fr' H' a w _ he hs fun a1 w1 h1 => ?_
      cases e with
      | norm => exact hQ a1 w1 h1
      | exit j => exact absurd he (by intro h; exact hno _ _ h)
      | ret => exact hQ a1 w1 h1
  | @loop b x live h ih =>
    intro fr H e fr' H' a w Q he hs hQ
    simp only [exec] at he
    refine wp_loopAt ?_
    have key : ∀ (m : Nat) (fr : Fr) (H : Heap) (a : Act) (w : World), iter gc live (exec E rec k x) m (fr, H) = some (e, fr', H') → Sta K n fr H a w → LoopAt P b Q a w := by
      intro m
      induction m with
      | zero => intro fr H a w he; simp [iter] at he
      | succ m im =>
        intro fr H a w he hs
        simp only [iter] at he
        refine loopAt_round ?_
        split at he
        · rename_i s hs1
          refine ih fr H .norm s.1 s.2 a w _ hs1 hs fun a1 w1 h1 => ?_
          exact im _ _ a1 w1 he (h1.gcFr hK live)
        · rename_i hno
          refine ih fr H e fr' H' a w _ he hs fun a1 w1 h1 => ?_
          cases e with
          | norm => exact absurd he (by intro h; exact hno _ h)
          | exit id => exact hQ a1 w1 h1
          | ret => exact hQ a1 w1 h1
    exact key k _ _ a w he (hs.gcFr hK live)
  | exit id =>
    intro fr H e fr' H' a w Q he hs hQ
    simp only [exec] at he; cases he
    exact wp_exit (hQ a w hs)
  | ret =>
    intro fr H e fr' H' a w Q he hs hQ
    simp only [exec] at he; cases he
    exact wp_ret (hQ a w hs)
  | bad a =>
    intro fr H e fr' H' a w Q he
    simp [exec] at he


theorem frameOf_get : ∀ (args : List V) (i t : Nat), (frameOf i args).get t = if i ≤ t then (args[t - i]?).getD .any else .any
  | [], i, t => by simp [frameOf, Fr.get]
  | v :: vs, i, t => by
    simp only [frameOf, Fr.get]
    rw [frameOf_get vs (i + 1) t]
    by_cases h : i = t
    · subst h; simp
    · rw [if_neg h]
      by_cases h2 : i + 1 ≤ t
      · rw [if_pos h2, if_pos (by omega), show t - i = (t - (i + 1)) + 1 by omega, List.getElem?_cons_succ]
      · rw [if_neg h2, if_neg (by omega)]

theorem results_ok {μ : Nat → Option Loc} {D F : Nat → Prop} {H : Heap} {w : World} {fr : Fr} {a : Act} (h : Mem K μ D F H w) (hfr : FR μ w F n fr a) : ∀ (rs : List ResultVar) (ir : List R) (vs : List V), compRs P rs = some ir → resV fr H ir = some vs →
    ∃ xs : List Value, (rs.mapM (m := Sem) fun | .tmp t => pure (a.tmps.getD t undef) | .cell p t => do loadVar t (← asAddr (a.tmps.getD p undef))).run P w = .ok xs w ∧ VRs μ w F vs xs
  | [], ir, vs, hc, hr => by
    simp only [compRs] at hc; cases hc
    simp only [resV] at hr; cases hr
    exact ⟨[], rfl, .nil⟩
  | r :: rs, ir, vs, hc, hr => by
    simp only [compRs] at hc
    split at hc
    · rename_i x xs h1 h2
      cases hc
      cases r with
      | tmp t =>
        simp only [compR] at h1; cases h1
        simp only [resV] at hr
        split at hr
        · rename_i us hus
          cases hr
          obtain ⟨ys, k1, k2⟩ := results_ok h hfr rs xs us h2 hus
          refine ⟨a.tmps.getD t undef :: ys, ?_, .cons (hfr.slot t) k2⟩
          simp only [List.mapM_cons, Sem.run_bind, Sem.run_pure, Result.andThen_ok, k1]
        · cases hr
      | cell p t =>
        simp only [compR] at h1
        split at h1
        · rename_i sz g hs hg
          cases h1
          simp only [resV] at hr
          split at hr
          · rename_i v us hv hus
            cases hr
            obtain ⟨ys, k1, k2⟩ := results_ok h hfr rs xs us h2 hus
            have hp := hfr.slot p
            obtain ⟨y, hy, hyv⟩ := ld_ok (P := P) (t := t) h.rel.blk hg hs hv hp fun id i c l e hl hre => by
              rcases Nat.lt_or_ge id H.length with q | q
              · exact h.hD id l q hl hre
              · rw [h.fresh id q] at hl; cases hl
            refine ⟨y :: ys, ?_, .cons hyv k2⟩
            have hadr : (do loadVar t (← asAddr (a.tmps.getD p undef)) : Sem Value).run P w = .ok y w := by
              generalize a.tmps.getD p undef = pv at hp hy
              generalize fr.get p = pu at hp hv
              unfold Instr.loadAt at hy
              cases hp with
              | rptr | ptr => simpa [Instr.sureAddr, asAddr] using hy
              | t hx => cases hx with
                | ptr => simpa [Instr.sureAddr, asAddr] using hy
                | _ => simp [evLd] at hv
              | _ => simp [evLd] at hv
            simp only [List.mapM_cons, Sem.run_bind, Sem.run_pure, Result.andThen_ok, k1] at hadr ⊢
            rw [hadr]
            simp only [Result.andThen_ok, k1]
          · cases hr
        · cases h1
    · cases hc

theorem resOf_ok {μ : Nat → Option Loc} {F : Nat → Prop} {w : World} {vs : List V} {xs : List Value} (h : VRs μ w F vs xs) : VR μ w F (resOf vs) (if h : xs.toArray.size = 1 then xs.toArray[0] else .tuple xs.toArray) := by
  match vs, xs, h with
  | [], xs, h =>
    have : xs = [] := by have := h.1; simpa using this
    subst this
    exact .tup [] [] rfl h.2
  | [v], xs, h =>
    obtain ⟨x, ys, rfl, h1, h2⟩ := h.head
    have : ys = [] := by have := h2.1; simpa using this
    subst this
    exact h1
  | v :: u :: vs, xs, h =>
    obtain ⟨x, ys, rfl, h1, h2⟩ := h.head
    obtain ⟨y, zs, rfl, h3, h4⟩ := h2.head
    simp only [List.size_toArray, List.length_cons, resOf]
    rw [dif_neg (by omega)]
    exact .tup _ _ h.1 h.2
def Kown (F : Nat → Prop) (w : World) : Ctx := fun μ' D' F' H' w' =>
  (∀ m, F m → F' m) ∧ (∀ m, F' m → F m ∨ w.heap.size ≤ m) ∧ (∀ m, OwnS μ' D' H' m → w.heap.size ≤ m) ∧ (∀ m, m < w.heap.size → w'.heap[m]? = w.heap[m]?) ∧ w.heap.size ≤ w'.heap.size ∧ (w'.os = w.os ∧ w'.tape = w.tape ∧ w'.output = w.output) ∧
  ∀ id, D' id → ∃ l, μ' id = some l ∧ l.real = true

theorem Kown_ok (F : Nat → Prop) (w : World) : CtxOk (Kown F w) true := by
  refine ⟨fun μ D F1 H w1 μ' D' F' H' w' ⟨h1, h2, h3, h4, h5, ⟨h6, h7, h8⟩, h9⟩ hr p => ⟨fun m hm => p.old m (h1 m hm), fun m hm => ?_, fun m hm => ?_, fun m hm => ?_, Nat.le_trans h5 p.size, ⟨p.os.trans h6, p.tape.trans h7, p.output.trans h8⟩, fun id hid => ?_⟩,
    fun _ μ D F1 H w1 ids hn ⟨h1, h2, h3, h4, h5, h6, h9⟩ => ⟨h1, h2, fun m hm => h3 m hm.gc, h4, h5, h6, fun id ⟨k, hk, hd⟩ => ?_⟩⟩
  · rcases p.new m hm with a | a | a
    · exact h2 m a
    · exact .inr (Nat.le_trans h5 a)
    · exact .inr (h3 m a)
  · rcases p.own m hm with a | a
    · exact Nat.le_trans h5 a
    · exact h3 m a
  · rw [p.frame m (Nat.lt_of_lt_of_le hm h5) fun a => absurd (h3 m a) (Nat.not_le.2 hm), h4 m hm]
  · rcases (p.dom id).1 hid with a | ⟨_, _, l, hl, hre⟩
    · obtain ⟨l, hl, hre⟩ := h9 id a
      exact ⟨l, p.mono id l hl, hre⟩
    · exact ⟨l, hl, hre⟩
  · obtain ⟨l, hl, hre⟩ := h9 k hd
    exact ⟨l, by unfold muGC; rw [hk]; exact hl, hre⟩

def Kref (μ : Nat → Option Loc) (D F : Nat → Prop) (H : Heap) (w : World) : Ctx := fun μ' D' F' H' w' => Post μ D F H w μ' D' F' H' w'
theorem Kref_ok (μ : Nat → Option Loc) (D F : Nat → Prop) (H : Heap) (w : World) : CtxOk (Kref μ D F H w) false :=
  ⟨fun _ _ _ _ _ _ _ _ _ _ h _ p => h.trans p, fun h => by cases h⟩

theorem fn_ok (hE : EnvOk P E) (k : Nat) (hrec : RecOk P (run E k)) (hdraw : DrawOk P E (run E k)) : RecOk P (run E (k + 1)) := by
  intro f args H v H' he μ D F w margs hrel hD hdD hfresh hargs
  simp only [run] at he
  split at he
  · rename_i G hG
    obtain ⟨fn, mix, hfn, hcomp⟩ := hE.ir f G hG
    split at he
    · rename_i hcond
      obtain ⟨hlen, hmode⟩ := hcond
      unfold compF at hcomp
      split at hcomp
      · rename_i c rs hbody hrs
        split at hcomp
        · rename_i hnt
          have hG2 := Option.some.inj hcomp
          have e1 : G.nargs = fn.params.size + fn.nfree := (congrArg Fn.nargs hG2).symm
          have e2 : G.res = rs := (congrArg Fn.res hG2).symm
          have e3 : G.body = _ := (congrArg Fn.body hG2).symm
          have hn : margs.length = fn.params.size + fn.nfree := by rw [hargs.1, hlen, e1]
          have hfr0 : ∀ (μ' : Nat → Option Loc) (F' : Nat → Prop), VRs μ' w F' args margs → FR μ' w F' fn.ntmps (frameOf 0 args) { tmps := margs.toArray ++ Array.replicate (fn.ntmps - margs.toArray.size) undef, defers := [] } := fun μ' F' hv => by
            refine ⟨by simp; omega, rfl, fun t => ?_⟩
            rw [frameOf_get, if_pos (Nat.zero_le _), Nat.sub_zero]
            cases ht : args[t]? with
            | none => exact .any _
            | some u =>
              have hlt := (List.getElem?_eq_some_iff.1 ht).1
              have hlt2 : t < margs.length := by rw [hv.1]; exact hlt
              have : (margs.toArray ++ Array.replicate (fn.ntmps - margs.toArray.size) undef).getD t undef = margs[t] := by
                rw [Array.getD_eq_getD_getElem?, Array.getElem?_append_left (by simpa using hlt2)]
                simp [hlt2]
              rw [this]
              exact hv.2 t u _ ht (List.getElem?_eq_getElem _)
          have hCM : CM P mix (G.mode == .own || G.mode == .ownF) fn.ntmps c G.body := by
            rw [e3]; exact annot_CM _ _ _ (compC_CM c) _ _
          have fin : ∀ (gc : Bool) (K : Ctx), CtxOk K gc → (G.mode == .own || G.mode == .ownF) = gc → (∃ μ1 D1 F1, Mem K μ1 D1 F1 H w ∧ VRs μ1 w F1 args margs) →
              (∀ μ' D' F' w', Mem K μ' D' F' H' w' → Post μ D F H w μ' D' F' H' w') → Calls P f margs.toArray w fun e w' => ∃ x, e = .returned x ∧ Leaves μ D F H w v H' x w' := by
            intro gc K hK hgc ⟨μ1, D1, F1, hm, hva⟩ hpost
            refine calls_of_wp hfn hbody ?_
            rw [hgc] at hCM
            have go : ∀ (e : Ex) (fr' : Fr) (H2 : Heap), exec E (run E k) k G.body (frameOf 0 args, H) = some (e, fr', H2) → (e = .norm ∨ e = .ret) → (match resV fr' H2 G.res with | some vs => some (resOf vs, H2) | none => none) = some (v, H') →
                c.wp P (bodyPost P fn fun e w' => ∃ x, e = .returned x ∧ Leaves μ D F H w v H' x w') { tmps := margs.toArray ++ Array.replicate (fn.ntmps - margs.toArray.size) undef, defers := [] } w := by
              intro e fr' H2 hex hee hres
              split at hres
              · rename_i vs hvs
                cases hres
                refine exec_ok hE hrec hdraw hK k c G.body hCM (frameOf 0 args) H e fr' H' _ w _ hex ⟨μ1, D1, F1, hm, hfr0 μ1 F1 hva⟩ fun a' w' hs => ?_
                obtain ⟨μ2, D2, F2, hm2, hfr2⟩ := hs
                rw [e2] at hvs
                obtain ⟨xs, hx1, hx2⟩ := results_ok hm2 hfr2 fn.results.toList rs vs hrs hvs
                have hr : (results fn a'.tmps).run P w' = .ok (if h : xs.toArray.size = 1 then xs.toArray[0] else .tuple xs.toArray) w' := by
                  unfold results
                  simp only [Sem.run_bind]
                  rw [Array.mapM_eq_mapM_toList]
                  simp only [Sem.run_map]
                  erw [hx1]
                  rfl
                have hend : a'.defers = [] ∧ ∃ v', (results fn a'.tmps).run P w' = .ok v' w' ∧ ∃ x, Ending.returned v' = .returned x ∧ Leaves μ D F H w (resOf vs) H' x w' :=
                  ⟨hfr2.defers, _, hr, _, rfl, μ2, D2, F2, hpost μ2 D2 F2 w' hm2, resOf_ok hx2⟩
                rcases hee with rfl | rfl
                · exact hend
                · exact hend
              · cases hres
            split at he
            · rename_i fr' H2 hex
              exact go .norm fr' H2 hex (.inl rfl) he
            · rename_i fr' H2 hex
              exact go .ret fr' H2 hex (.inr rfl) he
            · cases he
          cases hgc : (G.mode == .own || G.mode == .ownF) with
          | true =>
            rw [hgc] at hmode
            have hH : H = [] := List.length_eq_zero_iff.1 (hmode.resolve_left (by simp))
            subst hH
            have hnoD : ∀ id, ¬ D id := fun id hd => absurd (hrel.lt id hd) (Nat.not_lt_zero _)
            have hmu : ∀ id, μ id = none := fun id => hfresh id (Nat.zero_le _)
            have hno : ∀ m, ¬ OwnS μ D [] m := fun m ⟨id, b, l, hd, _⟩ => hnoD id hd
            refine fin true (Kown F w) (Kown_ok F w) hgc ⟨μ, D, F, ⟨⟨fun _ h => h, fun _ h => .inl h, fun m hm => absurd hm (hno m), fun _ _ => rfl, Nat.le_refl _, ⟨rfl, rfl, rfl⟩, fun id hd => absurd hd (hnoD id)⟩, hrel, hD, hdD, hfresh⟩, hargs⟩ fun μ' D' F' w' hm => ?_
            obtain ⟨⟨h1, h2, h3, h4, h5, ⟨h6, h7, h8⟩, h9⟩, hr', hD', _, hf'⟩ := hm
            refine ⟨fun id hid => ?_, fun id l hl => ?_, Nat.zero_le _, fun id => ⟨fun hd => ?_, fun hd => ?_⟩, h1, fun m hm => (h2 m hm).elim .inl fun a => .inr (.inl a), hr', fun m hm _ => h4 m hm, fun m hm => .inl (h3 m hm), h5, h6, h7, h8⟩
            · rw [hmu id]; exact hf' id (hid.resolve_left (Nat.not_lt_zero _))
            · rw [hmu id] at hl; cases hl
            · obtain ⟨l, hl, hre⟩ := h9 id hd
              exact .inr ⟨Nat.zero_le _, hr'.lt id hd, l, hl, hre⟩
            · rcases hd with a | ⟨_, a, l, hl, hre⟩
              · exact absurd a (hnoD id)
              · exact hD' id l a hl hre
          | false =>
            exact fin false (Kref μ D F H w) (Kref_ok μ D F H w) hgc ⟨μ, D, F, ⟨Post.refl hrel, hrel, hD, hdD, hfresh⟩, hargs⟩ fun μ' D' F' w' hm => hm.ctx
        · cases hcomp
      · cases hcomp
    · cases he
  · cases he

theorem run_ok (hE : EnvOk P E) (hdraw : ∀ k, RecOk P (run E k) → DrawOk P E (run E k)) : ∀ k, RecOk P (run E k)
  | 0 => fun f args H v H' he => by simp [run] at he
  | k + 1 => fn_ok hE k (run_ok hE hdraw k) (hdraw k (run_ok hE hdraw k))

end
end Go.Proofs.Ytdgfpjlmpnfcgaa.Ev
namespace Go.Proofs.Ytdgfpjlmpnfcgaa.Ev
open Go Go.RowKit
set_option linter.unusedVariables false
set_option linter.unusedSimpArgs false


theorem testBit_or_pow (s k i : Nat) : (s ||| 2 ^ k).testBit i = (s.testBit i || decide (k = i)) := by
  rw [Nat.testBit_or, Nat.testBit_two_pow]

theorem before_fold (acc : Array Nat) (i : Nat) : ∀ (es : List Edge) (s : Nat), (es.foldl (fun s e => if Region.binds .any e then s ||| 2 ^ e.on ||| acc.getD e.on 0 else s) s).testBit i = true →
    s.testBit i = true ∨ ∃ e ∈ es, Region.binds .any e = true ∧ (e.on = i ∨ (acc.getD e.on 0).testBit i = true)
  | [], s, h => .inl h
  | e :: es, s, h => by
    rw [List.foldl_cons] at h
    rcases before_fold acc i es _ h with h | ⟨e', he', hb, hh⟩
    · split at h
      · rename_i hb
        rw [Nat.testBit_or, testBit_or_pow] at h
        simp only [Bool.or_eq_true, decide_eq_true_eq] at h
        rcases h with (h | h) | h
        · exact .inl h
        · exact .inr ⟨e, List.mem_cons_self .., hb, .inl h⟩
        · exact .inr ⟨e, List.mem_cons_self .., hb, .inr h⟩
      · exact .inl h
    · exact .inr ⟨e', List.mem_cons_of_mem _ he', hb, hh⟩

def bstep (acc : Array Nat) (o : Oper) : Array Nat := acc.push (o.after.foldl (fun s e => if Region.binds .any e then s ||| 2 ^ e.on ||| acc.getD e.on 0 else s) 0)

theorem before_eq (ops : Array Oper) : Region.before ops = ops.toList.foldl bstep #[] := by
  unfold Region.before
  rw [← Array.foldl_toList]
  rfl

theorem bfold_size : ∀ (l : List Oper) (acc : Array Nat), (l.foldl bstep acc).size = acc.size + l.length
  | [], acc => rfl
  | o :: l, acc => by rw [List.foldl_cons, bfold_size l]; simp [bstep]; omega

theorem bfold_old : ∀ (l : List Oper) (acc : Array Nat) (i : Nat), i < acc.size → (l.foldl bstep acc).getD i 0 = acc.getD i 0
  | [], acc, i, _ => rfl
  | o :: l, acc, i, h => by
    rw [List.foldl_cons, bfold_old l _ i (by simp [bstep]; omega)]
    simp only [bstep, Array.getD_eq_getD_getElem?]
    rw [Array.getElem?_push, if_neg (by omega)]
theorem bfold_closed (ops : List Oper) (S : Nat → Prop) (hS : ∀ (j : Nat) o, ops[j]? = some o → S j → ∀ e ∈ o.after, Region.binds .any e = true → S e.on) :
    ∀ (l : List Oper) (acc : Array Nat) (k : Nat), k = acc.size → (∀ (j : Nat) o, l[j]? = some o → ops[k + j]? = some o) → (∀ (j i : Nat), j < acc.size → (acc.getD j 0).testBit i = true → S j → S i) →
      ∀ (j i : Nat), ((l.foldl bstep acc).getD j 0).testBit i = true → S j → S i
  | [], acc, k, _, _, hacc, j, i, hb, hj => by
    rcases Nat.lt_or_ge j acc.size with h | h
    · exact hacc j i h hb hj
    · rw [List.foldl_nil, Array.getD_eq_getD_getElem?, Array.getElem?_eq_none h] at hb
      simp at hb
  | o :: l, acc, k, hk, hl, hacc, j, i, hb, hj => by
    rw [List.foldl_cons] at hb
    refine bfold_closed ops S hS l (bstep acc o) (k + 1) (by simp [bstep]; omega) (fun j o' h => by have := hl (j + 1) o' (by simpa using h); rwa [show k + 1 + j = k + (j + 1) by omega]) (fun j i hlt hbit hSj => ?_) j i hb hj
    simp only [bstep, Array.size_push] at hlt
    rw [Array.getD_eq_getD_getElem?] at hbit
    simp only [bstep, Array.getElem?_push] at hbit
    split at hbit
    · rename_i hje
      simp only [Option.getD_some] at hbit
      rw [← Array.foldl_toList] at hbit
      rcases before_fold acc i o.after.toList 0 hbit with h | ⟨e, he, hbd, hh⟩
      · simp at h
      · have hon : S e.on := hS j o (by have := hl 0 o rfl; rw [hje, ← hk]; simpa using this) hSj e (by simpa using he) hbd
        rcases hh with rfl | hh
        · exact hon
        · rcases Nat.lt_or_ge e.on acc.size with h | h
          · exact hacc e.on i h hh hon
          · rw [Array.getD_eq_getD_getElem?, Array.getElem?_eq_none h] at hh
            simp at hh
    · rw [← Array.getD_eq_getD_getElem?] at hbit
      exact hacc j i (by omega) hbit hSj

theorem before_closed {ops : Array Oper} {S : Nat → Prop} (hS : ∀ (j : Nat) o, ops[j]? = some o → S j → ∀ e ∈ o.after, Region.binds .any e = true → S e.on) {j i : Nat} (hb : ((Region.before ops).toList.getD j 0).testBit i = true) (hj : S j) : S i := by
  rw [before_eq] at hb
  refine bfold_closed ops.toList S (fun j o h => hS j o (by simpa using h)) ops.toList #[] 0 rfl (fun j o h => by simpa using h) (fun j i h => by simp at h) j i ?_ hj
  rw [Array.getD_eq_getD_getElem?, ← Array.getElem?_toList, ← List.getD_eq_getElem?_getD]
  exact hb


theorem evT_states {E : Env} {rec : Rec} : ∀ (is : List I) (s s' : Fr × Heap) (cs : List Cls), evT E rec is s = some (s', cs) →
    ∃ σ : Nat → Fr × Heap, σ 0 = s ∧ σ is.length = s' ∧ cs.length = is.length ∧ ∀ (i : Nat) ins, is[i]? = some ins → evI E rec (σ i) ins = some (σ (i + 1)) ∧ cs[i]? = some (clsI E (σ i) (σ (i + 1)) ins)
  | [], s, s', cs, h => by
    simp only [evT] at h; cases h
    exact ⟨fun _ => s, rfl, rfl, rfl, fun i ins hi => by simp at hi⟩
  | i :: is, s, s', cs, h => by
    simp only [evT] at h
    split at h
    · cases h
    · rename_i s1 h1
      split at h
      · cases h
      · rename_i s2 cs' h2
        cases h
        obtain ⟨σ, k1, k2, k3, k4⟩ := evT_states is s1 s' cs' h2
        refine ⟨fun n => match n with | 0 => s | n + 1 => σ n, rfl, k2, by simp [k3], fun j ins hj => ?_⟩
        cases j with
        | zero => simp at hj; subst hj; exact ⟨by rw [h1]; show some s1 = some (σ 0); rw [k1], by show _ = some (clsI E s (σ 0) _); rw [k1]; rfl⟩
        | succ j => simp at hj; exact k4 j ins hj

theorem okWith_get {c : Cls} {i : Nat} : ∀ (bs : List Nat) (ds : List Cls), okWith c i bs ds = true → ∀ (j : Nat) d b, ds[j]? = some d → bs[j]? = some b → c.free d = true ∨ b.testBit i = true
  | [], _, _, j, d, b, _, hb => by simp at hb
  | _ :: _, [], _, j, d, b, hd, _ => by simp at hd
  | b0 :: bs, d0 :: ds, h, j, d, b, hd, hb => by
    simp only [okWith, Bool.and_eq_true, Bool.or_eq_true] at h
    cases j with
    | zero => simp at hd hb; subst hd hb; exact h.1
    | succ j => simp at hd hb; exact okWith_get bs ds h.2 j d b hd hb

theorem okDraw_get : ∀ (k : Nat) (bs : List Nat) (cs : List Cls), okDraw k bs cs = true → ∀ (i j : Nat) c d b, i < j → cs[i]? = some c → cs[j]? = some d → bs[j]? = some b → c.free d = true ∨ b.testBit (k + i) = true
  | k, [], _, _, i, j, c, d, b, _, _, _, hb => by simp at hb
  | k, _ :: _, [], _, i, j, c, d, b, _, hc, _, _ => by simp at hc
  | k, b0 :: bs, c0 :: cs, h, i, j, c, d, b, hij, hc, hd, hb => by
    simp only [okDraw, Bool.and_eq_true] at h
    cases j with
    | zero => omega
    | succ j =>
      simp at hd hb
      cases i with
      | zero => simp at hc; subst hc; exact okWith_get bs cs h.1 j d b hd hb
      | succ i =>
        simp at hc
        have := okDraw_get (k + 1) bs cs h.2 i j c d b (by omega) hc hd hb
        rwa [show k + 1 + i = k + (i + 1) by omega] at this


theorem frz_nil (H : Heap) : frz H [] = H := rfl
theorem evO_grows {E : Env} {rec : Rec} {fr : Fr} {H H' : Heap} {op : O} {v : V} (he : evO E rec fr H op = some (v, H')) : (cls E fr H op = .p → H' = H) ∧ (∀ id, cls E fr H op = .rd id → H' = H) ∧ (cls E fr H op = .q → ∃ Δ, H' = H ++ Δ) ∧
    (∀ b, cls E fr H op = .w b → ∀ (id : Nat) x, id ≠ b → H[id]? = some x → H'[id]? = some x) := by
  cases op with
  | alc sz z => simp only [evO] at he; cases he; simp only [cls]; exact ⟨nofun, nofun, fun _ => ⟨_, rfl⟩, nofun⟩
  | box x =>
    simp only [evO] at he
    split at he
    · cases he; simp only [cls]; exact ⟨nofun, nofun, fun _ => ⟨_, rfl⟩, nofun⟩
    · cases he
  | mks sz z l c =>
    simp only [evO] at he
    split at he
    · split at he
      · cases he; simp only [cls]; exact ⟨nofun, nofun, fun _ => ⟨_, rfl⟩, nofun⟩
      · cases he
    · cases he
  | mkm => simp only [evO] at he; cases he; simp only [cls]; exact ⟨nofun, nofun, fun _ => ⟨_, rfl⟩, nofun⟩
  | bsl m sz n z ps =>
    cases m with
    | true =>
      simp only [evO] at he
      split at he
      · cases he
      · cases he; simp only [cls]; exact ⟨nofun, nofun, fun _ => ⟨_, rfl⟩, nofun⟩
    | false =>
      simp only [evO] at he
      simp only [cls]
      split at he
      · cases he
      · rename_i ts L hrd
        split at he
        · cases he
        · cases he
          rw [hrd]
          cases L with
          | nil => simp only; exact ⟨nofun, nofun, fun _ => ⟨_, rfl⟩, nofun⟩
          | cons p L => simp only; exact ⟨nofun, nofun, nofun, nofun⟩
  | call f as =>
    simp only [cls]
    have own : ∀ (g : List V → Heap → Option (V × Heap)) (args : List V), callM .own g args H = some (v, H') → ∃ Δ, H' = H ++ Δ := fun g args h => by
      unfold callM at h
      split at h <;> first | (rename_i e; cases e; done) | skip
      split at h
      · cases h
      · split at h
        · cases h
        · split at h
          · cases h; exact ⟨_, rfl⟩
          · cases h
    split
    · rename_i G hG
      split
      · rename_i hm
        refine ⟨nofun, nofun, fun _ => ?_, nofun⟩
        simp only [evO, evCall, hG] at he
        cases G with
        | ir F => simp only [Fun.mode] at hm; simp only [hm] at he; exact own _ _ he
        | prim m s => simp only [Fun.mode] at hm; simp only [hm] at he; exact own _ _ he
      · exact ⟨nofun, nofun, nofun, nofun⟩
    · exact ⟨nofun, nofun, nofun, nofun⟩
  | app m sz x y =>
    cases m with
    | true => simp only [cls]; exact ⟨nofun, nofun, nofun, nofun⟩
    | false =>
      simp only [evO] at he
      simp only [cls]
      split
      · rename_i id off len hx
        refine ⟨nofun, nofun, nofun, fun b hb id' z hne hz => ?_⟩
        cases hb
        unfold evApp at he
        rw [hx] at he
        have hlt := (List.getElem?_eq_some_iff.1 hz).1
        split at he
        · cases he
        · split at he
          · rename_i e; cases e
          · rename_i id2 len2 e
            cases e
            split at he
            · split at he
              · split at he
                · split at he
                  · cases he
                    rw [List.getElem?_append_left (by simpa using hlt), List.getElem?_set_ne (Ne.symm hne)]; exact hz
                  · cases he
                · split at he
                  · cases he
                    rw [List.getElem?_set_ne (Ne.symm hne)]; exact hz
                  · cases he
              · cases he
            · cases he
          · cases he
      · rename_i hx
        refine ⟨nofun, nofun, fun _ => ?_, nofun⟩
        unfold evApp at he
        rw [hx] at he
        split at he
        · cases he
        · simp only at he
          split at he
          · cases he; exact ⟨_, rfl⟩
          · cases he
      · exact ⟨nofun, nofun, nofun, nofun⟩
  | st sz a x =>
    simp only [evO] at he
    simp only [cls]
    split
    · rename_i id i c ha
      have hst : ∀ H1, evSt H sz (a.ev fr) (x.ev fr) = some H1 → ((∃ s vs, H[id]? = some (.box s vs)) ∨ ((∃ s xs, H[id]? = some (.pure s xs)) ∧ ∃ t, x.ev fr = .t t)) → ∃ b', H1 = H.set id b' := by
        intro H1 h1 hk
        rw [ha] at h1
        simp only [evSt] at h1
        rcases hk with ⟨s, vs, hb⟩ | ⟨⟨s, xs, hb⟩, t, hx⟩
        · rw [hb] at h1
          simp only at h1
          split at h1
          · split at h1
            · cases h1; exact ⟨_, rfl⟩
            · cases h1
          · cases h1
        · rw [hb, hx] at h1
          simp only [depth, rd] at h1
          split at h1
          · rename_i e1 e2
            cases e1
            split at h1
            · cases h1; exact ⟨_, rfl⟩
            · cases h1
          · cases h1
      have hw : ((∃ s vs, H[id]? = some (.box s vs)) ∨ ((∃ s xs, H[id]? = some (.pure s xs)) ∧ ∃ t, x.ev fr = .t t)) → (Cls.w id = .p → H' = H) ∧ (∀ id', Cls.w id = .rd id' → H' = H) ∧ (Cls.w id = .q → ∃ X, H' = H ++ X) ∧ ∀ b, Cls.w id = .w b → ∀ (id' : Nat) z, id' ≠ b → H[id']? = some z → H'[id']? = some z := by
        intro hk
        refine ⟨nofun, nofun, nofun, fun b hb id' z hne hz => ?_⟩
        cases hb
        split at he
        · rename_i H1 h1
          cases he
          obtain ⟨b', rfl⟩ := hst _ h1 hk
          rw [List.getElem?_set_ne (Ne.symm hne)]; exact hz
        · cases he
      split
      · rename_i s vs hb; exact hw (.inl ⟨_, _, hb⟩)
      · rename_i s xs hb
        split
        · rename_i t hx; exact hw (.inr ⟨⟨_, _, hb⟩, _, hx⟩)
        · exact ⟨nofun, nofun, nofun, nofun⟩
      · exact ⟨nofun, nofun, nofun, nofun⟩
    · exact ⟨nofun, nofun, nofun, nofun⟩
  | callv f as => simp only [cls]; exact ⟨nofun, nofun, nofun, nofun⟩
  | cpy sz a x => simp only [cls]; exact ⟨nofun, nofun, nofun, nofun⟩
  | clr sz z x => simp only [cls]; exact ⟨nofun, nofun, nofun, nofun⟩
  | mup k a b c => simp only [cls]; exact ⟨nofun, nofun, nofun, nofun⟩
  | bad => simp [evO] at he
  | _ =>
    have hH : H' = H := by
      simp only [evO] at he
      first
      | (cases he; rfl)
      | (repeat' (split at he)
         all_goals first | (cases he; rfl) | (cases he; done))
    refine ⟨fun _ => hH, fun _ _ => hH, fun h => ⟨[], by simp [hH]⟩, fun b hb id x _ hx => by rw [hH]; exact hx⟩

theorem dynC_inv {H H' : Heap} {c d : Cls} (h : dynC H H' c = d) : (∀ f, d ≠ .x f) → c = d := by
  intro hx
  cases c <;> simp only [dynC] at h <;> first | exact h | exact absurd h.symm (hx _)
theorem dynC_x {H H' : Heap} {c : Cls} {f : Nat → Bool} (h : dynC H H' c = .x f) : f = sameB H H' := by
  cases c <;> simp only [dynC] at h <;> cases h <;> rfl
theorem clsI_x {E : Env} {s s' : Fr × Heap} {i : I} {f : Nat → Bool} (h : clsI E s s' i = .x f) : f = sameB s.2 s'.2 := dynC_x h
theorem evI_grows {E : Env} {rec : Rec} {s s' : Fr × Heap} {i : I} (he : evI E rec s i = some s') : (clsI E s s' i = .p → s'.2 = s.2) ∧ (∀ id, clsI E s s' i = .rd id → s'.2 = s.2) ∧ (clsI E s s' i = .q → ∃ Δ, s'.2 = s.2 ++ Δ) ∧
    (∀ b, clsI E s s' i = .w b → ∀ (id : Nat) x, id ≠ b → s.2[id]? = some x → s'.2[id]? = some x) := by
  unfold evI at he
  unfold clsI
  split at he
  · cases he
  · rename_i hw
    cases he
    rw [hw]
    exact ⟨fun _ => rfl, nofun, nofun, nofun⟩
  · rename_i hw
    split at he
    · cases he
    · rename_i v H hev
      cases he
      rw [hw]
      obtain ⟨g1, g2, g3, g4⟩ := evO_grows hev
      exact ⟨fun h => g1 (dynC_inv h nofun), fun id h => g2 id (dynC_inv h nofun), fun h => g3 (dynC_inv h nofun), fun b h => g4 b (dynC_inv h nofun)⟩

theorem evO_f {E : Env} {rec : Rec} {fr : Fr} {H H' : Heap} {op : O} {v : V} (he : evO E rec fr H op = some (v, H')) (hc : cls E fr H op = .f) : H' = H ∧ (∀ H2, evO E rec fr H2 op = some (v, H2)) := by
  cases op with
  | bsf sz n z ps =>
    simp only [evO] at he ⊢
    split at he
    · cases he
    · rename_i ts hts
      split at he
      · cases he
      · rename_i xs hf
        cases he
        exact ⟨rfl, fun H2 => by simp only [hts, hf]⟩
  | msf sz z l c =>
    simp only [evO] at he ⊢
    split at he
    · rename_i e1 e2
      split at he
      · rename_i h
        cases he
        exact ⟨rfl, fun H2 => by rw [if_pos h]⟩
      · cases he
    · cases he
  | bsl m sz n z ps =>
    cases m with
    | true => simp [cls] at hc
    | false => simp only [cls] at hc; split at hc <;> simp at hc
  | app m sz x y =>
    cases m with
    | true => simp [cls] at hc
    | false => simp only [cls] at hc; split at hc <;> simp at hc
  | _ =>
    exfalso
    unfold cls at hc
    (repeat' (split at hc)) <;> first | (cases hc; done) | simp_all
theorem evI_f {E : Env} {rec : Rec} {s s' : Fr × Heap} {i : I} (he : evI E rec s i = some s') (hc : clsI E s s' i = .f) : s'.2 = s.2 := by
  unfold evI at he
  unfold clsI at hc
  split at he
  · cases he
  · cases he; rfl
  · rename_i hw
    split at he
    · cases he
    · rename_i v H hev
      cases he
      rw [hw] at hc
      exact (evO_f hev (dynC_inv hc nofun)).1

theorem evI_slot {E : Env} {rec : Rec} {s s' : Fr × Heap} {i : I} (he : evI E rec s i = some s') (t : Nat) (ht : i.dst ≠ some t) : s'.1.get t = s.1.get t := by
  have : ∀ (fr : Fr) (v : V), (putD fr i.dst v).get t = fr.get t := fun fr v => by
    cases hd : i.dst with
    | none => rfl
    | some d =>
      simp only [putD, Fr.get_put]
      rw [if_neg fun e => ht (by rw [hd, e])]
  unfold evI at he
  split at he
  · cases he
  · cases he; exact this _ _
  · split at he
    · cases he
    · cases he; exact this _ _

end Go.Proofs.Ytdgfpjlmpnfcgaa.Ev
namespace Go.Proofs.Ytdgfpjlmpnfcgaa.Ev
open Go Go.RowKit
set_option linter.unusedVariables false
set_option linter.unusedSimpArgs false

section
variable {E : Env} {rec : Rec} {fr fr' : Fr} {H : Heap}

theorem A.ev_same {x : A} (h : ∀ t ∈ x.tmps, fr.get t = fr'.get t) : x.ev fr = x.ev fr' := by
  cases x with
  | v t => exact h t (by simp [A.tmps])
  | k x => rfl
theorem A.evs_same : ∀ {xs : List A}, (∀ t ∈ xs.flatMap A.tmps, fr.get t = fr'.get t) → A.evs fr xs = A.evs fr' xs
  | [], _ => rfl
  | x :: xs, h => by
    simp only [A.evs]
    rw [A.ev_same fun t ht => h t (by simp [ht]), A.evs_same fun t ht => h t (by rw [List.flatMap_cons]; exact List.mem_append_right _ ht)]
theorem A.map_same {x : Option A} (h : ∀ t ∈ x.toList.flatMap A.tmps, fr.get t = fr'.get t) : x.map (·.ev fr) = x.map (·.ev fr') := by
  cases x with
  | none => rfl
  | some x => simp only [Option.map_some]; rw [A.ev_same fun t ht => h t (by simpa using ht)]

theorem evO_same {op : O} (h : ∀ t ∈ op.reads.flatMap A.tmps, fr.get t = fr'.get t) : evO E rec fr H op = evO E rec fr' H op ∧ cls E fr H op = cls E fr' H op := by
  have h1 : ∀ x ∈ op.reads, x.ev fr = x.ev fr' := fun x hx => A.ev_same fun t ht => h t (List.mem_flatMap.2 ⟨x, hx, ht⟩)
  have hs : ∀ xs : List A, (∀ x ∈ xs, x ∈ op.reads) → A.evs fr xs = A.evs fr' xs := fun xs hx => A.evs_same fun t ht => by
    obtain ⟨x, hx', ht'⟩ := List.mem_flatMap.1 ht
    exact h t (List.mem_flatMap.2 ⟨x, hx x hx', ht'⟩)
  have ho : ∀ x : Option A, (∀ y ∈ x.toList, y ∈ op.reads) → x.map (·.ev fr) = x.map (·.ev fr') := fun x hx => A.map_same fun t ht => by
    obtain ⟨y, hy, ht'⟩ := List.mem_flatMap.1 ht
    exact h t (List.mem_flatMap.2 ⟨y, hx y hy, ht'⟩)
  cases op with
  | bld z ps =>
    have : (ps.map fun p => (p.1, p.2.1, p.2.2.ev fr)) = ps.map fun p => (p.1, p.2.1, p.2.2.ev fr') := List.map_congr_left fun p hp => by rw [h1 p.2.2 (List.mem_map_of_mem hp)]
    simp only [evO, cls, this, and_self]
  | bsf sz n z ps =>
    have k1 : (ps.map fun p => p.2.ev fr) = ps.map fun p => p.2.ev fr' := List.map_congr_left fun p hp => by rw [h1 p.2 (List.mem_map_of_mem hp)]
    simp only [evO, cls, k1, and_self]
  | bsl m sz n z ps =>
    have k1 : (ps.map fun p => p.2.ev fr) = ps.map fun p => p.2.ev fr' := List.map_congr_left fun p hp => by rw [h1 p.2 (List.mem_map_of_mem hp)]
    have k2 : (ps.map fun p => (p.1 * sz, sz, p.2.ev fr)) = ps.map fun p => (p.1 * sz, sz, p.2.ev fr') := List.map_congr_left fun p hp => by rw [h1 p.2 (List.mem_map_of_mem hp)]
    cases m <;> simp only [evO, cls, k1, k2, and_self]
  | mkf f a b => simp only [evO, cls, hs a fun x hx => by simp [O.reads, hx], hs b fun x hx => by simp [O.reads, hx], and_self]
  | call f as => simp only [evO, cls, hs as fun x hx => hx, and_self]
  | callv f as => simp only [evO, cls, hs as fun x hx => by simp [O.reads, hx], h1 f (by simp [O.reads]), and_self]
  | slc sz x l u => simp only [evO, cls, h1 x (by simp [O.reads]), ho l fun y hy => by simp only [O.reads]; exact List.mem_cons_of_mem _ (List.mem_append_left _ hy), ho u fun y hy => by simp only [O.reads]; exact List.mem_cons_of_mem _ (List.mem_append_right _ hy), and_self]
  | sls x l u => simp only [evO, cls, h1 x (by simp [O.reads]), ho l fun y hy => by simp only [O.reads]; exact List.mem_cons_of_mem _ (List.mem_append_left _ hy), ho u fun y hy => by simp only [O.reads]; exact List.mem_cons_of_mem _ (List.mem_append_right _ hy), and_self]
  | app m sz x y => cases m <;> simp only [evO, cls, h1 x (by simp [O.reads]), h1 y (by simp [O.reads]), and_self]
  | alc sz z => exact ⟨rfl, rfl⟩
  | mkm => exact ⟨rfl, rfl⟩
  | bad => exact ⟨rfl, rfl⟩
  | mv x | box x | ld _ _ x | nck x | un _ x | cnv _ x | fad _ x | fld _ _ _ x | ext x _ | len _ x | clr _ _ x => simp only [evO, cls, h1 x (by simp [O.reads]), and_self]
  | st _ x y | bin _ _ x y | mks _ _ x y | msf _ _ x y | ixa _ x y | idx x y | cpy _ x y | mx _ x y | lkp _ _ _ x y => simp only [evO, cls, h1 x (by simp [O.reads]), h1 y (by simp [O.reads]), and_self]
  | pick x y z | mup _ x y z => simp only [evO, cls, h1 x (by simp [O.reads]), h1 y (by simp [O.reads]), h1 z (by simp [O.reads]), and_self]

end

theorem keep_same (live : List Nat) : ∀ (fr : Fr) (t : Nat), t ∈ live → (keep live fr).get t = fr.get t
  | [], t, _ => rfl
  | (s, v) :: r, t, ht => by
    simp only [keep]
    split
    · simp only [Fr.get]; rw [keep_same live r t ht]
    · rename_i hs
      simp only [Fr.get]
      rw [if_neg fun e => hs (by simpa [e] using ht), keep_same live r t ht]
theorem keep_other (live : List Nat) : ∀ (fr : Fr) (t : Nat), t ∉ live → (keep live fr).get t = .any
  | [], t, _ => rfl
  | (s, v) :: r, t, ht => by
    simp only [keep]
    split
    · rename_i hs
      simp only [Fr.get]
      rw [if_neg fun e => ht (by simpa [← e] using hs), keep_other live r t ht]
    · exact keep_other live r t ht
theorem clsI_eq {E : Env} {s s' : Fr × Heap} {i : I} : clsI E s s' i = dynC s.2 s'.2 (match wantedI s.1 i with | some true => cls E s.1 s.2 i.op | _ => .p) := rfl

end Go.Proofs.Ytdgfpjlmpnfcgaa.Ev
namespace Go.Proofs.Ytdgfpjlmpnfcgaa.Ev
open Go Go.RowKit
set_option linter.unusedVariables false
set_option linter.unusedSimpArgs false

theorem get_app {H Δ : Heap} {id : Nat} (h : id < H.length) : (H ++ Δ)[id]? = H[id]? := List.getElem?_append_left h

section
variable {μ0 μ μ' : Nat → Option Loc} {D0 D D' F0 F F' : Nat → Prop} {H0 H Hj Δ Δ' : Heap} {w0 w w' : World}

theorem Rel.pre (h : Rel μ D F (Hj ++ Δ) w) : Rel μ (fun id => D id ∧ id < Hj.length) F Hj w where
  blk id b hd hb := h.blk id b hd.1 (by rw [get_app hd.2]; exact hb)
  inj i j li lj bi bj hi hj h1 h2 := h.inj i j li lj bi bj hi.1 hj.1 (by rw [get_app hi.2]; exact h1) (by rw [get_app hj.2]; exact h2)
  frz := h.frz
  lt id hd := hd.2
  non id b l hb := h.non id b l (by rw [get_app (List.getElem?_eq_some_iff.1 hb).1]; exact hb)

theorem OwnS.pre {m : Nat} (h : OwnS μ (fun id => D id ∧ id < Hj.length) Hj m) : OwnS μ D (Hj ++ Δ) m := by
  obtain ⟨id, b, l, h1, h2, h3⟩ := h
  exact ⟨id, b, l, h1.1, by rw [get_app h1.2]; exact h2, h3⟩

theorem Rel.ext (h : Rel μ D F H w) (hf : ∀ id, H.length ≤ id → μ id = none) (Δ : Heap) : Rel μ D F (H ++ Δ) w where
  blk id b hd hb := h.blk id b hd (by rw [get_app (h.lt id hd)] at hb; exact hb)
  inj i j li lj bi bj hi hj h1 h2 := h.inj i j li lj bi bj hi hj (by rw [get_app (h.lt i hi)] at h1; exact h1) (by rw [get_app (h.lt j hj)] at h2; exact h2)
  frz := h.frz
  lt id hd := Nat.lt_of_lt_of_le (h.lt id hd) (by simp)
  non id b l hb hl := by
    rcases Nat.lt_or_ge id H.length with a | a
    · exact h.non id b l (by rw [get_app a] at hb; exact hb) hl
    · rw [hf id a] at hl; cases hl

theorem OwnS.ext (h : Rel μ D F H w) {m : Nat} (ho : OwnS μ D (H ++ Δ) m) : OwnS μ D H m := by
  obtain ⟨id, b, l, h1, h2, h3⟩ := ho
  exact ⟨id, b, l, h1, by rw [get_app (h.lt id h1)] at h2; exact h2, h3⟩

theorem Post.ext (p : Post μ0 D0 F0 H0 w0 μ D F H w) (hf : ∀ id, H.length ≤ id → μ id = none) (Δ : Heap) : Post μ0 D0 F0 H0 w0 μ D F (H ++ Δ) w where
  mu id hid := p.mu id (hid.elim .inl fun a => .inr (Nat.le_trans (by simp) a))
  mono := p.mono
  len := Nat.le_trans p.len (by simp)
  dom id := by
    rw [p.dom]
    refine or_congr_right ⟨fun ⟨a, b, c⟩ => ⟨a, Nat.lt_of_lt_of_le b (by simp), c⟩, fun ⟨a, b, l, hl, hr⟩ => ⟨a, ?_, l, hl, hr⟩⟩
    rcases Nat.lt_or_ge id H.length with c | c
    · exact c
    · rw [hf id c] at hl; cases hl
  old := p.old
  new := p.new
  rel := p.rel.ext hf Δ
  frame := p.frame
  own m hm := p.own m (OwnS.ext p.rel hm)
  size := p.size
  os := p.os
  tape := p.tape
  output := p.output
theorem Post.hole (p : Post μ0 D0 F0 H0 w0 μ D F (Hj ++ Δ ++ Δ') w) (hreal : ∀ id, D id ↔ id < (Hj ++ Δ ++ Δ').length ∧ ∃ L, μ id = some L ∧ L.real = true)
    (hole : ∀ id, Hj.length ≤ id → id < (Hj ++ Δ).length → μ id = none) (h0 : H0.length ≤ Hj.length)
    (q : Post μ (fun id => D id ∧ id < Hj.length) F Hj w μ' D' F' (Hj ++ Δ) w') :
    Post μ0 D0 F0 H0 w0 μ' (fun id => id < (Hj ++ Δ ++ Δ').length ∧ ∃ L, μ' id = some L ∧ L.real = true) F' (Hj ++ Δ ++ Δ') w' := by
  have hle : Hj.length ≤ (Hj ++ Δ).length := by simp
  have hle2 : (Hj ++ Δ).length ≤ (Hj ++ Δ ++ Δ').length := by simp
  have relj : Rel μ (fun id => D id ∧ id < Hj.length) F Hj w := by
    have := p.rel; rw [List.append_assoc] at this; exact this.pre
  have ownj : ∀ {m}, OwnS μ (fun id => D id ∧ id < Hj.length) Hj m → OwnS μ D (Hj ++ Δ ++ Δ') m := fun {m} h => by rw [List.append_assoc]; exact h.pre
  have low : ∀ id, id < (Hj ++ Δ).length → (∃ L, μ' id = some L ∧ L.real = true) → D' id := fun id hlt ⟨L, hL, hr⟩ => by
    rw [q.dom]
    rcases Nat.lt_or_ge id Hj.length with a | a
    · rw [q.mu id (.inl a)] at hL
      exact .inl ⟨(hreal id).2 ⟨by omega, L, hL, hr⟩, a⟩
    · exact .inr ⟨a, hlt, L, hL, hr⟩
  have high : ∀ id, (Hj ++ Δ).length ≤ id → μ' id = μ id := fun id h => q.mu id (.inr h)
  have notown : ∀ id b l, (Hj ++ Δ).length ≤ id → D id → (Hj ++ Δ ++ Δ')[id]? = some b → b.own = true → μ id = some l → ¬ OwnS μ (fun id => D id ∧ id < Hj.length) Hj l.m := fun id b l hge hd hb ho hl ⟨id2, b2, l2, h1, h2, h3, h4, h5⟩ => by
    have := p.rel.inj id2 id l2 l b2 b h1.1 hd (by rw [List.append_assoc, get_app h1.2]; exact h2) hb h3 ho h4 hl h5
    omega
  refine ⟨fun id hid => ?_, fun id l hl => q.mono id l (p.mono id l hl), p.len, fun id => ⟨fun ⟨hlt, L, hL, hr⟩ => ?_, fun h => ?_⟩, fun m hm => q.old m (p.old m hm), fun m hm => ?_, ⟨fun id b hd hb => ?_, ?_, fun m hm => q.rel.frz m hm, fun id hd => hd.1, fun id b l hb hl hr ho => ?_⟩, fun m hm hno => ?_, fun m hm => ?_, Nat.le_trans p.size q.size, q.os.trans p.os, q.tape.trans p.tape, q.output.trans p.output⟩
  · rcases hid with a | a
    · rw [q.mu id (.inl (by omega)), p.mu id (.inl a)]
    · rw [q.mu id (.inr (by omega)), p.mu id (.inr a)]
  · rcases Nat.lt_or_ge id H0.length with a | a
    · left
      rw [q.mu id (.inl (by omega))] at hL
      rcases (p.dom id).1 ((hreal id).2 ⟨hlt, L, hL, hr⟩) with b | b
      · exact b
      · omega
    · exact .inr ⟨a, hlt, L, hL, hr⟩
  · rcases h with h | ⟨_, b, c⟩
    · obtain ⟨a, L, hL, hr⟩ := (hreal id).1 ((p.dom id).2 (.inl h))
      exact ⟨a, L, q.mono id L hL, hr⟩
    · exact ⟨b, c⟩
  · rcases q.new m hm with a | a | a
    · exact p.new m a
    · exact .inr (.inl (Nat.le_trans p.size a))
    · exact .inr (p.own m (ownj a))
  · rcases Nat.lt_or_ge id (Hj ++ Δ).length with a | a
    · exact q.rel.blk id b (low id a hd.2) (by rw [get_app a] at hb; exact hb)
    · obtain ⟨_, L, hL, hr⟩ := hd
      rw [high id a] at hL
      have hD := (hreal id).2 ⟨by assumption, L, hL, hr⟩
      have hbr := p.rel.blk id b hD hb
      refine hbr.mono q.mono (q.pres relj) q.old fun l hl ho => ?_
      obtain ⟨l', hl', hlt, hnF⟩ := hbr.own_lt ho
      rw [hl] at hl'; cases hl'
      have hno := notown id b l a hD hb ho hl
      refine ⟨q.frame l.m hlt hno, fun hF' => ?_⟩
      rcases q.new l.m hF' with c | c | c
      · exact hnF c
      · omega
      · exact hno c
  · -- two of one machine block
    have cross : ∀ i j li lj bi bj, i < (Hj ++ Δ).length → (Hj ++ Δ).length ≤ j → (∃ L, μ' i = some L ∧ L.real = true) → (j < (Hj ++ Δ ++ Δ').length ∧ ∃ L, μ' j = some L ∧ L.real = true) → (Hj ++ Δ ++ Δ')[i]? = some bi → (Hj ++ Δ ++ Δ')[j]? = some bj → bi.own = true → bj.own = true → μ' i = some li → μ' j = some lj → li.m = lj.m → False := by
      intro i j li lj bi bj ha hb hi hj h1 h2 o1 o2 h3 h4 e
      rw [get_app ha] at h1
      rw [high j hb] at h4
      obtain ⟨hjl, L, hL, hr⟩ := hj
      rw [high j hb] at hL
      have hDj := (hreal j).2 ⟨hjl, L, hL, hr⟩
      have hno := notown j bj lj hb hDj h2 o2 h4
      obtain ⟨l', hl', hlt, _⟩ := (p.rel.blk j bj hDj h2).own_lt o2
      rw [h4] at hl'; cases hl'
      rcases q.own li.m ⟨i, bi, li, low i ha hi, h1, o1, h3, rfl⟩ with c | c
      · omega
      · exact hno (e ▸ c)
    intro i j li lj bi bj hi hj h1 h2 o1 o2 h3 h4 e
    rcases Nat.lt_or_ge i (Hj ++ Δ).length with a | a <;> rcases Nat.lt_or_ge j (Hj ++ Δ).length with b | b
    · exact q.rel.inj i j li lj bi bj (low i a hi.2) (low j b hj.2) (by rw [get_app a] at h1; exact h1) (by rw [get_app b] at h2; exact h2) o1 o2 h3 h4 e
    · exact (cross i j li lj bi bj a b hi.2 hj h1 h2 o1 o2 h3 h4 e).elim
    · exact (cross j i lj li bj bi b a hj.2 hi h2 h1 o2 o1 h4 h3 e.symm).elim
    · obtain ⟨hil, L, hL, hr⟩ := hi
      obtain ⟨hjl, L', hL', hr'⟩ := hj
      rw [high i a] at hL h3
      rw [high j b] at hL' h4
      exact p.rel.inj i j li lj bi bj ((hreal i).2 ⟨hil, L, hL, hr⟩) ((hreal j).2 ⟨hjl, L', hL', hr'⟩) h1 h2 o1 o2 h3 h4 e
  · rcases Nat.lt_or_ge id (Hj ++ Δ).length with a | a
    · exact q.rel.non id b l (by rw [get_app a] at hb; exact hb) hl hr ho
    · rw [high id a] at hl
      exact p.rel.non id b l hb hl hr ho
  · rw [q.frame m (Nat.lt_of_lt_of_le hm p.size) fun h => (p.own m (ownj h)).elim (fun a => by omega) hno, p.frame m hm hno]
  · obtain ⟨id, b, l, ⟨hlt, hex⟩, h2, h3, h4, h5⟩ := hm
    rcases Nat.lt_or_ge id (Hj ++ Δ).length with a | a
    · rcases q.own m ⟨id, b, l, low id a hex, by rw [get_app a] at h2; exact h2, h3, h4, h5⟩ with c | c
      · exact .inl (Nat.le_trans p.size c)
      · exact p.own m (ownj c)
    · rw [high id a] at h4 hex
      exact p.own m ⟨id, b, l, (hreal id).2 ⟨hlt, hex⟩, h2, h3, h4, h5⟩

end
end Go.Proofs.Ytdgfpjlmpnfcgaa.Ev
namespace Go.Proofs.Ytdgfpjlmpnfcgaa.Ev
open Go Go.RowKit
set_option linter.unusedVariables false
set_option linter.unusedSimpArgs false

def Cls.loud : Cls → Bool
  | .w _ => true
  | .l => true
  | .x _ => true
  | _ => false
structure Txt (E : Env) (rec : Rec) (is : List I) (σ : Nat → Fr × Heap) (cs : List Cls) (B : Nat → Nat → Prop) : Prop where
  len : cs.length = is.length
  step : ∀ (i : Nat) ins, is[i]? = some ins → evI E rec (σ i) ins = some (σ (i + 1)) ∧ cs[i]? = some (clsI E (σ i) (σ (i + 1)) ins)
  slots : ∀ (i j : Nat) a b d, is[i]? = some a → is[j]? = some b → a.dst = some d → (b.dst = some d ∨ d ∈ b.reads) → i ≠ j → B (max i j) (min i j)
  cls : ∀ (i j : Nat) c d, i < j → cs[i]? = some c → cs[j]? = some d → c.free d = true ∨ B j i

section
variable {P : Program} {E : Env} {rec : Rec} {is : List I} {σ : Nat → Fr × Heap} {cs : List Cls} {B : Nat → Nat → Prop}

theorem Txt.get (T : Txt E rec is σ cs B) {i : Nat} (h : i < is.length) : ∃ ins c, is[i]? = some ins ∧ cs[i]? = some c ∧ c = clsI E (σ i) (σ (i + 1)) ins ∧ evI E rec (σ i) ins = some (σ (i + 1)) := by
  have h1 : is[i]? = some is[i] := List.getElem?_eq_getElem h
  obtain ⟨a, b⟩ := T.step i _ h1
  exact ⟨_, _, h1, b, rfl, a⟩

theorem Txt.slot_same (T : Txt E rec is σ cs B) (t m : Nat) : ∀ (k : Nat), m + k ≤ is.length → (∀ i ins, m ≤ i → i < m + k → is[i]? = some ins → ins.dst ≠ some t) → (σ (m + k)).1.get t = (σ m).1.get t
  | 0, _, _ => rfl
  | k + 1, hk, h => by
    obtain ⟨ins, c, h1, h2, h3, h4⟩ := T.get (show m + k < is.length by omega)
    rw [show m + (k + 1) = m + k + 1 by omega, evI_slot h4 t (h (m + k) ins (by omega) (by omega) h1)]
    exact T.slot_same t m k (by omega) fun i ins a b => h i ins a (by omega)

theorem Txt.heap_pre (T : Txt E rec is σ cs B) (m : Nat) : ∀ (k : Nat), m + k ≤ is.length → (∀ i c, m ≤ i → i < m + k → cs[i]? = some c → c.loud = false) → ∃ Δ, (σ (m + k)).2 = (σ m).2 ++ Δ
  | 0, _, _ => ⟨[], by simp⟩
  | k + 1, hk, h => by
    obtain ⟨ins, c, h1, h2, h3, h4⟩ := T.get (show m + k < is.length by omega)
    obtain ⟨Δ, hΔ⟩ := T.heap_pre m k (by omega) fun i c a b => h i c a (by omega)
    have hl := h (m + k) c (by omega) (by omega) h2
    obtain ⟨g1, g2, g3, g4⟩ := evI_grows h4
    rw [← h3] at g1 g2 g3 g4
    rw [show m + (k + 1) = m + k + 1 by omega]
    cases c with
    | p => exact ⟨Δ, by rw [g1 rfl, hΔ]⟩
    | rd id => exact ⟨Δ, by rw [g2 id rfl, hΔ]⟩
    | q => obtain ⟨Δ', e⟩ := g3 rfl; exact ⟨Δ ++ Δ', by rw [e, hΔ, List.append_assoc]⟩
    | w b => simp [Cls.loud] at hl
    | l => simp [Cls.loud] at hl
    | x f => simp [Cls.loud] at hl
    | f => exact ⟨Δ, by rw [evI_f h4 h3.symm, hΔ]⟩

theorem Txt.heap_id (T : Txt E rec is σ cs B) (m id : Nat) (x : Blk) (hx : (σ m).2[id]? = some x) : ∀ (k : Nat), m + k ≤ is.length → (∀ i c, m ≤ i → i < m + k → cs[i]? = some c → (Cls.rd id).free c = true) → (σ (m + k)).2[id]? = some x
  | 0, _, _ => hx
  | k + 1, hk, h => by
    obtain ⟨ins, c, h1, h2, h3, h4⟩ := T.get (show m + k < is.length by omega)
    have ih := T.heap_id m id x hx k (by omega) fun i c a b => h i c a (by omega)
    have hl := h (m + k) c (by omega) (by omega) h2
    obtain ⟨g1, g2, g3, g4⟩ := evI_grows h4
    rw [← h3] at g1 g2 g3 g4
    rw [show m + (k + 1) = m + k + 1 by omega]
    cases c with
    | p => rw [g1 rfl]; exact ih
    | rd id => rw [g2 id rfl]; exact ih
    | q => obtain ⟨Δ', e⟩ := g3 rfl; rw [e, get_app (List.getElem?_eq_some_iff.1 ih).1]; exact ih
    | w b => exact g4 b rfl id x (by simpa [Cls.free] using hl) ih
    | l => simp [Cls.free] at hl
    | f => rw [evI_f h4 h3.symm]; exact ih
    | x f =>
      have hf := clsI_x h3.symm
      simp only [Cls.free] at hl
      rw [hf] at hl
      exact sameB_get hl ih

theorem free_symm (a b : Cls) : a.free b = b.free a := by
  cases a <;> cases b <;> simp [Cls.free, bne_comm]
structure Inv (T : Txt E rec is σ cs B) (μ0 : Nat → Option Loc) (D0 F0 : Nat → Prop) (H0 : Heap) (w0 : World) (n : Nat) (S : Nat → Prop) (l : Nat) (μ : Nat → Option Loc) (D F : Nat → Prop) (a : Act) (w : World) : Prop where
  size : a.tmps.size = n
  defers : a.defers = []
  slot : ∀ t, ∃ m, m ≤ is.length ∧ (∀ i ins, is[i]? = some ins → ins.dst = some t → (S i ↔ i < m)) ∧ VR μ w F ((σ m).1.get t) (a.tmps.getD t undef)
  lt : l ≤ is.length
  loud : ∀ i c, cs[i]? = some c → c.loud = true → (S i ↔ i < l)
  atl : l < is.length → ∃ c, cs[l]? = some c ∧ c.loud = true
  post : Post μ0 D0 F0 H0 w0 μ D F (σ l).2 w
  real : ∀ id, D id ↔ id < (σ l).2.length ∧ ∃ L, μ id = some L ∧ L.real = true
  fresh : ∀ id, (σ l).2.length ≤ id → μ id = none
  holes : ∀ i, i < l → cs[i]? = some .q → ¬ S i → ∀ id, (σ i).2.length ≤ id → id < (σ (i + 1)).2.length → μ id = none
  low : ∀ i, i ≤ l → H0.length ≤ (σ i).2.length
theorem next_loud (cs : List Cls) : ∀ (k m : Nat), m + k = cs.length → ∃ l, m ≤ l ∧ l ≤ cs.length ∧ (l < cs.length → ∃ c, cs[l]? = some c ∧ c.loud = true) ∧ ∀ i c, m ≤ i → i < l → cs[i]? = some c → c.loud = false
  | 0, m, h => ⟨m, Nat.le_refl _, by omega, fun h' => by omega, fun i c a b => by omega⟩
  | k + 1, m, h => by
    have hm : m < cs.length := by omega
    by_cases hl : (cs[m]).loud = true
    · exact ⟨m, Nat.le_refl _, by omega, fun _ => ⟨_, List.getElem?_eq_getElem hm, hl⟩, fun i c a b => by omega⟩
    · obtain ⟨l, h1, h2, h3, h4⟩ := next_loud cs k (m + 1) (by omega)
      refine ⟨l, by omega, h2, h3, fun i c a b hc => ?_⟩
      rcases Nat.eq_or_lt_of_le a with e | e
      · subst e
        rw [List.getElem?_eq_getElem hm] at hc
        cases hc
        simpa using hl
      · exact h4 i c e b hc

variable {T : Txt E rec is σ cs B} {μ0 μ μ' : Nat → Option Loc} {D0 D D' F0 F F' : Nat → Prop} {H0 : Heap} {w0 w w' : World} {n l : Nat} {S : Nat → Prop} {a : Act}
theorem Inv.read (h : Inv T μ0 D0 F0 H0 w0 n S l μ D F a w) {j : Nat} {ins : I} (hj : is[j]? = some ins) (hS : ¬ S j) (hcl : ∀ i k, B k i → S k → S i) (hcl' : ∀ i, B j i → i ≠ j → S i) {t : Nat} (ht : t ∈ ins.reads) : VR μ w F ((σ j).1.get t) (a.tmps.getD t undef) := by
  obtain ⟨m, h1, h2, h3⟩ := h.slot t
  have hjl : j < is.length := (List.getElem?_eq_some_iff.1 hj).1
  have key : ∀ i b, is[i]? = some b → b.dst = some t → (i < m ↔ i < j) := fun i b hi hb => by
    rw [← h2 i b hi hb]
    rcases Nat.lt_trichotomy i j with c | c | c
    · have := T.slots i j b ins t hi hj hb (.inr ht) (by omega)
      rw [Nat.max_eq_right (by omega), Nat.min_eq_left (by omega)] at this
      exact ⟨fun _ => c, fun _ => hcl' i this (by omega)⟩
    · subst c; exact ⟨fun s => absurd s hS, fun s => by omega⟩
    · have := T.slots i j b ins t hi hj hb (.inr ht) (by omega)
      rw [Nat.max_eq_left (by omega), Nat.min_eq_right (by omega)] at this
      exact ⟨fun s => absurd (hcl j i this s) hS, fun s => by omega⟩
  have : (σ m).1.get t = (σ j).1.get t := by
    rcases Nat.le_total m j with c | c
    · have := T.slot_same t m (j - m) (by omega) fun i b x y hi hb => by
        have := (key i b hi hb).2 (by omega); omega
      rw [show m + (j - m) = j by omega] at this
      exact this.symm
    · have := T.slot_same t j (m - j) (by omega) fun i b x y hi hb => by
        have := (key i b hi hb).1 (by omega); omega
      rw [show j + (m - j) = m by omega] at this
      exact this
  rw [← this]; exact h3

theorem Inv.frame (h : Inv T μ0 D0 F0 H0 w0 n S l μ D F a w) {j : Nat} {ins : I} (hj : is[j]? = some ins) (hS : ¬ S j) (hcl : ∀ i k, B k i → S k → S i) (hcl' : ∀ i, B j i → i ≠ j → S i) : FR μ w F n (keep ins.reads (σ j).1) a :=
  ⟨h.size, h.defers, fun t => by
    by_cases ht : t ∈ ins.reads
    · rw [keep_same _ _ _ ht]; exact h.read hj hS hcl hcl' ht
    · rw [keep_other _ _ _ ht]; exact .any _⟩
theorem Inv.slots' (h : Inv T μ0 D0 F0 H0 w0 n S l μ D F a w) {j : Nat} {ins : I} (hj : is[j]? = some ins) (hlt : ∀ d, ins.dst = some d → d < n) (hS : ¬ S j) (hcl : ∀ i k, B k i → S k → S i) (hcl' : ∀ i, B j i → i ≠ j → S i) (hμ : ∀ id L, μ id = some L → μ' id = some L) (hp : Pres F w w') (hF : ∀ m, F m → F' m)
    {v : V} {x : Value} (hv : VR μ' w' F' v x) (hs : (σ (j + 1)).1 = putD (σ j).1 ins.dst v) :
    ∀ t, ∃ m, m ≤ is.length ∧ (∀ i b, is[i]? = some b → b.dst = some t → ((S i ∨ i = j) ↔ i < m)) ∧ VR μ' w' F' ((σ m).1.get t) ((a.put ins.dst x).tmps.getD t undef) := fun t => by
  have hjl : j < is.length := (List.getElem?_eq_some_iff.1 hj).1
  by_cases ht : ins.dst = some t
  · refine ⟨j + 1, hjl, fun i b hi hb => ?_, ?_⟩
    · rcases Nat.lt_trichotomy i j with c | c | c
      · have := T.slots i j b ins t hi hj hb (.inl ht) (by omega)
        rw [Nat.max_eq_right (by omega), Nat.min_eq_left (by omega)] at this
        exact ⟨fun _ => by omega, fun _ => .inl (hcl' i this (by omega))⟩
      · exact ⟨fun _ => by omega, fun _ => .inr c⟩
      · have := T.slots i j b ins t hi hj hb (.inl ht) (by omega)
        rw [Nat.max_eq_left (by omega), Nat.min_eq_right (by omega)] at this
        exact ⟨fun s => s.elim (fun s => absurd (hcl j i this s) hS) fun s => by omega, fun s => by omega⟩
    · rw [hs, ht]
      simp only [putD, Fr.get_put, if_true, Act.put]
      have : (a.tmps.setIfInBounds t x).getD t undef = x := by
        simp [Array.getD_eq_getD_getElem?, h.size, hlt t ht]
      rw [this]; exact hv
  · obtain ⟨m, h1, h2, h3⟩ := h.slot t
    refine ⟨m, h1, fun i b hi hb => ?_, ?_⟩
    · rw [← h2 i b hi hb]
      refine ⟨fun s => s.elim id fun e => ?_, .inl⟩
      subst e; rw [hj] at hi; cases hi; exact absurd hb ht
    · have : (a.put ins.dst x).tmps.getD t undef = a.tmps.getD t undef := by
        cases hd : ins.dst with
        | none => rfl
        | some d =>
          have : d ≠ t := fun e => ht (by rw [hd, e])
          simp [Act.put, Array.getD_eq_getD_getElem?, this]
      rw [this]; exact h3.mono hμ hp hF

theorem put_size (a : Act) (d : Option Nat) (x : Value) : (a.put d x).tmps.size = a.tmps.size ∧ (a.put d x).defers = a.defers := by
  cases d <;> simp [Act.put]
theorem Inv.still (h : Inv T μ0 D0 F0 H0 w0 n S l μ D F a w) {j : Nat} {ins : I} (hj : is[j]? = some ins) (hlt : ∀ d, ins.dst = some d → d < n) (hS : ¬ S j) (hcl : ∀ i k, B k i → S k → S i) (hcl' : ∀ i, B j i → i ≠ j → S i) {c : Cls} (hc : cs[j]? = some c) (hnl : c.loud = false)
    {v : V} {x : Value} (hv : VR μ w F v x) (hs : (σ (j + 1)).1 = putD (σ j).1 ins.dst v) : Inv T μ0 D0 F0 H0 w0 n (fun i => S i ∨ i = j) l μ D F (a.put ins.dst x) w where
  size := (put_size _ _ _).1.trans h.size
  defers := (put_size _ _ _).2.trans h.defers
  slot := h.slots' hj hlt hS hcl hcl' (fun _ _ h => h) (Pres.refl _ _) (fun _ h => h) hv hs
  lt := h.lt
  loud i c' hi hl := by
    rw [← h.loud i c' hi hl]
    refine ⟨fun s => s.elim id fun e => ?_, .inl⟩
    subst e; rw [hc] at hi; cases hi; rw [hnl] at hl; cases hl
  atl := h.atl
  post := h.post
  real := h.real
  fresh := h.fresh
  holes i hi hq hn := h.holes i hi hq fun s => hn (.inl s)
  low := h.low
theorem Inv.born (h : Inv T μ0 D0 F0 H0 w0 n S l μ D F a w) {j : Nat} {ins : I} (hj : is[j]? = some ins) (hlt : ∀ d, ins.dst = some d → d < n) (hS : ¬ S j) (hcl : ∀ i k, B k i → S k → S i) (hcl' : ∀ i, B j i → i ≠ j → S i) {c : Cls} (hc : cs[j]? = some c) (hnl : c.loud = false) (hnq : c ≠ .q)
    {v : V} {x : Value} (hp : Post μ D F (σ l).2 w μ' D' F' (σ l).2 w') (hv : VR μ' w' F' v x) (hs : (σ (j + 1)).1 = putD (σ j).1 ins.dst v) : Inv T μ0 D0 F0 H0 w0 n (fun i => S i ∨ i = j) l μ' D' F' (a.put ins.dst x) w' := by
  have hmu : μ' = μ := funext fun id => hp.mu id (by omega)
  subst hmu
  have hD : ∀ id, D' id ↔ D id := fun id => by rw [hp.dom]; exact ⟨fun h => h.elim (fun x => x) fun ⟨a, b, _⟩ => by omega, .inl⟩
  exact {
    size := (put_size _ _ _).1.trans h.size
    defers := (put_size _ _ _).2.trans h.defers
    slot := h.slots' hj hlt hS hcl hcl' (fun _ _ h => h) (hp.pres h.post.rel) hp.old hv hs
    lt := h.lt
    loud := fun i c' hi hl => by
      rw [← h.loud i c' hi hl]
      refine ⟨fun s => s.elim (fun s => s) fun e => ?_, .inl⟩
      subst e; rw [hc] at hi; cases hi; rw [hnl] at hl; cases hl
    atl := h.atl
    post := h.post.trans hp
    real := fun id => by rw [hD]; exact h.real id
    fresh := h.fresh
    holes := fun i hi hq hn => h.holes i hi hq fun s => hn (.inl s)
    low := h.low }

end
end Go.Proofs.Ytdgfpjlmpnfcgaa.Ev
namespace Go.Proofs.Ytdgfpjlmpnfcgaa.Ev
open Go Go.RowKit
set_option linter.unusedVariables false
set_option linter.unusedSimpArgs false

section
variable {P : Program} {E : Env} {rec : Rec} {is : List I} {σ : Nat → Fr × Heap} {cs : List Cls} {B : Nat → Nat → Prop}
variable {T : Txt E rec is σ cs B} {μ0 μ μ' : Nat → Option Loc} {D0 D D' F0 F F' : Nat → Prop} {H0 : Heap} {w0 w w' : World} {n l : Nat} {S : Nat → Prop} {a : Act}
theorem Inv.q_at (h : Inv T μ0 D0 F0 H0 w0 n S l μ D F a w) {j : Nat} (hS : ¬ S j) (hcl : ∀ i k, B k i → S k → S i) (hcl' : ∀ i, B j i → i ≠ j → S i) (hj : j < is.length) (hc : cs[j]? = some .q) :
    j < l ∧ ∀ i c, j ≤ i → i < l → cs[i]? = some c → c.loud = false := by
  have hfree : ∀ c : Cls, c.loud = true → c.free .q = false ∧ Cls.free .q c = false := fun c hl => by cases c <;> simp_all [Cls.loud, Cls.free]
  constructor
  · rcases Nat.lt_or_ge j l with x | x
    · exact x
    · exfalso
      obtain ⟨c, h1, h2⟩ := h.atl (by omega)
      rcases Nat.eq_or_lt_of_le x with e | e
      · subst e; rw [hc] at h1; cases h1; simp [Cls.loud] at h2
      · have hB := (T.cls l j c .q e h1 hc).resolve_left (by rw [(hfree c h2).1]; simp)
        have := (h.loud l c h1 h2).1 (hcl' l hB (by omega))
        omega
  · intro i c x y hi
    rcases Bool.eq_false_or_eq_true c.loud with hl | hl
    · exfalso
      rcases Nat.eq_or_lt_of_le x with e | e
      · subst e; rw [hc] at hi; cases hi; simp [Cls.loud] at hl
      · have hB := (T.cls j i .q c e hc hi).resolve_left (by rw [(hfree c hl).2]; simp)
        exact hS (hcl j i hB ((h.loud i c hi hl).2 y))
    · exact hl

theorem Inv.quiet (h : Inv T μ0 D0 F0 H0 w0 n S l μ D F a w) {j : Nat} {ins : I} (hj : is[j]? = some ins) (hlt : ∀ d, ins.dst = some d → d < n) (hS : ¬ S j) (hcl : ∀ i k, B k i → S k → S i) (hcl' : ∀ i, B j i → i ≠ j → S i) (hc : cs[j]? = some .q)
    {v : V} {x : Value} (hp : Post μ (fun id => D id ∧ id < (σ j).2.length) F (σ j).2 w μ' D' F' (σ (j + 1)).2 w') (hv : VR μ' w' F' v x) (hs : (σ (j + 1)).1 = putD (σ j).1 ins.dst v) :
    ∃ D'', Inv T μ0 D0 F0 H0 w0 n (fun i => S i ∨ i = j) l μ' D'' F' (a.put ins.dst x) w' := by
  have hjl : j < is.length := (List.getElem?_eq_some_iff.1 hj).1
  obtain ⟨hjl', hq⟩ := h.q_at hS hcl hcl' hjl hc
  have hl := h.lt
  obtain ⟨Δ, hΔ⟩ := T.heap_pre j 1 (by omega) fun i c x y hi => hq i c (by omega) (by omega) hi
  obtain ⟨Δ', hΔ'⟩ := T.heap_pre (j + 1) (l - (j + 1)) (by omega) fun i c x y hi => hq i c (by omega) (by omega) hi
  rw [show j + 1 + (l - (j + 1)) = l by omega] at hΔ'
  have hpre : Rel μ (fun id => D id ∧ id < (σ j).2.length) F (σ j).2 w := by
    have := h.post.rel
    rw [hΔ', hΔ, List.append_assoc] at this
    exact this.pre
  have hp' := h.post
  have hreal := h.real
  have hhole := h.holes j hjl' hc hS
  rw [hΔ', hΔ] at hp' hreal
  rw [hΔ] at hp hhole
  have key := hp'.hole hreal hhole (h.low j (by omega)) hp
  rw [← hΔ, ← hΔ'] at key
  refine ⟨_, (put_size _ _ _).1.trans h.size, (put_size _ _ _).2.trans h.defers, h.slots' hj hlt hS hcl hcl' hp.mono (hp.pres hpre) hp.old hv hs, h.lt, fun i c' hi hl => ?_, h.atl, key, fun id => Iff.rfl, fun id hid => ?_, fun i hi hqi hn id x y => ?_, h.low⟩
  · rw [← h.loud i c' hi hl]
    refine ⟨fun s => s.elim id fun e => ?_, .inl⟩
    subst e; rw [hc] at hi; cases hi; simp [Cls.loud] at hl
  · rw [hp.mu id (.inr (by rw [hΔ', hΔ] at hid; exact Nat.le_trans (by simp) hid))]
    exact h.fresh id hid
  · have hSi : ¬ S i := fun s => hn (.inl s)
    have hij : i ≠ j := fun e => hn (.inr e)
    have hi' := h.holes i hi hqi hSi id x y
    rcases Nat.lt_or_ge i j with c | c
    · -- the block lies before
      have hil : i < is.length := by omega
      have hq' : ∀ k c, i + 1 ≤ k → k < l → cs[k]? = some c → c.loud = false := fun k c' xk yk hk => by
        rcases Bool.eq_false_or_eq_true c'.loud with hlc | hlc
        · exfalso
          have hB := (T.cls i k .q c' (by omega) hqi hk).resolve_left (by cases c' <;> simp_all [Cls.loud, Cls.free])
          exact hSi (hcl i k hB ((h.loud k c' hk hlc).2 yk))
        · exact hlc
      obtain ⟨Δ2, h2⟩ := T.heap_pre (i + 1) (j - (i + 1)) (by omega) fun k c' a b hk => hq' k c' a (by omega) hk
      rw [show i + 1 + (j - (i + 1)) = j by omega] at h2
      rw [hp.mu id (.inl (by rw [h2]; simp; omega))]
      exact hi'
    · obtain ⟨Δ2, h2⟩ := T.heap_pre (j + 1) (i - (j + 1)) (by omega) fun k c' a b hk => hq k c' (by omega) (by omega) hk
      rw [show j + 1 + (i - (j + 1)) = i by omega] at h2
      rw [hp.mu id (.inr (by rw [h2, hΔ] at x; exact Nat.le_trans (by simp) x))]
      exact hi'

theorem Inv.w_at (h : Inv T μ0 D0 F0 H0 w0 n S l μ D F a w) {j : Nat} (hS : ¬ S j) (hcl' : ∀ i, B j i → i ≠ j → S i) (hj : j < is.length) {c : Cls} (hc : cs[j]? = some c) (hl : c.loud = true) :
    j = l ∧ ∀ i, i < l → cs[i]? = some .q → S i := by
  have hge : l ≤ j := by
    rcases Nat.lt_or_ge j l with x | x
    · exact absurd ((h.loud j c hc hl).2 x) hS
    · exact x
  have e : j = l := by
    rcases Nat.eq_or_lt_of_le hge with e | e
    · exact e.symm
    · exfalso
      obtain ⟨c', h1, h2⟩ := h.atl (by omega)
      have hB := (T.cls l j c' c e h1 hc).resolve_left (by cases c <;> cases c' <;> simp_all [Cls.loud, Cls.free])
      have := (h.loud l c' h1 h2).1 (hcl' l hB (by omega))
      omega
  refine ⟨e, fun i hi hq => ?_⟩
  subst e
  exact hcl' i ((T.cls i j .q c hi hq hc).resolve_left (by cases c <;> simp_all [Cls.loud, Cls.free])) (by omega)

theorem Inv.write (h : Inv T μ0 D0 F0 H0 w0 n S l μ D F a w) {ins : I} (hj : is[l]? = some ins) (hlt : ∀ d, ins.dst = some d → d < n) (hS : ¬ S l) (hcl : ∀ i k, B k i → S k → S i) (hcl' : ∀ i, B l i → i ≠ l → S i) {c : Cls} (hc : cs[l]? = some c) (hl : c.loud = true)
    {v : V} {x : Value} (hp : Post μ D F (σ l).2 w μ' D' F' (σ (l + 1)).2 w') (hv : VR μ' w' F' v x) (hs : (σ (l + 1)).1 = putD (σ l).1 ins.dst v) :
    ∃ l', Inv T μ0 D0 F0 H0 w0 n (fun i => S i ∨ i = l) l' μ' D' F' (a.put ins.dst x) w' := by
  have hjl : l < is.length := (List.getElem?_eq_some_iff.1 hj).1
  obtain ⟨_, hqs⟩ := h.w_at hS hcl' hjl hc hl
  obtain ⟨l', h1, h2, h3, h4⟩ := next_loud cs (cs.length - (l + 1)) (l + 1) (by rw [T.len]; omega)
  rw [T.len] at h2 h3
  obtain ⟨Δ, hΔ⟩ := T.heap_pre (l + 1) (l' - (l + 1)) (by omega) fun i c x y hi => h4 i c x (by omega) hi
  rw [show l + 1 + (l' - (l + 1)) = l' by omega] at hΔ
  have hfresh : ∀ id, (σ (l + 1)).2.length ≤ id → μ' id = none := fun id hid => by
    rw [hp.mu id (.inr hid)]; exact h.fresh id (Nat.le_trans hp.len hid)
  have hpost := (h.post.trans hp).ext hfresh Δ
  refine ⟨l', (put_size _ _ _).1.trans h.size, (put_size _ _ _).2.trans h.defers, h.slots' hj hlt hS hcl hcl' hp.mono (hp.pres h.post.rel) hp.old hv hs, h2, fun i c' hi hl' => ?_, h3, hΔ ▸ hpost, fun id => ?_, fun id hid => hfresh id (by rw [hΔ] at hid; simp at hid; omega), fun i hi hqi hn id x y => ?_, fun i hi => ?_⟩
  · refine ⟨fun s => s.elim (fun s => ?_) fun e => by omega, fun s => ?_⟩
    · have := (h.loud i c' hi hl').1 s; omega
    · rcases Nat.lt_trichotomy i l with x | x | x
      · exact .inl ((h.loud i c' hi hl').2 x)
      · exact .inr x
      · have := h4 i c' x s hi
        rw [hl'] at this; cases this
  · rw [hp.dom, h.real]
    constructor
    · rintro (⟨a1, L, hL, hr⟩ | ⟨_, a2, L, hL, hr⟩)
      · have := hp.len
        exact ⟨by rw [hΔ]; simp; omega, L, hp.mono id L hL, hr⟩
      · exact ⟨by rw [hΔ]; simp; omega, L, hL, hr⟩
    · rintro ⟨_, L, hL, hr⟩
      rcases Nat.lt_or_ge id (σ l).2.length with x | x
      · rw [hp.mu id (.inl x)] at hL; exact .inl ⟨x, L, hL, hr⟩
      · rcases Nat.lt_or_ge id (σ (l + 1)).2.length with y | y
        · exact .inr ⟨x, y, L, hL, hr⟩
        · rw [hfresh id y] at hL; cases hL
  · rcases Nat.lt_trichotomy i l with z | z | z
    · exact absurd (hqs i z hqi) fun s => hn (.inl s)
    · exact absurd (.inr z) hn
    · obtain ⟨Δ2, e2⟩ := T.heap_pre (l + 1) (i - (l + 1)) (by omega) fun k c' a b hk => h4 k c' a (by omega) hk
      rw [show l + 1 + (i - (l + 1)) = i by omega] at e2
      exact hfresh id (by rw [e2] at x; simp at x; omega)
  · rcases Nat.lt_or_ge l i with z | z
    · obtain ⟨Δ2, e2⟩ := T.heap_pre (l + 1) (i - (l + 1)) (by omega) fun k c' a b hk => h4 k c' a (by omega) hk
      rw [show l + 1 + (i - (l + 1)) = i by omega] at e2
      have := (h.post.trans hp).len
      rw [e2]; simp; omega
    · exact h.low i z
theorem Inv.rd (h : Inv T μ0 D0 F0 H0 w0 n S l μ D F a w) {j id : Nat} {ins : I} (hj : is[j]? = some ins) (hS : ¬ S j) (hcl : ∀ i k, B k i → S k → S i) (hcl' : ∀ i, B j i → i ≠ j → S i) (hc : cs[j]? = some (.rd id)) :
    RelB μ (fun i => i = id ∧ ∃ L, μ i = some L ∧ L.real = true) F (σ j).2 w := by
  have hjl : j < is.length := (List.getElem?_eq_some_iff.1 hj).1
  rintro i b ⟨rfl, L, hL, hr⟩ hb
  have hil : i < (σ l).2.length := by
    rcases Nat.lt_or_ge i (σ l).2.length with x | x
    · exact x
    · rw [h.fresh i x] at hL; cases hL
  have hD := (h.real i).2 ⟨hil, L, hL, hr⟩
  have hlt := h.lt
  suffices e : (σ l).2[i]? = some b from h.post.rel.blk i b hD e
  rcases Nat.le_total j l with c | c
  · have := T.heap_id j i b hb (l - j) (by omega) fun k ck x y hk => by
      rcases Nat.eq_or_lt_of_le x with e | e
      · subst e; rw [hc] at hk; cases hk; rfl
      · rcases T.cls j k (.rd i) ck e hc hk with f | f
        · exact f
        · rcases Bool.eq_false_or_eq_true ck.loud with hl | hl
          · exact absurd (hcl j k f ((h.loud k ck hk hl).2 (by omega))) hS
          · cases ck <;> simp_all [Cls.loud, Cls.free]
    rw [show j + (l - j) = l by omega] at this
    exact this
  · have hb' : ∃ b', (σ l).2[i]? = some b' := ⟨_, List.getElem?_eq_getElem hil⟩
    obtain ⟨b', hb'⟩ := hb'
    have := T.heap_id l i b' hb' (j - l) (by omega) fun k ck x y hk => by
      rcases Bool.eq_false_or_eq_true ck.loud with hl | hl
      · rcases T.cls k j ck (.rd i) (by omega) hk hc with f | f
        · rw [free_symm]; exact f
        · have := (h.loud k ck hk hl).1 (hcl' k f (by omega)); omega
      · cases ck <;> simp_all [Cls.loud, Cls.free]
    rw [show l + (j - l) = j by omega, hb] at this
    rw [hb', this]

end
end Go.Proofs.Ytdgfpjlmpnfcgaa.Ev
namespace Go.Proofs.Ytdgfpjlmpnfcgaa.Ev
open Go Go.RowKit
set_option linter.unusedVariables false
set_option linter.unusedSimpArgs false

theorem cls_still {E : Env} {rec : Rec} {fr : Fr} {H H' : Heap} {op : O} {v : V} (he : evO E rec fr H op = some (v, H')) : (cls E fr H op = .p ∨ ∃ id, cls E fr H op = .rd id) → op.still = true := by
  intro h
  cases op with
  | alc | box | mks | mkm | bsf | msf => simp [cls] at h
  | bsl m sz n z ps =>
    cases m with
    | true => simp [cls] at h
    | false => simp only [cls] at h; split at h <;> simp at h
  | call f as => simp only [cls] at h; (repeat' split at h) <;> simp at h
  | app m sz x y =>
    cases m with
    | true => simp [cls] at h
    | false => simp only [cls] at h; split at h <;> simp at h
  | st sz a x => simp only [cls] at h; (repeat' split at h) <;> simp at h
  | callv | cpy | clr | mup | bad => simp [cls] at h
  | _ => rfl

theorem cls_not_still {E : Env} {fr : Fr} {H : Heap} {op : O} (h : cls E fr H op = .q ∨ (cls E fr H op).loud = true) : op.still = false := by
  cases op with
  | ld agg size a => simp only [cls] at h; split at h <;> simp [Cls.loud] at h
  | len k a => simp only [cls] at h; split at h <;> simp [Cls.loud] at h
  | ixa k a i => simp only [cls] at h; split at h <;> simp [Cls.loud] at h
  | slc k a i j => simp only [cls] at h; split at h <;> simp [Cls.loud] at h
  | lkp k ok z m kk => simp only [cls] at h; split at h <;> simp [Cls.loud] at h
  | mv | pick | bld | nck | bin | un | cnv | mkf | sls | fad | fld | idx | ext | mx => simp [cls, Cls.loud] at h
  | _ => rfl
theorem q_grows {E : Env} {rec : Rec} {fr : Fr} {H H' : Heap} {op : O} {v : V} (he : evO E rec fr H op = some (v, H')) (hc : cls E fr H op = .q) (hn : op.isCall = false) : H.length < H'.length := by
  cases op with
  | alc sz z => simp only [evO] at he; cases he; simp
  | box x => simp only [evO] at he; split at he <;> cases he; simp
  | mks sz z l c =>
    simp only [evO] at he
    split at he
    · split at he <;> cases he; simp
    · cases he
  | mkm => simp only [evO] at he; cases he; simp
  | bsl m sz n z ps =>
    cases m with
    | true => simp only [evO] at he; split at he <;> cases he; simp
    | false =>
      simp only [evO] at he
      split at he
      · cases he
      · split at he <;> cases he; simp [frz_length]
  | call f as => simp [O.isCall] at hn
  | ld agg size a => simp only [cls] at hc; split at hc <;> simp at hc
  | len k a => simp only [cls] at hc; split at hc <;> simp at hc
  | ixa k a i => simp only [cls] at hc; split at hc <;> simp at hc
  | slc k a i j => simp only [cls] at hc; split at hc <;> simp at hc
  | lkp k ok z m kk => simp only [cls] at hc; split at hc <;> simp at hc
  | app m sz x y =>
    cases m with
    | true => simp [cls] at hc
    | false =>
      simp only [cls] at hc
      simp only [evO] at he
      split at hc
      · simp at hc
      · rename_i hx
        unfold evApp at he
        rw [hx] at he
        split at he
        · cases he
        · simp only at he
          split at he
          · cases he; simp
          · cases he
      · simp at hc
  | st sz a x => simp only [cls] at hc; (repeat' split at hc) <;> simp at hc
  | _ => simp [cls] at hc

section
variable {P : Program} {E : Env} {rec : Rec} {is : List I} {σ : Nat → Fr × Heap} {cs : List Cls} {B : Nat → Nat → Prop}
variable {T : Txt E rec is σ cs B} {μ0 μ μ' : Nat → Option Loc} {D0 D D' F0 F F' : Nat → Prop} {H0 : Heap} {w0 w w' : World} {n l : Nat} {S : Nat → Prop} {a : Act} {mix : Mx}

theorem draw_step (hE : EnvOk P E) (hrec : RecOk P rec) {ops : Array Oper} {o : Oper} {j : Nat} (hj : is[j]? = some (compI P mix ops o)) (hlt : ∀ d, o.dst = some d → d < n) (hS : ¬ S j) (hcl : ∀ i k, B k i → S k → S i) (hcl' : ∀ i, B j i → i ≠ j → S i)
    (h : Inv T μ0 D0 F0 H0 w0 n S l μ D F a w) (next : Act → World → Prop) (Q : Exit → Act → World → Prop) (hn : ∀ l' μ' D' F' a' w', Inv T μ0 D0 F0 H0 w0 n (fun i => S i ∨ i = j) l' μ' D' F' a' w' → next a' w') :
    if Region.wanted o (yielded ops a.tmps) then o.wp P a w next Q else next (a.put o.dst undef) w := by
  have hjl : j < is.length := (List.getElem?_eq_some_iff.1 hj).1
  obtain ⟨he, hc⟩ := T.step j _ hj
  have hfr := h.frame hj hS hcl hcl'
  have hdst : (compI P mix ops o).dst = o.dst := by unfold compI; split <;> rfl
  have hlt' : ∀ d, (compI P mix ops o).dst = some d → d < n := by rw [hdst]; exact hlt
  have hwant : wantedI (keep (compI P mix ops o).reads (σ j).1) (compI P mix ops o) = wantedI (σ j).1 (compI P mix ops o) := by
    unfold wantedI
    split
    · rfl
    · rename_i s b hg
      rw [keep_same _ _ _ (by unfold I.reads; rw [hg]; simp)]
  have hop := evO_same (E := E) (rec := rec) (H := (σ j).2) (op := (compI P mix ops o).op) (fr := keep (compI P mix ops o).reads (σ j).1) (fr' := (σ j).1) fun t ht => keep_same _ _ _ (by unfold I.reads; exact List.mem_append_right _ ht)
  generalize keep (compI P mix ops o).reads (σ j).1 = fr0 at hfr hwant hop
  rw [clsI_eq] at hc
  unfold evI at he
  rw [← hwant] at he hc
  rw [← hop.1] at he
  rw [← hop.2] at hc
  have stl : ∀ {v : V} {x : Value} {c : Cls}, cs[j]? = some c → c.loud = false → VR μ w F v x → (σ (j + 1)).1 = putD (σ j).1 (compI P mix ops o).dst v → next (a.put o.dst x) w := fun {v x c} h1 h2 h3 h4 => by
    have := h.still hj hlt' hS hcl hcl' h1 h2 h3 h4
    rw [hdst] at this
    exact hn _ _ _ _ _ _ this
  have main : ∀ {op : O} {g : Option (Nat × Bool)}, guardOf ops o = some g → (compI P mix ops o).grd = g → (compI P mix ops o).op = op → compO P mix o = some op → if Region.wanted o (yielded ops a.tmps) then o.wp P a w next Q else next (a.put o.dst undef) w := by
    intro op g hg hgi hopi hco
    rw [hopi] at he hc
    split at he
    · cases he
    · rename_i hw
      rw [wanted_ok hg hgi hw hfr]
      rw [hw] at hc
      simp only [Bool.false_eq_true, if_false]
      exact stl hc rfl .undef (congrArg Prod.fst (Option.some.inj he)).symm
    · rename_i hw
      rw [wanted_ok hg hgi hw hfr]
      rw [hw] at hc
      simp only [if_true]
      split at he
      · cases he
      · rename_i v H2 hev
        have e1 := (congrArg Prod.fst (Option.some.inj he)).symm
        have e2 : H2 = (σ (j + 1)).2 := congrArg Prod.snd (Option.some.inj he)
        subst e2
        simp only at hc e1
        cases hcc : cls E fr0 (σ j).2 op with
        | p =>
          rw [hcc] at hc
          obtain ⟨_, hd⟩ := op_still (D := fun _ => False) hco (cls_still hev (.inl hcc)) hev (fun id b hd => hd.elim) hfr fun id l hid => by rw [hcc] at hid; cases hid
          refine hd next Q fun x w' ⟨e, hv⟩ => ?_
          subst e
          exact stl hc rfl hv e1
        | rd id =>
          rw [hcc] at hc
          obtain ⟨_, hd⟩ := op_still hco (cls_still hev (.inr ⟨id, hcc⟩)) hev (h.rd hj hS hcl hcl' hc) hfr fun id' l hid hl hr => by
            rw [hcc] at hid; cases hid
            exact ⟨rfl, l, hl, hr⟩
          refine hd next Q fun x w' ⟨e, hv⟩ => ?_
          subst e
          exact stl hc rfl hv e1
        | q =>
          rw [hcc] at hc
          have hqa := h.q_at hS hcl hcl' hjl hc
          have hll := h.lt
          obtain ⟨Δ, hΔ⟩ := T.heap_pre j (l - j) (by omega) fun i c x y hi => hqa.2 i c x (by omega) hi
          rw [show j + (l - j) = l by omega] at hΔ
          have hrel : Rel μ (fun id => D id ∧ id < (σ j).2.length) F (σ j).2 w := by
            have := h.post.rel
            rw [hΔ] at this
            exact this.pre
          have hD : ∀ id L, id < (σ j).2.length → μ id = some L → L.real = true → D id ∧ id < (σ j).2.length := fun id L hid hL hr => ⟨(h.real id).2 ⟨by rw [hΔ]; simp; omega, L, hL, hr⟩, hid⟩
          have hhole := h.holes j hqa.1 hc hS
          have hdo : Does P o a w (Leaves μ (fun id => D id ∧ id < (σ j).2.length) F (σ j).2 w v (σ (j + 1)).2) := by
            cases hcall : op.isCall with
            | true => exact op_call hrec hE.prim hE.body hco hcall hev hrel hD hhole (.inl hcc) (fun id hid => ((h.real id).1 hid.1).2) hfr
            | false => exact op_heap hco (cls_not_still (.inl hcc)) hcall hev hrel hD (hhole _ (Nat.le_refl _) (q_grows hev hcc hcall)) hfr
          refine hdo next Q fun x w' ⟨μ', D', F', hp, hv⟩ => ?_
          obtain ⟨D'', hi⟩ := h.quiet hj hlt' hS hcl hcl' hc hp hv e1
          rw [hdst] at hi
          exact hn _ _ _ _ _ _ hi
        | f =>
          rw [hcc] at hc
          have hev2 := (evO_f hev hcc).2 (σ l).2
          have hm : Mem (fun _ _ _ _ _ => True) μ D F (σ l).2 w := ⟨trivial, h.post.rel, fun id L hid hL hr => (h.real id).2 ⟨hid, L, hL, hr⟩, fun id hid => ((h.real id).1 hid).2, h.fresh⟩
          refine op_any hE hrec hco hev2 hm hfr next Q fun x w' ⟨μ', D', F', hp, hv⟩ => ?_
          have hi := h.born hj hlt' hS hcl hcl' hc rfl (by simp [dynC]) hp hv e1
          rw [hdst] at hi
          exact hn _ _ _ _ _ _ hi
        | w b | l | x f =>
          have hloud : (dynC (σ j).2 (σ (j + 1)).2 (cls E fr0 (σ j).2 op)).loud = true := by rw [hcc]; rfl
          obtain ⟨ejl, _⟩ := h.w_at hS hcl' hjl hc hloud
          subst ejl
          have hm : Mem (fun _ _ _ _ _ => True) μ D F (σ j).2 w := ⟨trivial, h.post.rel, fun id L hid hL hr => (h.real id).2 ⟨hid, L, hL, hr⟩, fun id hid => ((h.real id).1 hid).2, h.fresh⟩
          refine op_any hE hrec hco hev hm hfr next Q fun x w' ⟨μ', D', F', hp, hv⟩ => ?_
          obtain ⟨l', hi⟩ := h.write hj hlt' hS hcl hcl' hc hloud hp hv e1
          rw [hdst] at hi
          exact hn _ _ _ _ _ _ hi
  cases hg : guardOf ops o with
  | none =>
    exfalso
    have : (compI P mix ops o).op = .bad ∧ (compI P mix ops o).grd = none := by unfold compI; rw [hg]; exact ⟨rfl, rfl⟩
    unfold wantedI at he
    rw [this.1, this.2] at he
    simp [evO] at he
  | some g =>
    cases hco : compO P mix o with
    | none =>
      have e1 : (compI P mix ops o).op = .bad := by unfold compI; rw [hg, hco]
      have e2 : (compI P mix ops o).grd = g := by unfold compI; rw [hg, hco]
      rw [e1] at he hc
      split at he
      · cases he
      · rename_i hw
        rw [wanted_ok hg e2 hw hfr]
        rw [hw] at hc
        simp only [Bool.false_eq_true, if_false]
        exact stl hc rfl .undef (congrArg Prod.fst (Option.some.inj he)).symm
      · simp [evO] at he
    | some op => exact main hg (by unfold compI; rw [hg, hco]) (by unfold compI; rw [hg, hco]) hco

theorem Inv.start (h : Rel μ D F H0 w) (hreal : ∀ id L, id < H0.length → μ id = some L → L.real = true → D id) (hdD : ∀ id, D id → ∃ L, μ id = some L ∧ L.real = true) (hf : ∀ id, H0.length ≤ id → μ id = none) {fr : Fr} (hσ : σ 0 = (fr, H0)) (hfr : FR μ w F n fr a) :
    ∃ l, Inv T μ D F H0 w n (fun _ => False) l μ D F a w := by
  obtain ⟨l, h1, h2, h3, h4⟩ := next_loud cs cs.length 0 (by omega)
  rw [T.len] at h2 h3
  have hpre : ∀ i, i ≤ l → ∃ Δ, (σ i).2 = H0 ++ Δ := fun i hi => by
    obtain ⟨Δ, e⟩ := T.heap_pre 0 i (by omega) fun k c x y hk => h4 k c x (by omega) hk
    rw [Nat.zero_add, hσ] at e
    exact ⟨Δ, e⟩
  obtain ⟨Δ, hΔ⟩ := hpre l (Nat.le_refl _)
  refine ⟨l, hfr.size, hfr.defers, fun t => ⟨0, Nat.zero_le _, fun i ins _ _ => ⟨fun s => s.elim, fun s => by omega⟩, by rw [hσ]; exact hfr.slot t⟩, h2, fun i c hi hl => ⟨fun s => s.elim, fun s => by rw [h4 i c (Nat.zero_le _) s hi] at hl; cases hl⟩, h3, hΔ ▸ (Post.refl h).ext hf Δ, fun id => ⟨fun hd => ⟨?_, hdD id hd⟩, fun ⟨hlt, L, hL, hr⟩ => ?_⟩, fun id hid => hf id ?_, fun i hi hq _ id x y => hf id ?_, fun i hi => ?_⟩
  · have := h.lt id hd; rw [hΔ]; simp; omega
  · rcases Nat.lt_or_ge id H0.length with c | c
    · exact hreal id L c hL hr
    · rw [hf id c] at hL; cases hL
  · rw [hΔ] at hid; simp at hid; omega
  · obtain ⟨Δ', e⟩ := hpre i (by omega)
    rw [e] at x; simp at x; omega
  · obtain ⟨Δ', e⟩ := hpre i hi
    rw [e]; simp

theorem Inv.done (h : Inv T μ0 D0 F0 H0 w0 n S l μ D F a w) (hS : ∀ i, i < is.length → S i) : l = is.length ∧ FR μ w F n (σ is.length).1 a := by
  have hl : l = is.length := by
    rcases Nat.eq_or_lt_of_le h.lt with e | e
    · exact e
    · obtain ⟨c, h1, h2⟩ := h.atl e
      have := (h.loud l c h1 h2).1 (hS l e)
      omega
  refine ⟨hl, h.size, h.defers, fun t => ?_⟩
  obtain ⟨m, h1, h2, h3⟩ := h.slot t
  have := T.slot_same t m (is.length - m) (by omega) fun i ins x y hi hd => by
    have := (h2 i ins hi hd).1 (hS i (by omega)); omega
  rw [show m + (is.length - m) = is.length by omega] at this
  rw [this]; exact h3

end


theorem slotsOk_spec {bits : List Nat} {is : List I} (h : slotsOk bits is = true) : ∀ (i j : Nat) a b d, is[i]? = some a → is[j]? = some b → a.dst = some d → (b.dst = some d ∨ d ∈ b.reads) → i ≠ j → (bits.getD (max i j) 0).testBit (min i j) = true := by
  intro i j a b d hi hj ha hb hne
  unfold slotsOk at h
  rw [List.all_eq_true] at h
  have h1 := h (a, i) (List.mk_mem_zipIdx_iff_getElem?.2 hi)
  simp only [ha, List.all_eq_true] at h1
  have h2 := h1 (b, j) (List.mk_mem_zipIdx_iff_getElem?.2 hj)
  simp only [Bool.or_eq_true, beq_iff_eq, Bool.not_eq_true', Bool.or_eq_false_iff] at h2
  rcases h2 with (h2 | h2) | h2
  · exact absurd h2 hne
  · exfalso
    rcases hb with hb | hb
    · rw [hb] at h2; simp at h2
    · have := h2.2; simp at this; exact this hb
  · exact h2

def unl (l : Array Bool) : Nat := l.toList.countP fun b => !b

theorem unl_set {l : Array Bool} {i : Nat} (h : l[i]? = some false) : unl l = unl (l.setIfInBounds i true) + 1 := by
  have hlt := (Array.getElem?_eq_some_iff.1 h).1
  have key : ∀ (xs : List Bool) (i : Nat), xs[i]? = some false → xs.countP (fun b => !b) = (xs.set i true).countP (fun b => !b) + 1 := by
    intro xs
    induction xs with
    | nil => intro i h; simp at h
    | cons x xs ih =>
      intro i h
      cases i with
      | zero => simp at h; subst h; simp
      | succ i =>
        simp only [List.getElem?_cons_succ] at h
        simp only [List.set_cons_succ, List.countP_cons]
        rw [ih i h]; omega
  unfold unl
  rw [Array.toList_setIfInBounds]
  exact key _ _ (by simpa using h)

theorem draw_ok {P : Program} {E : Env} (hE : EnvOk P E) (rec : Rec) (hrec : RecOk P rec) : DrawOk P E rec := by
  intro K gc mix n id ops fr fr' H H' cs a w Q hK hltn hedges hslots hmixed hev hdraw hsta hQ
  obtain ⟨σ, hσ0, hσN, hlen, hstep⟩ := evT_states _ _ _ _ hev
  obtain ⟨μ0, D0, F0, hm, hfr⟩ := hsta
  have hlenis : (ops.toList.map (compI P mix ops)).length = ops.size := by simp
  have T : Txt E rec (ops.toList.map (compI P mix ops)) σ cs fun j i => ((Region.before ops).toList.getD j 0).testBit i = true := by
    refine ⟨hlen, hstep, slotsOk_spec hslots, fun i j c d hij hc hd => ?_⟩
    have hj : j < (Region.before ops).toList.length := by
      have := (List.getElem?_eq_some_iff.1 hd).1
      rw [hlen, hlenis] at this
      rw [before_eq, Array.length_toList, bfold_size]; simpa using this
    have := okDraw_get 0 _ cs hdraw i j c d _ hij hc hd (List.getElem?_eq_getElem hj)
    rw [Nat.zero_add] at this
    rw [List.getD_eq_getElem?_getD, List.getElem?_eq_getElem hj]
    exact this
  have hm1 : Mem K μ0 D0 F0 H { w with drawn := w.drawn + 1 } := hm.post hK (Post.same hm.rel rfl rfl rfl rfl)
  have hfr1 : FR μ0 { w with drawn := w.drawn + 1 } F0 n fr a := hfr.mono (fun _ _ h => h) (fun _ _ => rfl) fun _ h => h
  generalize hw1 : ({ w with drawn := w.drawn + 1 } : World) = w1 at hm1 hfr1
  refine wp_region_any hmixed ?_
  rw [hw1]
  have main : ∀ (fuel : Nat) (listed : Array Bool) (l : Nat) (μ : Nat → Option Loc) (D F : Nat → Prop) (a : Act) (w : World), listed.size = ops.size → unl listed = fuel →
      (∀ j o, ops[j]? = some o → listed.getD j false = true → ∀ e ∈ o.after, Region.binds .any e = true → listed.getD e.on false = true) → Inv T μ0 D0 F0 H w1 n (fun i => listed.getD i false = true) l μ D F a w → wpAny P .any ops Q fuel listed a w := by
    intro fuel
    induction fuel with
    | zero =>
      intro listed l μ D F a w hsz hun hclo hinv
      have hall : ∀ i, i < ops.size → listed.getD i false = true := fun i hi => by
        have hi' : i < listed.toList.length := by simpa [hsz] using hi
        have h0 := List.countP_eq_zero.1 hun _ (List.getElem_mem hi')
        simp at h0
        simp [Array.getD_eq_getD_getElem?, hsz, hi, h0]
      refine ⟨?_, ?_⟩
      · rw [List.eq_nil_iff_forall_not_mem]
        intro j hj
        obtain ⟨h1, o, ho, _⟩ := mem_ready.1 hj
        have hjl := (Array.getElem?_eq_some_iff.1 ho).1
        have := hall j hjl
        simp [Array.getD_eq_getD_getElem?, hsz, hjl] at h1 this
        rw [h1] at this; cases this
      · obtain ⟨e, hfr2⟩ := hinv.done fun i hi => hall i (by rw [hlenis] at hi; exact hi)
        have hp := hinv.post
        rw [e, hσN] at hp
        rw [hσN] at hfr2
        exact hQ _ _ ⟨_, _, _, hm1.post hK hp, hfr2⟩
    | succ fuel ih =>
      intro listed l μ D F a w hsz hun hclo hinv
      refine ⟨fun hnil => ?_, fun j hj => ?_⟩
      · -- something is ready
        exfalso
        have hex : ∃ i, i < ops.size ∧ listed.getD i true = false := by
          have : 0 < listed.toList.countP fun b => !b := by unfold unl at hun; omega
          obtain ⟨b, hb, hb2⟩ := List.countP_pos_iff.1 this
          obtain ⟨i, hi, e⟩ := List.getElem_of_mem hb
          refine ⟨i, by simpa [hsz] using hi, ?_⟩
          have hi' : i < listed.size := by simpa using hi
          simp at hb2 e
          simp [Array.getD_eq_getD_getElem?, hi', e, hb2]
        have low : ∀ m i, i < m → i < ops.size → listed.getD i true = false → False := by
          intro m
          induction m with
          | zero => intro i hi; omega
          | succ m im =>
            intro i him hi hun
            have ho : ops[i]? = some ops[i] := Array.getElem?_eq_getElem hi
            have hnr : i ∉ Region.ready .any ops listed := by rw [hnil]; simp
            apply hnr
            refine mem_ready.2 ⟨hun, _, ho, fun e he hb => ?_⟩
            have hon : e.on < i := by
              unfold edgesOk at hedges
              rw [List.all_eq_true] at hedges
              have := hedges (ops[i], i) (List.mk_mem_zipIdx_iff_getElem?.2 (by simp [ho]))
              rw [Array.all_eq_true_iff_forall_mem] at this
              have := this e he
              rw [hb] at this
              simpa using this
            cases hl : listed.getD e.on false with
            | true => rfl
            | false =>
              exfalso
              refine im e.on (by omega) (by omega) ?_
              have : e.on < listed.size := by omega
              simp [Array.getD_eq_getD_getElem?, this] at hl ⊢
              exact hl
        obtain ⟨i, hi, hu⟩ := hex
        exact low (i + 1) i (by omega) hi hu
      · obtain ⟨h0, o, ho, hafter⟩ := mem_ready.1 hj
        have hjl := (Array.getElem?_eq_some_iff.1 ho).1
        have hget : listed[j]? = some false := by
          have hj' : j < listed.size := by omega
          simp [Array.getD_eq_getD_getElem?, hj'] at h0 ⊢
          exact h0
        have hS : ¬ (listed.getD j false = true) := by
          rw [Array.getD_eq_getD_getElem?, hget]; simp
        have hset : ∀ i, (listed.setIfInBounds j true).getD i false = true ↔ listed.getD i false = true ∨ i = j := fun i => by
          by_cases e : i = j
          · subst e
            have : i < listed.size := by omega
            simp [this]
          · rw [getD_set_ne false (Ne.symm e)]
            exact ⟨.inl, fun s => s.elim (fun x => x) fun x => absurd x e⟩
        have hclo' : ∀ k o, ops[k]? = some o → (listed.setIfInBounds j true).getD k false = true → ∀ e ∈ o.after, Region.binds .any e = true → (listed.setIfInBounds j true).getD e.on false = true := fun k o' hk hlk e he hb => by
          rcases (hset k).1 hlk with c | c
          · exact getD_set_true (hclo k o' hk c e he hb)
          · subst c; rw [ho] at hk; cases hk
            exact getD_set_true (hafter e he hb)
        unfold wpOp
        rw [ho]
        have hcl : ∀ i k, ((Region.before ops).toList.getD k 0).testBit i = true → listed.getD k false = true → listed.getD i false = true := fun i k hb hk => before_closed (S := fun i => listed.getD i false = true) hclo hb hk
        have hcl' : ∀ i, ((Region.before ops).toList.getD j 0).testBit i = true → i ≠ j → listed.getD i false = true := fun i hb hne => by
          have := before_closed (S := fun i => (listed.setIfInBounds j true).getD i false = true) hclo' hb ((hset j).2 (.inr rfl))
          exact ((hset i).1 this).resolve_right hne
        have hstep2 := draw_step (T := T) (mix := mix) hE hrec (ops := ops) (o := o) (j := j) (by rw [List.getElem?_map]; simp [ho]) (ltN_ok hltn rfl o (by simpa using Array.mem_of_getElem? ho)) hS hcl hcl' hinv (wpAny P .any ops Q fuel (listed.setIfInBounds j true)) Q fun l' μ' D' F' a' w' hi => by
          refine ih _ l' μ' D' F' a' w' (by simpa using hsz) (by have := unl_set hget; omega) hclo' ?_
          have : (fun i => listed.getD i false = true ∨ i = j) = fun i => (listed.setIfInBounds j true).getD i false = true := funext fun i => propext (hset i).symm
          rw [this] at hi
          exact hi
        simp only
        split
        · rename_i hw; rw [if_pos hw] at hstep2; exact .inl hstep2
        · rename_i hw; rw [if_neg hw] at hstep2; exact hstep2
  obtain ⟨l, hinv⟩ := Inv.start (T := T) hm1.rel hm1.hD hm1.dD hm1.fresh hσ0 hfr1
  refine main _ _ l μ0 D0 F0 a w1 (by simp) ?_ (fun j o _ hlj => ?_) ?_
  · unfold unl
    rw [Array.toList_replicate, List.countP_replicate]; simp
  · exfalso; rw [Array.getD_eq_getD_getElem?, Array.getElem?_replicate] at hlj; split at hlj <;> simp at hlj
  · have : (fun i => (Array.replicate ops.size false).getD i false = true) = fun _ => False := funext fun i => propext ⟨fun h => by rw [Array.getD_eq_getD_getElem?, Array.getElem?_replicate] at h; split at h <;> simp at h, fun h => h.elim⟩
    rw [this]
    exact hinv
theorem sound {P : Program} {E : Env} (hE : EnvOk P E) (k : Nat) : RecOk P (run E k) := run_ok hE (fun k h => draw_ok hE (run E k) h) k

end Go.Proofs.Ytdgfpjlmpnfcgaa.Ev
namespace Go.Proofs.Ytdgfpjlmpnfcgaa.Ev
open Go Go.RowKit
set_option linter.unusedVariables false
set_option linter.unusedSimpArgs false

def RecLe (r r' : Rec) : Prop := ∀ f args H x, r f args H = some x → r' f args H = some x

section
variable {E : Env} {r r' : Rec}

theorem callM_mono {m : Mode} {g g' : List V → Heap → Option (V × Heap)} (h : ∀ args H x, g args H = some x → g' args H = some x) {args : List V} {H : Heap} {x : V × Heap} (he : callM m g args H = some x) : callM m g' args H = some x := by
  unfold callM at *
  split at he
  · exact h _ _ _ he
  · split at he
    · cases he
    · exact h _ _ _ he
  · split at he
    · cases he
    · split at he
      · cases he
      · rename_i v H1 h1
        rw [h _ _ _ h1]; exact he
  · split at he
    · cases he
    · split at he
      · cases he
      · rename_i v H1 h1
        rw [h _ _ _ h1]; exact he

theorem evCall_mono (h : RecLe r r') {f : FuncId} {args : List V} {H : Heap} {x : V × Heap} (he : evCall E r f args H = some x) : evCall E r' f args H = some x := by
  unfold evCall at *
  split at he
  · cases he
  · exact he
  · exact callM_mono (h f) he

theorem evO_mono (h : RecLe r r') {fr : Fr} {H : Heap} {op : O} {x : V × Heap} (he : evO E r fr H op = some x) : evO E r' fr H op = some x := by
  cases op with
  | call f as => exact evCall_mono h he
  | callv f as =>
    simp only [evO] at he ⊢
    split at he
    · exact evCall_mono h he
    · exact evCall_mono h he
    · cases he
  | bsl m sz n z ps => cases m <;> exact he
  | app m sz x y => cases m <;> exact he
  | _ => exact he

theorem evI_mono (h : RecLe r r') {s s' : Fr × Heap} {i : I} (he : evI E r s i = some s') : evI E r' s i = some s' := by
  unfold evI at *
  split at he
  · cases he
  · exact he
  · split at he
    · cases he
    · rename_i v H h1
      rw [evO_mono h h1]; exact he

theorem evIs_mono (h : RecLe r r') : ∀ {is : List I} {s s' : Fr × Heap}, evIs E r is s = some s' → evIs E r' is s = some s'
  | [], s, s', he => he
  | i :: is, s, s', he => by
    simp only [evIs] at *
    split at he
    · cases he
    · rename_i s1 h1
      rw [evI_mono h h1]; exact evIs_mono h he

theorem evT_mono (h : RecLe r r') : ∀ {is : List I} {s : Fr × Heap} {x}, evT E r is s = some x → evT E r' is s = some x
  | [], s, x, he => he
  | i :: is, s, x, he => by
    simp only [evT] at *
    split at he
    · cases he
    · rename_i s1 h1
      rw [evI_mono h h1]
      split at he
      · cases he
      · rename_i s2 cs h2
        simp only [evT_mono h h2]; exact he

theorem iter_mono {gc : Bool} {live : List Nat} {g g' : Fr × Heap → Option Out} (h : ∀ s x, g s = some x → g' s = some x) : ∀ {n n' : Nat} {s : Fr × Heap} {x : Out}, n ≤ n' → iter gc live g n s = some x → iter gc live g' n' s = some x
  | 0, _, _, _, _, he => by simp [iter] at he
  | n + 1, 0, _, _, hn, _ => by omega
  | n + 1, n' + 1, s, x, hn, he => by
    simp only [iter] at *
    cases hg : g s with
    | none => simp [hg] at he
    | some y =>
      rw [hg] at he
      rw [h s y hg]
      obtain ⟨e, s'⟩ := y
      cases e with
      | norm => exact iter_mono h (by omega) he
      | exit id => exact he
      | ret => exact he

theorem exec_mono (h : RecLe r r') {n n' : Nat} (hn : n ≤ n') : ∀ {c : C} {s : Fr × Heap} {x : Out}, exec E r n c s = some x → exec E r' n' c s = some x := by
  intro c
  induction c with
  | skip => intro s x he; exact he
  | reg d bits is =>
    intro s x he
    cases d with
    | false =>
      simp only [exec] at *
      split at he
      · cases he
      · rename_i s' h1
        rw [evIs_mono h h1]; exact he
    | true =>
      simp only [exec] at *
      split at he
      · cases he
      · rename_i s' cs h1
        rw [evT_mono h h1]; exact he
  | seq a b ia ib =>
    intro s x he
    simp only [exec] at *
    cases ha : exec E r n a s with
    | none => simp [ha] at he
    | some y =>
      rw [ha] at he
      rw [ia ha]
      obtain ⟨e, s'⟩ := y
      cases e with
      | norm => exact ib he
      | exit id => exact he
      | ret => exact he
  | cond c a b ia ib =>
    intro s x he
    simp only [exec] at *
    split at he
    · rename_i t ht
      cases t with
      | true => exact ia he
      | false => exact ib he
    · cases he
  | block id c ic =>
    intro s x he
    simp only [exec] at *
    cases hc : exec E r n c s with
    | none => simp [hc] at he
    | some y =>
      rw [hc] at he
      rw [ic hc]
      exact he
  | loop gc live c ic =>
    intro s x he
    simp only [exec] at *
    exact iter_mono (fun s x => ic) hn he
  | exit id => intro s x he; exact he
  | ret => intro s x he; exact he
  | bad => intro s x he; exact he

theorem run_succ : ∀ k, RecLe (run E k) (run E (k + 1))
  | 0 => fun f args H x he => by simp [run] at he
  | k + 1 => fun f args H x he => by
    simp only [run] at he
    rw [run]
    split at he
    · rename_i F hF
      split at he
      · rename_i hc
        simp only [hF]
        rw [if_pos hc]
        split at he
        · rename_i fr H1 h1
          rw [exec_mono (run_succ k) (Nat.le_succ k) h1]; exact he
        · rename_i fr H1 h1
          rw [exec_mono (run_succ k) (Nat.le_succ k) h1]; exact he
        · cases he
      · cases he
    · cases he

theorem run_mono {k k' : Nat} (h : k ≤ k') : RecLe (run E k) (run E k') := by
  induction h with
  | refl => exact fun _ _ _ _ h => h
  | step h ih => exact fun f args H x he => run_succ _ f args H x (ih f args H x he)

end
noncomputable def den (E : Env) : Rec := fun f args H => open Classical in if h : ∃ x, ∃ k, run E k f args H = some x then some h.choose else none
noncomputable def execD (E : Env) (c : C) (s : Fr × Heap) : Option Out := open Classical in if h : ∃ x, ∃ k, exec E (run E k) k c s = some x then some h.choose else none

section
variable {E : Env}

theorem run_det {f : FuncId} {args : List V} {H : Heap} {k k' : Nat} {x x' : V × Heap} (h : run E k f args H = some x) (h' : run E k' f args H = some x') : x = x' := by
  have h1 := run_mono (Nat.le_max_left k k') f args H x h
  have h2 := run_mono (Nat.le_max_right k k') f args H x' h'
  rw [h1] at h2; exact Option.some.inj h2

theorem den_iff {f : FuncId} {args : List V} {H : Heap} {x : V × Heap} : den E f args H = some x ↔ ∃ k, run E k f args H = some x := by
  unfold den
  constructor
  · intro h
    split at h
    · rename_i hx
      obtain ⟨k, hk⟩ := hx.choose_spec
      exact ⟨k, by rw [hk]; exact h⟩
    · cases h
  · rintro ⟨k, hk⟩
    have hx : ∃ x, ∃ k, run E k f args H = some x := ⟨x, k, hk⟩
    rw [dif_pos hx]
    obtain ⟨k', hk'⟩ := hx.choose_spec
    rw [run_det hk' hk]

theorem execD_iff {c : C} {s : Fr × Heap} {x : Out} : execD E c s = some x ↔ ∃ k, exec E (run E k) k c s = some x := by
  have det : ∀ {k k' x x'}, exec E (run E k) k c s = some x → exec E (run E k') k' c s = some x' → x = x' := fun {k k' x x'} h h' => by
    have h1 := exec_mono (run_mono (Nat.le_max_left k k')) (Nat.le_max_left k k') h
    have h2 := exec_mono (run_mono (Nat.le_max_right k k')) (Nat.le_max_right k k') h'
    rw [h1] at h2; exact Option.some.inj h2
  unfold execD
  constructor
  · intro h
    split at h
    · rename_i hx
      obtain ⟨k, hk⟩ := hx.choose_spec
      exact ⟨k, by rw [hk]; exact h⟩
    · cases h
  · rintro ⟨k, hk⟩
    have hx : ∃ x, ∃ k, exec E (run E k) k c s = some x := ⟨x, k, hk⟩
    rw [dif_pos hx]
    obtain ⟨k', hk'⟩ := hx.choose_spec
    rw [det hk' hk]

theorem run_le_den (k : Nat) : RecLe (run E k) (den E) := fun f args H x h => den_iff.2 ⟨k, h⟩

theorem callM_lim {m : Mode} {f : FuncId} {args : List V} {H : Heap} {x : V × Heap} (he : callM m (den E f) args H = some x) : ∃ k, callM m (run E k f) args H = some x := by
  unfold callM at he
  split at he
  · obtain ⟨k, hk⟩ := den_iff.1 he
    exact ⟨k, hk⟩
  · split at he
    · cases he
    · rename_i as l h1
      obtain ⟨k, hk⟩ := den_iff.1 he
      exact ⟨k, by unfold callM; simp only [h1]; exact hk⟩
  · split at he
    · cases he
    · rename_i ts l h1
      split at he
      · cases he
      · rename_i v H1 h2
        obtain ⟨k, hk⟩ := den_iff.1 h2
        exact ⟨k, by unfold callM; simp only [h1, hk]; exact he⟩
  · split at he
    · cases he
    · rename_i ts l h1
      split at he
      · cases he
      · rename_i v H1 h2
        obtain ⟨k, hk⟩ := den_iff.1 h2
        exact ⟨k, by unfold callM; simp only [h1, hk]; exact he⟩

theorem evCall_lim {f : FuncId} {args : List V} {H : Heap} {x : V × Heap} (he : evCall E (den E) f args H = some x) : ∃ k, evCall E (run E k) f args H = some x := by
  unfold evCall at he
  split at he
  · cases he
  · rename_i m s hs
    exact ⟨0, by unfold evCall; rw [hs]; exact he⟩
  · rename_i F hF
    obtain ⟨k, hk⟩ := callM_lim he
    exact ⟨k, by unfold evCall; rw [hF]; exact hk⟩

theorem evO_lim {fr : Fr} {H : Heap} {op : O} {x : V × Heap} (he : evO E (den E) fr H op = some x) : ∃ k, evO E (run E k) fr H op = some x := by
  cases op with
  | call f as => exact evCall_lim he
  | callv f as =>
    simp only [evO] at he ⊢
    split at he
    · exact evCall_lim he
    · exact evCall_lim he
    · cases he
  | bsl m sz n z ps => cases m <;> exact ⟨0, he⟩
  | app m sz x y => cases m <;> exact ⟨0, he⟩
  | _ => exact ⟨0, he⟩

theorem evI_lim {s s' : Fr × Heap} {i : I} (he : evI E (den E) s i = some s') : ∃ k, evI E (run E k) s i = some s' := by
  unfold evI at *
  split at he
  · cases he
  · exact ⟨0, he⟩
  · split at he
    · cases he
    · rename_i v H h1
      obtain ⟨k, hk⟩ := evO_lim h1
      exact ⟨k, by rw [hk]; exact he⟩

theorem evIs_lim : ∀ {is : List I} {s s' : Fr × Heap}, evIs E (den E) is s = some s' → ∃ k, evIs E (run E k) is s = some s'
  | [], s, s', he => ⟨0, he⟩
  | i :: is, s, s', he => by
    simp only [evIs] at he
    split at he
    · cases he
    · rename_i s1 h1
      obtain ⟨k1, hk1⟩ := evI_lim h1
      obtain ⟨k2, hk2⟩ := evIs_lim he
      exact ⟨max k1 k2, by simp only [evIs]; rw [evI_mono (run_mono (Nat.le_max_left k1 k2)) hk1]; exact evIs_mono (run_mono (Nat.le_max_right k1 k2)) hk2⟩

theorem evT_lim : ∀ {is : List I} {s : Fr × Heap} {x}, evT E (den E) is s = some x → ∃ k, evT E (run E k) is s = some x
  | [], s, x, he => ⟨0, he⟩
  | i :: is, s, x, he => by
    simp only [evT] at he
    split at he
    · cases he
    · rename_i s1 h1
      split at he
      · cases he
      · rename_i s2 cs h2
        obtain ⟨k1, hk1⟩ := evI_lim h1
        obtain ⟨k2, hk2⟩ := evT_lim h2
        exact ⟨max k1 k2, by simp only [evT]; rw [evI_mono (run_mono (Nat.le_max_left k1 k2)) hk1]; simp only [evT_mono (run_mono (Nat.le_max_right k1 k2)) hk2]; exact he⟩


def andN (r : Option Out) (f : Fr × Heap → Option Out) : Option Out :=
  match r with
  | some (.norm, s) => f s
  | r => r

theorem opt_ext {α : Type} {a b : Option α} (h : ∀ x, a = some x ↔ b = some x) : a = b := by
  cases a with
  | none => cases b with
    | none => rfl
    | some y => have := (h y).2 rfl; cases this
  | some x => exact ((h x).1 rfl).symm

theorem execD_skip (s : Fr × Heap) : execD E .skip s = some (.norm, s) := execD_iff.2 ⟨0, rfl⟩
theorem execD_exit (id : Nat) (s : Fr × Heap) : execD E (.exit id) s = some (.exit id, s) := execD_iff.2 ⟨0, rfl⟩
theorem execD_ret (s : Fr × Heap) : execD E .ret s = some (.ret, s) := execD_iff.2 ⟨0, rfl⟩

theorem execD_reg (bits : List Nat) (is : List I) (s : Fr × Heap) : execD E (.reg false bits is) s = match evIs E (den E) is s with | none => none | some s' => some (.norm, s') := by
  refine opt_ext fun x => ?_
  rw [execD_iff]
  constructor
  · rintro ⟨k, hk⟩
    simp only [exec] at hk
    split at hk
    · cases hk
    · rename_i s' h1
      rw [evIs_mono (run_le_den k) h1]; exact hk
  · intro h
    split at h
    · cases h
    · rename_i s' h1
      obtain ⟨k, hk⟩ := evIs_lim h1
      exact ⟨k, by simp only [exec, hk]; exact h⟩

theorem execD_draw (bits : List Nat) (is : List I) (s : Fr × Heap) : execD E (.reg true bits is) s = match evT E (den E) is s with | none => none | some (s', cs) => if okDraw 0 bits cs then some (.norm, s') else none := by
  refine opt_ext fun x => ?_
  rw [execD_iff]
  constructor
  · rintro ⟨k, hk⟩
    simp only [exec] at hk
    split at hk
    · cases hk
    · rename_i s' cs h1
      rw [evT_mono (run_le_den k) h1]; exact hk
  · intro h
    split at h
    · cases h
    · rename_i s' cs h1
      obtain ⟨k, hk⟩ := evT_lim h1
      exact ⟨k, by simp only [exec, hk]; exact h⟩

theorem execD_seq (a b : C) (s : Fr × Heap) : execD E (.seq a b) s = andN (execD E a s) (execD E b) := by
  refine opt_ext fun x => ?_
  rw [execD_iff]
  constructor
  · rintro ⟨k, hk⟩
    simp only [exec] at hk
    cases ha : exec E (run E k) k a s with
    | none => simp [ha] at hk
    | some y =>
      rw [execD_iff.2 ⟨k, ha⟩]
      rw [ha] at hk
      obtain ⟨e, s'⟩ := y
      cases e with
      | norm => exact execD_iff.2 ⟨k, hk⟩
      | exit id => exact hk
      | ret => exact hk
  · intro h
    cases ha : execD E a s with
    | none => simp [ha, andN] at h
    | some y =>
      rw [ha] at h
      obtain ⟨k, hk⟩ := execD_iff.1 ha
      obtain ⟨e, s'⟩ := y
      cases e with
      | norm =>
        obtain ⟨k2, hk2⟩ := execD_iff.1 (show execD E b s' = some x from h)
        exact ⟨max k k2, by simp only [exec, exec_mono (run_mono (Nat.le_max_left k k2)) (Nat.le_max_left k k2) hk]; exact exec_mono (run_mono (Nat.le_max_right k k2)) (Nat.le_max_right k k2) hk2⟩
      | exit id => exact ⟨k, by simp only [exec, hk]; exact h⟩
      | ret => exact ⟨k, by simp only [exec, hk]; exact h⟩

theorem execD_cond (c : A) (a b : C) (s : Fr × Heap) {t : Bool} (h : c.ev s.1 = .t (.bool t)) : execD E (.cond c a b) s = if t then execD E a s else execD E b s := by
  refine opt_ext fun x => ?_
  rw [execD_iff]
  simp only [exec, h]
  cases t with
  | true => simp only [if_true]; rw [execD_iff]
  | false => simp only [Bool.false_eq_true, if_false]; rw [execD_iff]

theorem execD_cond' (c : A) (a b : C) (s : Fr × Heap) : execD E (.cond c a b) s = match c.ev s.1 with | .t (.bool t) => if t then execD E a s else execD E b s | _ => none := by
  split
  · rename_i t h; exact execD_cond c a b s h
  · rename_i h
    refine opt_ext fun x => ?_
    rw [execD_iff]
    refine ⟨fun ⟨k, hk⟩ => ?_, fun h => by cases h⟩
    simp only [exec] at hk
    cases hk

def outB (id : Nat) (r : Option Out) : Option Out :=
  match r with
  | some (.exit j, s) => if j = id then some (.norm, s) else some (.exit j, s)
  | r => r

theorem execD_block (id : Nat) (c : C) (s : Fr × Heap) : execD E (.block id c) s = outB id (execD E c s) := by
  refine opt_ext fun x => ?_
  rw [execD_iff]
  constructor
  · rintro ⟨k, hk⟩
    simp only [exec] at hk
    cases hc : exec E (run E k) k c s with
    | none => simp [hc] at hk
    | some y =>
      rw [execD_iff.2 ⟨k, hc⟩]
      rw [hc] at hk
      exact hk
  · intro h
    cases hc : execD E c s with
    | none => simp [hc, outB] at h
    | some y =>
      rw [hc] at h
      obtain ⟨k, hk⟩ := execD_iff.1 hc
      exact ⟨k, by simp only [exec, hk]; exact h⟩

theorem execD_loop (gc : Bool) (live : List Nat) (c : C) (s : Fr × Heap) : execD E (.loop gc live c) s = andN (execD E c (gcFr gc live s)) (execD E (.loop gc live c)) := by
  refine opt_ext fun x => ?_
  rw [execD_iff]
  constructor
  · rintro ⟨k, hk⟩
    simp only [exec] at hk
    cases k with
    | zero => simp [iter] at hk
    | succ k =>
      simp only [iter] at hk
      cases hc : exec E (run E (k + 1)) (k + 1) c (gcFr gc live s) with
      | none => simp [hc] at hk
      | some y =>
        rw [execD_iff.2 ⟨k + 1, hc⟩]
        rw [hc] at hk
        obtain ⟨e, s'⟩ := y
        cases e with
        | norm =>
          refine execD_iff.2 ⟨k + 1, ?_⟩
          simp only [exec]
          exact iter_mono (fun _ _ h => h) (Nat.le_succ k) hk
        | exit id => exact hk
        | ret => exact hk
  · intro h
    cases hc : execD E c (gcFr gc live s) with
    | none => simp [hc, andN] at h
    | some y =>
      rw [hc] at h
      obtain ⟨k, hk⟩ := execD_iff.1 hc
      obtain ⟨e, s'⟩ := y
      cases e with
      | norm =>
        obtain ⟨k2, hk2⟩ := execD_iff.1 (show execD E (.loop gc live c) s' = some x from h)
        refine ⟨max k k2 + 1, ?_⟩
        simp only [exec] at hk2 ⊢
        simp only [iter]
        rw [exec_mono (run_mono (Nat.le_succ_of_le (Nat.le_max_left k k2))) (Nat.le_succ_of_le (Nat.le_max_left k k2)) hk]
        exact iter_mono (fun s x h => exec_mono (run_mono (Nat.le_succ_of_le (Nat.le_max_right k k2))) (Nat.le_succ_of_le (Nat.le_max_right k k2)) h) (Nat.le_max_right k k2) hk2
      | exit id => exact ⟨k + 1, by simp only [exec, iter]; rw [exec_mono (run_mono (Nat.le_succ k)) (Nat.le_succ k) hk]; exact h⟩
      | ret => exact ⟨k + 1, by simp only [exec, iter]; rw [exec_mono (run_mono (Nat.le_succ k)) (Nat.le_succ k) hk]; exact h⟩
def endO (res : List R) : Option Out → Option (V × Heap)
  | some (.norm, fr, H) => match resV fr H res with | some vs => some (resOf vs, H) | none => none
  | some (.ret, fr, H) => match resV fr H res with | some vs => some (resOf vs, H) | none => none
  | _ => none

theorem den_ir {f : FuncId} {F : Fn} (hE : E f = some (.ir F)) (args : List V) (H : Heap) (hl : args.length = F.nargs) (hH : (F.mode == .own || F.mode == .ownF) = false ∨ H.length = 0) :
    den E f args H = endO F.res (execD E F.body (frameOf 0 args, H)) := by
  refine opt_ext fun x => ?_
  rw [den_iff]
  constructor
  · rintro ⟨k, hk⟩
    cases k with
    | zero => simp [run] at hk
    | succ k =>
      simp only [run, hE, hl, hH, and_self, if_true] at hk
      split at hk
      · rename_i fr H1 h1
        rw [execD_iff.2 ⟨k, h1⟩]; exact hk
      · rename_i fr H1 h1
        rw [execD_iff.2 ⟨k, h1⟩]; exact hk
      · cases hk
  · intro h
    cases hc : execD E F.body (frameOf 0 args, H) with
    | none => simp [hc, endO] at h
    | some y =>
      rw [hc] at h
      obtain ⟨k, hk⟩ := execD_iff.1 hc
      refine ⟨k + 1, ?_⟩
      simp only [run, hE, hl, hH, and_self, if_true, hk]
      obtain ⟨e, fr, H1⟩ := y
      cases e with
      | norm => exact h
      | exit id => cases h
      | ret => exact h
theorem loop_to {gc : Bool} {live : List Nat} {c : C} (st : Nat → Fr × Heap) (n : Nat) (h : ∀ i, i < n → execD E c (gcFr gc live (st i)) = some (.norm, st (i + 1))) : execD E (.loop gc live c) (st 0) = execD E (.loop gc live c) (st n) := by
  induction n with
  | zero => rfl
  | succ n ih =>
    rw [ih fun i hi => h i (by omega), execD_loop, h n (by omega)]; rfl

end
theorem den_sound {P : Program} {E : Env} (hE : EnvOk P E) : RecOk P (den E) := fun f args H v H' h => by
  obtain ⟨k, hk⟩ := den_iff.1 h
  exact sound hE k f args H v H' hk

end Go.Proofs.Ytdgfpjlmpnfcgaa.Ev
namespace Go.Proofs.Ytdgfpjlmpnfcgaa.Ev
open Go Go.RowKit
set_option linter.unusedVariables false
set_option linter.unusedSimpArgs false
noncomputable def loopF (E : Env) (gc : Bool) (live : List Nat) (c : C) (s : Fr × Heap) : Option Out := andN (execD E c s) (fun s' => execD E (.loop gc live c) s')

theorem execD_loopF {E : Env} (gc : Bool) (live : List Nat) (c : C) (s : Fr × Heap) : execD E (.loop gc live c) s = loopF E gc live c (gcFr gc live s) := execD_loop gc live c s
theorem loopF_eq {E : Env} (gc : Bool) (live : List Nat) (c : C) (s : Fr × Heap) : loopF E gc live c s = andN (execD E c s) (fun s' => loopF E gc live c (gcFr gc live s')) := by
  show andN (execD E c s) (fun s' => execD E (.loop gc live c) s') = _
  congr 1
  exact funext fun s' => execD_loopF gc live c s'

noncomputable def loopK (E : Env) (gc : Bool) (live : List Nat) (c : C) (s : Fr × Heap) : Option Out := loopF E gc live c (gcFr gc live s)
@[simp] theorem loopK_eq {E : Env} (gc : Bool) (live : List Nat) (c : C) (fr : Fr) (H : Heap) : loopK E gc live c (fr, H) = loopF E gc live c (gcFr gc live (fr, H)) := rfl
theorem loopF_K {E : Env} (gc : Bool) (live : List Nat) (c : C) (s : Fr × Heap) : loopF E gc live c s = andN (execD E c s) (loopK E gc live c) := loopF_eq gc live c s

@[reducible] def ti (n : Int) : T := .int .i64 n
@[reducible] def tb (b : Bool) : T := .bool b
def til (l : List Int) : List T := l.map fun n => .int .i64 n
@[reducible] def tl (l : List Int) : T := .lst 1 (til l)
theorem tl_eq (l : List Int) : tl l = .lst 1 (til l) := rfl
theorem til_length (l : List Int) : (til l).length = l.length := by simp [til]
theorem til_get (l : List Int) (i : Nat) : (til l)[i]? = l[i]?.map fun n => .int .i64 n := by simp [til]
theorem til_getE (l : List Int) (i : Nat) (h : i < (til l).length) : (til l)[i] = .int .i64 (l[i]'(by simpa [til] using h)) := by simp [til]
theorem til_append (a b : List Int) : til (a ++ b) = til a ++ til b := by simp [til]
theorem til_nil : til [] = [] := rfl
theorem til_cons (x : Int) (l : List Int) : til (x :: l) = .int .i64 x :: til l := rfl
theorem til_drop (l : List Int) (n : Nat) : (til l).drop n = til (l.drop n) := by simp [til, List.map_drop]
theorem til_take (l : List Int) (n : Nat) : (til l).take n = til (l.take n) := by simp [til, List.map_take]
theorem til_set (l : List Int) (n : Nat) (x : Int) : (til l).set n (.int .i64 x) = til (l.set n x) := by simp [til, List.map_set]
theorem til_replicate (n : Nat) (x : Int) : List.replicate n (T.int .i64 x) = til (List.replicate n x) := by simp [til]
theorem til_flat (l : List Int) : (til l).all T.flat = true := by simp [til, T.flat, T.sc]
noncomputable def ownR (E : Env) (f : FuncId) (ts : List T) : Option (V × Heap) :=
  match den E f (ts.map .t) [] with
  | none => none
  | some (v, H1) => if (gcV v H1).1.flat && (gcV v H1).2.all Blk.flat then some (gcV v H1) else none
noncomputable def ownFR (E : Env) (f : FuncId) (ts : List T) : Option (V × Heap) :=
  match den E f (ts.map .t) [] with
  | none => none
  | some (v, H1) => some (gcV v H1)

def ownIn (r : Option (V × Heap)) (H : Heap) : Option (V × Heap) :=
  match r with
  | none => none
  | some (v, H2) => some (v.ren (fun i => some (H.length + i)), H ++ H2.map (Blk.ren fun i => some (H.length + i)))

def ownC (g : List T → Option (V × Heap)) (H : Heap) (args : Option (List T × List (Nat × Blk))) : Option (V × Heap) :=
  match args with
  | none => none
  | some (ts, _) => ownIn (g ts) H
def ownFC (g : List T → Option (V × Heap)) (H : Heap) (args : Option (List T × List (Nat × Blk))) : Option (V × Heap) :=
  match args with
  | none => none
  | some (ts, l) => match g ts with
    | none => none
    | some (v, H2) => some (v.ren (fun i => some (H.length + i)), frz H l ++ H2.map (Blk.ren fun i => some (H.length + i)))

theorem call_own {E : Env} {f : FuncId} {F : Fn} (hE : E f = some (.ir F)) (hm : F.mode = .own) (args : List V) (H : Heap) : evCall E (den E) f args H = ownC (ownR E f) H (rdL (rd H depth) args) := by
  unfold evCall ownC ownIn ownR
  simp only [hE, hm, callM]
  cases rdL (rd H depth) args with
  | none => rfl
  | some p =>
    obtain ⟨ts, l⟩ := p
    simp only
    cases den E f (ts.map .t) [] with
    | none => rfl
    | some q =>
      obtain ⟨v, H1⟩ := q
      simp only
      by_cases hc : ((gcV v H1).1.flat && (gcV v H1).2.all Blk.flat) = true
      · simp only [hc, if_true]
      · simp only [hc, if_false, Bool.false_eq_true]
theorem call_ownF {E : Env} {f : FuncId} {F : Fn} (hE : E f = some (.ir F)) (hm : F.mode = .ownF) (args : List V) (H : Heap) : evCall E (den E) f args H = ownFC (ownFR E f) H (rdL (rd H depth) args) := by
  unfold evCall ownFC ownFR
  simp only [hE, hm, callM]
  cases rdL (rd H depth) args with
  | none => rfl
  | some p =>
    obtain ⟨ts, l⟩ := p
    simp only
    cases den E f (ts.map .t) [] with
    | none => rfl
    | some q => rfl
def refC2 (g : List V → Heap → Option (V × Heap)) (H : Heap) (args : Option (List V × List (Nat × Blk))) : Option (V × Heap) :=
  match args with
  | none => none
  | some (as, l) => g as (frz H l)
theorem call_ref {E : Env} {f : FuncId} {F : Fn} (hE : E f = some (.ir F)) (hm : F.mode = .ref) (args : List V) (H : Heap) : evCall E (den E) f args H = refC2 (den E f) H (callM.rdArgs H args) := by
  unfold evCall refC2
  simp only [hE, hm, callM]
  cases callM.rdArgs H args <;> rfl
theorem call_refM {E : Env} {f : FuncId} {F : Fn} (hE : E f = some (.ir F)) (hm : F.mode = .refM) (args : List V) (H : Heap) : evCall E (den E) f args H = den E f args H := by
  unfold evCall
  simp only [hE, hm, callM]
def primR (s : Prim) (ts : List T) : Option (V × Heap) :=
  match s (ts.map .t) [] with
  | none => none
  | some (v, H1) => if (gcV v H1).1.flat && (gcV v H1).2.all Blk.flat then some (gcV v H1) else none
def primFR (s : Prim) (ts : List T) : Option (V × Heap) :=
  match s (ts.map .t) [] with
  | none => none
  | some (v, H1) => some (gcV v H1)
theorem call_prim {E : Env} {f : FuncId} {s : Prim} (hE : E f = some (.prim .own s)) (args : List V) (H : Heap) : evCall E (den E) f args H = ownC (primR s) H (rdL (rd H depth) args) := by
  unfold evCall ownC ownIn primR
  simp only [hE, callM]
  cases rdL (rd H depth) args with
  | none => rfl
  | some p =>
    obtain ⟨ts, l⟩ := p
    simp only
    cases s (ts.map .t) [] with
    | none => rfl
    | some q =>
      obtain ⟨v, H1⟩ := q
      simp only
      by_cases hc : ((gcV v H1).1.flat && (gcV v H1).2.all Blk.flat) = true
      · simp only [hc, if_true]
      · simp only [hc, if_false, Bool.false_eq_true]
theorem call_primF {E : Env} {f : FuncId} {s : Prim} (hE : E f = some (.prim .ownF s)) (args : List V) (H : Heap) : evCall E (den E) f args H = ownFC (primFR s) H (rdL (rd H depth) args) := by
  unfold evCall ownFC primFR
  simp only [hE, callM]
  cases rdL (rd H depth) args with
  | none => rfl
  | some p =>
    obtain ⟨ts, l⟩ := p
    simp only
    cases s (ts.map .t) [] with
    | none => rfl
    | some q => rfl
def cloneP (sz : Nat) : Prim := fun args H => match args, H with
  | [.t (.lst s xs)], [] => if s = sz ∧ xs.length ≤ lim then some (.ref 1 0 xs.length, [.dead, .pure sz xs]) else none
  | [.t .nil], [] => some (.ref 1 0 0, [.dead, .pure sz []])
  | _, _ => none

theorem ownR_ir {E : Env} {f : FuncId} {F : Fn} (hE : E f = some (.ir F)) (ts : List T) (hl : ts.length = F.nargs) : ownR E f ts =
    match endO F.res (execD E F.body (frameOf 0 (ts.map .t), [])) with
    | none => none
    | some (v, H1) => if (gcV v H1).1.flat && (gcV v H1).2.all Blk.flat then some (gcV v H1) else none := by
  unfold ownR
  rw [den_ir hE _ [] (by simpa using hl) (.inr rfl)]
theorem ownFR_ir {E : Env} {f : FuncId} {F : Fn} (hE : E f = some (.ir F)) (ts : List T) (hl : ts.length = F.nargs) : ownFR E f ts =
    match endO F.res (execD E F.body (frameOf 0 (ts.map .t), [])) with
    | none => none
    | some (v, H1) => some (gcV v H1) := by
  unfold ownFR
  rw [den_ir hE _ [] (by simpa using hl) (.inr rfl)]


theorem rd_t (H : Heap) (n : Nat) (x : T) : rd H (n + 1) (.t x) = some (x, []) := rfl

end Go.Proofs.Ytdgfpjlmpnfcgaa.Ev
namespace Go.Proofs.Ytdgfpjlmpnfcgaa.Ev
open Go Go.RowKit
set_option linter.unusedVariables false
set_option linter.unusedSimpArgs false

section
variable {α β : Type} {E : Env} {rec : Rec}
def andO (r : Option α) (f : α → Option β) : Option β := match r with | none => none | some x => f x
@[simp] theorem andO_some (x : α) (f : α → Option β) : andO (some x) f = f x := rfl
@[simp] theorem andO_none (f : α → Option β) : andO none f = none := rfl
@[congr] theorem andO_congr {r r' : Option α} (f : α → Option β) (h : r = r') : andO r f = andO r' f := by rw [h]

@[simp] theorem andN_norm (s : Fr × Heap) (f : Fr × Heap → Option Out) : andN (some (.norm, s)) f = f s := rfl
@[simp] theorem andN_ret (s : Fr × Heap) (f : Fr × Heap → Option Out) : andN (some (.ret, s)) f = some (.ret, s) := rfl
@[simp] theorem andN_exit (i : Nat) (s : Fr × Heap) (f : Fr × Heap → Option Out) : andN (some (.exit i, s)) f = some (.exit i, s) := rfl
@[congr] theorem andN_congr {r r' : Option Out} (f : Fr × Heap → Option Out) (h : r = r') : andN r f = andN r' f := by rw [h]
@[simp] theorem outB_norm (i : Nat) (s : Fr × Heap) : outB i (some (.norm, s)) = some (.norm, s) := rfl
@[simp] theorem outB_ret (i : Nat) (s : Fr × Heap) : outB i (some (.ret, s)) = some (.ret, s) := rfl
@[simp] theorem outB_exit (i j : Nat) (s : Fr × Heap) : outB i (some (.exit j, s)) = if j = i then some (.norm, s) else some (.exit j, s) := rfl

def nOut (s : Fr × Heap) : Option Out := some (.norm, s)
@[simp] theorem nOut_eq (s : Fr × Heap) : nOut s = some (.norm, s) := rfl
@[simp] theorem x_seq (a b : C) (s : Fr × Heap) : execD E (.seq a b) s = andN (execD E a s) (execD E b) := execD_seq a b s
@[simp] theorem x_reg (bits : List Nat) (is : List I) (s : Fr × Heap) : execD E (.reg false bits is) s = andO (evIs E (den E) is s) nOut := by
  rw [execD_reg]; cases evIs E (den E) is s <;> rfl
def drawOut (bits : List Nat) (x : (Fr × Heap) × List Cls) : Option Out := if okDraw 0 bits x.2 then some (.norm, x.1) else none
@[simp] theorem drawOut_eq (bits : List Nat) (s : Fr × Heap) (cs : List Cls) : drawOut bits (s, cs) = if okDraw 0 bits cs then some (.norm, s) else none := rfl
@[simp] theorem x_draw (bits : List Nat) (is : List I) (s : Fr × Heap) : execD E (.reg true bits is) s = andO (evT E (den E) is s) (drawOut bits) := by
  rw [execD_draw]; cases evT E (den E) is s <;> rfl
def condV (v : V) (f g : Fr × Heap → Option Out) (s : Fr × Heap) : Option Out := match v with | .t (.bool t) => if t then f s else g s | _ => none
@[simp] theorem condV_true (f g : Fr × Heap → Option Out) (s : Fr × Heap) : condV (.t (.bool true)) f g s = f s := rfl
@[simp] theorem condV_false (f g : Fr × Heap → Option Out) (s : Fr × Heap) : condV (.t (.bool false)) f g s = g s := rfl
@[simp] theorem x_cond (c : A) (a b : C) (s : Fr × Heap) : execD E (.cond c a b) s = condV (c.ev s.1) (execD E a) (execD E b) s := execD_cond' c a b s
@[simp] theorem x_block (id : Nat) (c : C) (s : Fr × Heap) : execD E (.block id c) s = outB id (execD E c s) := execD_block id c s
attribute [simp] execD_skip execD_exit execD_ret

@[simp] theorem s_nil (s : Fr × Heap) : evIs E rec [] s = some s := rfl
@[simp] theorem s_cons (i : I) (is : List I) (s : Fr × Heap) : evIs E rec (i :: is) s = andO (evI E rec s i) (evIs E rec is) := by
  simp only [evIs]; cases evI E rec s i <;> rfl
@[simp] theorem t_nil (s : Fr × Heap) : evT E rec [] s = some (s, []) := rfl
def addC (c : Cls) (x : (Fr × Heap) × List Cls) : Option ((Fr × Heap) × List Cls) := some (x.1, c :: x.2)
@[simp] theorem addC_eq (c : Cls) (s : Fr × Heap) (cs : List Cls) : addC c (s, cs) = some (s, c :: cs) := rfl
noncomputable def evTK (E : Env) (rec : Rec) (is : List I) (s : Fr × Heap) (i : I) (s' : Fr × Heap) : Option ((Fr × Heap) × List Cls) := andO (evT E rec is s') (addC (clsI E s s' i))
@[simp] theorem evTK_eq (is : List I) (s : Fr × Heap) (i : I) (s' : Fr × Heap) : evTK E rec is s i s' = andO (evT E rec is s') (addC (clsI E s s' i)) := rfl
@[simp] theorem t_cons (i : I) (is : List I) (s : Fr × Heap) : evT E rec (i :: is) s = andO (evI E rec s i) (evTK E rec is s i) := by
  simp only [evT]
  cases evI E rec s i with
  | none => rfl
  | some s' =>
    show (match evT E rec is s' with | none => none | some (s'', cs) => some (s'', clsI E s s' i :: cs)) = andO (evT E rec is s') _
    cases evT E rec is s' <;> rfl

@[simp] theorem w_none (fr : Fr) (d : Option Nat) (op : O) : wantedI fr ⟨d, none, op⟩ = some true := rfl
def wantV (v : V) (b : Bool) : Option Bool := match v with | .t (.bool c) => some (c == b) | .tup _ => some false | _ => none
@[simp] theorem wantV_u (vs : List V) (b : Bool) : wantV (.tup vs) b = some false := rfl
@[simp] theorem wantV_eq (c b : Bool) : wantV (.t (.bool c)) b = some (c == b) := rfl
@[simp] theorem w_some (fr : Fr) (d : Option Nat) (op : O) (s : Nat) (b : Bool) : wantedI fr ⟨d, some (s, b), op⟩ = wantV (fr.get s) b := rfl
def putV (fr : Fr) (d : Option Nat) (x : V × Heap) : Option (Fr × Heap) := some (putD fr d x.1, x.2)
@[simp] theorem putV_eq (fr : Fr) (d : Option Nat) (v : V) (H : Heap) : putV fr d (v, H) = some (putD fr d v, H) := rfl
def evW (E : Env) (rec : Rec) (s : Fr × Heap) (d : Option Nat) (op : O) (b : Bool) : Option (Fr × Heap) := match b with
  | true => andO (evO E rec s.1 s.2 op) (putV s.1 d)
  | false => some (putD s.1 d (.tup []), s.2)
@[simp] theorem evW_true (fr : Fr) (H : Heap) (d : Option Nat) (op : O) : evW E rec (fr, H) d op true = andO (evO E rec fr H op) (putV fr d) := rfl
@[simp] theorem evW_false (fr : Fr) (H : Heap) (d : Option Nat) (op : O) : evW E rec (fr, H) d op false = some (putD fr d (.tup []), H) := rfl
@[simp] theorem i_eq (s : Fr × Heap) (d : Option Nat) (g : Option (Nat × Bool)) (op : O) : evI E rec s ⟨d, g, op⟩ = andO (wantedI s.1 ⟨d, g, op⟩) (evW E rec s d op) := by
  unfold evI
  cases wantedI s.1 ⟨d, g, op⟩ with
  | none => rfl
  | some b => cases b with
    | false => rfl
    | true => show _ = andO (evO E rec s.1 s.2 op) (putV s.1 d); cases evO E rec s.1 s.2 op <;> rfl
def clsW (E : Env) (s : Fr × Heap) (op : O) (b : Option Bool) : Cls := match b with | some true => cls E s.1 s.2 op | _ => .p
@[simp] theorem clsW_true (fr : Fr) (H : Heap) (op : O) : clsW E (fr, H) op (some true) = cls E fr H op := rfl
@[simp] theorem clsW_false (s : Fr × Heap) (op : O) : clsW E s op (some false) = .p := rfl
@[simp] theorem clsI_w (s s' : Fr × Heap) (d : Option Nat) (g : Option (Nat × Bool)) (op : O) : clsI E s s' ⟨d, g, op⟩ = dynC s.2 s'.2 (clsW E s op (wantedI s.1 ⟨d, g, op⟩)) := rfl
@[simp] theorem dynC_p (H H' : Heap) : dynC H H' .p = .p := rfl
@[simp] theorem dynC_rd (H H' : Heap) (id : Nat) : dynC H H' (.rd id) = .rd id := rfl
@[simp] theorem dynC_q (H H' : Heap) : dynC H H' .q = .q := rfl
@[simp] theorem dynC_w (H H' : Heap) (id : Nat) : dynC H H' (.w id) = .w id := rfl
@[simp] theorem dynC_l (H H' : Heap) : dynC H H' .l = .x (sameB H H') := rfl
theorem sameB_t {H H' : Heap} {id : Nat} (h : H'[id]? = H[id]?) : sameB H H' id = true := by
  unfold sameB
  simp only [decide_eq_true_eq]
  intro x hx
  rw [h]; exact hx
attribute [simp] sameB_t

@[simp] theorem g_nil (t : Nat) : Fr.get [] t = .any := rfl
@[simp] theorem g_cons (s : Nat) (v : V) (r : Fr) (t : Nat) : Fr.get ((s, v) :: r) t = if s = t then v else Fr.get r t := rfl
@[simp] theorem p_nil (t : Nat) (v : V) : Fr.put [] t v = [(t, v)] := rfl
@[simp] theorem p_cons (s : Nat) (u : V) (r : Fr) (t : Nat) (v : V) : Fr.put ((s, u) :: r) t v = if s = t then (t, v) :: r else (s, u) :: Fr.put r t v := rfl
@[simp] theorem pd_none (fr : Fr) (v : V) : putD fr none v = fr := rfl
@[simp] theorem pd_some (fr : Fr) (d : Nat) (v : V) : putD fr (some d) v = fr.put d v := rfl
attribute [simp] A.ev A.evs frameOf


variable {fr : Fr} {H : Heap}
def keepH (H : Heap) (v : V) : Option (V × Heap) := some (v, H)
@[simp] theorem keepH_eq (H : Heap) (v : V) : keepH H v = some (v, H) := rfl
def keepT (H : Heap) (t : T) : Option (V × Heap) := some (.t t, H)
@[simp] theorem keepT_eq (H : Heap) (t : T) : keepT H t = some (.t t, H) := rfl

@[simp] theorem o_mv (x : A) : evO E rec fr H (.mv x) = some (x.ev fr, H) := rfl
def pickV (c a b : V) (H : Heap) : Option (V × Heap) := match c with | .t (.bool c) => some (bif c then a else b, H) | _ => none
@[simp] theorem pickV_t (a b : V) (H : Heap) : pickV (.t (.bool true)) a b H = some (a, H) := rfl
@[simp] theorem pickV_f (a b : V) (H : Heap) : pickV (.t (.bool false)) a b H = some (b, H) := rfl
@[simp] theorem o_pick (c a b : A) : evO E rec fr H (.pick c a b) = pickV (c.ev fr) (a.ev fr) (b.ev fr) H := rfl
@[simp] theorem o_alc (sz : Nat) (z : List T) : evO E rec fr H (.alc sz z) = some (.ptr H.length 0 0, H ++ [.box sz (z.map .t)]) := rfl
def boxV (H : Heap) (cs : List V) : Option (V × Heap) := some (.ptr H.length 0 0, H ++ [.box cs.length cs])
@[simp] theorem boxV_eq (H : Heap) (cs : List V) : boxV H cs = some (.ptr H.length 0 0, H ++ [.box cs.length cs]) := rfl
@[simp] theorem o_box (x : A) : evO E rec fr H (.box x) = andO (x.ev fr).cells (boxV H) := by simp only [evO]; cases (x.ev fr).cells <;> rfl
@[simp] theorem vc_agg (vs : List V) : V.cells (.agg vs) = some vs := rfl
@[simp] theorem vc_tagg (ts : List T) : V.cells (.t (.agg ts)) = some (ts.map .t) := rfl
@[simp] theorem vc_int (k : IntKind) (n : Int) : V.cells (.t (.int k n)) = some [.t (.int k n)] := rfl
@[simp] theorem vc_bool (b : Bool) : V.cells (.t (.bool b)) = some [.t (.bool b)] := rfl
@[simp] theorem vc_str (s : ByteArray) : V.cells (.t (.str s)) = some [.t (.str s)] := rfl
@[simp] theorem vc_lst (n : Nat) (l : List T) : V.cells (.t (.lst n l)) = some [.t (.lst n l)] := rfl
@[simp] theorem vc_nil : V.cells (.t .nil) = some [.t .nil] := rfl
@[simp] theorem vc_nilf : V.cells (.t .nilf) = some [.t .nilf] := rfl
@[simp] theorem vc_tclo (f : FuncId) (a b : List T) : V.cells (.t (.clo f a b)) = some [.t (.clo f a b)] := rfl
@[simp] theorem vc_tptr (t : T) : V.cells (.t (.ptr t)) = some [.t (.ptr t)] := rfl
@[simp] theorem vc_ref (a b c : Nat) : V.cells (.ref a b c) = some [.ref a b c] := rfl
@[simp] theorem vc_ptr (a b c : Nat) : V.cells (.ptr a b c) = some [.ptr a b c] := rfl
@[simp] theorem vc_rptr (t : T) (c : Nat) : V.cells (.rptr t c) = some [.rptr t c] := rfl
@[simp] theorem vc_clo (f : FuncId) (a b : List V) : V.cells (.clo f a b) = some [.clo f a b] := rfl
@[simp] theorem vc_map (id : Nat) : V.cells (.map id) = some [.map id] := rfl
@[simp] theorem tc_agg (ts : List T) : T.cells (.agg ts) = ts := rfl
@[simp] theorem tc_int (k : IntKind) (n : Int) : T.cells (.int k n) = [.int k n] := rfl
@[simp] theorem tc_bool (b : Bool) : T.cells (.bool b) = [.bool b] := rfl
@[simp] theorem tc_str (s : ByteArray) : T.cells (.str s) = [.str s] := rfl
@[simp] theorem tc_lst (n : Nat) (l : List T) : T.cells (.lst n l) = [.lst n l] := rfl
@[simp] theorem tc_nil : T.cells .nil = [.nil] := rfl
@[simp] theorem tc_nilf : T.cells .nilf = [.nilf] := rfl
@[simp] theorem tc_clo (f : FuncId) (a b : List T) : T.cells (.clo f a b) = [.clo f a b] := rfl
@[simp] theorem tc_ptr (t : T) : T.cells (.ptr t) = [.ptr t] := rfl
attribute [simp] T.one V.one splice one

def fillX (vs : List V) (o n : Nat) (r : List (Nat × Nat × V)) (cs : List V) : Option (List V) := if cs.length = n ∧ o + n ≤ vs.length then fillV (splice vs o cs) r else none
@[simp] theorem fillX_eq (vs : List V) (o n : Nat) (r : List (Nat × Nat × V)) (cs : List V) : fillX vs o n r cs = if cs.length = n ∧ o + n ≤ vs.length then fillV (splice vs o cs) r else none := rfl
@[simp] theorem fv_nil (vs : List V) : fillV vs [] = some vs := rfl
@[simp] theorem fv_cons (vs : List V) (o n : Nat) (x : V) (r : List (Nat × Nat × V)) : fillV vs ((o, n, x) :: r) = andO x.cells (fillX vs o n r) := by
  simp only [fillV]; cases x.cells <;> rfl
def aggV (H : Heap) (vs : List V) : Option (V × Heap) := some (.agg vs, H)
@[simp] theorem aggV_eq (H : Heap) (vs : List V) : aggV H vs = some (.agg vs, H) := rfl
@[simp] theorem o_bld (z : List T) (ps : List (Nat × Nat × A)) : evO E rec fr H (.bld z ps) = andO (fillV (z.map .t) (ps.map fun p => (p.1, p.2.1, p.2.2.ev fr))) (aggV H) := by
  simp only [evO]; cases fillV (z.map .t) (ps.map fun p => (p.1, p.2.1, p.2.2.ev fr)) <;> rfl
@[simp] theorem ft_nil (sz : Nat) (xs : List T) : fillT sz xs [] = some xs := rfl
@[simp] theorem ft_cons (sz : Nat) (xs : List T) (i : Nat) (t : T) (r : List (Nat × T)) : fillT sz xs ((i, t) :: r) = if t.el sz ∧ i < xs.length then fillT sz (xs.set i t) r else none := rfl
attribute [simp] T.el
def bslF (H : Heap) (sz n : Nat) (l : List (Nat × Blk)) (xs : List T) : Option (V × Heap) := some (.ref H.length 0 n, frz H l ++ [.pure sz xs])
@[simp] theorem bslF_eq (H : Heap) (sz n : Nat) (l : List (Nat × Blk)) (xs : List T) : bslF H sz n l xs = some (.ref H.length 0 n, frz H l ++ [.pure sz xs]) := rfl
def bslG (H : Heap) (sz n : Nat) (z : T) (ks : List Nat) (p : List T × List (Nat × Blk)) : Option (V × Heap) := andO (fillT sz (List.replicate n z) (ks.zip p.1)) (bslF H sz n p.2)
@[simp] theorem bslG_eq (H : Heap) (sz n : Nat) (z : T) (ks : List Nat) (ts : List T) (l : List (Nat × Blk)) : bslG H sz n z ks (ts, l) = andO (fillT sz (List.replicate n z) (ks.zip ts)) (bslF H sz n l) := rfl
@[simp] theorem o_bsl (sz n : Nat) (z : T) (ps : List (Nat × A)) : evO E rec fr H (.bsl false sz n z ps) = andO (rdL (rd H depth) (ps.map fun p => p.2.ev fr)) (bslG H sz n z (ps.map (·.1))) := by
  simp only [evO]
  cases rdL (rd H depth) (ps.map fun p => p.2.ev fr) with
  | none => rfl
  | some p =>
    obtain ⟨ts, l⟩ := p
    simp only [andO_some, bslG]
    cases fillT sz (List.replicate n z) ((ps.map (·.1)).zip ts) <;> rfl
@[simp] theorem ta_nil : tsAll [] = some [] := rfl
def tsC (x : T) (ts : List T) : Option (List T) := some (x :: ts)
@[simp] theorem tsC_eq (x : T) (ts : List T) : tsC x ts = some (x :: ts) := rfl
@[simp] theorem tf_nil : tsF [] = some [] := rfl
@[simp] theorem tf_cons (x : T) (vs : List V) : tsF (.t x :: vs) = andO (tsF vs) (tsC x) := by
  simp only [tsF]; cases tsF vs <;> rfl
def tsD (vs : List V) (xs : List T) : Option (List T) := andO (tsAll vs) (tsC (.agg xs))
@[simp] theorem tsD_eq (vs : List V) (xs : List T) : tsD vs xs = andO (tsAll vs) (tsC (.agg xs)) := rfl
@[simp] theorem ta_agg (us vs : List V) : tsAll (.agg us :: vs) = andO (tsF us) (tsD vs) := by
  simp only [tsAll]
  cases tsF us with
  | none => rfl
  | some xs => simp only [andO_some, tsD]; cases tsAll vs <;> rfl
@[simp] theorem ta_cons (x : T) (vs : List V) : tsAll (.t x :: vs) = andO (tsAll vs) (tsC x) := by
  simp only [tsAll]; cases tsAll vs <;> rfl
def bsfF (H : Heap) (sz : Nat) (xs : List T) : Option (V × Heap) := some (.t (.lst sz xs), H)
@[simp] theorem bsfF_eq (H : Heap) (sz : Nat) (xs : List T) : bsfF H sz xs = some (.t (.lst sz xs), H) := rfl
def bsfG (H : Heap) (sz n : Nat) (z : T) (ks : List Nat) (ts : List T) : Option (V × Heap) := andO (fillT sz (List.replicate n z) (ks.zip ts)) (bsfF H sz)
@[simp] theorem bsfG_eq (H : Heap) (sz n : Nat) (z : T) (ks : List Nat) (ts : List T) : bsfG H sz n z ks ts = andO (fillT sz (List.replicate n z) (ks.zip ts)) (bsfF H sz) := rfl
@[simp] theorem o_bsf (sz n : Nat) (z : T) (ps : List (Nat × A)) : evO E rec fr H (.bsf sz n z ps) = andO (tsAll (ps.map fun p => p.2.ev fr)) (bsfG H sz n z (ps.map (·.1))) := by
  simp only [evO]
  cases tsAll (ps.map fun p => p.2.ev fr) with
  | none => rfl
  | some ts =>
    simp only [andO_some, bsfG]
    cases fillT sz (List.replicate n z) ((ps.map (·.1)).zip ts) <;> rfl
def msfV (H : Heap) (sz : Nat) (z : T) (a b : V) : Option (V × Heap) := match a, b with
  | .t (.int _ l), .t (.int _ c) => if 0 ≤ l ∧ l ≤ c ∧ c ≤ lim then some (.t (.lst sz (List.replicate l.toNat z)), H) else none
  | _, _ => none
@[simp] theorem msfV_i (sz : Nat) (z : T) (k k' : IntKind) (l c : Int) : msfV H sz z (.t (.int k l)) (.t (.int k' c)) = if 0 ≤ l ∧ l ≤ c ∧ c ≤ lim then some (.t (.lst sz (List.replicate l.toNat z)), H) else none := rfl
@[simp] theorem o_msf (sz : Nat) (z : T) (l c : A) : evO E rec fr H (.msf sz z l c) = msfV H sz z (l.ev fr) (c.ev fr) := by
  simp only [evO]
  generalize l.ev fr = v
  generalize c.ev fr = u
  cases v with
  | t y => cases y <;> first | rfl | (cases u with | t z => cases z <;> rfl | _ => rfl)
  | _ => rfl
@[simp] theorem z_nil : frz H [] = H := rfl
@[simp] theorem z_cons (id : Nat) (b : Blk) (l : List (Nat × Blk)) : frz H ((id, b) :: l) = frz (H.set id b) l := rfl

@[simp] theorem rl_nil (g : V → Option (T × List (Nat × Blk))) : rdL g [] = some ([], []) := rfl
def rdL2 (p : T × List (Nat × Blk)) (q : List T × List (Nat × Blk)) : Option (List T × List (Nat × Blk)) := some (p.1 :: q.1, p.2 ++ q.2)
@[simp] theorem rdL2_eq (t : T) (l : List (Nat × Blk)) (ts : List T) (l' : List (Nat × Blk)) : rdL2 (t, l) (ts, l') = some (t :: ts, l ++ l') := rfl
def rdL1 (g : V → Option (T × List (Nat × Blk))) (vs : List V) (p : T × List (Nat × Blk)) : Option (List T × List (Nat × Blk)) := andO (rdL g vs) (rdL2 p)
@[simp] theorem rdL1_eq (g : V → Option (T × List (Nat × Blk))) (vs : List V) (p : T × List (Nat × Blk)) : rdL1 g vs p = andO (rdL g vs) (rdL2 p) := rfl
@[simp] theorem rl_cons (g : V → Option (T × List (Nat × Blk))) (v : V) (vs : List V) : rdL g (v :: vs) = andO (g v) (rdL1 g vs) := by
  simp only [rdL]
  cases g v with
  | none => rfl
  | some p =>
    show (match rdL g vs with | none => none | some (ts, l') => some (p.1 :: ts, p.2 ++ l')) = andO (rdL g vs) _
    cases rdL g vs <;> rfl
@[simp] theorem depth_eq : depth = 6 := rfl
@[simp] theorem r_t (n : Nat) (x : T) : rd H (n + 1) (.t x) = some (x, []) := rfl
@[simp] theorem r_t6 (x : T) : rd H 6 (.t x) = some (x, []) := rfl
def rdRef (id off len : Nat) (b : Blk) : Option (T × List (Nat × Blk)) := match b with
  | .pure sz xs => some (.lst sz ((xs.drop off).take len), [(id, .froz sz xs)])
  | .froz sz xs => some (.lst sz ((xs.drop off).take len), [])
  | _ => none
@[simp] theorem rdRef_p (id off len sz : Nat) (xs : List T) : rdRef id off len (.pure sz xs) = some (.lst sz ((xs.drop off).take len), [(id, .froz sz xs)]) := rfl
@[simp] theorem rdRef_f (id off len sz : Nat) (xs : List T) : rdRef id off len (.froz sz xs) = some (.lst sz ((xs.drop off).take len), []) := rfl
theorem r_ref (n id off len : Nat) : rd H (n + 1) (.ref id off len) = andO H[id]? (rdRef id off len) := by
  simp only [rd]
  cases h : H[id]? with
  | none => rfl
  | some b => cases b <;> rfl
@[simp] theorem r_ref6 (id off len : Nat) : rd H 6 (.ref id off len) = andO H[id]? (rdRef id off len) := r_ref 5 id off len
@[simp] theorem r_ref5 (id off len : Nat) : rd H 5 (.ref id off len) = andO H[id]? (rdRef id off len) := r_ref 4 id off len
@[simp] theorem r_ref4 (id off len : Nat) : rd H 4 (.ref id off len) = andO H[id]? (rdRef id off len) := r_ref 3 id off len
@[simp] theorem r_t5 (x : T) : rd H 5 (.t x) = some (x, []) := rfl
@[simp] theorem r_t4 (x : T) : rd H 4 (.t x) = some (x, []) := rfl
def rdAgg (p : List T × List (Nat × Blk)) : Option (T × List (Nat × Blk)) := some (.agg p.1, p.2)
@[simp] theorem rdAgg_eq (ts : List T) (l : List (Nat × Blk)) : rdAgg (ts, l) = some (.agg ts, l) := rfl
theorem r_agg (n : Nat) (vs : List V) : rd H (n + 1) (.agg vs) = andO (rdL (rd H n) vs) rdAgg := by
  simp only [rd]; cases rdL (rd H n) vs <;> rfl
@[simp] theorem r_agg6 (vs : List V) : rd H 6 (.agg vs) = andO (rdL (rd H 5) vs) rdAgg := r_agg 5 vs
@[simp] theorem r_agg5 (vs : List V) : rd H 5 (.agg vs) = andO (rdL (rd H 4) vs) rdAgg := r_agg 4 vs
def rdBox (id sz : Nat) (p : List T × List (Nat × Blk)) : Option (T × List (Nat × Blk)) := if 0 < sz ∧ sz = p.1.length ∧ p.1.all T.one then some (.ptr (one p.1), (id, .froz sz [one p.1]) :: p.2) else none
@[simp] theorem rdBox_eq (id sz : Nat) (ts : List T) (l : List (Nat × Blk)) : rdBox id sz (ts, l) = if 0 < sz ∧ sz = ts.length ∧ ts.all T.one then some (.ptr (one ts), (id, .froz sz [one ts]) :: l) else none := rfl
def rdPtr (g : V → Option (T × List (Nat × Blk))) (id : Nat) (b : Blk) : Option (T × List (Nat × Blk)) := match b with
  | .box sz vs => andO (rdL g vs) (rdBox id sz)
  | .froz sz [t] => if sz = t.cells.length then some (.ptr t, []) else none
  | _ => none
@[simp] theorem rdPtr_b (g : V → Option (T × List (Nat × Blk))) (id sz : Nat) (vs : List V) : rdPtr g id (.box sz vs) = andO (rdL g vs) (rdBox id sz) := rfl
@[simp] theorem rdPtr_f (g : V → Option (T × List (Nat × Blk))) (id sz : Nat) (t : T) : rdPtr g id (.froz sz [t]) = if sz = t.cells.length then some (.ptr t, []) else none := rfl
theorem r_ptr (n id : Nat) : rd H (n + 1) (.ptr id 0 0) = andO H[id]? (rdPtr (rd H n) id) := by
  simp only [rd]
  cases h : H[id]? with
  | none => rfl
  | some b => cases b with
    | box sz vs => show (match rdL (rd H n) vs with | some (ts, l) => _ | none => none) = andO (rdL (rd H n) vs) _; cases rdL (rd H n) vs <;> rfl
    | froz sz xs => cases xs with
      | nil => rfl
      | cons x xs => cases xs <;> rfl
    | _ => rfl
@[simp] theorem r_ptr6 (id : Nat) : rd H 6 (.ptr id 0 0) = andO H[id]? (rdPtr (rd H 5) id) := r_ptr 5 id
@[simp] theorem r_ptr5 (id : Nat) : rd H 5 (.ptr id 0 0) = andO H[id]? (rdPtr (rd H 4) id) := r_ptr 4 id
@[simp] theorem r_ptr4 (id : Nat) : rd H 4 (.ptr id 0 0) = andO H[id]? (rdPtr (rd H 3) id) := r_ptr 3 id
def rdClo2 (f : FuncId) (p q : List T × List (Nat × Blk)) : Option (T × List (Nat × Blk)) := some (.clo f p.1 q.1, p.2 ++ q.2)
@[simp] theorem rdClo2_eq (f : FuncId) (ta tb : List T) (l l' : List (Nat × Blk)) : rdClo2 f (ta, l) (tb, l') = some (.clo f ta tb, l ++ l') := rfl
def rdClo1 (g : V → Option (T × List (Nat × Blk))) (f : FuncId) (b : List V) (p : List T × List (Nat × Blk)) : Option (T × List (Nat × Blk)) := andO (rdL g b) (rdClo2 f p)
@[simp] theorem rdClo1_eq (g : V → Option (T × List (Nat × Blk))) (f : FuncId) (b : List V) (p : List T × List (Nat × Blk)) : rdClo1 g f b p = andO (rdL g b) (rdClo2 f p) := rfl
theorem r_clo (n : Nat) (f : FuncId) (a b : List V) : rd H (n + 1) (.clo f a b) = andO (rdL (rd H n) a) (rdClo1 (rd H n) f b) := by
  simp only [rd]
  cases rdL (rd H n) a with
  | none => rfl
  | some p => show (match rdL (rd H n) b with | none => none | some (tb, l') => _) = andO (rdL (rd H n) b) _; cases rdL (rd H n) b <;> rfl
@[simp] theorem r_clo6 (f : FuncId) (a b : List V) : rd H 6 (.clo f a b) = andO (rdL (rd H 5) a) (rdClo1 (rd H 5) f b) := r_clo 5 f a b
@[simp] theorem r_clo5 (f : FuncId) (a b : List V) : rd H 5 (.clo f a b) = andO (rdL (rd H 4) a) (rdClo1 (rd H 4) f b) := r_clo 4 f a b

@[simp] theorem part_f (t : T) (c size : Nat) : T.part t false c size = t.cells[c]?.map .t := rfl
@[simp] theorem part_t (t : T) (c size : Nat) : T.part t true c size = if c + size ≤ t.cells.length then some (.t (.agg ((t.cells.drop c).take size))) else none := rfl
def ldEl (agg : Bool) (c size : Nat) (t : T) : Option V := t.part agg c size
@[simp] theorem ldEl_eq (agg : Bool) (c size : Nat) (t : T) : ldEl agg c size t = t.part agg c size := rfl
def ldB (agg : Bool) (size i c : Nat) (b : Blk) : Option V := match b with
  | .pure _ xs => andO xs[i]? (ldEl agg c size)
  | .froz _ xs => andO xs[i]? (ldEl agg c size)
  | .box sz vs => if agg then (if i * sz + c + size ≤ vs.length then some (.agg ((vs.drop (i * sz + c)).take size)) else none) else vs[i * sz + c]?
  | _ => none
@[simp] theorem ldB_p (agg : Bool) (size i c n : Nat) (xs : List T) : ldB agg size i c (.pure n xs) = andO xs[i]? (ldEl agg c size) := rfl
@[simp] theorem ldB_z (agg : Bool) (size i c n : Nat) (xs : List T) : ldB agg size i c (.froz n xs) = andO xs[i]? (ldEl agg c size) := rfl
@[simp] theorem ldB_bf (size i c sz : Nat) (vs : List V) : ldB false size i c (.box sz vs) = vs[i * sz + c]? := rfl
@[simp] theorem ldB_bt (size i c sz : Nat) (vs : List V) : ldB true size i c (.box sz vs) = if i * sz + c + size ≤ vs.length then some (.agg ((vs.drop (i * sz + c)).take size)) else none := rfl
@[simp] theorem ld_rptr (agg : Bool) (size : Nat) (t : T) (c : Nat) : evLd H agg size (.rptr t c) = t.part agg c size := rfl
@[simp] theorem ld_tptr (agg : Bool) (size : Nat) (t : T) : evLd H agg size (.t (.ptr t)) = t.part agg 0 size := rfl
@[simp] theorem ld_ptr (agg : Bool) (size id i c : Nat) : evLd H agg size (.ptr id i c) = andO H[id]? (ldB agg size i c) := by
  simp only [evLd]
  cases H[id]? with
  | none => rfl
  | some b => cases b with
    | pure n xs => show (match xs[i]? with | some t => _ | none => none) = andO xs[i]? _; cases xs[i]? <;> rfl
    | froz n xs => show (match xs[i]? with | some t => _ | none => none) = andO xs[i]? _; cases xs[i]? <;> rfl
    | _ => rfl
@[simp] theorem o_ld (agg : Bool) (size : Nat) (a : A) : evO E rec fr H (.ld agg size a) = andO (evLd H agg size (a.ev fr)) (keepH H) := by
  simp only [evO]; cases evLd H agg size (a.ev fr) <;> rfl
def stBox (H : Heap) (size id i c sz : Nat) (vs cs : List V) : Option Heap := if cs.length = size ∧ i * sz + c + size ≤ vs.length ∧ cs.all V.one then some (H.set id (.box sz (splice vs (i * sz + c) cs))) else none
@[simp] theorem stBox_eq (size id i c sz : Nat) (vs cs : List V) : stBox H size id i c sz vs cs = if cs.length = size ∧ i * sz + c + size ≤ vs.length ∧ cs.all V.one then some (H.set id (.box sz (splice vs (i * sz + c) cs))) else none := rfl
def stEl2 (H : Heap) (size id i c sz : Nat) (xs : List T) (p : T × List (Nat × Blk)) (u : T) : Option Heap := if p.1.cells.length = size ∧ c + size ≤ u.cells.length ∧ p.1.cells.all T.one ∧ (p.2.map (·.1)).contains id = false then some ((frz H p.2).set id (.pure sz (xs.set i (u.upd c p.1.cells)))) else none
@[simp] theorem stEl2_eq (size id i c sz : Nat) (xs : List T) (t : T) (l : List (Nat × Blk)) (u : T) : stEl2 H size id i c sz xs (t, l) u = if t.cells.length = size ∧ c + size ≤ u.cells.length ∧ t.cells.all T.one ∧ (l.map (·.1)).contains id = false then some ((frz H l).set id (.pure sz (xs.set i (u.upd c t.cells)))) else none := rfl
def stEl (H : Heap) (size id i c sz : Nat) (xs : List T) (p : T × List (Nat × Blk)) : Option Heap := andO xs[i]? (stEl2 H size id i c sz xs p)
@[simp] theorem stEl_eq (size id i c sz : Nat) (xs : List T) (p : T × List (Nat × Blk)) : stEl H size id i c sz xs p = andO xs[i]? (stEl2 H size id i c sz xs p) := rfl
def stB (H : Heap) (size id i c : Nat) (x : V) (b : Blk) : Option Heap := match b with
  | .box sz vs => andO x.cells (stBox H size id i c sz vs)
  | .pure sz xs => andO (rd H depth x) (stEl H size id i c sz xs)
  | _ => none
@[simp] theorem stB_b (size id i c : Nat) (x : V) (sz : Nat) (vs : List V) : stB H size id i c x (.box sz vs) = andO x.cells (stBox H size id i c sz vs) := rfl
@[simp] theorem stB_p (size id i c : Nat) (x : V) (sz : Nat) (xs : List T) : stB H size id i c x (.pure sz xs) = andO (rd H depth x) (stEl H size id i c sz xs) := rfl
@[simp] theorem st_ptr (size id i c : Nat) (x : V) : evSt H size (.ptr id i c) x = andO H[id]? (stB H size id i c x) := by
  simp only [evSt]
  cases H[id]? with
  | none => rfl
  | some b => cases b with
    | box sz vs => show (match x.cells with | some cs => _ | none => none) = andO x.cells _; cases x.cells <;> rfl
    | pure sz xs =>
      simp only [stB, andO_some]
      cases rd H depth x with
      | none => rfl
      | some p => simp only [andO_some, stEl]; cases xs[i]? <;> rfl
    | _ => rfl
def anyH (H : Heap) : Option (V × Heap) := some (.any, H)
@[simp] theorem anyH_eq (H : Heap) : anyH H = some (.any, H) := rfl
@[simp] theorem o_st (size : Nat) (a x : A) : evO E rec fr H (.st size a x) = andO (evSt H size (a.ev fr) (x.ev fr)) anyH := by
  simp only [evO]; cases evSt H size (a.ev fr) (x.ev fr) <;> rfl
@[simp] theorem upd_agg (cs : List T) (c : Nat) (xs : List T) : T.upd (.agg cs) c xs = .agg (splice cs c xs) := rfl
@[simp] theorem upd_int (k : IntKind) (n : Int) (c : Nat) (x : T) : T.upd (.int k n) c [x] = x := rfl
@[simp] theorem upd_bool (b : Bool) (c : Nat) (x : T) : T.upd (.bool b) c [x] = x := rfl
@[simp] theorem upd_lst (n : Nat) (l : List T) (c : Nat) (x : T) : T.upd (.lst n l) c [x] = x := rfl
@[simp] theorem upd_nil (c : Nat) (x : T) : T.upd .nil c [x] = x := rfl

def nckV (H : Heap) (v : V) : Option (V × Heap) := match v with | .ptr id i c => some (.ptr id i c, H) | .rptr t c => some (.rptr t c, H) | .t (.ptr t) => some (.t (.ptr t), H) | _ => none
@[simp] theorem nckV_p (a b c : Nat) : nckV H (.ptr a b c) = some (.ptr a b c, H) := rfl
@[simp] theorem nckV_r (t : T) (c : Nat) : nckV H (.rptr t c) = some (.rptr t c, H) := rfl
@[simp] theorem nckV_t (t : T) : nckV H (.t (.ptr t)) = some (.t (.ptr t), H) := rfl
@[simp] theorem o_nck (x : A) : evO E rec fr H (.nck x) = nckV H (x.ev fr) := by
  simp only [evO]
  generalize x.ev fr = v
  cases v with
  | t y => cases y <;> rfl
  | _ => rfl
@[simp] theorem o_bin (op : BinOp) (kd : EqK) (x y : A) : evO E rec fr H (.bin op kd x y) = andO (evBin op kd (x.ev fr) (y.ev fr)) (keepT H) := by simp only [evO]; cases evBin op kd (x.ev fr) (y.ev fr) <;> rfl
@[simp] theorem o_un (op : UnOp) (x : A) : evO E rec fr H (.un op x) = andO (evUn op (x.ev fr)) (keepT H) := by simp only [evO]; cases evUn op (x.ev fr) <;> rfl
def orI (k : IntKind) (a b : Int) : Int := k.wrap (BitVec.ofInt k.bits a ||| BitVec.ofInt k.bits b).toNat
def andI (k : IntKind) (a b : Int) : Int := k.wrap (BitVec.ofInt k.bits a &&& BitVec.ofInt k.bits b).toNat
def xorI (k : IntKind) (a b : Int) : Int := k.wrap (BitVec.ofInt k.bits a ^^^ BitVec.ofInt k.bits b).toNat
def shlI (k : IntKind) (a b : Int) : Int := k.wrap (a * 2 ^ (min b.toNat k.bits))
def shrI (k : IntKind) (a b : Int) : Int := a.fdiv (2 ^ (min b.toNat k.bits))
@[simp] theorem b_add (kd : EqK) (k : IntKind) (a b : Int) : evBin .add kd (.t (.int k a)) (.t (.int k b)) = some (.int k (k.wrap (a + b))) := by simp [evBin, evInt]
@[simp] theorem b_sub (kd : EqK) (k : IntKind) (a b : Int) : evBin .sub kd (.t (.int k a)) (.t (.int k b)) = some (.int k (k.wrap (a - b))) := by simp [evBin, evInt]
@[simp] theorem b_mul (kd : EqK) (k : IntKind) (a b : Int) : evBin .mul kd (.t (.int k a)) (.t (.int k b)) = some (.int k (k.wrap (a * b))) := by simp [evBin, evInt]
@[simp] theorem b_quo (kd : EqK) (k : IntKind) (a b : Int) : evBin .quo kd (.t (.int k a)) (.t (.int k b)) = if b = 0 then none else some (.int k (k.wrap (a.tdiv b))) := by simp [evBin, evInt]
@[simp] theorem b_rem (kd : EqK) (k : IntKind) (a b : Int) : evBin .rem kd (.t (.int k a)) (.t (.int k b)) = if b = 0 then none else some (.int k (a.tmod b)) := by simp [evBin, evInt]
@[simp] theorem b_and (kd : EqK) (k : IntKind) (a b : Int) : evBin .and kd (.t (.int k a)) (.t (.int k b)) = some (.int k (andI k a b)) := by simp [evBin, evInt, andI]
@[simp] theorem b_or (kd : EqK) (k : IntKind) (a b : Int) : evBin .or kd (.t (.int k a)) (.t (.int k b)) = some (.int k (orI k a b)) := by simp [evBin, evInt, orI]
@[simp] theorem b_xor (kd : EqK) (k : IntKind) (a b : Int) : evBin .xor kd (.t (.int k a)) (.t (.int k b)) = some (.int k (xorI k a b)) := by simp [evBin, evInt, xorI]
@[simp] theorem b_shl (kd : EqK) (k k' : IntKind) (a b : Int) : evBin .shl kd (.t (.int k a)) (.t (.int k' b)) = if b < 0 then none else some (.int k (shlI k a b)) := by simp [evBin, shlI]
@[simp] theorem b_shr (kd : EqK) (k k' : IntKind) (a b : Int) : evBin .shr kd (.t (.int k a)) (.t (.int k' b)) = if b < 0 then none else some (.int k (shrI k a b)) := by simp [evBin, shrI]
@[simp] theorem b_eql (kd : EqK) (k : IntKind) (a b : Int) : evBin .eql kd (.t (.int k a)) (.t (.int k b)) = some (.bool (decide (a = b))) := by by_cases h : a = b <;> simp [evBin, evInt, h]
@[simp] theorem b_neq (kd : EqK) (k : IntKind) (a b : Int) : evBin .neq kd (.t (.int k a)) (.t (.int k b)) = some (.bool (!decide (a = b))) := by by_cases h : a = b <;> simp [evBin, evInt, h]
@[simp] theorem b_lss (kd : EqK) (k : IntKind) (a b : Int) : evBin .lss kd (.t (.int k a)) (.t (.int k b)) = some (.bool (decide (a < b))) := by simp [evBin, evInt]
@[simp] theorem b_leq (kd : EqK) (k : IntKind) (a b : Int) : evBin .leq kd (.t (.int k a)) (.t (.int k b)) = some (.bool (decide (a ≤ b))) := by simp [evBin, evInt]
@[simp] theorem b_gtr (kd : EqK) (k : IntKind) (a b : Int) : evBin .gtr kd (.t (.int k a)) (.t (.int k b)) = some (.bool (decide (b < a))) := by simp [evBin, evInt]
@[simp] theorem b_geq (kd : EqK) (k : IntKind) (a b : Int) : evBin .geq kd (.t (.int k a)) (.t (.int k b)) = some (.bool (decide (b ≤ a))) := by simp [evBin, evInt]
@[simp] theorem b_eqb (a b : Bool) : evBin .eql .bool (.t (.bool a)) (.t (.bool b)) = some (.bool (a == b)) := rfl
@[simp] theorem b_neb (a b : Bool) : evBin .neq .bool (.t (.bool a)) (.t (.bool b)) = some (.bool (!(a == b))) := rfl
@[simp] theorem u_neg (k : IntKind) (n : Int) : evUn .neg (.t (.int k n)) = some (.int k (k.wrap (0 - n))) := rfl
@[simp] theorem u_not (b : Bool) : evUn .not (.t (.bool b)) = some (.bool (!b)) := rfl
def cnvV (c : Cnv) (H : Heap) (v : V) : Option (V × Heap) := match c, v with | .int k, .t (.int _ n) => some (.t (.int k (k.wrap n)), H) | .same, .t (.str s) => some (.t (.str s), H) | _, _ => none
@[simp] theorem cnvV_i (k k' : IntKind) (n : Int) : cnvV (.int k) H (.t (.int k' n)) = some (.t (.int k (k.wrap n)), H) := rfl
@[simp] theorem o_cnv (c : Cnv) (x : A) : evO E rec fr H (.cnv c x) = cnvV c H (x.ev fr) := by
  simp only [evO]
  generalize x.ev fr = v
  cases v with
  | t y => cases c <;> cases y <;> rfl
  | _ => cases c <;> rfl
@[simp] theorem o_mkf (f : FuncId) (a b : List A) : evO E rec fr H (.mkf f a b) = some (.clo f (A.evs fr a) (A.evs fr b), H) := rfl
def mksV (H : Heap) (sz : Nat) (z : T) (a b : V) : Option (V × Heap) := match a, b with
  | .t (.int _ l), .t (.int _ c) => if 0 ≤ l ∧ l ≤ c ∧ c ≤ lim then some (.ref H.length 0 l.toNat, H ++ [.pure sz (List.replicate l.toNat z)]) else none
  | _, _ => none
@[simp] theorem mksV_i (sz : Nat) (z : T) (k k' : IntKind) (l c : Int) : mksV H sz z (.t (.int k l)) (.t (.int k' c)) = if 0 ≤ l ∧ l ≤ c ∧ c ≤ lim then some (.ref H.length 0 l.toNat, H ++ [.pure sz (List.replicate l.toNat z)]) else none := rfl
@[simp] theorem o_mks (sz : Nat) (z : T) (l c : A) : evO E rec fr H (.mks sz z l c) = mksV H sz z (l.ev fr) (c.ev fr) := by
  simp only [evO]
  generalize l.ev fr = v
  generalize c.ev fr = u
  cases v with
  | t y => cases y <;> first | rfl | (cases u with | t z => cases z <;> rfl | _ => rfl)
  | _ => rfl
@[simp] theorem lim_eq : lim = 68719476736 := rfl
@[simp] theorem o_fad (off : Nat) (a : A) : evO E rec fr H (.fad off a) = andO (evFad off (a.ev fr)) (keepH H) := by simp only [evO]; cases evFad off (a.ev fr) <;> rfl
@[simp] theorem fad_p (off id i c : Nat) : evFad off (.ptr id i c) = some (.ptr id i (c + off)) := rfl
@[simp] theorem fad_r (off : Nat) (t : T) (c : Nat) : evFad off (.rptr t c) = some (.rptr t (c + off)) := rfl
@[simp] theorem fad_t (off : Nat) (t : T) : evFad off (.t (.ptr t)) = some (.rptr t off) := rfl
@[simp] theorem o_fld (agg : Bool) (off size : Nat) (x : A) : evO E rec fr H (.fld agg off size x) = andO (evFld agg off size (x.ev fr)) (keepH H) := by simp only [evO]; cases evFld agg off size (x.ev fr) <;> rfl
@[simp] theorem fld_t (agg : Bool) (off size : Nat) (xs : List T) : evFld agg off size (.t (.agg xs)) = (T.agg xs).part agg off size := rfl
@[simp] theorem fld_vf (off size : Nat) (vs : List V) : evFld false off size (.agg vs) = vs[off]? := rfl
@[simp] theorem fld_vt (off size : Nat) (vs : List V) : evFld true off size (.agg vs) = if off + size ≤ vs.length then some (.agg ((vs.drop off).take size)) else none := rfl
@[simp] theorem o_ixa (sz : Nat) (x i : A) : evO E rec fr H (.ixa sz x i) = andO (evIxa H sz (x.ev fr) (i.ev fr)) (keepH H) := by simp only [evO]; cases evIxa H sz (x.ev fr) (i.ev fr) <;> rfl
def ixaB (sz id off len : Nat) (n : Int) (s : Nat) : Option V := if s = sz ∧ 0 ≤ n ∧ n < len then some (.ptr id (off + n.toNat) 0) else none
@[simp] theorem ixaB_eq (sz id off len : Nat) (n : Int) (s : Nat) : ixaB sz id off len n s = if s = sz ∧ 0 ≤ n ∧ n < len then some (.ptr id (off + n.toNat) 0) else none := rfl
@[simp] theorem bsz_p (s : Nat) (xs : List T) : Blk.sz (.pure s xs) = some s := rfl
@[simp] theorem bsz_f (s : Nat) (xs : List T) : Blk.sz (.froz s xs) = some s := rfl
@[simp] theorem bsz_b (s : Nat) (xs : List V) : Blk.sz (.box s xs) = some s := rfl
@[simp] theorem ixa_ref (sz id off len : Nat) (k : IntKind) (n : Int) : evIxa H sz (.ref id off len) (.t (.int k n)) = andO (andO H[id]? Blk.sz) (ixaB sz id off len n) := by
  simp only [evIxa]
  cases H[id]? with
  | none => rfl
  | some b => show (match b.sz with | some s => _ | none => none) = andO b.sz _; cases b.sz <;> rfl
def rpt (t : T) : Option V := some (.rptr t 0)
@[simp] theorem rpt_eq (t : T) : rpt t = some (.rptr t 0) := rfl
@[simp] theorem ixa_lst (sz s : Nat) (xs : List T) (k : IntKind) (n : Int) : evIxa H sz (.t (.lst s xs)) (.t (.int k n)) = if s = sz ∧ 0 ≤ n then andO xs[n.toNat]? rpt else none := by
  simp only [evIxa]
  split
  · cases xs[n.toNat]? <;> rfl
  · rfl
@[simp] theorem o_slc (sz : Nat) (x : A) (lo hi : Option A) : evO E rec fr H (.slc sz x lo hi) = andO (evSlc H sz (x.ev fr) (lo.map (·.ev fr)) (hi.map (·.ev fr))) (keepH H) := by simp only [evO]; cases evSlc H sz (x.ev fr) (lo.map (·.ev fr)) (hi.map (·.ev fr)) <;> rfl
@[simp] theorem bound_none (d : Nat) : bound d none = some d := rfl
@[simp] theorem bound_some (d : Nat) (k : IntKind) (n : Int) : bound d (some (.t (.int k n))) = if 0 ≤ n then some n.toNat else none := rfl
def extV (H : Heap) (i : Nat) (v : V) : Option (V × Heap) := match v with | .tup vs => andO vs[i]? (keepH H) | _ => none
@[simp] theorem extV_eq (i : Nat) (vs : List V) : extV H i (.tup vs) = andO vs[i]? (keepH H) := rfl
@[simp] theorem o_ext (x : A) (i : Nat) : evO E rec fr H (.ext x i) = extV H i (x.ev fr) := by
  simp only [evO]
  generalize x.ev fr = v
  cases v with
  | tup vs => simp only [extV]; cases vs[i]? <;> rfl
  | _ => rfl
@[simp] theorem o_call (f : FuncId) (as : List A) : evO E rec fr H (.call f as) = evCall E rec f (A.evs fr as) H := rfl
def callvV (E : Env) (rec : Rec) (H : Heap) (as : List V) (f : V) : Option (V × Heap) := match f with
  | .clo f a b => evCall E rec f (a ++ as ++ b) H
  | .t (.clo f a b) => evCall E rec f (a.map .t ++ as ++ b.map .t) H
  | _ => none
@[simp] theorem callvV_c (as : List V) (f : FuncId) (a b : List V) : callvV E rec H as (.clo f a b) = evCall E rec f (a ++ as ++ b) H := rfl
@[simp] theorem callvV_t (as : List V) (f : FuncId) (a b : List T) : callvV E rec H as (.t (.clo f a b)) = evCall E rec f (a.map .t ++ as ++ b.map .t) H := rfl
@[simp] theorem o_callv (f : A) (as : List A) : evO E rec fr H (.callv f as) = callvV E rec H (A.evs fr as) (f.ev fr) := by
  simp only [evO]
  generalize f.ev fr = v
  cases v with
  | t y => cases y <;> rfl
  | _ => rfl
def intV (H : Heap) (n : Int) : Option (V × Heap) := some (.t (.int .i64 n), H)
@[simp] theorem intV_eq (n : Int) : intV H n = some (.t (.int .i64 n), H) := rfl
@[simp] theorem o_len (k : Nat) (x : A) : evO E rec fr H (.len k x) = andO (evLen H k (x.ev fr)) (intV H) := by simp only [evO]; cases evLen H k (x.ev fr) <;> rfl
@[simp] theorem len_ref (a b n : Nat) : evLen H 1 (.ref a b n) = some (n : Int) := rfl
@[simp] theorem len_lst (s : Nat) (xs : List T) : evLen H 1 (.t (.lst s xs)) = some (xs.length : Int) := rfl
@[simp] theorem len_nil : evLen H 1 (.t .nil) = some 0 := rfl
@[simp] theorem len_str (s : ByteArray) : evLen H 0 (.t (.str s)) = some (s.size : Int) := rfl
@[simp] theorem o_app (sz : Nat) (x y : A) : evO E rec fr H (.app false sz x y) = evApp H sz (x.ev fr) (y.ev fr) := rfl
def elB (sz off len : Nat) (b : Blk) : Option (List T) := match b with
  | .pure s xs => if s = sz then some ((xs.drop off).take len) else none
  | .froz s xs => if s = sz then some ((xs.drop off).take len) else none
  | _ => none
@[simp] theorem elB_p (sz off len s : Nat) (xs : List T) : elB sz off len (.pure s xs) = if s = sz then some ((xs.drop off).take len) else none := rfl
@[simp] theorem elB_f (sz off len s : Nat) (xs : List T) : elB sz off len (.froz s xs) = if s = sz then some ((xs.drop off).take len) else none := rfl
@[simp] theorem el_nil (sz : Nat) : elems H sz (.t .nil) = some [] := rfl
@[simp] theorem el_lst (sz s : Nat) (xs : List T) : elems H sz (.t (.lst s xs)) = if s = sz then some xs else none := rfl
@[simp] theorem el_ref (sz id off len : Nat) : elems H sz (.ref id off len) = andO H[id]? (elB sz off len) := by
  simp only [elems]
  cases H[id]? with
  | none => rfl
  | some b => cases b <;> rfl
def appB (H : Heap) (sz id len : Nat) (ys : List T) (b : Blk) : Option (V × Heap) := match b with
  | .pure s xs => if s = sz then (if len = xs.length then (if xs.length + ys.length ≤ lim then some (.ref H.length 0 (xs.length + ys.length), H.set id .dead ++ [.pure sz (xs ++ ys)]) else none)
      else if len + ys.length ≤ xs.length then some (.ref id 0 (len + ys.length), H.set id (.pure sz (splice xs len ys))) else none) else none
  | _ => none
@[simp] theorem appB_p (sz id len : Nat) (ys : List T) (s : Nat) (xs : List T) : appB H sz id len ys (.pure s xs) = if s = sz then (if len = xs.length then (if xs.length + ys.length ≤ lim then some (.ref H.length 0 (xs.length + ys.length), H.set id .dead ++ [.pure sz (xs ++ ys)]) else none)
      else if len + ys.length ≤ xs.length then some (.ref id 0 (len + ys.length), H.set id (.pure sz (splice xs len ys))) else none) else none := rfl
def appV (H : Heap) (sz : Nat) (x : V) (ys : List T) : Option (V × Heap) := match x with
  | .t .nil => if ys.length ≤ lim then some (.ref H.length 0 ys.length, H ++ [.pure sz ys]) else none
  | .ref id 0 len => andO H[id]? (appB H sz id len ys)
  | _ => none
@[simp] theorem appV_n (sz : Nat) (ys : List T) : appV H sz (.t .nil) ys = if ys.length ≤ lim then some (.ref H.length 0 ys.length, H ++ [.pure sz ys]) else none := rfl
@[simp] theorem appV_r (sz id len : Nat) (ys : List T) : appV H sz (.ref id 0 len) ys = andO H[id]? (appB H sz id len ys) := rfl
@[simp] theorem app_eq (sz : Nat) (x y : V) : evApp H sz x y = andO (elems H sz y) (appV H sz x) := by
  unfold evApp
  cases elems H sz y with
  | none => rfl
  | some ys =>
    simp only [andO_some]
    cases x with
    | t x => cases x <;> rfl
    | ref id off len =>
      cases off with
      | zero =>
        simp only [appV]
        cases H[id]? with
        | none => rfl
        | some b => cases b <;> rfl
      | succ n => rfl
    | _ => rfl
def clrB (H : Heap) (sz id off len : Nat) (z : T) (b : Blk) : Option (V × Heap) := match b with
  | .pure s xs => if s = sz ∧ off + len ≤ xs.length then some (.tup [], H.set id (.pure sz (splice xs off (List.replicate len z)))) else none
  | _ => none
@[simp] theorem clrB_p (sz id off len : Nat) (z : T) (s : Nat) (xs : List T) : clrB H sz id off len z (.pure s xs) = if s = sz ∧ off + len ≤ xs.length then some (.tup [], H.set id (.pure sz (splice xs off (List.replicate len z)))) else none := rfl
def clrV (H : Heap) (sz : Nat) (z : T) (x : V) : Option (V × Heap) := match x with | .ref id off len => andO H[id]? (clrB H sz id off len z) | _ => none
@[simp] theorem clrV_r (sz id off len : Nat) (z : T) : clrV H sz z (.ref id off len) = andO H[id]? (clrB H sz id off len z) := rfl
@[simp] theorem o_clr (sz : Nat) (z : T) (x : A) : evO E rec fr H (.clr sz z x) = clrV H sz z (x.ev fr) := by
  simp only [evO, evClr]
  generalize x.ev fr = v
  cases v with
  | ref id off len =>
    simp only [clrV]
    cases H[id]? with
    | none => rfl
    | some b => cases b <;> rfl
  | _ => rfl
@[simp] theorem o_cpy (sz : Nat) (x y : A) : evO E rec fr H (.cpy sz x y) = evCpy H sz (x.ev fr) (y.ev fr) := rfl
def mxV (H : Heap) (m : Bool) (x y : V) : Option (V × Heap) := match x, y with
  | .t (.int k a), .t (.int _ b) => some (.t (.int k (if m then (if b > a then b else a) else (if b < a then b else a))), H)
  | _, _ => none
@[simp] theorem mxV_i (m : Bool) (k k' : IntKind) (a b : Int) : mxV H m (.t (.int k a)) (.t (.int k' b)) = some (.t (.int k (if m then (if b > a then b else a) else (if b < a then b else a))), H) := rfl
@[simp] theorem o_mx (m : Bool) (x y : A) : evO E rec fr H (.mx m x y) = mxV H m (x.ev fr) (y.ev fr) := by
  simp only [evO]
  generalize x.ev fr = v
  generalize y.ev fr = u
  cases v with
  | t y => cases y <;> first | rfl | (cases u with | t z => cases z <;> rfl | _ => rfl)
  | _ => rfl

def slcB (sz id off len : Nat) (l h : Option Nat) (s : Nat) : Option V := match l, h with | some l, some h => if s = sz ∧ l ≤ h ∧ h ≤ len then some (.ref id (off + l) (h - l)) else none | _, _ => none
@[simp] theorem slcB_eq (sz id off len l h s : Nat) : slcB sz id off len (some l) (some h) s = if s = sz ∧ l ≤ h ∧ h ≤ len then some (.ref id (off + l) (h - l)) else none := rfl
@[simp] theorem slc_ref (sz id off len : Nat) (lo hi : Option V) : evSlc H sz (.ref id off len) lo hi = andO (andO H[id]? Blk.sz) (slcB sz id off len (bound 0 lo) (bound len hi)) := by
  simp only [evSlc]
  cases H[id]? with
  | none => rfl
  | some b =>
    simp only [andO_some]
    cases b.sz with
    | none => rfl
    | some s => simp only [andO_some, slcB]; cases bound 0 lo <;> cases bound len hi <;> rfl
def slcT (sz s : Nat) (xs : List T) (l h : Option Nat) : Option V := match l, h with | some l, some h => if s = sz ∧ l ≤ h ∧ h ≤ xs.length then some (.t (.lst sz ((xs.drop l).take (h - l)))) else none | _, _ => none
@[simp] theorem slcT_eq (sz s : Nat) (xs : List T) (l h : Nat) : slcT sz s xs (some l) (some h) = if s = sz ∧ l ≤ h ∧ h ≤ xs.length then some (.t (.lst sz ((xs.drop l).take (h - l)))) else none := rfl
@[simp] theorem slc_lst (sz s : Nat) (xs : List T) (lo hi : Option V) : evSlc H sz (.t (.lst s xs)) lo hi = slcT sz s xs (bound 0 lo) (bound xs.length hi) := by
  simp only [evSlc, slcT]; cases bound 0 lo <;> cases bound xs.length hi <;> rfl
def cpyB (H : Heap) (sz id off len : Nat) (ys : List T) (b : Blk) : Option (V × Heap) := match b with
  | .pure s xs => if s = sz ∧ off + len ≤ xs.length then some (.t (.int .i64 (min ys.length len : Nat)), H.set id (.pure sz (splice xs off (ys.take len)))) else none
  | _ => none
@[simp] theorem cpyB_p (sz id off len : Nat) (ys : List T) (s : Nat) (xs : List T) : cpyB H sz id off len ys (.pure s xs) = if s = sz ∧ off + len ≤ xs.length then some (.t (.int .i64 (min ys.length len : Nat)), H.set id (.pure sz (splice xs off (ys.take len)))) else none := rfl
def cpyV (H : Heap) (sz : Nat) (x : V) (ys : List T) : Option (V × Heap) := match x with | .ref id off len => andO H[id]? (cpyB H sz id off len ys) | _ => none
@[simp] theorem cpyV_r (sz id off len : Nat) (ys : List T) : cpyV H sz (.ref id off len) ys = andO H[id]? (cpyB H sz id off len ys) := rfl
@[simp] theorem cpy_eq (sz : Nat) (x y : V) : evCpy H sz x y = andO (elems H sz y) (cpyV H sz x) := by
  unfold evCpy
  cases elems H sz y with
  | none => rfl
  | some ys =>
    simp only [andO_some]
    cases x with
    | ref id off len =>
      simp only [cpyV]
      cases H[id]? with
      | none => rfl
      | some b => cases b <;> rfl
    | _ => rfl

def ptrC (v : V) : Cls := match v with | .ptr id _ _ => .rd id | _ => .p
@[simp] theorem ptrC_p (id i c : Nat) : ptrC (.ptr id i c) = .rd id := rfl
@[simp] theorem ptrC_t (t : T) : ptrC (.t t) = .p := rfl
@[simp] theorem ptrC_r (t : T) (c : Nat) : ptrC (.rptr t c) = .p := rfl
def refC (v : V) : Cls := match v with | .ref id _ _ => .rd id | _ => .p
@[simp] theorem refC_r (id i c : Nat) : refC (.ref id i c) = .rd id := rfl
@[simp] theorem refC_t (t : T) : refC (.t t) = .p := rfl
def mapC (v : V) : Cls := match v with | .map id => .rd id | _ => .p
@[simp] theorem mapC_m (id : Nat) : mapC (.map id) = .rd id := rfl
@[simp] theorem mapC_r (id i c : Nat) : mapC (.ref id i c) = .p := rfl
@[simp] theorem mapC_t (t : T) : mapC (.t t) = .p := rfl
def appC (v : V) : Cls := match v with | .ref id _ _ => .w id | .t .nil => .q | _ => .l
@[simp] theorem appC_r (id i c : Nat) : appC (.ref id i c) = .w id := rfl
@[simp] theorem appC_n : appC (.t .nil) = .q := rfl
def bslC (r : Option (List T × List (Nat × Blk))) : Cls := match r with | some (_, []) => .q | _ => .l
@[simp] theorem bslC_n (ts : List T) : bslC (some (ts, [])) = .q := rfl
@[simp] theorem bslC_c (ts : List T) (p : Nat × Blk) (l : List (Nat × Blk)) : bslC (some (ts, p :: l)) = .l := rfl
def callC (F : Option Fun) : Cls := match F with | some F => (match F.mode with | .own => .q | _ => .l) | none => .l
@[simp] theorem callC_ir (F : Fn) : callC (some (.ir F)) = (match F.mode with | .own => .q | _ => .l) := rfl
@[simp] theorem callC_p (s : Prim) : callC (some (.prim .own s)) = .q := rfl
@[simp] theorem cls_ld (agg : Bool) (size : Nat) (a : A) : cls E fr H (.ld agg size a) = ptrC (a.ev fr) := by simp only [cls]; generalize a.ev fr = v; cases v <;> rfl
@[simp] theorem cls_ixa (sz : Nat) (x i : A) : cls E fr H (.ixa sz x i) = refC (x.ev fr) := by simp only [cls]; generalize x.ev fr = v; cases v <;> rfl
@[simp] theorem cls_slc (sz : Nat) (x : A) (i j : Option A) : cls E fr H (.slc sz x i j) = refC (x.ev fr) := by simp only [cls]; generalize x.ev fr = v; cases v <;> rfl
@[simp] theorem cls_len (k : Nat) (x : A) : cls E fr H (.len k x) = mapC (x.ev fr) := by simp only [cls]; generalize x.ev fr = v; cases v <;> rfl
@[simp] theorem cls_mv (x : A) : cls E fr H (.mv x) = .p := rfl
@[simp] theorem cls_pick (x y z : A) : cls E fr H (.pick x y z) = .p := rfl
@[simp] theorem cls_bin (o : BinOp) (k : EqK) (x y : A) : cls E fr H (.bin o k x y) = .p := rfl
@[simp] theorem cls_un (o : UnOp) (x : A) : cls E fr H (.un o x) = .p := rfl
@[simp] theorem cls_cnv (o : Cnv) (x : A) : cls E fr H (.cnv o x) = .p := rfl
@[simp] theorem cls_bld (z : List T) (p : List (Nat × Nat × A)) : cls E fr H (.bld z p) = .p := rfl
@[simp] theorem cls_fad (o : Nat) (x : A) : cls E fr H (.fad o x) = .p := rfl
@[simp] theorem cls_fld (g : Bool) (o s : Nat) (x : A) : cls E fr H (.fld g o s x) = .p := rfl
@[simp] theorem cls_ext (x : A) (i : Nat) : cls E fr H (.ext x i) = .p := rfl
@[simp] theorem cls_idx (x i : A) : cls E fr H (.idx x i) = .p := rfl
@[simp] theorem cls_mkf (f : FuncId) (a b : List A) : cls E fr H (.mkf f a b) = .p := rfl
@[simp] theorem cls_mx (m : Bool) (x y : A) : cls E fr H (.mx m x y) = .p := rfl
@[simp] theorem cls_nck (x : A) : cls E fr H (.nck x) = .p := rfl
@[simp] theorem cls_bsf (s n : Nat) (z : T) (ps : List (Nat × A)) : cls E fr H (.bsf s n z ps) = .f := rfl
@[simp] theorem cls_msf (s : Nat) (z : T) (a b : A) : cls E fr H (.msf s z a b) = .f := rfl
@[simp] theorem dynC_f (H H' : Heap) : dynC H H' .f = .f := rfl
@[simp] theorem cls_alc (s : Nat) (z : List T) : cls E fr H (.alc s z) = .q := rfl
@[simp] theorem cls_box (x : A) : cls E fr H (.box x) = .q := rfl
@[simp] theorem cls_mks (s : Nat) (z : T) (a b : A) : cls E fr H (.mks s z a b) = .q := rfl
def stBC (id : Nat) (y : V) (b : Option Blk) : Cls := match b with | some (.box ..) => .w id | some (.pure ..) => (match y with | .t _ => .w id | _ => .l) | _ => .l
@[simp] theorem stBC_b (id : Nat) (y : V) (s : Nat) (vs : List V) : stBC id y (some (.box s vs)) = .w id := rfl
@[simp] theorem stBC_t (id : Nat) (t : T) (s : Nat) (xs : List T) : stBC id (.t t) (some (.pure s xs)) = .w id := rfl
@[simp] theorem stBC_r (id i o n : Nat) (s : Nat) (xs : List T) : stBC id (.ref i o n) (some (.pure s xs)) = .l := rfl
@[simp] theorem stBC_a (id : Nat) (vs : List V) (s : Nat) (xs : List T) : stBC id (.agg vs) (some (.pure s xs)) = .l := rfl
def stC (H : Heap) (a y : V) : Cls := match a with | .ptr id _ _ => stBC id y H[id]? | _ => .l
@[simp] theorem stC_p (H : Heap) (id i c : Nat) (y : V) : stC H (.ptr id i c) y = stBC id y H[id]? := rfl
@[simp] theorem cls_st (s : Nat) (x y : A) : cls E fr H (.st s x y) = stC H (x.ev fr) (y.ev fr) := by
  simp only [cls]
  generalize x.ev fr = v
  cases v with
  | ptr id i c =>
    simp only [stC, stBC]
    rcases H[id]? with _ | b
    · rfl
    · cases b <;> first | rfl | (generalize y.ev fr = u; cases u <;> rfl)
  | _ => rfl
@[simp] theorem cls_callv (f : A) (as : List A) : cls E fr H (.callv f as) = .l := rfl
@[simp] theorem cls_clr (s : Nat) (z : T) (x : A) : cls E fr H (.clr s z x) = .l := rfl
@[simp] theorem cls_cpy (s : Nat) (x y : A) : cls E fr H (.cpy s x y) = .l := rfl
@[simp] theorem cls_bsl (s n : Nat) (z : T) (ps : List (Nat × A)) : cls E fr H (.bsl false s n z ps) = bslC (rdL (rd H depth) (ps.map fun p => p.2.ev fr)) := by
  simp only [cls]
  cases rdL (rd H depth) (ps.map fun p => p.2.ev fr) with
  | none => rfl
  | some p => obtain ⟨ts, l⟩ := p; cases l <;> rfl
@[simp] theorem cls_app (s : Nat) (x y : A) : cls E fr H (.app false s x y) = appC (x.ev fr) := by
  simp only [cls]
  generalize x.ev fr = v
  cases v with
  | t x => cases x <;> rfl
  | _ => rfl
@[simp] theorem cls_call (f : FuncId) (as : List A) : cls E fr H (.call f as) = callC (E f) := by
  simp only [cls]
  cases E f with
  | none => rfl
  | some F => simp only [callC]; cases F.mode <;> rfl
attribute [simp] okDraw okWith Cls.free Nat.testBit_eq_decide_div_mod_eq

@[simp] theorem end_norm (res : List R) (fr : Fr) (H : Heap) : endO res (some (.norm, fr, H)) = andO (resV fr H res) (fun vs => some (resOf vs, H)) := by simp only [endO]; cases resV fr H res <;> rfl
@[simp] theorem end_ret (res : List R) (fr : Fr) (H : Heap) : endO res (some (.ret, fr, H)) = andO (resV fr H res) (fun vs => some (resOf vs, H)) := by simp only [endO]; cases resV fr H res <;> rfl
@[simp] theorem rv_nil : resV fr H [] = some [] := rfl
@[simp] theorem rv_tmp (t : Nat) (r : List R) : resV fr H (.tmp t :: r) = andO (resV fr H r) (fun vs => some (fr.get t :: vs)) := by simp only [resV]; cases resV fr H r <;> rfl
@[simp] theorem rv_cell (a : Nat) (agg : Bool) (size : Nat) (r : List R) : resV fr H (.cell a agg size :: r) = andO (evLd H agg size (fr.get a)) (fun v => andO (resV fr H r) (fun vs => some (v :: vs))) := by
  simp only [resV]; cases evLd H agg size (fr.get a) <;> cases resV fr H r <;> rfl
attribute [simp] List.idxOf?_cons
attribute [simp] resOf gcFr gcV keep Fr.vals Fr.ren gcIds close V.idss V.ids Blk.ids V.ren V.rens Blk.ren rho pickB V.flat V.fl0 V.fl1 T.flat T.sc Blk.flat
@[simp] theorem oc_some (g : List T → Option (V × Heap)) (ts : List T) (l : List (Nat × Blk)) : ownC g H (some (ts, l)) = ownIn (g ts) H := rfl
@[simp] theorem oi_some (v : V) (H2 : Heap) : ownIn (some (v, H2)) H = some (v.ren (fun i => some (H.length + i)), H ++ H2.map (Blk.ren fun i => some (H.length + i))) := rfl
def ownFI (H : Heap) (l : List (Nat × Blk)) (p : V × Heap) : Option (V × Heap) := some (p.1.ren (fun i => some (H.length + i)), frz H l ++ p.2.map (Blk.ren fun i => some (H.length + i)))
@[simp] theorem ownFI_eq (l : List (Nat × Blk)) (v : V) (H2 : Heap) : ownFI H l (v, H2) = some (v.ren (fun i => some (H.length + i)), frz H l ++ H2.map (Blk.ren fun i => some (H.length + i))) := rfl
@[simp] theorem of_some (g : List T → Option (V × Heap)) (ts : List T) (l : List (Nat × Blk)) : ownFC g H (some (ts, l)) = andO (g ts) (ownFI H l) := by simp only [ownFC]; cases g ts <;> rfl

end
def ownEnd (p : V × Heap) : Option (V × Heap) := if (gcV p.1 p.2).1.flat && (gcV p.1 p.2).2.all Blk.flat then some (gcV p.1 p.2) else none
@[simp] theorem ownEnd_eq (v : V) (H : Heap) : ownEnd (v, H) = if (gcV v H).1.flat && (gcV v H).2.all Blk.flat then some (gcV v H) else none := rfl
theorem own_ir {E : Env} {f : FuncId} {F : Fn} (hE : E f = some (.ir F)) (ts : List T) (hl : ts.length = F.nargs) : ownR E f ts = andO (endO F.res (execD E F.body (frameOf 0 (ts.map .t), []))) ownEnd := by
  rw [ownR_ir hE ts hl]; cases endO F.res (execD E F.body (frameOf 0 (ts.map .t), [])) <;> rfl
def ownFEnd (p : V × Heap) : Option (V × Heap) := some (gcV p.1 p.2)
@[simp] theorem ownFEnd_eq (v : V) (H : Heap) : ownFEnd (v, H) = some (gcV v H) := rfl
theorem ownF_ir {E : Env} {f : FuncId} {F : Fn} (hE : E f = some (.ir F)) (ts : List T) (hl : ts.length = F.nargs) : ownFR E f ts = andO (endO F.res (execD E F.body (frameOf 0 (ts.map .t), []))) ownFEnd := by
  rw [ownFR_ir hE ts hl]; cases endO F.res (execD E F.body (frameOf 0 (ts.map .t), [])) <;> rfl

def primE (s : Prim) (ts : List T) : Option (V × Heap) := andO (s (ts.map .t) []) ownEnd
theorem primR_E (s : Prim) (ts : List T) : primR s ts = primE s ts := by
  unfold primR primE; cases s (ts.map .t) [] <;> rfl
theorem clone_til (l : List Int) (h : l.length ≤ 68719476736) : primR (cloneP 1) [.lst 1 (til l)] = some (.ref 0 0 l.length, [.pure 1 (til l)]) := by
  simp [primR_E, primE, cloneP, til_length, h, til_flat]

end Go.Proofs.Ytdgfpjlmpnfcgaa.Ev
namespace Go.Proofs.Ytdgfpjlmpnfcgaa.Ev
open Go Go.RowKit
set_option linter.unusedVariables false
set_option linter.unusedSimpArgs false

def env0 : Env := fun _ => none
theorem env0_ok (P : Program) : EnvOk P env0 := ⟨fun f F' h => by simp [env0] at h, fun f m s h => by simp [env0] at h, fun f G h => by simp [env0] at h⟩
theorem clone_reg {P : Program} {K : Ctx} (hE : EnvOk P env0) {rec : Rec} (hrec : RecOk P rec) (hK : CtxOk K true) {o0 o1 : Oper} {ty te tr : TypeId} {sz : Nat}
    (ho0 : compI P .no #[o0, o1] o0 = ⟨some 3, none, .mv (.v 0)⟩) (hd0 : o0.dst = some 3) (hd1 : o1.dst = some 4) (hg1 : o1.guard = none)
    (ho1 : o1.op = .binOp .eql ty (.tmp 3) (.const (.slice none 0 0)) tr) (hty : P.underlying ty = some (.slice te))
    (X : T) (ys : List T) (hX : X = .nil ∧ ys = [] ∨ X = .lst sz ys) (a1 : Act) (w1 : World) (h1 : Sta K 8 [(0, .t X), (2, .t .nil)] [] a1 w1) (Q : Exit → Act → World → Prop)
    (hn : ∀ (a2 : Act) (w2 : World) (b : Bool), (b = true → ys = []) → Sta K 8 [(0, .t X), (2, .t .nil), (3, .t X), (4, .t (.bool b))] [] a2 w2 → Q .normal a2 w2) :
    wpOps P #[o0, o1] Q (List.range (#[o0, o1] : Array Oper).size) a1 w1 := by
  have hr : List.range (#[o0, o1] : Array Oper).size = [0, 1] := rfl
  rw [hr]
  simp only [wpOps, List.getElem?_toArray, List.getElem?_cons_zero, List.getElem?_cons_succ]
  have hst := step_ok hE hrec hK (fr := [(0, .t X), (2, .t .nil)]) (fr' := [(0, .t X), (2, .t .nil), (3, .t X)]) (H := []) (H' := []) (ops := #[o0, o1]) (mix := .no) (o := o0) (by rw [ho0]; rfl) (fun d hd => by rw [hd0] at hd; cases hd; decide) h1
  have hop1 : ∀ (a : Act) (w : World), Sta K 8 [(0, .t X), (2, .t .nil), (3, .t X)] [] a w → wpOps P #[o0, o1] Q [1] a w := by
    rintro a w ⟨μ, D, F, hm, hfr⟩
    have hw : Region.wanted o1 (yielded #[o0, o1] a.tmps) = true := by unfold Region.wanted; rw [hg1]
    simp only [wpOps, List.getElem?_toArray, List.getElem?_cons_zero, List.getElem?_cons_succ]
    rw [if_pos hw]
    refine .inl ?_
    have h3 := hfr.slot 3
    have h3' : TR w F X (a.tmps.getD 3 undef) := h3.tT
    obtain ⟨ad, n, c, hval, hnil⟩ : ∃ ad n c, a.tmps.getD 3 undef = .slice ad n c ∧ (ad.isNone = true → ys = []) := by
      rcases hX with ⟨rfl, rfl⟩ | rfl
      · generalize a.tmps.getD 3 undef = u at h3'
        cases h3'
        exact ⟨_, _, _, rfl, fun _ => rfl⟩
      · generalize a.tmps.getD 3 undef = u at h3'
        cases h3' with
        | lst0 sz a cap => exact ⟨_, _, _, rfl, fun _ => rfl⟩
        | lst sz xs m off cap cs => exact ⟨_, _, _, rfl, fun h => by cases h⟩
    have hrun : (execOp a.eval o1).run P w = .ok (.value (.bool ad.isNone)) w := by
      have k1 := (run_both (P := P) (w := w) (x := .slice ad n c) (y := .slice none 0 0) (.inl ⟨_, _, _, rfl⟩) (.inl ⟨_, _, _, rfl⟩) (run_eqS 9999 hty ad n c)).1
      have he : a.eval (.tmp 3) = .slice ad n c := hval
      have he2 : a.eval (.const (.slice none 0 0)) = .slice none 0 0 := rfl
      have hs : execOp a.eval o1 = (do pure (.value (← (do eqGuard .eql ty (.tmp 3) (.const (.slice none 0 0)) (a.eval (.tmp 3)) (a.eval (.const (.slice none 0 0))); binOp .eql ty (a.eval (.tmp 3)) (a.eval (.const (.slice none 0 0))))))) := by simp only [execOp, ho1]
      rw [hs, he, he2, guard_plain _ _ _ _ _ _ rfl]
      simp [Sem.run_bind, k1]
    refine Does.value hrun (R := fun x w' => x = .bool ad.isNone ∧ w' = w) ⟨rfl, rfl⟩ _ _ ?_
    rintro x w' ⟨rfl, rfl⟩
    refine hn _ _ ad.isNone hnil ⟨μ, D, F, hm, ?_⟩
    have := hfr.put o1.dst (fun t ht => by rw [hd1] at ht; cases ht; decide) (.t (.bool ad.isNone) : VR μ w' F (.t (.bool ad.isNone)) (.bool ad.isNone))
    rw [hd1] at this ⊢
    exact this
  split
  · rename_i hw
    have := hst (wpOps P #[o0, o1] Q [1]) Q hop1
    rw [if_pos hw] at this
    exact .inl this
  · rename_i hw
    have := hst (wpOps P #[o0, o1] Q [1]) Q hop1
    rw [if_neg hw] at this
    exact this
theorem clone_sound {P : Program} {f : FuncId} {fn : Func} {c0 c2 ct : Code} {o0 o1 : Oper} {ty te tr : TypeId} {id1 sz : Nat} {z : T}
    (hfn : P.funcs[f]? = some fn) (hbody : fn.body = some (c0.seq (((Code.region id1 #[o0, o1] false).seq (.cond (.tmp 4) (c2.seq .ret) .skip)).seq (ct.seq .ret))))
    (hnt : fn.ntmps = 8) (hres : fn.results = #[.tmp 2])
    (h0 : compC P .no true 8 c0 = .reg false [] [⟨some 2, none, .mv (.k .nil)⟩])
    (ho0 : compI P .no #[o0, o1] o0 = ⟨some 3, none, .mv (.v 0)⟩) (hd0 : o0.dst = some 3) (hd1 : o1.dst = some 4) (hg1 : o1.guard = none)
    (ho1 : o1.op = .binOp .eql ty (.tmp 3) (.const (.slice none 0 0)) tr) (hty : P.underlying ty = some (.slice te))
    (h2 : compC P .no true 8 c2 = .reg false [] [⟨some 2, none, .mv (.k .nil)⟩])
    (ht : compC P .no true 8 ct = .reg false [] [⟨some 5, none, .bsl false sz 0 z []⟩, ⟨some 6, none, .mv (.v 0)⟩, ⟨some 7, none, .app false sz (.v 5) (.v 6)⟩, ⟨some 2, none, .mv (.v 7)⟩])
    (X : T) (ys : List T) (hX : X = .nil ∧ ys = [] ∨ X = .lst sz ys) (hys : ys.length ≤ lim) : Sound P f [.t X] [] (.ref 1 0 ys.length) [.dead, .pure sz ys] := by
  intro μ D F w margs hrel hD hdD hfresh hargs
  obtain ⟨a, bs, rfl, hva, hbs⟩ := hargs.head
  have hbs0 : bs = [] := List.length_eq_zero_iff.1 hbs.1
  subst hbs0
  have hE := env0_ok P
  have hrec : RecOk P (run env0 1) := sound hE 1
  have hdraw := draw_ok hE (run env0 1) hrec
  have hK := Kown_ok F w
  refine calls_of_wp hfn hbody ?_
  have hnoD : ∀ id, ¬ D id := fun id hd => absurd (hrel.lt id hd) (Nat.not_lt_zero _)
  have hmu : ∀ id, μ id = none := fun id => hfresh id (Nat.zero_le _)
  have hno : ∀ m, ¬ OwnS μ D [] m := fun m ⟨id, b, l, hd, _⟩ => hnoD id hd
  have hfr0 : FR μ w F 8 [(0, .t X)] { tmps := #[a] ++ Array.replicate (fn.ntmps - 1) undef, defers := [] } := by
    refine ⟨by simp [hnt], rfl, fun t => ?_⟩
    simp only [Fr.get]
    split
    · rename_i h; subst h
      have : (#[a] ++ Array.replicate (fn.ntmps - 1) undef).getD 0 undef = a := by
        rw [Array.getD_eq_getD_getElem?, Array.getElem?_append_left (by simp)]; rfl
      rw [this]; exact hva
    · exact .any _
  have hsta : Sta (Kown F w) 8 [(0, .t X)] [] { tmps := #[a] ++ Array.replicate (fn.ntmps - 1) undef, defers := [] } w :=
    ⟨μ, D, F, ⟨⟨fun _ h => h, fun _ h => .inl h, fun m hm => absurd hm (hno m), fun _ _ => rfl, Nat.le_refl _, ⟨rfl, rfl, rfl⟩, fun id hd => absurd hd (hnoD id)⟩, hrel, hD, hdD, hfresh⟩, hfr0⟩
  have hend : ∀ (v : V) (H' : Heap) (fr' : Fr) (a' : Act) (w' : World), fr'.get 2 = v → Sta (Kown F w) 8 fr' H' a' w' → a'.defers = [] ∧ ∃ x, (results fn a'.tmps).run P w' = .ok x w' ∧ Leaves μ D F [] w v H' x w' := by
    rintro v H' fr' a' w' rfl ⟨μ', D', F', hm, hfr⟩
    obtain ⟨⟨h1, h2, h3, h4, h5, ⟨h6, h7, h8⟩, h9⟩, hr', hD', hdD', hf'⟩ := hm
    refine ⟨hfr.defers, a'.tmps.getD 2 undef, ?_, μ', D', F', ⟨fun id hid => ?_, fun id l hl => ?_, Nat.zero_le _, fun id => ⟨fun hd => ?_, fun hd => ?_⟩, h1, fun m hm => (h2 m hm).elim .inl fun a => .inr (.inl a), hr', fun m hm _ => h4 m hm, fun m hm => .inl (h3 m hm), h5, h6, h7, h8⟩, hfr.slot 2⟩
    · unfold results
      rw [hres]
      simp [Sem.run_bind]
    · rw [hmu id]; exact hf' id (hid.resolve_left (Nat.not_lt_zero _))
    · rw [hmu id] at hl; cases hl
    · obtain ⟨l, hl, hre⟩ := h9 id hd
      exact .inr ⟨Nat.zero_le _, hr'.lt id hd, l, hl, hre⟩
    · rcases hd with a | ⟨_, a, l, hl, hre⟩
      · exact absurd a (hnoD id)
      · exact hD' id l a hl hre
  refine wp_seq (exec_ok hE hrec hdraw hK 1 c0 _ (compC_CM c0) _ [] .norm [(0, .t X), (2, .t .nil)] [] _ w _ (by rw [h0]; rfl) hsta fun a1 w1 h1 => ?_)
  refine wp_seq (wp_seq (wp_region ?_))
  refine clone_reg hE hrec hK ho0 hd0 hd1 hg1 ho1 hty X ys hX a1 w1 h1 _ fun a2 w2 b hb hst => ?_
  have hcv : a2.eval (.tmp 4) = .bool b := by
    obtain ⟨μ2, D2, F2, hm2, hfr2⟩ := hst
    exact (hfr2.slot 4).boolv
  refine wp_cond hcv ?_
  cases b with
  | true =>
    have hys0 := hb rfl
    subst hys0
    refine wp_seq (exec_ok hE hrec hdraw hK 1 c2 _ (compC_CM c2) _ [] .norm [(0, .t X), (2, .t .nil), (3, .t X), (4, .t (.bool true))] [] _ w2 _ (by rw [h2]; rfl) hst fun a3 w3 h3 => ?_)
    refine wp_ret ?_
    obtain ⟨e1, x, e2, μ', D', F', hp, hv⟩ := hend (.t .nil) [] _ a3 w3 rfl h3
    refine ⟨e1, x, e2, x, rfl, ?_⟩
    have hxv : x = .slice none 0 0 := by
      have h5 := hv.tT
      cases h5; rfl
    subst hxv
    have hnoD' : ∀ id, ¬ D' id := fun id hd => by
      rcases (hp.dom id).1 hd with h5 | ⟨_, h5, _⟩
      · exact hnoD id h5
      · exact absurd h5 (Nat.not_lt_zero _)
    have hmu' : ∀ id, μ' id = none := fun id => (hp.mu id (.inr (Nat.zero_le _))).trans (hmu id)
    have hup : ∀ id l, upd μ' 1 (some ⟨0, sz, 0, 0, false⟩) id = some l → id = 1 ∧ l = ⟨0, sz, 0, 0, false⟩ := fun id l h5 => by
      unfold upd at h5
      split at h5
      · rename_i h6; cases h5; exact ⟨h6, rfl⟩
      · rw [hmu' id] at h5; cases h5
    refine ⟨upd μ' 1 (some ⟨0, sz, 0, 0, false⟩), D', F', ⟨fun id hid => ?_, fun id l hl => (by rw [hmu id] at hl; cases hl), Nat.zero_le _, fun id => ⟨fun hd => absurd hd (hnoD' id), fun hd => ?_⟩, hp.old, hp.new, ⟨fun id b hd => absurd hd (hnoD' id), fun i j li lj bi bj hd => absurd hd (hnoD' i), hp.rel.frz, fun id hd => absurd hd (hnoD' id), fun id b l hb hl hre ho => ?_⟩, hp.frame, fun m ⟨id, b, l, hd, _⟩ => absurd hd (hnoD' id), hp.size, hp.os, hp.tape, hp.output⟩, .ref0 1 0 none ⟨0, sz, 0, 0, false⟩ (by simp [upd]) (Nat.le_refl _)⟩
    · have : id ≠ 1 := by
        rcases hid with h5 | h5
        · exact absurd h5 (Nat.not_lt_zero _)
        · simp at h5; omega
      unfold upd
      rw [if_neg this, hmu', hmu]
    · rcases hd with h5 | ⟨_, _, l, h5, h6⟩
      · exact absurd h5 (hnoD id)
      · obtain ⟨_, rfl⟩ := hup id l h5
        cases h6
    · obtain ⟨rfl, rfl⟩ := hup id l hl
      simp at hb
      exact ⟨sz, hb.symm⟩
  | false =>
    refine wp_skip ?_
    refine wp_seq (exec_ok hE hrec hdraw hK 1 ct (compC P .no true 8 ct) (compC_CM ct) _ [] .norm [(0, .t X), (2, .ref 1 0 ys.length), (3, .t X), (4, .t (.bool false)), (5, .ref 0 0 0), (6, .t X), (7, .ref 1 0 ys.length)] [.dead, .pure sz ys] _ w2 _ ?_ hst fun a3 w3 h3 => ?_)
    · rw [ht]
      have hl : ys.length ≤ lim := hys
      rcases hX with ⟨rfl, rfl⟩ | rfl
      · simp [exec]
      · simp [exec, lim] at hl ⊢
        simp [hl]
    · refine wp_ret ?_
      obtain ⟨e1, x, e2, hl⟩ := hend (.ref 1 0 ys.length) _ _ a3 w3 rfl h3
      exact ⟨e1, x, e2, x, rfl, hl⟩
end Go.Proofs.Ytdgfpjlmpnfcgaa.Ev
namespace Go.Proofs.Ytdgfpjlmpnfcgaa.Ev
open Go Go.RowKit
set_option linter.unusedVariables false
set_option linter.unusedSimpArgs false

theorem lookup_mem {α : Type} : ∀ (l : List (Nat × α)) (f : Nat) (x : α), l.lookup f = some x → (f, x) ∈ l
  | [], f, x, h => by simp at h
  | (k, y) :: l, f, x, h => by
    rw [List.lookup_cons] at h
    split at h
    · rename_i he
      cases h
      have : f = k := by simpa using he
      subst this
      exact List.mem_cons_self ..
    · exact List.mem_cons_of_mem _ (lookup_mem l f x h)
def RowOk (P : Program) (p : Nat × Fun) : Prop := (∃ fn, P.funcs[p.1]? = some fn ∧ fn.body.isSome = true ∧ (fn.name == "runtime.NumGoroutine") = false) ∧
  match p.2 with
  | .ir G => ∃ fn mix, P.funcs[p.1]? = some fn ∧ compF P G.mode mix fn = some G
  | .prim m s => ∀ args H v H', s args H = some (v, H') → Sound P p.1 args H v H'
theorem envOk_of {P : Program} (tab : List (Nat × Fun)) (h : ∀ p ∈ tab, RowOk P p) : EnvOk P (fun f => tab.lookup f) := by
  refine ⟨fun f F' hf => (h _ (lookup_mem tab f F' hf)).1, fun f m s hf => (h _ (lookup_mem tab f _ hf)).2, fun f G hf => (h _ (lookup_mem tab f _ hf)).2⟩
theorem rowOk_ir {P : Program} {i : Nat} {fn : Func} {m : Mode} {mix : Mx} {G : Fn} (hf : P.funcs[i]? = some fn) (hb : fn.body.isSome = true) (hn : (fn.name == "runtime.NumGoroutine") = false) (hm : G.mode = m) (hc : compF P m mix fn = some G) : RowOk P (i, .ir G) :=
  ⟨⟨fn, hf, hb, hn⟩, fn, mix, hf, by rw [hm]; exact hc⟩
theorem clone_row {P : Program} {f : Nat} {fn : Func} {sz : Nat} (hf : P.funcs[f]? = some fn) (hb : fn.body.isSome = true) (hn : (fn.name == "runtime.NumGoroutine") = false)
    (hs : ∀ (X : T) (ys : List T), (X = .nil ∧ ys = [] ∨ X = .lst sz ys) → ys.length ≤ lim → Sound P f [.t X] [] (.ref 1 0 ys.length) [.dead, .pure sz ys]) : RowOk P (f, .prim .own (cloneP sz)) := by
  refine ⟨⟨fn, hf, hb, hn⟩, fun args H v H' h => ?_⟩
  unfold cloneP at h
  split at h
  · split at h
    · rename_i s xs hc
      cases h
      obtain ⟨rfl, hl⟩ := hc
      exact hs _ _ (.inr rfl) hl
    · cases h
  · cases h
    exact hs _ _ (.inl ⟨rfl, rfl⟩) (by simp)
  · cases h

theorem ren_t {r : Nat → Option Nat} {v : V} {t : T} (h : v.ren r = .t t) : v = .t t := by
  cases v with
  | t x => simpa [V.ren] using h
  | ref id off len => simp only [V.ren] at h; split at h <;> cases h
  | ptr id idx c => simp only [V.ren] at h; split at h <;> cases h
  | map id => simp only [V.ren] at h; split at h <;> cases h
  | _ => simp [V.ren] at h
theorem own_den {E : Env} {f : FuncId} {ts : List T} {t : T} {H1 : Heap} (h : ownR E f ts = some (.t t, H1)) : ∃ H', den E f (ts.map .t) [] = some (.t t, H') := by
  unfold ownR at h
  split at h
  · cases h
  · rename_i v H2 hd
    split at h
    · have h2 : gcV v H2 = (.t t, H1) := Option.some.inj h
      have h3 : (gcV v H2).1 = .t t := by rw [h2]
      have := ren_t h3
      subst this
      exact ⟨_, hd⟩
    · cases h
theorem top {P : Program} {E : Env} (hE : EnvOk P E) {f : FuncId} {ts : List T} {t : T} {H1 : Heap} {as : List Value} {w : World} (h : ownR E f ts = some (.t t, H1)) (hl : as.length = ts.length) (ha : ∀ (i : Nat) x a, ts[i]? = some x → as[i]? = some a → TR w (fun m => m < w.heap.size) x a) :
    Calls P f as.toArray w fun e w' => ∃ x F', e = .returned x ∧ TR w' F' t x ∧ Below w.heap.size w w' := by
  obtain ⟨H', hd⟩ := own_den h
  have hs := den_sound hE f _ _ _ _ hd (fun _ => none) (fun _ => False) (fun m => m < w.heap.size) w as ⟨fun id b hd => hd.elim, fun i j li lj bi bj hd => hd.elim, fun m hm => hm, fun id hd => hd.elim, fun id b l hb hl => by cases hl⟩
    (fun id l hid hl => by cases hl) (fun id hd => hd.elim) (fun id _ => rfl) (VRs.ofT hl ha)
  refine hs.mono ?_
  rintro e w' ⟨x, rfl, μ', D', F', hp, hv⟩
  refine ⟨x, F', rfl, hv.tT, hp.os, hp.tape, hp.output, hp.size, fun k hk => hp.frame k hk ?_⟩
  rintro ⟨id, b, l, hd, _⟩
  exact hd.elim
theorem top_true {P : Program} {E : Env} (hE : EnvOk P E) {f : FuncId} {ts : List T} {H1 : Heap} {as : List Value} {w : World} (h : ownR E f ts = some (.t (.bool true), H1)) (hl : as.length = ts.length) (ha : ∀ (i : Nat) x a, ts[i]? = some x → as[i]? = some a → TR w (fun m => m < w.heap.size) x a) :
    Calls P f as.toArray w fun e w' => e = .returned (.bool true) ∧ Below w.heap.size w w' := by
  refine (top hE h hl ha).mono ?_
  rintro e w' ⟨x, F', rfl, hx, hb⟩
  cases hx
  exact ⟨rfl, hb⟩
end Go.Proofs.Ytdgfpjlmpnfcgaa.Ev
