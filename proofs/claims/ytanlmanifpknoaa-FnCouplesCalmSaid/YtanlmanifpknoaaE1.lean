/- The evaluator and what it gives of the functions, part 1. No conditions of ours: a law's row is in YtanlmanifpknoaaLFnCouplesCalm. -/
import Derived.Test.YtanlmanifpknoaaE0
import Derived.IntWalk
namespace Go.Proofs.Ytanlmanifpknoaa.Ev
open Go Go.RowKit
set_option linter.unusedVariables false
set_option linter.unusedSimpArgs false

section
variable {P : Program} {μ : Nat → Option Loc} {D F : Nat → Prop} {H : Heap} {w : World}


def flatT (xs : List T) : List T := xs.flatMap T.cells

theorem flat_get {sz : Nat} : ∀ (xs : List T), (∀ (i : Nat) x, xs[i]? = some x → x.el sz = true) → ∀ (i j : Nat) x, xs[i]? = some x → j < sz → (flatT xs)[i * sz + j]? = x.cells[j]?
  | [], _, i, j, x, hx, _ => by simp at hx
  | y :: xs, he, i, j, x, hx, hj => by
    have hy := he 0 y rfl
    simp only [T.el, Bool.and_eq_true, beq_iff_eq] at hy
    simp only [flatT, List.flatMap_cons]
    cases i with
    | zero =>
      simp at hx; subst hx
      rw [Nat.zero_mul, Nat.zero_add, List.getElem?_append_left (by omega)]
    | succ i =>
      have hmul : (i + 1) * sz = i * sz + sz := by rw [Nat.add_mul, Nat.one_mul]
      rw [List.getElem?_append_right (by omega)]
      have := flat_get xs (fun k z hz => he (k + 1) z (by simpa using hz)) i j x (by simpa using hx) hj
      rw [show (i + 1) * sz + j - y.cells.length = i * sz + j by omega]
      exact this

theorem flat_length {sz : Nat} : ∀ (xs : List T), (∀ (i : Nat) x, xs[i]? = some x → x.el sz = true) → (flatT xs).length = xs.length * sz
  | [], _ => by simp [flatT]
  | y :: xs, he => by
    have hy := he 0 y rfl
    simp only [T.el, Bool.and_eq_true, beq_iff_eq] at hy
    have := flat_length xs fun k z hz => he (k + 1) z (by simpa using hz)
    simp only [flatT, List.flatMap_cons, List.length_append, List.length_cons] at *
    rw [this, Nat.add_mul]; omega
theorem ELs.ofVRs {sz : Nat} {xs : List T} {cs : Array Value} {bs : List Value} (he : ∀ (i : Nat) x, xs[i]? = some x → x.el sz = true) (h : VRs μ w F ((flatT xs).map .t) bs) (hb : ∀ i, i < bs.length → cs.toList[i]? = bs[i]?) (hs : bs.length ≤ cs.size) :
    ELs w F cs 0 sz xs := by
  have hl := flat_length xs he
  have h1 := h.1
  rw [List.length_map, hl] at h1
  refine ⟨by omega, he, fun i x hx j y hy => ?_⟩
  have hj := (List.getElem?_eq_some_iff.1 hy).1
  have hel := he i x hx
  simp only [T.el, Bool.and_eq_true, beq_iff_eq] at hel
  have hi := (List.getElem?_eq_some_iff.1 hx).1
  have h3 : (i + 1) * sz ≤ xs.length * sz := Nat.mul_le_mul_right _ hi
  rw [Nat.add_mul] at h3
  have hg := flat_get xs he i j x hx (by omega)
  rw [hy] at hg
  have hlt : i * sz + j < bs.length := by omega
  have hbb : bs[i * sz + j]? = some (bs[i * sz + j]'hlt) := List.getElem?_eq_getElem _
  have hv := h.2 (i * sz + j) (.t y) _ (by rw [List.getElem?_map, hg]; rfl) hbb
  rw [getD_toList, List.getD_eq_getElem?_getD, Nat.zero_add, hb _ hlt, hbb]
  exact hv.tT

theorem flat_set {sz : Nat} {t : T} : ∀ (xs : List T) (i : Nat), (∀ (i : Nat) x, xs[i]? = some x → x.el sz = true) → t.el sz = true → i < xs.length → flatT (xs.set i t) = splice (flatT xs) (i * sz) t.cells
  | [], i, _, _, hi => by simp at hi
  | y :: xs, 0, he, ht, _ => by
    have hy := he 0 y rfl
    simp only [T.el, Bool.and_eq_true, beq_iff_eq] at hy ht
    simp only [List.set_cons_zero, flatT, List.flatMap_cons, splice, Nat.zero_mul, List.take_zero, List.nil_append, Nat.zero_add]
    rw [show t.cells.length = y.cells.length by omega, List.drop_left]
  | y :: xs, i + 1, he, ht, hi => by
    have hy := he 0 y rfl
    simp only [T.el, Bool.and_eq_true, beq_iff_eq] at hy
    have := flat_set xs i (fun k z hz => he (k + 1) z (by simpa using hz)) ht (by simpa using hi)
    simp only [List.set_cons_succ, flatT, List.flatMap_cons] at *
    rw [this]
    have hmul : (i + 1) * sz = y.cells.length + i * sz := by rw [Nat.add_mul, Nat.one_mul]; omega
    simp only [splice]
    rw [hmul, List.take_append, Nat.add_sub_cancel_left, List.take_of_length_le (Nat.le_add_right _ _), Nat.add_assoc, List.drop_append, Nat.add_sub_cancel_left, List.drop_eq_nil_of_le (Nat.le_add_right _ _)]
    simp [List.append_assoc]

theorem fillT_ok {sz : Nat} : ∀ (parts : List (Nat × T)) (xs ys : List T), (∀ (i : Nat) x, xs[i]? = some x → x.el sz = true) → fillT sz xs parts = some ys →
    (∀ (i : Nat) x, ys[i]? = some x → x.el sz = true) ∧ ys.length = xs.length ∧ fillV ((flatT xs).map .t) (parts.map fun p => (p.1 * sz, sz, V.t p.2)) = some ((flatT ys).map .t)
  | [], xs, ys, he, h => by simp only [fillT] at h; cases h; exact ⟨he, rfl, rfl⟩
  | (i, t) :: parts, xs, ys, he, h => by
    simp only [fillT] at h
    split at h
    · rename_i hc
      obtain ⟨ht, hi⟩ := hc
      have he' : ∀ (j : Nat) x, (xs.set i t)[j]? = some x → x.el sz = true := fun j x hx => by
        rw [List.getElem?_set] at hx
        split at hx
        · cases hx; exact ht
        · exact he j x hx
      obtain ⟨h1, h2, h3⟩ := fillT_ok parts (xs.set i t) ys he' h
      refine ⟨h1, by simpa using h2, ?_⟩
      have ht' := ht
      simp only [T.el, Bool.and_eq_true, beq_iff_eq] at ht'
      have hcells : (V.t t).cells = some (t.cells.map .t) := by
        cases t <;> rfl
      have hsz : (t.cells.map V.t).length = sz := by rw [List.length_map]; exact ht'.1
      have hfl := flat_length xs he
      have hmul : (i + 1) * sz ≤ xs.length * sz := Nat.mul_le_mul_right _ hi
      rw [Nat.add_mul, Nat.one_mul] at hmul
      simp only [List.map_cons, fillV, hcells]
      rw [if_pos ⟨hsz, by rw [List.length_map]; omega⟩]
      have : splice ((flatT xs).map V.t) (i * sz) (t.cells.map V.t) = (flatT (xs.set i t)).map V.t := by
        rw [flat_set xs i he ht hi]
        simp [splice, List.map_take, List.map_drop]
      rw [this]; exact h3
    · cases h
theorem zeros_ok {e : TypeId} {z : T} {zv : Value} {sz : Nat} (n : Nat) (hz : TR w F z zv) (hv : tOfV zv = some z) (hs : z.el sz = true) (h0 : 0 < sz) :
    VRs μ w F ((flatT (List.replicate n z)).map .t) ((Array.range (n * sz)).map (fun i => zv.cells[i % zv.cells.size]!)).toList ∧ zv.cells.size = sz := by
  simp only [T.el, Bool.and_eq_true, beq_iff_eq] at hs
  have hc : VRs μ w F (z.cells.map .t) zv.cells.toList := by
    have hcc : (V.t z).cells = some (z.cells.map .t) := by cases z <;> rfl
    exact cells_VRs (.t hz) hcc
  have hsz : zv.cells.size = sz := by
    have := hc.1
    rw [Array.length_toList, List.length_map] at this
    omega
  have hel : ∀ (i : Nat) x, (List.replicate n z)[i]? = some x → x.el sz = true := fun i x hx => by
    rw [List.getElem?_replicate] at hx
    split at hx
    · cases hx; simp only [T.el, Bool.and_eq_true, beq_iff_eq]; exact hs
    · cases hx
  have hfl := flat_length _ hel
  rw [List.length_replicate] at hfl
  refine ⟨⟨by simp [hfl], fun k v a hk ha => ?_⟩, hsz⟩
  rw [List.getElem?_map] at hk
  cases hkf : (flatT (List.replicate n z))[k]? with
  | none => simp [hkf] at hk
  | some y =>
    simp [hkf] at hk; subst hk
    have hlt := (List.getElem?_eq_some_iff.1 hkf).1
    rw [hfl] at hlt
    have hdiv : k / sz < n := Nat.div_lt_of_lt_mul (by rwa [Nat.mul_comm])
    have hmod := Nat.mod_lt k h0
    have hg := flat_get (List.replicate n z) hel (k / sz) (k % sz) z (by rw [List.getElem?_replicate, if_pos hdiv]) hmod
    rw [Nat.mul_comm, Nat.div_add_mod, hkf] at hg
    have ha' : a = zv.cells[k % zv.cells.size]! := by
      simp only [Array.toList_map, List.getElem?_map, Array.toList_range, Option.map_eq_some_iff] at ha
      obtain ⟨q, hq, ha⟩ := ha
      obtain ⟨_, hq⟩ := List.getElem?_eq_some_iff.1 hq
      simp at hq
      rw [← ha, hq]
    rw [ha', hsz]
    refine hc.2 (k % sz) (.t y) _ (by rw [List.getElem?_map, ← hg]; rfl) ?_
    rw [Array.getElem?_toList, getElem!_pos zv.cells (k % sz) (by omega), Array.getElem?_eq_getElem]

theorem i64_id {n : Int} (h0 : 0 ≤ n) (h : n ≤ (lim : Int)) : IntKind.i64.wrap n = n := by
  refine IntWalk.i64_in ?_ ?_ <;> simp [lim] at h <;> omega

theorem mks_ok {t e : TypeId} {sz : Nat} {z : T} {l c : Int} {k k' : IntKind} (h : Rel μ D F H w) (hf : μ H.length = none) (hu : P.underlying t = some (.slice e)) (hs : szT P e = some sz) (hz : elemT P e = some z) (h0 : 0 < sz) (hel : z.el sz = true) (hby : okBytes P e = true)
    (hl : 0 ≤ l) (hlc : l ≤ c) (hc : c ≤ (lim : Int)) :
    ∃ y w', (Instr.makeSlice t (.int k l) (.int k' c)).run P w = .ok y w' ∧ Leaves μ D F H w (.ref H.length 0 l.toNat) (H ++ [.pure sz (List.replicate l.toNat z)]) y w' := by
  obtain ⟨zv, hzv, hzr, hzt⟩ := elemT_ok (w := w) (F := F) hz
  obtain ⟨hzs, hsz⟩ := zeros_ok (μ := μ) (e := e) c.toNat hzr hzt hel h0
  unfold okBytes at hby
  cases hi : P.info? e with
  | none => simp [hi] at hby
  | some i =>
    have hib : i.bytes ≤ 1024 := by simpa [hi] using hby
    have hti : ∀ w, (typeInfo e).run P w = .ok i w := fun w => by unfold typeInfo; simp only [Sem.run_bind, run_program, Result.andThen_ok, hi, Sem.run_pure]
    have hlim : lim = 68719476736 := rfl
    have hw1 : IntKind.i64.wrap l = l := i64_id hl (by omega)
    have hw2 : IntKind.i64.wrap c = c := i64_id (by omega) hc
    have hbig : ((i.bytes : Int) * c) ≤ 1024 * 68719476736 := by
      have h1 : (i.bytes : Int) * c ≤ 1024 * c := Int.mul_le_mul_of_nonneg_right (by omega) (by omega)
      have h2 : (1024 : Int) * c ≤ 1024 * 68719476736 := Int.mul_le_mul_of_nonneg_left (by omega) (by omega)
      omega
    have hp48 : (2 : Int) ^ 48 = 281474976710656 := by decide
    let cs : Array Value := (Array.range (c.toNat * sz)).map (fun i => zv.cells[i % zv.cells.size]!)
    have hcs : cs.size = c.toNat * sz := by simp [cs]
    have hrun : (Instr.makeSlice t (.int k l) (.int k' c)).run P w = .ok (.slice (some ⟨w.heap.size, 0, none⟩) l.toNat c.toNat) (w.alloc (.cells cs e)) := by
      unfold Instr.makeSlice
      simp only [Sem.run_bind, run_underlying hu, Result.andThen_ok, asInt, asIntOf, Sem.run_pure, hti, hw1, hw2]
      rw [if_neg (by simp only [Bool.or_eq_true, decide_eq_true_eq]; rw [hp48]; omega)]
      simp only [Sem.run_bind, run_askRoom, Result.andThen_ok, run_sizeOf hs]
      by_cases hn : c.toNat * sz = 0
      · have hc0 : c.toNat = 0 := by rcases Nat.mul_eq_zero.1 hn with a | a <;> omega
        simp only [hn, if_true, Sem.run_pure, Result.andThen_ok, newRow, Sem.run_bind, run_newObj, World.alloc_eq]
        have : cs = #[] := by apply Array.eq_empty_of_size_eq_zero; omega
        rw [this]
        congr 2
        simp
      · rw [if_neg hn]
        simp only [Sem.run_bind, hzv, Result.andThen_ok, Sem.run_pure, newRow, run_newObj, World.alloc_eq]
        rfl
    refine ⟨_, _, hrun, ?_⟩
    have hpost := Post.alloc (b := .pure sz (List.replicate l.toNat z)) h hf ⟨w.heap.size, sz, l.toNat, cs.size, true⟩ (.cells cs e) rfl rfl fun hp hmo => by
      have hrl : ∀ (n : Nat) (i : Nat) x, (List.replicate n z)[i]? = some x → x.el sz = true := fun n i x hx => by
        rw [List.getElem?_replicate] at hx
        split at hx
        · cases hx; exact hel
        · cases hx
      have hall : ELs w F cs 0 sz (List.replicate c.toNat z) := ELs.ofVRs (μ := μ) (hrl _) hzs (fun i _ => rfl) (by rw [Array.length_toList]; exact Nat.le_refl _)
      have hpart : ELs w F cs 0 sz (List.replicate l.toNat z) := by
        refine ⟨?_, hrl _, fun i x hx => ?_⟩
        · rw [List.length_replicate, hcs]
          have : l.toNat * sz ≤ c.toNat * sz := Nat.mul_le_mul_right _ (by omega)
          omega
        · refine hall.rd i x ?_
          rw [List.getElem?_replicate] at hx ⊢
          split at hx
          · rename_i hlt; rw [if_pos (by omega)]; exact hx
          · cases hx
      exact ⟨_, cs, ⟨upd_same _ _ _, rfl⟩, Wri.alloc w cs e, h.notF, rfl, by simp, rfl, h0, hpart.mono hp fun _ h => h⟩
    refine ⟨_, _, _, hpost, ?_⟩
    have := VR.ref (μ := upd μ H.length (some ⟨w.heap.size, sz, l.toNat, cs.size, true⟩)) (w := w.alloc (.cells cs e)) (F := F) H.length 0 l.toNat c.toNat _ (upd_same _ _ _) rfl (by simp) (by simp; omega) (by simp [hcs])
    simpa using this

end
end Go.Proofs.Ytanlmanifpknoaa.Ev
namespace Go.Proofs.Ytanlmanifpknoaa.Ev
open Go Go.RowKit
set_option linter.unusedVariables false
set_option linter.unusedSimpArgs false

section
variable {P : Program} {μ : Nat → Option Loc} {D F : Nat → Prop} {H : Heap} {w : World}

theorem VRs.ofTRs {ts : List T} {as : List Value} (h : as.length = ts.length ∧ ∀ (i : Nat) x a, ts[i]? = some x → as[i]? = some a → TR w F x a) : VRs μ w F (ts.map .t) as := VRs.ofT h.1 h.2

theorem zip_get {α β : Type} : ∀ (xs : List α) (ys : List β) (i : Nat) (p : α × β), (xs.zip ys)[i]? = some p → xs[i]? = some p.1 ∧ ys[i]? = some p.2 := fun xs ys i p h => by
  rw [List.getElem?_zip_eq_some] at h; exact h

theorem bslRun {t e : TypeId} {sz n : Nat} {z : T} {parts : List (Nat × Nat × V)} {mp : List (Nat × Value)} {us : List V} (hu : P.underlying t = some (.slice e)) (hs : szT P e = some sz) (hz : elemT P e = some z) (h0 : 0 < sz) (hel : z.el sz = true) (hn : n * sz ≤ 2 ^ 24)
    (hl : mp.length = parts.length) (hp : ∀ (i : Nat) p q, parts[i]? = some p → mp[i]? = some q → (q.1 * sz, sz) = (p.1, p.2.1) ∧ VR μ w F p.2.2 q.2) (hf : fillV ((flatT (List.replicate n z)).map .t) parts = some us) :
    ∃ bs : List Value, (Instr.buildSlice t n mp.toArray).run P w = .ok (.slice (some ⟨w.heap.size, 0, none⟩) n n) (w.alloc (.cells bs.toArray e)) ∧ VRs μ w F us bs ∧ bs.length = n * sz := by
  obtain ⟨zv, hzv, hzr, hzt⟩ := elemT_ok (P := P) (w := w) (F := F) hz
  obtain ⟨hzs, hsz⟩ := zeros_ok (μ := μ) (e := e) n hzr hzt hel h0
  obtain ⟨bs, h3, h4⟩ := fill_ok parts mp (fun (i : Nat) => some (i * sz, sz)) _ _ us hl (fun i p q h1 h2 => by
    obtain ⟨k1, k2⟩ := hp i p q h1 h2
    exact ⟨congrArg some k1, k2⟩) hzs hf
  have hlen : us.length = n * sz := by
    have hel' : ∀ (i : Nat) x, (List.replicate n z)[i]? = some x → x.el sz = true := fun i x hx => by
      rw [List.getElem?_replicate] at hx
      split at hx
      · cases hx; exact hel
      · cases hx
    have h5 := flat_length _ hel'
    rw [List.length_replicate] at h5
    have : ∀ (ps : List (Nat × Nat × V)) (vs us : List V), fillV vs ps = some us → us.length = vs.length := by
      intro ps
      induction ps with
      | nil => intro vs us h; simp only [fillV] at h; cases h; rfl
      | cons p ps ih =>
        obtain ⟨o, k, x⟩ := p
        intro vs us h
        simp only [fillV] at h
        split at h
        · split at h
          · rename_i hc
            rw [ih _ _ h, splice_length _ _ _ (by omega)]
          · cases h
        · cases h
    rw [this _ _ _ hf, List.length_map, h5]
  refine ⟨bs, ?_, h4, by rw [h4.1, hlen]⟩
  unfold Instr.buildSlice
  simp only [Sem.run_bind, run_underlying hu, Result.andThen_ok, run_sizeOf hs]
  rw [if_neg (by omega)]
  have h3' : Instr.fill (fun i => some (i * sz, sz)) ((Array.range (n * sz)).map (fun i => zv.cells[i % zv.cells.size]!)) mp = some bs.toArray := by
    rw [Array.toArray_toList] at h3; exact h3
  by_cases hn0 : n * sz = 0
  · have hcells : (Array.range (n * sz)).map (fun x => (#[] : Array Value)[x % (#[] : Array Value).size]!) = (Array.range (n * sz)).map (fun i => zv.cells[i % zv.cells.size]!) := by
      rw [hn0]; simp
    rw [if_pos hn0]
    simp only [Sem.run_bind, Sem.run_pure, Result.andThen_ok, hcells, h3', newRow, run_newObj, World.alloc_eq]
  · rw [if_neg hn0]
    simp only [Sem.run_bind, hzv, Sem.run_pure, Result.andThen_ok, h3', newRow, run_newObj, World.alloc_eq]

theorem bsl_ok {t e : TypeId} {sz n : Nat} {z : T} {is : List Nat} {vs : List V} {xs : List Value} {ts ys : List T} {L : List (Nat × Blk)} (h : Rel μ D F H w) (hD : ∀ id l, id < H.length → μ id = some l → l.real = true → D id) (hf : μ H.length = none)
    (hu : P.underlying t = some (.slice e)) (hs : szT P e = some sz) (hz : elemT P e = some z) (h0 : 0 < sz) (hel : z.el sz = true) (hn : n * sz ≤ 2 ^ 24)
    (hrd : rdL (rd H depth) vs = some (ts, L)) (hv : VRs μ w F vs xs) (hil : is.length = xs.length) (hfill : fillT sz (List.replicate n z) (is.zip ts) = some ys) :
    ∃ y w', (Instr.buildSlice t n (is.zip xs).toArray).run P w = .ok y w' ∧ Leaves μ D F H w (.ref H.length 0 n) (frz H L ++ [.pure sz ys]) y w' := by
  obtain ⟨hts, hLo⟩ := rdL_ok (rd_ok h hD depth) vs ts L xs hrd hv (LF μ F L) (fun m hm => .inl hm) fun p hp l hl hre => .inr ⟨p, hp, l, hl, hre, rfl⟩
  have hpost := Post.freeze h hD hLo
  have hrepl : ∀ (i : Nat) x, (List.replicate n z)[i]? = some x → x.el sz = true := fun i x hx => by
    rw [List.getElem?_replicate] at hx
    split at hx
    · cases hx; exact hel
    · cases hx
  obtain ⟨hyel, hyl, hfv⟩ := fillT_ok (is.zip ts) (List.replicate n z) ys hrepl hfill
  have hlt : ts.length = xs.length := hts.1.symm
  obtain ⟨bs, hrun, hbs, hbl⟩ := bslRun (P := P) (μ := μ) (w := w) (F := LF μ F L) (mp := is.zip xs) hu hs hz h0 hel hn (by simp [hlt]) (fun i p q hp hq => by
    rw [List.getElem?_map] at hp
    cases hzp : (is.zip ts)[i]? with
    | none => simp [hzp] at hp
    | some r =>
      simp [hzp] at hp; subst hp
      obtain ⟨k1, k2⟩ := zip_get _ _ _ _ hzp
      obtain ⟨k3, k4⟩ := zip_get _ _ _ _ hq
      have e : r.1 = q.1 := by rw [k1] at k3; exact Option.some.inj k3
      exact ⟨by rw [e], .t (hts.2 i _ _ k2 k4)⟩) hfv
  refine ⟨_, _, hrun, ?_⟩
  have hlen : (frz H L).length = H.length := frz_length L H
  have hr2 := hpost.rel
  have hpost2 := Post.alloc (b := .pure sz ys) hr2 (by rw [hlen]; exact hf) ⟨w.heap.size, sz, n, bs.length, true⟩ (.cells bs.toArray e) rfl rfl fun hp hmo => by
    have hels : ELs w (LF μ F L) bs.toArray 0 sz ys := ELs.ofVRs hyel hbs (fun i _ => rfl) (by simp)
    refine ⟨_, bs.toArray, ⟨upd_same _ _ _, rfl⟩, Wri.alloc w bs.toArray e, hr2.notF, rfl, ?_, by simp, h0, hels.mono hp fun _ h => h⟩
    rw [hyl, List.length_replicate]
  rw [hlen] at hpost2
  refine ⟨_, _, _, hpost.trans hpost2, ?_⟩
  have := VR.ref (μ := upd μ H.length (some ⟨w.heap.size, sz, n, bs.length, true⟩)) (w := w.alloc (.cells bs.toArray e)) (F := LF μ F L) H.length 0 n n _ (upd_same _ _ _) rfl (by simp) (by simp) (by simp [hbl])
  simpa using this

theorem tsF_map : ∀ (vs : List V) (ts : List T), tsF vs = some ts → vs = ts.map .t
  | [], ts, h => by simp only [tsF] at h; cases h; rfl
  | v :: vs, ts, h => by
    cases v with
    | t x =>
      simp only [tsF] at h
      split at h
      · rename_i ts' h'
        cases h
        rw [List.map_cons, ← tsF_map vs ts' h']
      · cases h
    | _ => simp [tsF] at h
theorem VRs.cons_inv {v : V} {vs : List V} {xs : List Value} (h : VRs μ w F (v :: vs) xs) : ∃ x xs', xs = x :: xs' ∧ VR μ w F v x ∧ VRs μ w F vs xs' := by
  cases xs with
  | nil => have := h.1; simp at this
  | cons x xs => exact ⟨x, xs, rfl, h.2 0 _ _ rfl rfl, by have := h.1; simpa using this, fun i v a hv ha => h.2 (i + 1) v a (by simpa using hv) (by simpa using ha)⟩
theorem tsAll_ok : ∀ (vs : List V) (ts : List T), tsAll vs = some ts → ∀ xs, VRs μ w F vs xs → VRs μ w F (ts.map .t) xs
  | [], ts, h, xs, hv => by simp only [tsAll] at h; cases h; exact hv
  | v :: vs, ts, h, xs, hv => by
    obtain ⟨x, xs, rfl, hx, hxs⟩ := hv.cons_inv
    cases v with
    | t y =>
      simp only [tsAll] at h
      split at h
      · rename_i ts' h'
        cases h
        exact VRs.cons hx (tsAll_ok vs ts' h' xs hxs)
      · cases h
    | agg us =>
      simp only [tsAll] at h
      split at h
      · rename_i ys hys
        split at h
        · rename_i ts' h'
          cases h
          have hus := tsF_map us ys hys
          subst hus
          refine VRs.cons (.t ?_) (tsAll_ok vs ts' h' xs hxs)
          cases hx with
          | agg _ as hl hh =>
            refine .agg ys as (by simpa using hl) fun i y a hy ha => ?_
            have := hh i (.t y) a (by rw [List.getElem?_map, hy]; rfl) ha
            cases this with
            | t h => exact h
        · cases h
      · cases h
    | _ => simp [tsAll] at h
theorem Post.birth (h : Rel μ D F H w) (o : Obj) : Post μ D F H w μ D (fun m => F m ∨ m = w.heap.size) H (w.alloc o) := by
  have hp : ∀ m, m < w.heap.size → (w.alloc o).heap[m]? = w.heap[m]? := fun m hm => Below.heap_alloc _ _ _ hm
  have hsz : (w.alloc o).heap.size = w.heap.size + 1 := by
    show (w.heap.push o).size = _
    exact Array.size_push ..
  refine ⟨fun _ _ => rfl, fun _ _ h => h, Nat.le_refl _, fun id => ⟨.inl, fun h => h.elim (fun x => x) fun ⟨a, b, _⟩ => by omega⟩, fun m hm => .inl hm, fun m hm => hm.elim .inl fun e => .inr (.inl (by omega)), ⟨fun id b hd hb => ?_, h.inj, fun m hm => ?_, h.lt, h.non⟩, fun m hm _ => hp m hm, fun m hm => .inr hm, by omega, rfl, rfl, rfl⟩
  · have hb' := h.blk id b hd hb
    refine hb'.mono (fun _ _ h => h) (fun m hm => hp m (h.frz m hm)) (fun m hm => .inl hm) fun l hl ho => ?_
    obtain ⟨l', hl', hlt, hnF⟩ := hb'.own_lt ho
    rw [hl] at hl'; cases hl'
    exact ⟨hp _ hlt, fun hF => hF.elim hnF fun e => by omega⟩
  · rcases hm with hm | hm
    · have := h.frz m hm; omega
    · omega
theorem bsf_ok {t e : TypeId} {sz n : Nat} {z : T} {is : List Nat} {vs : List V} {xs : List Value} {ts ys : List T} (h : Rel μ D F H w)
    (hu : P.underlying t = some (.slice e)) (hs : szT P e = some sz) (hz : elemT P e = some z) (h0 : 0 < sz) (hel : z.el sz = true) (hn : n * sz ≤ 2 ^ 24)
    (hts : tsAll vs = some ts) (hv : VRs μ w F vs xs) (hil : is.length = xs.length) (hfill : fillT sz (List.replicate n z) (is.zip ts) = some ys) :
    ∃ y w', (Instr.buildSlice t n (is.zip xs).toArray).run P w = .ok y w' ∧ Leaves μ D F H w (.t (.lst sz ys)) H y w' := by
  replace hv := tsAll_ok vs ts hts xs hv
  have hrepl : ∀ (i : Nat) x, (List.replicate n z)[i]? = some x → x.el sz = true := fun i x hx => by
    rw [List.getElem?_replicate] at hx
    split at hx
    · cases hx; exact hel
    · cases hx
  obtain ⟨hyel, hyl, hfv⟩ := fillT_ok (is.zip ts) (List.replicate n z) ys hrepl hfill
  have hlt : ts.length = xs.length := by have := hv.1; simp at this; omega
  obtain ⟨bs, hrun, hbs, hbl⟩ := bslRun (P := P) (μ := μ) (w := w) (F := F) (mp := is.zip xs) hu hs hz h0 hel hn (by simp [hlt]) (fun i p q hp hq => by
    rw [List.getElem?_map] at hp
    cases hzp : (is.zip ts)[i]? with
    | none => simp [hzp] at hp
    | some r =>
      simp [hzp] at hp; subst hp
      obtain ⟨k1, k2⟩ := zip_get _ _ _ _ hzp
      obtain ⟨k3, k4⟩ := zip_get _ _ _ _ hq
      have e : r.1 = q.1 := by rw [k1] at k3; exact Option.some.inj k3
      exact ⟨by rw [e], hv.2 i _ _ (by rw [List.getElem?_map, k2]; rfl) k4⟩) hfv
  refine ⟨_, _, hrun, _, _, _, Post.birth h _, .t ?_⟩
  have hpost := Post.birth h (.cells bs.toArray e)
  have hels : ELs w F bs.toArray 0 sz ys := ELs.ofVRs hyel hbs (fun i _ => rfl) (by simp)
  have hels' := hels.mono (hpost.pres h) hpost.old
  have hyn : ys.length = n := by rw [hyl, List.length_replicate]
  have := TR.lst (w := w.alloc (.cells bs.toArray e)) (F := fun m => F m ∨ m = w.heap.size) sz ys w.heap.size 0 n bs.toArray (.inr rfl) (Wri.alloc w bs.toArray e).cel hels'.size (by omega) hels'.el fun i x j y hx hy => hels'.rd i x hx j y hy
  rw [hyn] at this
  exact this
theorem msf_ok {t e : TypeId} {sz : Nat} {z : T} {l c : Int} {k k' : IntKind} (h : Rel μ D F H w) (hu : P.underlying t = some (.slice e)) (hs : szT P e = some sz) (hz : elemT P e = some z) (h0 : 0 < sz) (hel : z.el sz = true) (hby : okBytes P e = true)
    (hl : 0 ≤ l) (hlc : l ≤ c) (hc : c ≤ (lim : Int)) :
    ∃ y w', (Instr.makeSlice t (.int k l) (.int k' c)).run P w = .ok y w' ∧ Leaves μ D F H w (.t (.lst sz (List.replicate l.toNat z))) H y w' := by
  obtain ⟨zv, hzv, hzr, hzt⟩ := elemT_ok (w := w) (F := F) hz
  obtain ⟨hzs, hsz⟩ := zeros_ok (μ := μ) (e := e) c.toNat hzr hzt hel h0
  unfold okBytes at hby
  cases hi : P.info? e with
  | none => simp [hi] at hby
  | some i =>
    have hib : i.bytes ≤ 1024 := by simpa [hi] using hby
    have hti : ∀ w, (typeInfo e).run P w = .ok i w := fun w => by unfold typeInfo; simp only [Sem.run_bind, run_program, Result.andThen_ok, hi, Sem.run_pure]
    have hlim : lim = 68719476736 := rfl
    have hw1 : IntKind.i64.wrap l = l := i64_id hl (by omega)
    have hw2 : IntKind.i64.wrap c = c := i64_id (by omega) hc
    have hbig : ((i.bytes : Int) * c) ≤ 1024 * 68719476736 := by
      have h1 : (i.bytes : Int) * c ≤ 1024 * c := Int.mul_le_mul_of_nonneg_right (by omega) (by omega)
      have h2 : (1024 : Int) * c ≤ 1024 * 68719476736 := Int.mul_le_mul_of_nonneg_left (by omega) (by omega)
      omega
    have hp48 : (2 : Int) ^ 48 = 281474976710656 := by decide
    let cs : Array Value := (Array.range (c.toNat * sz)).map (fun i => zv.cells[i % zv.cells.size]!)
    have hcs : cs.size = c.toNat * sz := by simp [cs]
    have hrun : (Instr.makeSlice t (.int k l) (.int k' c)).run P w = .ok (.slice (some ⟨w.heap.size, 0, none⟩) l.toNat c.toNat) (w.alloc (.cells cs e)) := by
      unfold Instr.makeSlice
      simp only [Sem.run_bind, run_underlying hu, Result.andThen_ok, asInt, asIntOf, Sem.run_pure, hti, hw1, hw2]
      rw [if_neg (by simp only [Bool.or_eq_true, decide_eq_true_eq]; rw [hp48]; omega)]
      simp only [Sem.run_bind, run_askRoom, Result.andThen_ok, run_sizeOf hs]
      by_cases hn : c.toNat * sz = 0
      · have hc0 : c.toNat = 0 := by rcases Nat.mul_eq_zero.1 hn with a | a <;> omega
        simp only [hn, if_true, Sem.run_pure, Result.andThen_ok, newRow, Sem.run_bind, run_newObj, World.alloc_eq]
        have : cs = #[] := by apply Array.eq_empty_of_size_eq_zero; omega
        rw [this]
        congr 2
        simp
      · rw [if_neg hn]
        simp only [Sem.run_bind, hzv, Result.andThen_ok, Sem.run_pure, newRow, run_newObj, World.alloc_eq]
        rfl
    refine ⟨_, _, hrun, ?_⟩
    have hrl : ∀ (n : Nat) (i : Nat) x, (List.replicate n z)[i]? = some x → x.el sz = true := fun n i x hx => by
      rw [List.getElem?_replicate] at hx
      split at hx
      · cases hx; exact hel
      · cases hx
    have hall : ELs w F cs 0 sz (List.replicate c.toNat z) := ELs.ofVRs (μ := μ) (hrl _) hzs (fun i _ => rfl) (by rw [Array.length_toList]; exact Nat.le_refl _)
    have hpart : ELs w F cs 0 sz (List.replicate l.toNat z) := by
      refine ⟨?_, hrl _, fun i x hx => ?_⟩
      · rw [List.length_replicate, hcs]
        have : l.toNat * sz ≤ c.toNat * sz := Nat.mul_le_mul_right _ (by omega)
        omega
      · refine hall.rd i x ?_
        rw [List.getElem?_replicate] at hx ⊢
        split at hx
        · rename_i hlt; rw [if_pos (by omega)]; exact hx
        · cases hx
    have hpost := Post.birth h (.cells cs e)
    have hpart' := hpart.mono (hpost.pres h) hpost.old
    refine ⟨_, _, _, hpost, .t ?_⟩
    have := TR.lst (w := w.alloc (.cells cs e)) (F := fun m => F m ∨ m = w.heap.size) sz (List.replicate l.toNat z) w.heap.size 0 c.toNat cs (.inr rfl) (Wri.alloc w cs e).cel hpart'.size (by rw [List.length_replicate]; omega) hpart'.el fun i x j y hx hy => hpart'.rd i x hx j y hy
    rw [List.length_replicate] at this
    exact this

theorem bslM_ok {t e : TypeId} {sz n : Nat} {z : T} {is : List Nat} {vs us : List V} {xs : List Value} (h : Rel μ D F H w) (hf : μ H.length = none)
    (hu : P.underlying t = some (.slice e)) (hs : szT P e = some sz) (hz : elemT P e = some z) (h0 : 0 < sz) (hel : z.el sz = true) (hn : n * sz ≤ 2 ^ 24)
    (hv : VRs μ w F vs xs) (hil : is.length = xs.length) (hfill : fillV (List.replicate n (z.cells.map V.t)).flatten ((is.zip vs).map fun p => (p.1 * sz, sz, p.2)) = some us) :
    ∃ y w', (Instr.buildSlice t n (is.zip xs).toArray).run P w = .ok y w' ∧ Leaves μ D F H w (.ref H.length 0 n) (H ++ [.box sz us]) y w' := by
  have hflat : (List.replicate n (z.cells.map V.t)).flatten = (flatT (List.replicate n z)).map .t := by
    unfold flatT
    rw [List.flatMap_def, List.map_flatten, List.map_replicate, List.map_replicate]
  rw [hflat] at hfill
  obtain ⟨bs, hrun, hbs, hbl⟩ := bslRun (P := P) (μ := μ) (w := w) (F := F) (mp := is.zip xs) hu hs hz h0 hel hn (by simp [hv.1]) (fun i p q hp hq => by
    rw [List.getElem?_map] at hp
    cases hzp : (is.zip vs)[i]? with
    | none => simp [hzp] at hp
    | some r =>
      simp [hzp] at hp; subst hp
      obtain ⟨k1, k2⟩ := zip_get _ _ _ _ hzp
      obtain ⟨k3, k4⟩ := zip_get _ _ _ _ hq
      have e : r.1 = q.1 := by rw [k1] at k3; exact Option.some.inj k3
      exact ⟨by rw [e], hv.2 i _ _ k2 k4⟩) hfill
  refine ⟨_, _, hrun, ?_⟩
  have hb2 : VRs μ w F us bs.toArray.toList := by simpa using hbs
  obtain ⟨_, μ', D', hpost, hm⟩ := box_ok h hf e hb2 n sz (by rw [← hbs.1, hbl])
  refine ⟨_, _, _, hpost, ?_⟩
  have := VR.ref (μ := μ') (w := w.alloc (.cells bs.toArray e)) (F := F) H.length 0 n n _ hm rfl (by simp) (by simp) (by simp [hbl])
  simpa using this

theorem st_ok {t : TypeId} {n : Nat} {p x : Value} {vp vx : V} {H' : Heap} (h : Rel μ D F H w) (hD : ∀ id l, id < H.length → μ id = some l → l.real = true → D id) (hs : szT P t = some n) (hp : VR μ w F vp p) (hx : VR μ w F vx x) (he : evSt H n vp vx = some H') :
    ∃ w' μ' D' F', (Instr.storeAt t p x).run P w = .ok () w' ∧ Post μ D F H w μ' D' F' H' w' := by
  unfold evSt at he
  split at he
  · rename_i id i c
    cases hp with
    | ptr id i c l hl hre =>
      have hgo : (Instr.storeAt t (.pointer (some ⟨l.m, i * l.sz + c, none⟩)) x).run P w = (storeVar t ⟨l.m, i * l.sz + c, none⟩ x).run P w := by
        unfold Instr.storeAt Instr.sureAddr
        simp only [Sem.run_bind, Sem.run_pure, Result.andThen_ok]
      rw [hgo]
      split at he
      · rename_i sz vs hb
        have hd := hD id l (List.getElem?_eq_some_iff.1 hb).1 hl hre
        obtain ⟨l', cs, k1, k2, k3, k4, k5, k6, k7, k8⟩ := h.blk id _ hd hb
        rw [hl] at k1; cases k1.1
        split at he
        · rename_i us hus
          split at he
          · rename_i hc
            obtain ⟨hc1, hc2, hc3⟩ := hc
            cases he
            have hcv := cells_VRs hx hus
            have hxs : x.cells.size = us.length := by have := hcv.1; rwa [Array.length_toList] at this
            have hone : ∀ v ∈ x.cells.toList, v.oneCell' = true := fun v hv => by
              obtain ⟨j, hj⟩ := List.getElem?_of_mem hv
              have hjl := (List.getElem?_eq_some_iff.1 hj).1
              have hu : us[j]? = some (us[j]'(by rw [Array.length_toList] at hjl; omega)) := List.getElem?_eq_getElem _
              exact one_V (hcv.2 j _ _ hu hj) (List.all_of_all hc3 hu)
            obtain ⟨w', e1, e2, e3⟩ := run_storeVar (P := P) (o := i * l.sz + c) (cs := cs) hs k2 (by omega) hone (by rw [k4]; omega)
            refine ⟨w', μ, D, F, e1, Post.write h hd hb rfl hl e2 rfl fun hpr => ?_⟩
            have hb1 : i * l.sz + c + x.cells.toList.length ≤ cs.toList.length := by rw [Array.length_toList, Array.length_toList, k4]; omega
            have hb2 : i * sz + c + us.length ≤ vs.length := by omega
            refine ⟨l, _, ⟨hl, hre⟩, e3, k3, k4, by rw [splice_length _ _ _ hb2]; exact k5, by rw [List.size_toArray, splice_length _ _ _ hb1, Array.length_toList]; exact k6, by rw [List.size_toArray, splice_length _ _ _ hb1, splice_length _ _ _ hb2, Array.length_toList]; exact k7, fun j v hj => ?_⟩
            rw [splice_get _ _ _ hb2] at hj
            rw [getD_toArray, List.getD_eq_getElem?_getD, splice_get _ _ _ hb1, Array.length_toList, hxs, k4]
            split at hj
            · rename_i hr
              rw [if_pos hr]
              have hlt := (List.getElem?_eq_some_iff.1 hj).1
              have hxx : x.cells.toList[j - (i * sz + c)]? = some (x.cells.toList[j - (i * sz + c)]'(by rw [Array.length_toList]; omega)) := List.getElem?_eq_getElem _
              rw [hxx]
              exact (hcv.2 _ v _ hj hxx).mono (fun _ _ h => h) hpr fun _ h => h
            · rename_i hr
              rw [if_neg hr]
              have := k8 j v hj
              rw [getD_toList, List.getD_eq_getElem?_getD] at this
              exact this.mono (fun _ _ h => h) hpr fun _ h => h
          · cases he
        · cases he
      · rename_i sz xs hb
        have hd := hD id l (List.getElem?_eq_some_iff.1 hb).1 hl hre
        split at he
        · rename_i ty L u hrd hu
          split at he
          · rename_i hc
            obtain ⟨hc1, hc2, hc3, hc4⟩ := hc
            cases he
            obtain ⟨hty, hLo⟩ := rd_ok h hD depth vx ty L x hrd hx (LF μ F L) (fun m hm => .inl hm) fun p hp l hl hre => .inr ⟨p, hp, l, hl, hre, rfl⟩
            have hpost := Post.freeze h hD hLo
            have hr2 := hpost.rel
            have hnot : ∀ p ∈ L, p.1 ≠ id := fun p hp e => by
              have : (L.map (·.1)).contains id = true := by
                rw [List.contains_iff_mem]; exact e ▸ List.mem_map_of_mem hp
              rw [this] at hc4; cases hc4
            have hb' : (frz H L)[id]? = some (.pure sz xs) := by
              have : ∀ (L : List (Nat × Blk)) (H : Heap), (∀ p ∈ L, p.1 ≠ id) → (frz H L)[id]? = H[id]? := by
                intro L
                induction L with
                | nil => intro H _; rfl
                | cons q L ih =>
                  obtain ⟨k, b⟩ := q
                  intro H hn
                  simp only [frz]
                  rw [ih _ fun p hp => hn p (List.mem_cons_of_mem _ hp), List.getElem?_set_ne (hn (k, b) (List.mem_cons_self ..))]
              rw [this L H hnot]; exact hb
            obtain ⟨l', cs, k1, k2, k3, k4, k5, k6, k7, k8⟩ := hr2.blk id _ hd hb'
            rw [hl] at k1; cases k1.1
            have hcells : (V.t ty).cells = some (ty.cells.map .t) := by cases ty <;> rfl
            have hcv := cells_VRs (μ := μ) (.t hty) hcells
            have hxs : x.cells.size = ty.cells.length := by have := hcv.1; rwa [Array.length_toList, List.length_map] at this
            have hone : ∀ v ∈ x.cells.toList, v.oneCell' = true := fun v hv => by
              obtain ⟨j, hj⟩ := List.getElem?_of_mem hv
              have hjl := (List.getElem?_eq_some_iff.1 hj).1
              have hu : ty.cells[j]? = some (ty.cells[j]'(by rw [Array.length_toList] at hjl; omega)) := List.getElem?_eq_getElem _
              exact one_T (hcv.2 j (.t _) _ (by rw [List.getElem?_map, hu]; rfl) hj).tT (List.all_of_all hc3 hu)
            have hxn : x.cells.size = n := by omega
            have hel := k8.el i u hu
            simp only [T.el, Bool.and_eq_true, beq_iff_eq] at hel
            have hlt := (List.getElem?_eq_some_iff.1 hu).1
            have hmul : (i + 1) * sz ≤ xs.length * sz := Nat.mul_le_mul_right _ hlt
            rw [Nat.add_mul, Nat.one_mul] at hmul
            have hsz := k8.size
            obtain ⟨w', e1, e2, e3⟩ := run_storeVar (P := P) (o := i * l.sz + c) (cs := cs) hs k2 hxn hone (by rw [k4]; omega)
            refine ⟨w', μ, D, LF μ F L, e1, hpost.trans (Post.write hr2 hd hb' rfl hl e2 rfl fun hpr => ?_)⟩
            have hst := ELs.store (c := c) (ts := ty.cells) (vs := x.cells.toList) k8 hu (by omega) hc3 (by rw [Array.length_toList]; omega) fun j y a hy ha => (hcv.2 j (.t y) a (by rw [List.getElem?_map, hy]; rfl) ha).tT
            have hb1 : i * sz + c + x.cells.toList.length ≤ cs.toList.length := by rw [Array.length_toList, Array.length_toList]; omega
            rw [k4] at e3
            exact ⟨l, _, ⟨hl, hre⟩, e3, k3, k4, by rw [List.length_set]; exact k5, by rw [List.size_toArray, splice_length _ _ _ hb1, Array.length_toList]; exact k6, k7, hst.mono hpr fun _ h => h⟩
          · cases he
        · cases he
      · cases he
  · cases he

end
end Go.Proofs.Ytanlmanifpknoaa.Ev
namespace Go.Proofs.Ytanlmanifpknoaa.Ev
open Go Go.RowKit
set_option linter.unusedVariables false
set_option linter.unusedSimpArgs false

section
variable {P : Program} {μ : Nat → Option Loc} {D F : Nat → Prop} {H : Heap} {w : World}
structure Src (P : Program) (w : World) (F : Nat → Prop) (sz : Nat) (x : Value) (ys : List T) : Prop where
  len : (Builtin.lenOf x).run P w = .ok ys.length w
  el : ∀ (i : Nat) y, ys[i]? = some y → y.el sz = true
  cells : ∀ n, n ≤ ys.length → ∃ bs : List Value, (∀ w', w'.heap = w.heap → (Builtin.firstCells sz n x).run P w' = .ok bs.toArray w') ∧ VRs (fun _ => none) w F ((flatT (ys.take n)).map .t) bs ∧ bs.length = n * sz

theorem take_el {sz : Nat} {ys : List T} (he : ∀ (i : Nat) y, ys[i]? = some y → y.el sz = true) (n : Nat) : ∀ (i : Nat) y, (ys.take n)[i]? = some y → y.el sz = true := fun i y hy => by
  rw [List.getElem?_take] at hy
  split at hy
  · exact he i y hy
  · cases hy

theorem Src.mem {sz m o cap : Nat} {cs : Array Value} {ys : List T} (h0 : 0 < sz) (hm : Cel w m cs) (hb : o + ys.length * sz ≤ cs.size) (he : ∀ (i : Nat) y, ys[i]? = some y → y.el sz = true)
    (hr : ∀ (i : Nat) y, ys[i]? = some y → EL w F cs (o + i * sz) y) : Src P w F sz (.slice (some ⟨m, o, none⟩) ys.length cap) ys := by
  refine ⟨rfl, he, fun n hn => ⟨_, fun w' e' => run_loads (hm.same (by rw [e'])) ?_, ?_, by simp⟩⟩
  · have : n * sz ≤ ys.length * sz := Nat.mul_le_mul_right _ hn
    omega
  · have he' := take_el he n
    have hfl := flat_length _ he'
    rw [List.length_take, Nat.min_eq_left hn] at hfl
    refine ⟨by simp [hfl], fun k v a hk ha => ?_⟩
    obtain ⟨hlt, rfl⟩ := range_get _ _ _ _ ha
    rw [List.getElem?_map] at hk
    cases hf : (flatT (ys.take n))[k]? with
    | none => simp [hf] at hk
    | some y =>
      simp [hf] at hk; subst hk
      have hdiv : k / sz < n := Nat.div_lt_of_lt_mul (by rwa [Nat.mul_comm])
      have hmod := Nat.mod_lt k h0
      have hyk : ys[k / sz]? = some (ys[k / sz]'(by omega)) := List.getElem?_eq_getElem _
      have hg := flat_get (ys.take n) he' (k / sz) (k % sz) _ (by rw [List.getElem?_take, if_pos hdiv]; exact hyk) hmod
      have hdm : k / sz * sz + k % sz = k := by rw [Nat.mul_comm]; exact Nat.div_add_mod k sz
      rw [hdm, hf] at hg
      have := hr (k / sz) _ hyk (k % sz) y hg.symm
      rw [Nat.add_assoc, hdm] at this
      exact .t this

theorem Src.none {sz cap : Nat} {a : Option Addr} : Src P w F sz (.slice a 0 cap) [] := by
  refine ⟨rfl, fun i y hy => by simp at hy, fun n hn => ⟨[], fun w' _ => ?_, ?_, ?_⟩⟩
  · have : n = 0 := by simpa using hn
    subst this
    cases a with
    | none => rfl
    | some a => simp only [Builtin.firstCells, Nat.zero_mul]; rfl
  · simpa [flatT] using VRs.nil
  · have : n = 0 := by simpa using hn
    simp [this]

theorem elems_ok (h : Rel μ D F H w) (hD : ∀ id l, id < H.length → μ id = some l → l.real = true → D id) {sz : Nat} (h0 : 0 < sz) {v : V} {x : Value} {ys : List T} (he : elems H sz v = some ys) (hv : VR μ w F v x) : Src P w F sz x ys := by
  have slc : ∀ (m off len cap : Nat) (cs : Array Value) (xs : List T), Cel w m cs → ELs w F cs 0 sz xs → off + len ≤ xs.length → Src P w F sz (.slice (some ⟨m, off * sz, none⟩) len cap) ((xs.drop off).take len) := fun m off len cap cs xs hm hel hl => by
    have hlen : ((xs.drop off).take len).length = len := by simp; omega
    have hget : ∀ (i : Nat) y, ((xs.drop off).take len)[i]? = some y → xs[off + i]? = some y := fun i y hy => by
      rw [List.getElem?_take] at hy
      split at hy
      · rw [List.getElem?_drop] at hy; exact hy
      · cases hy
    have := Src.mem (P := P) (w := w) (F := F) (cap := cap) (o := off * sz) (ys := (xs.drop off).take len) h0 hm (by
      rw [hlen]
      have h1 := hel.size
      have h2 : (off + len) * sz ≤ xs.length * sz := Nat.mul_le_mul_right _ hl
      rw [Nat.add_mul] at h2
      omega) (fun i y hy => hel.el _ y (hget i y hy)) (fun i y hy => by
      have := hel.rd _ y (hget i y hy)
      rwa [Nat.zero_add, Nat.add_mul] at this)
    rw [hlen] at this; exact this
  unfold elems at he
  split at he
  · cases he; cases hv.tT; exact Src.none
  · rename_i s xs
    split at he
    · rename_i hs; subst hs
      cases he
      cases hv.tT with
      | lst0 => exact Src.none
      | lst sz xs m off cap cs hF hm hb hcap hel hh => exact Src.mem h0 hm hb hel fun i y hy j z hz => hh i y j z hy hz
    · cases he
  · rename_i s
    split at he
    · rename_i hs; subst hs
      cases he
      cases hv.tT
      have hlen : (bytesT s).length = s.size := by show (s.data.toList.map _).length = s.data.size; simp
      have hel : ∀ (i : Nat) y, (bytesT s)[i]? = some y → y.el 1 = true := fun i y hy => by
        simp only [bytesT, List.getElem?_map, Option.map_eq_some_iff] at hy
        obtain ⟨b, _, rfl⟩ := hy
        simp [T.el, T.cells, T.one]
      refine ⟨by rw [hlen]; rfl, hel, fun n hn => ⟨((s.extract 0 n).data.map fun b => Value.int .u8 b.toNat).toList, fun w' _ => by simp only [Builtin.firstCells, Sem.run_pure, Array.toArray_toList], ?_, ?_⟩⟩
      · have hfl : flatT ((bytesT s).take n) = (bytesT s).take n := by
          have : ∀ (l : List T), (∀ (i : Nat) y, l[i]? = some y → y.one = true) → flatT l = l := by
            intro l
            induction l with
            | nil => intro _; rfl
            | cons y l ih =>
              intro hh
              have h1 := hh 0 y rfl
              have h2 : y.cells = [y] := by cases y <;> first | rfl | (simp [T.one] at h1)
              simp only [flatT, List.flatMap_cons, h2]
              have := ih fun i z hz => hh (i + 1) z (by simpa using hz)
              simp only [flatT] at this
              rw [this]; rfl
          refine this _ fun i y hy => ?_
          rw [List.getElem?_take] at hy
          split at hy
          · simp only [bytesT, List.getElem?_map, Option.map_eq_some_iff] at hy
            obtain ⟨b, _, rfl⟩ := hy
            rfl
          · cases hy
        rw [hfl]
        rw [hlen] at hn
        have hd : (s.extract 0 n).data.toList = s.data.toList.take n := by
          rw [ByteArray.data_extract]
          simp [List.extract_eq_take_drop]
        refine ⟨by simp [bytesT, hd], fun i v a hv' ha => ?_⟩
        rw [Array.toList_map, hd, List.getElem?_map] at ha
        rw [List.getElem?_map, List.getElem?_take] at hv'
        rw [List.getElem?_take] at ha
        split at hv'
        · rename_i hi
          rw [if_pos hi] at ha
          simp only [bytesT, List.getElem?_map] at hv'
          cases hb : s.data.toList[i]? with
          | none => simp [hb] at ha
          | some b => simp [hb] at ha hv'; subst ha hv'; exact .t (.int _ _)
        · simp at hv'
      · rw [hlen] at hn
        simp [ByteArray.data_extract]
        have : s.size = s.data.size := rfl
        omega
    · cases he
  · rename_i id off len
    cases hv with
    | ref id off len cap l hl hre k1 k2 k3 =>
      split at he
      · rename_i s xs hb
        split at he
        · rename_i hs; subst hs
          cases he
          obtain ⟨l', cs, q1, q2, q3, q4, q5, q6, q7, q8⟩ := h.blk id _ (hD id l (List.getElem?_eq_some_iff.1 hb).1 hl hre) hb
          rw [hl] at q1; cases q1.1
          rw [q4]
          exact slc l.m off len cap cs xs q2.cel q8 (by omega)
        · cases he
      · rename_i s xs hb
        split at he
        · rename_i hs; subst hs
          cases he
          obtain ⟨l', cs, q1, q2, q3, q4, q5, q6, q8⟩ := h.blk id _ (hD id l (List.getElem?_eq_some_iff.1 hb).1 hl hre) hb
          rw [hl] at q1; cases q1.1
          rw [q4]
          exact slc l.m off len cap cs xs q2 q8 (by omega)
        · cases he
      · cases he
    | ref0 id off a =>
      split at he
      · split at he
        · cases he; rw [List.take_zero]; exact Src.none
        · cases he
      · split at he
        · cases he; rw [List.take_zero]; exact Src.none
        · cases he
      · cases he
  · cases he
structure AppT (P : Program) (argTypes : Array TypeId) (e : TypeId) (sz : Nat) : Prop where
  t0 : ∃ t, argTypes[0]? = some t ∧ P.underlying t = some (.slice e)
  t1 : ∃ t d, argTypes[1]? = some t ∧ P.underlying t = some d ∧ ∀ k, d ≠ .int k
  size : szT P e = some sz
  pos : 0 < sz
  bytes : ∃ i z, P.info? e = some i ∧ i.bytes ≤ 1024 ∧ i.zero = some z ∧ z.cells.size = sz

theorem AppT.notInt {argTypes : Array TypeId} {e : TypeId} {sz : Nat} (h : AppT P argTypes e sz) : ∃ t d, argTypes[1]? = some t ∧ P.underlying t = some d ∧ (match d with | .int _ => true | _ => false) = false := by
  obtain ⟨t, d, h1, h2, h3⟩ := h.t1
  exact ⟨t, d, h1, h2, by cases d <;> first | rfl | exact absurd rfl (h3 _)⟩

theorem app_fit {argTypes : Array TypeId} {e ty : TypeId} {sz : Nat} (h : AppT P argTypes e sz) {a : Option Addr} {len cap n : Nat} {x : Value} {bs : List Value} {w' : World} (hl : (Builtin.lenOf x).run P w = .ok n w) (hf : (Builtin.firstCells sz n x).run P w = .ok bs.toArray w) (hfit : len + n ≤ cap)
    (hst : (match a with | some a => storeCells (a.add (len * sz)) bs | none => pure () : Sem Unit).run P w = .ok () w') : (Builtin.append_ argTypes ty #[.slice a len cap, x]).run P w = .ok (.slice a (len + n) cap) w' := by
  obtain ⟨t, h1, h2⟩ := h.t0
  obtain ⟨t', d, h3, h4, h5⟩ := h.t1
  unfold Builtin.append_
  cases d with
  | int k => exact absurd rfl (h5 k)
  | _ =>
    simp only [h1, List.getElem?_toArray, List.getElem?_cons_zero, List.getElem?_cons_succ, Sem.run_bind, run_underlying h2, Result.andThen_ok, run_sizeOf h.size, h3, run_underlying h4, Sem.run_pure, Bool.false_eq_true, if_false, hl, if_pos hfit, Bool.not_false, if_true, hf]
    cases a with
    | none => simp only [Sem.run_pure] at hst ⊢; cases hst; simp only [Sem.run_bind, hf, Result.andThen_ok, Sem.run_pure]
    | some a => simp only [Sem.run_bind, hf, Result.andThen_ok] at hst ⊢; rw [hst]; rfl

theorem growBy_le (n B : Nat) (hn : n ≤ B) : ∀ (r c : Nat), c ≤ B → Builtin.growBy n r c ≤ 2 * B + 768
  | 0, c, hc => by simp only [Builtin.growBy]; omega
  | r + 1, c, hc => by
    unfold Builtin.growBy
    split
    · omega
    · by_cases h : c + (c + 768) / 4 ≤ B
      · exact growBy_le n B hn r _ h
      · cases r with
        | zero => simp only [Builtin.growBy]; omega
        | succ r =>
          unfold Builtin.growBy
          rw [if_pos (by omega)]
          omega

theorem next_le {n c : Nat} (h : c < n) : Builtin.nextslicecap n c ≤ 2 * n + 768 := by
  unfold Builtin.nextslicecap
  split
  · omega
  · split
    · omega
    · exact growBy_le n n (Nat.le_refl _) 4 c (by omega)

theorem app_grow {argTypes : Array TypeId} {e ty : TypeId} {sz : Nat} (h : AppT P argTypes e sz) {a : Option Addr} {len cap n : Nat} {x : Value} {bs os : List Value} (hl : (Builtin.lenOf x).run P w = .ok n w) (hf : ∀ w', w'.heap = w.heap → (Builtin.firstCells sz n x).run P w' = .ok bs.toArray w')
    (ho : ∀ w', w'.heap = w.heap → (Builtin.firstCells sz len (.slice a len cap)).run P w' = .ok os.toArray w') (hfit : ¬ len + n ≤ cap) (hlim : len + n ≤ lim) :
    ∃ (c : Nat) (rest : List Value), len + n ≤ c ∧ rest.length = (c - (len + n)) * sz ∧
      (Builtin.append_ argTypes ty #[.slice a len cap, x]).run P w = .ok (.slice (some ⟨w.heap.size, 0, none⟩) (len + n) c) (w.drew.alloc (.cells (os ++ bs ++ rest).toArray e)) := by
  obtain ⟨t, h1, h2⟩ := h.t0
  obtain ⟨t', d, h3, h4, h5⟩ := h.t1
  obtain ⟨i, z, hi, hib, hiz, hzs⟩ := h.bytes
  have hti : ∀ w, (typeInfo e).run P w = .ok i w := fun w => by unfold typeInfo; simp only [Sem.run_bind, run_program, Result.andThen_ok, hi, Sem.run_pure]
  have hzv : ∀ w, (zeroValue e).run P w = .ok z w := fun w => by unfold zeroValue; simp only [Sem.run_bind, hti, Result.andThen_ok, hiz, Sem.run_pure]
  have hlim' : lim = 68719476736 := rfl
  have h48 : (2 : Nat) ^ 48 = 281474976710656 := by decide
  have hnext := next_le (n := len + n) (c := cap) (by omega)
  have hbytes : ¬ Builtin.nextslicecap (len + n) cap * i.bytes > 2 ^ 48 := by
    have : Builtin.nextslicecap (len + n) cap * i.bytes ≤ (2 * (len + n) + 768) * 1024 := Nat.mul_le_mul hnext hib
    rw [h48]; omega
  have hmax : ¬ (((len + n : Nat) : Int) > IntKind.i64.max) := by
    have : IntKind.i64.max = 9223372036854775807 := by decide
    rw [this]; omega
  let c := (Question.appendCap (len + n) cap e).cut (w.tape w.drawn (.appendCap (len + n) cap e))
  have hc : len + n ≤ c := by show len + n ≤ len + n + _; omega
  have hch : ∀ {α : Type} (k : Nat → Sem α), (choose (.appendCap (len + n) cap e) >>= k).run P w = (k c).run P w.drew := fun k => by
    simp only [Sem.run_bind, run_choose, Question.forced, Bool.false_eq_true, if_false, Result.andThen_ok]
    rfl
  have hzc : ∀ k, (Builtin.zeroCells z.cells k).size = k * z.cells.size := fun k => by simp [Builtin.zeroCells]
  refine ⟨c, (Builtin.zeroCells z.cells (c - (len + n))).toList, hc, by rw [Array.length_toList, hzc, hzs], ?_⟩
  have hcells : os.toArray ++ bs.toArray ++ Builtin.zeroCells z.cells (c - (len + n)) = (os ++ bs ++ (Builtin.zeroCells z.cells (c - (len + n))).toList).toArray := by
    apply Array.toList_inj.1; simp
  have hnb : ¬ ((((len + n : Nat) : Int) > IntKind.i64.max) ∧ (false = true ∨ i.bytes = 0)) := fun hh => hmax hh.1
  have hd1 : w.drew.heap = w.heap := rfl
  unfold Builtin.append_
  cases d with
  | int k => exact absurd rfl (h5 k)
  | _ =>
    simp only [h1, List.getElem?_toArray, List.getElem?_cons_zero, List.getElem?_cons_succ, Sem.run_bind, run_underlying h2, Result.andThen_ok, run_sizeOf h.size, h3, run_underlying h4, Sem.run_pure, Bool.false_eq_true, if_false, hl, if_neg hfit, Bool.not_false, if_true, hti, if_neg hbytes]
    rw [if_neg (fun hh => hmax hh.1)]
    simp only [hch, Sem.run_bind, hti, Result.andThen_ok, run_askRoom, ho _ hd1, hf _ hd1, if_neg hbytes, Sem.run_pure, hzv, newRow, run_newObj, World.alloc_eq, hcells]
    rfl

end
end Go.Proofs.Ytanlmanifpknoaa.Ev
namespace Go.Proofs.Ytanlmanifpknoaa.Ev
open Go Go.RowKit
set_option linter.unusedVariables false
set_option linter.unusedSimpArgs false

section
variable {P : Program} {μ : Nat → Option Loc} {D F : Nat → Prop} {H : Heap} {w : World}

theorem VRs.one {μ μ' : Nat → Option Loc} {ts : List T} {bs : List Value} (h : VRs μ w F (ts.map .t) bs) (ho : ∀ y ∈ ts, y.one = true) : ∀ v ∈ bs, v.oneCell' = true := fun v hv => by
  obtain ⟨j, hj⟩ := List.getElem?_of_mem hv
  have hjl := (List.getElem?_eq_some_iff.1 hj).1
  have h1 := h.1
  rw [List.length_map] at h1
  have hu : ts[j]? = some (ts[j]'(by omega)) := List.getElem?_eq_getElem _
  exact one_T (h.2 j (.t _) _ (by rw [List.getElem?_map, hu]; rfl) hj).tT (ho _ (List.mem_of_getElem? hu))

theorem flat_one {sz : Nat} {ys : List T} (he : ∀ (i : Nat) y, ys[i]? = some y → y.el sz = true) : ∀ y ∈ flatT ys, y.one = true := fun y hy => by
  obtain ⟨x, hx, hyx⟩ := List.mem_flatMap.1 hy
  obtain ⟨j, hj⟩ := List.getElem?_of_mem hx
  have := he j x hj
  simp only [T.el, Bool.and_eq_true, List.all_eq_true] at this
  exact this.2 y hyx
theorem ELs.over {sz k : Nat} {cs : Array Value} {xs ys : List T} {bs : List Value} (h : ELs w F cs 0 sz xs) (h0 : 0 < sz) (hy : ∀ (i : Nat) y, ys[i]? = some y → y.el sz = true) (hb : VRs μ w F ((flatT ys).map .t) bs)
    (hk : k ≤ xs.length) (hs : (k + ys.length) * sz ≤ cs.size) : ELs w F (splice cs.toList (k * sz) bs).toArray 0 sz (xs.take k ++ ys ++ xs.drop (k + ys.length)) := by
  have hfl := flat_length ys hy
  have hbl : bs.length = ys.length * sz := by have := hb.1; rw [List.length_map, hfl] at this; exact this
  have hmul : (k + ys.length) * sz = k * sz + ys.length * sz := Nat.add_mul _ _ _
  have hct : cs.toList.length = cs.size := Array.length_toList
  have hbb : k * sz + bs.length ≤ cs.toList.length := by omega
  have hget : ∀ (i : Nat) x, (xs.take k ++ ys ++ xs.drop (k + ys.length))[i]? = some x → (i < k ∧ xs[i]? = some x) ∨ (k ≤ i ∧ i < k + ys.length ∧ ys[i - k]? = some x) ∨ (k + ys.length ≤ i ∧ xs[i]? = some x) := fun i x hx => by
    simp only [List.getElem?_append, List.length_append, List.length_take, List.getElem?_take, List.getElem?_drop] at hx
    rw [Nat.min_eq_left hk] at hx
    split at hx
    · rename_i h1
      split at hx
      · rename_i h2
        first
        | (split at hx
           · exact .inl ⟨h2, hx⟩
           · cases hx)
        | exact .inl ⟨h2, hx⟩
      · exact .inr (.inl ⟨by omega, h1, hx⟩)
    · rename_i h1
      refine .inr (.inr ⟨by omega, ?_⟩)
      rwa [show k + ys.length + (i - (k + ys.length)) = i by omega] at hx
  have hlen : (xs.take k ++ ys ++ xs.drop (k + ys.length)).length * sz ≤ cs.size := by
    have h1 := h.size
    simp only [List.length_append, List.length_take, List.length_drop]
    rw [Nat.min_eq_left hk]
    by_cases h2 : k + ys.length ≤ xs.length
    · rw [show k + ys.length + (xs.length - (k + ys.length)) = xs.length by omega]; omega
    · rw [show k + ys.length + (xs.length - (k + ys.length)) = k + ys.length by omega]; omega
  refine ⟨by rw [List.size_toArray, splice_length _ _ _ hbb, hct, Nat.zero_add]; exact hlen, fun i x hx => ?_, fun i x hx j y hyj => ?_⟩
  · rcases hget i x hx with ⟨_, a⟩ | ⟨_, _, a⟩ | ⟨_, a⟩
    · exact h.el i x a
    · exact hy _ x a
    · exact h.el i x a
  · rw [getD_toArray, List.getD_eq_getElem?_getD, splice_get _ _ _ hbb, Nat.zero_add]
    have hj := (List.getElem?_eq_some_iff.1 hyj).1
    have old : xs[i]? = some x → ¬ (k * sz ≤ i * sz + j ∧ i * sz + j < k * sz + bs.length) → TR w F y ((if k * sz ≤ i * sz + j ∧ i * sz + j < k * sz + bs.length then bs[i * sz + j - k * sz]? else cs.toList[i * sz + j]?).getD undef) := fun a hn => by
      rw [if_neg hn]
      have := h.rd i x a j y hyj
      rw [getD_toList, List.getD_eq_getElem?_getD, Nat.zero_add] at this
      exact this
    rcases hget i x hx with ⟨hi, a⟩ | ⟨hi1, hi2, a⟩ | ⟨hi, a⟩
    · have he := h.el i x a
      simp only [T.el, Bool.and_eq_true, beq_iff_eq] at he
      have : (i + 1) * sz ≤ k * sz := Nat.mul_le_mul_right _ hi
      rw [Nat.add_mul, Nat.one_mul] at this
      exact old a (by omega)
    · have he := hy _ x a
      simp only [T.el, Bool.and_eq_true, beq_iff_eq] at he
      have h1 : k * sz ≤ i * sz := Nat.mul_le_mul_right _ hi1
      have h2 : (i - k) * sz = i * sz - k * sz := Nat.sub_mul _ _ _
      have h3 : (i + 1) * sz ≤ (k + ys.length) * sz := Nat.mul_le_mul_right _ hi2
      rw [Nat.add_mul, Nat.one_mul] at h3
      rw [if_pos (by omega)]
      have hg := flat_get ys hy (i - k) j x a (by omega)
      rw [hyj] at hg
      rw [show i * sz + j - k * sz = (i - k) * sz + j by omega]
      have hlt : (i - k) * sz + j < bs.length := by omega
      have hbg : bs[(i - k) * sz + j]? = some (bs[(i - k) * sz + j]'hlt) := List.getElem?_eq_getElem _
      rw [hbg]
      exact (hb.2 _ (.t y) _ (by rw [List.getElem?_map, hg]; rfl) hbg).tT
    · have : (k + ys.length) * sz ≤ i * sz := Nat.mul_le_mul_right _ hi
      exact old a (by omega)

theorem noD {D : Nat → Prop} {H : Heap} (h : Rel μ D F H w) (hD : ∀ id l, id < H.length → μ id = some l → l.real = true → D id) : True := trivial
theorem Post.empty (h : Rel μ D F H w) (hf : μ H.length = none) (sz : Nat) (w' : World) (e : w'.heap = w.heap) (os : w'.os = w.os) (tp : w'.tape = w.tape) (out : w'.output = w.output) (a : Option Addr) :
    Leaves μ D F H w (.ref H.length 0 0) (H ++ [.pure sz []]) (.slice a 0 0) w' := by
  have hpost := Post.add (b := .pure sz []) (l := some ⟨0, sz, 0, 0, false⟩) (w' := w') h hf (fun x ex hr => by cases ex; cases hr) (fun x ex _ => ⟨sz, rfl⟩) (by rw [e]; exact Nat.le_refl _) (fun k _ => by rw [e]) os tp out (fun x ex hr => by cases ex; cases hr)
  exact ⟨_, _, _, hpost, .ref0 H.length 0 a _ (upd_same _ _ _) (Nat.le_refl _)⟩
theorem Post.elems (h : Rel μ D F H w) (hf : μ H.length = none) {sz c : Nat} {e : TypeId} {zs : List T} {cs : Array Value} (h0 : 0 < sz) (hz : ELs w F cs 0 sz zs) (hc : zs.length ≤ c) (hr : c * sz ≤ cs.size) (w0 : World) (hw : w0.heap = w.heap) (os : w0.os = w.os) (tp : w0.tape = w.tape) (out : w0.output = w.output) :
    Leaves μ D F H w (.ref H.length 0 zs.length) (H ++ [.pure sz zs]) (.slice (some ⟨w.heap.size, 0, none⟩) zs.length c) (w0.alloc (.cells cs e)) := by
  have hs0 : w0.heap.size = w.heap.size := by rw [hw]
  have hpost1 := Post.same h hw os tp out
  have hr1 := hpost1.rel
  have hz1 : ELs w0 F cs 0 sz zs := hz.mono (fun m _ => by rw [hw]) fun _ h => h
  have hpost := Post.alloc (b := .pure sz zs) hr1 hf ⟨w0.heap.size, sz, zs.length, cs.size, true⟩ (.cells cs e) rfl rfl fun hp hmo =>
    ⟨_, cs, ⟨upd_same _ _ _, rfl⟩, Wri.alloc w0 cs e, hr1.notF, rfl, rfl, rfl, h0, hz1.mono hp fun _ h => h⟩
  refine ⟨_, _, _, hpost1.trans hpost, ?_⟩
  have := VR.ref (μ := upd μ H.length (some ⟨w0.heap.size, sz, zs.length, cs.size, true⟩)) (w := w0.alloc (.cells cs e)) (F := F) H.length 0 zs.length c _ (upd_same _ _ _) rfl (by simp) (by simpa using hc) (by simpa using hr)
  simpa [hs0] using this

theorem Leaves.after {μ' : Nat → Option Loc} {D' F' : Nat → Prop} {H' H'' : Heap} {w' w'' : World} {v : V} {x : Value} (h : Post μ D F H w μ' D' F' H' w') (k : Leaves μ' D' F' H' w' v H'' x w'') : Leaves μ D F H w v H'' x w'' := by
  obtain ⟨a, b, c, d, e⟩ := k
  exact ⟨a, b, c, h.trans d, e⟩

theorem splice_end {α : Type} (xs ys : List α) : xs.take xs.length ++ ys ++ xs.drop (xs.length + ys.length) = xs ++ ys := by
  rw [List.take_length, List.drop_eq_nil_of_le (Nat.le_add_right _ _), List.append_nil]

theorem app_ok {argTypes : Array TypeId} {e ty : TypeId} {sz : Nat} {vx vy v : V} {x y : Value} {H' : Heap} (ht : AppT P argTypes e sz) (h : Rel μ D F H w) (hD : ∀ id l, id < H.length → μ id = some l → l.real = true → D id) (hf : μ H.length = none)
    (hx : VR μ w F vx x) (hy : VR μ w F vy y) (he : evApp H sz vx vy = some (v, H')) : ∃ z w', (Builtin.append_ argTypes ty #[x, y]).run P w = .ok z w' ∧ Leaves μ D F H w v H' z w' := by
  have h0 := ht.pos
  unfold evApp at he
  split at he
  · cases he
  · rename_i ys hys
    have hsrc := elems_ok (P := P) h hD h0 hys hy
    obtain ⟨bs, hdet, hb2, hb3⟩ := hsrc.cells ys.length (Nat.le_refl _)
    rw [List.take_length] at hb2
    have hb1 := hdet w rfl
    have hone := VRs.one (μ' := μ) hb2 (flat_one hsrc.el)
    have grow0 : ∀ (a : Option Addr), ys.length ≤ lim → ¬ (0 + ys.length ≤ 0) → ∃ z w', (Builtin.append_ argTypes ty #[.slice a 0 0, y]).run P w = .ok z w' ∧ Leaves μ D F H w (.ref H.length 0 ys.length) (H ++ [.pure sz ys]) z w' := fun a hlim hng => by
      obtain ⟨c, rest, hc, hrest, hrun⟩ := app_grow (P := P) (ty := ty) (a := a) (len := 0) (cap := 0) (os := []) ht hsrc.len hdet (fun w' _ => by cases a <;> simp only [Builtin.firstCells, Nat.zero_mul] <;> rfl) hng (by omega)
      refine ⟨_, _, hrun, ?_⟩
      rw [Nat.zero_add] at hc hrest ⊢
      have hels : ELs w F (bs ++ rest).toArray 0 sz ys := ELs.ofVRs (μ := fun _ => none) hsrc.el hb2 (fun i hi => by simp [List.getElem?_append_left hi]) (by simp)
      have := Post.elems (e := e) (cs := (bs ++ rest).toArray) (c := c) h hf h0 hels hc (by
        have : (c - ys.length) * sz = c * sz - ys.length * sz := Nat.sub_mul _ _ _
        have h1 : ys.length * sz ≤ c * sz := Nat.mul_le_mul_right _ hc
        simp; omega) w.drew rfl rfl rfl rfl
      simpa using this
    split at he
    · -- onto nil
      cases hx.tT
      split at he
      · rename_i hlim
        cases he
        by_cases hn : ys.length = 0
        · have hbs : bs = [] := by
            rw [hn, Nat.zero_mul] at hb3
            exact List.length_eq_zero_iff.1 hb3
          have hys0 : ys = [] := List.length_eq_zero_iff.1 hn
          refine ⟨_, _, app_fit (P := P) (a := none) (bs := bs) (w' := w) ht hsrc.len hb1 (by omega) rfl, ?_⟩
          rw [hn, hys0]
          exact Post.empty h hf sz w rfl rfl rfl rfl none
        · exact grow0 none hlim (by omega)
      · cases he
    · rename_i id len
      split at he
      · rename_i s xs hb
        split at he
        · rename_i hs
          subst hs
          split at he
          · rename_i hlen
            split at he
            · rename_i hlim
              cases he
              have hkill := Post.kill h id
              have hlen2 : (H.set id .dead).length = H.length := List.length_set
              have hf2 : μ (H.set id .dead).length = none := by rw [hlen2]; exact hf
              cases hx with
              | ref0 id off a l hl hl0 =>
                have hxs : xs = [] := List.length_eq_zero_iff.1 hlen.symm
                subst hxs
                simp only [List.length_nil, Nat.zero_add, List.nil_append]
                by_cases hn : ys.length = 0
                · have hbs : bs = [] := by
                    rw [hn, Nat.zero_mul] at hb3
                    exact List.length_eq_zero_iff.1 hb3
                  have hys0 : ys = [] := List.length_eq_zero_iff.1 hn
                  refine ⟨_, _, app_fit (P := P) (a := a) (bs := bs) (w' := w) ht hsrc.len hb1 (by omega) (by rw [hbs]; cases a <;> rfl), ?_⟩
                  rw [hn, hys0]
                  have := Leaves.after hkill (Post.empty hkill.rel hf2 s w rfl rfl rfl rfl a)
                  rw [hlen2] at this; exact this
                · obtain ⟨c, rest, hc, hrest, hrun⟩ := app_grow (P := P) (ty := ty) (a := a) (len := 0) (cap := 0) (os := []) ht hsrc.len hdet (fun w' _ => by cases a <;> simp only [Builtin.firstCells, Nat.zero_mul] <;> rfl) (by omega) (by simpa using hlim)
                  refine ⟨_, _, hrun, ?_⟩
                  rw [Nat.zero_add] at hc hrest ⊢
                  have hels : ELs w F (bs ++ rest).toArray 0 s ys := ELs.ofVRs (μ := fun _ => none) hsrc.el hb2 (fun i hi => by simp [List.getElem?_append_left hi]) (by simp)
                  have := Leaves.after hkill (Post.elems (e := e) (cs := (bs ++ rest).toArray) (c := c) hkill.rel hf2 h0 hels hc (by
                    have : (c - ys.length) * s = c * s - ys.length * s := Nat.sub_mul _ _ _
                    have h1 : ys.length * s ≤ c * s := Nat.mul_le_mul_right _ hc
                    simp; omega) w.drew rfl rfl rfl rfl)
                  rw [hlen2] at this
                  simpa using this
              | ref id off len' cap l hl hre k1 k2 k3 =>
                have hd := hD id l (List.getElem?_eq_some_iff.1 hb).1 hl hre
                obtain ⟨l', cs, q1, q2, q3, q4, q5, q6, q7, q8⟩ := h.blk id _ hd hb
                rw [hl] at q1; cases q1.1
                subst hlen
                rw [Nat.zero_mul]
                rw [Nat.zero_add] at k2 k3
                by_cases hfit : xs.length + ys.length ≤ cap
                · -- in place
                  have hroom : (xs.length + ys.length) * l.sz ≤ cs.size := by
                    have := Nat.mul_le_mul_right l.sz hfit
                    omega
                  rw [q4] at hroom
                  have hroom' : (xs.length + ys.length) * s = xs.length * s + ys.length * s := Nat.add_mul _ _ _
                  obtain ⟨w', e1, e2, e3⟩ := run_stores (P := P) l.m (0 + xs.length * s) bs 0 w cs q2 hone (by omega)
                  refine ⟨_, _, app_fit (P := P) (a := some ⟨l.m, 0, none⟩) (bs := bs) (w' := w') ht hsrc.len hb1 hfit (by simp only [Addr.add_lit]; exact e1), ?_⟩
                  have hover := ELs.over q8 h0 hsrc.el hb2 (Nat.le_refl _) hroom
                  rw [splice_end] at hover
                  have hpost := Post.replace (w' := w') (b := .pure s (xs ++ ys)) (x := ⟨l.m, s, xs.length + ys.length, cs.size, true⟩) h hf hd hb rfl hl (.inr rfl) rfl (by rw [e2.size]; exact Nat.le_refl _) (fun k _ hk => e2.same k hk) e2.os e2.tape e2.output fun hp hmo => by
                    have hct : cs.toList.length = cs.size := Array.length_toList
                    have hbb : xs.length * s + bs.length ≤ cs.toList.length := by omega
                    refine ⟨_, _, ⟨upd_same _ _ _, rfl⟩, e3, q3, rfl, by simp, ?_, h0, ?_⟩
                    · simp only [Nat.zero_add, Nat.add_zero, List.size_toArray]
                      rw [splice_length _ _ _ hbb, Array.length_toList]
                    · simp only [Nat.zero_add, Nat.add_zero]
                      exact hover.mono hp fun _ h => h
                  refine ⟨_, _, _, hpost, ?_⟩
                  have := VR.ref (μ := upd μ H.length (some ⟨l.m, s, xs.length + ys.length, cs.size, true⟩)) (w := w') (F := F) H.length 0 (xs.length + ys.length) cap _ (upd_same _ _ _) rfl (by simp) (by simpa using hfit) (by
                    simp only [Nat.zero_add]
                    rw [← q4]; omega)
                  simpa using this
                · -- grown
                  have hmemo : ∀ w', w'.heap = w.heap → (Builtin.firstCells s xs.length (.slice (some ⟨l.m, 0, none⟩) xs.length cap)).run P w' = .ok ((List.range (xs.length * s)).map fun j => cs.getD (0 + j) undef).toArray w' := fun w' e' => by
                    simp only [Builtin.firstCells]
                    exact run_loads (q2.cel.same (by rw [e'])) (by have := q8.size; omega)
                  obtain ⟨c, rest, hc, hrest, hrun⟩ := app_grow (P := P) (ty := ty) (a := some ⟨l.m, 0, none⟩) (cap := cap) ht hsrc.len hdet hmemo hfit (by simpa using hlim)
                  refine ⟨_, _, hrun, ?_⟩
                  have hels : ELs w F (((List.range (xs.length * s)).map fun j => cs.getD (0 + j) undef) ++ bs ++ rest).toArray 0 s (xs ++ ys) := by
                    have hel : ∀ (i : Nat) z, (xs ++ ys)[i]? = some z → z.el s = true := fun i z hz => by
                      rw [List.getElem?_append] at hz
                      split at hz
                      · exact q8.el i z hz
                      · exact hsrc.el _ z hz
                    refine ELs.ofVRs (μ := fun _ => none) hel (bs := ((List.range (xs.length * s)).map fun j => cs.getD (0 + j) undef) ++ bs) ?_ (fun i hi => by rw [List.getElem?_append_left hi]) (by simp)
                    have hfl : flatT (xs ++ ys) = flatT xs ++ flatT ys := by simp [flatT]
                    rw [hfl, List.map_append]
                    refine VRs.app ?_ hb2
                    have hxl := flat_length xs q8.el
                    refine ⟨by simp [hxl], fun k v a hk ha => ?_⟩
                    obtain ⟨hlt, rfl⟩ := range_get _ _ _ _ ha
                    rw [List.getElem?_map] at hk
                    cases hfk : (flatT xs)[k]? with
                    | none => simp [hfk] at hk
                    | some z =>
                      simp [hfk] at hk; subst hk
                      have hdiv : k / s < xs.length := Nat.div_lt_of_lt_mul (by rwa [Nat.mul_comm])
                      have hmod := Nat.mod_lt k h0
                      have hxk : xs[k / s]? = some (xs[k / s]'hdiv) := List.getElem?_eq_getElem _
                      have hg := flat_get xs q8.el (k / s) (k % s) _ hxk hmod
                      have hdm : k / s * s + k % s = k := by rw [Nat.mul_comm]; exact Nat.div_add_mod k s
                      rw [hdm, hfk] at hg
                      have := q8.rd (k / s) _ hxk (k % s) z hg.symm
                      rw [Nat.add_assoc, hdm] at this
                      exact .t this
                  have hlen3 : (xs ++ ys).length = xs.length + ys.length := List.length_append
                  have hcs : c * s ≤ ((((List.range (xs.length * s)).map fun j => cs.getD (0 + j) undef) ++ bs ++ rest).toArray).size := by
                    have h2 : (c - (xs.length + ys.length)) * s = c * s - (xs.length + ys.length) * s := Nat.sub_mul _ _ _
                    have h3 : (xs.length + ys.length) * s = xs.length * s + ys.length * s := Nat.add_mul _ _ _
                    have h4 : (xs.length + ys.length) * s ≤ c * s := Nat.mul_le_mul_right _ hc
                    simp only [List.size_toArray, List.length_append, List.length_map, List.length_range]
                    omega
                  have := Leaves.after hkill (Post.elems (e := e) (c := c) hkill.rel hf2 h0 hels (by rw [hlen3]; exact hc) hcs w.drew rfl rfl rfl rfl)
                  rw [hlen2, hlen3] at this
                  exact this
            · cases he
          · rename_i hlen
            split at he
            · rename_i hpre
              cases he
              cases hx with
              | ref0 id off a l hl hl0 =>
                exfalso
                cases hre : l.real with
                | false =>
                  obtain ⟨z, hz⟩ := h.non id _ l hb hl hre rfl
                  cases hz
                  simp at hlen
                | true =>
                  have hd := hD id l (List.getElem?_eq_some_iff.1 hb).1 hl hre
                  obtain ⟨l', cs, q1, q2, q3, q4, q5, q6, q7, q8⟩ := h.blk id _ hd hb
                  rw [hl] at q1; cases q1.1
                  omega
              | ref id off len' cap l hl hre k1 k2 k3 =>
                have hd := hD id l (List.getElem?_eq_some_iff.1 hb).1 hl hre
                obtain ⟨l', cs, q1, q2, q3, q4, q5, q6, q7, q8⟩ := h.blk id _ hd hb
                rw [hl] at q1; cases q1.1
                rw [Nat.zero_mul]
                rw [Nat.zero_add] at k2 k3
                have hroom : (len + ys.length) * s ≤ cs.size := by
                  have h1 := Nat.mul_le_mul_right s hpre
                  have h2 := q8.size
                  omega
                have hroom' : (len + ys.length) * s = len * s + ys.length * s := Nat.add_mul _ _ _
                obtain ⟨w', e1, e2, e3⟩ := run_stores (P := P) l.m (0 + len * s) bs 0 w cs q2 hone (by omega)
                refine ⟨_, _, app_fit (P := P) (a := some ⟨l.m, 0, none⟩) (bs := bs) (w' := w') ht hsrc.len hb1 (by omega) (by simp only [Addr.add_lit]; exact e1), ?_⟩
                have hover := ELs.over q8 h0 hsrc.el hb2 (k := len) (by omega) hroom
                have hpost := Post.write (b' := .pure s (splice xs len ys)) h hd hb rfl hl e2 rfl fun hp => by
                  have hct : cs.toList.length = cs.size := Array.length_toList
                  have hbb : len * s + bs.length ≤ cs.toList.length := by omega
                  refine ⟨l, _, ⟨hl, hre⟩, e3, q3, q4, by rw [splice_length _ _ _ hpre]; exact q5, ?_, h0, ?_⟩
                  · simp only [Nat.zero_add, Nat.add_zero, List.size_toArray]
                    rw [splice_length _ _ _ hbb, Array.length_toList]; exact q6
                  · simp only [Nat.zero_add, Nat.add_zero]
                    exact hover.mono hp fun _ h => h
                refine ⟨_, _, _, hpost, ?_⟩
                have := VR.ref (μ := μ) (w := w') (F := F) id 0 (len + ys.length) cap l hl hre (by omega) (by omega) (by simpa using k3)
                simpa using this
            · cases he
        · cases he
      · cases he
    · cases he

end
end Go.Proofs.Ytanlmanifpknoaa.Ev
namespace Go.Proofs.Ytanlmanifpknoaa.Ev
open Go Go.RowKit
set_option linter.unusedVariables false
set_option linter.unusedSimpArgs false

section
variable {P : Program} {μ : Nat → Option Loc} {D F : Nat → Prop} {H : Heap} {w : World}

theorem VRs.oneV {vs : List V} {bs : List Value} (h : VRs μ w F vs bs) (ho : vs.all V.one = true) : ∀ v ∈ bs, v.oneCell' = true := fun v hv => by
  obtain ⟨j, hj⟩ := List.getElem?_of_mem hv
  have hjl := (List.getElem?_eq_some_iff.1 hj).1
  have h1 := h.1
  have hu : vs[j]? = some (vs[j]'(by omega)) := List.getElem?_eq_getElem _
  exact one_V (h.2 j _ _ hu hj) (List.all_of_all ho hu)

theorem box_loads {cs : Array Value} {vs : List V} (h8 : ∀ (i : Nat) (v : V), vs[i]? = some v → VR μ w F v (cs.getD i undef)) (o n : Nat) (hb : o + n ≤ vs.length) :
    VRs μ w F ((vs.drop o).take n) ((List.range n).map fun j => cs.getD (o + j) undef) := by
  refine ⟨by simp; omega, fun k v a hk ha => ?_⟩
  obtain ⟨hlt, rfl⟩ := range_get _ _ _ _ ha
  rw [List.getElem?_take, if_pos hlt, List.getElem?_drop] at hk
  exact h8 _ v hk

theorem elemsV_ok (h : Rel μ D F H w) (hD : ∀ id l, id < H.length → μ id = some l → l.real = true → D id) {sz : Nat} (h0 : 0 < sz) {v : V} {x : Value} {ys : List V} (he : elemsV H sz v = some ys) (hv : VR μ w F v x) :
    ∃ (n : Nat) (bs : List Value), ys.length = n * sz ∧ (Builtin.lenOf x).run P w = .ok n w ∧ (∀ w', w'.heap = w.heap → (Builtin.firstCells sz n x).run P w' = .ok bs.toArray w') ∧ VRs μ w F ys bs := by
  unfold elemsV at he
  split at he
  · rename_i id off len
    split at he
    · rename_i s vs hb
      split at he
      · rename_i hs; subst hs
        cases he
        cases hv with
        | ref0 id off a l hl hl0 =>
          refine ⟨0, [], by simp, rfl, fun w' _ => by cases a <;> simp only [Builtin.firstCells, Nat.zero_mul] <;> rfl, ?_⟩
          rw [Nat.zero_mul, List.take_zero]; exact .nil
        | ref id off len cap l hl hre k1 k2 k3 =>
          obtain ⟨l', cs, q1, q2, q3, q4, q5, q6, q7, q8⟩ := h.blk id _ (hD id l (List.getElem?_eq_some_iff.1 hb).1 hl hre) hb
          rw [hl] at q1; cases q1.1
          have hm : (off + len) * s ≤ l.n * s := Nat.mul_le_mul_right _ k1
          rw [Nat.add_mul] at hm
          refine ⟨len, _, by simp; omega, rfl, fun w' e' => ?_, box_loads q8 (off * s) (len * s) (by omega)⟩
          simp only [Builtin.firstCells, q4]
          exact run_loads (q2.cel.same (by rw [e'])) (by omega)
      · cases he
    · cases he
  · cases he

theorem set_same {α : Type} {l : List α} {i : Nat} {x : α} (h : l[i]? = some x) : l.set i x = l := by
  apply List.ext_getElem?
  intro j
  rw [List.getElem?_set]
  split
  · rename_i e; subst e
    split
    · exact h.symm
    · rename_i hn; exact absurd (List.getElem?_eq_some_iff.1 h).1 hn
  · rfl

theorem appM_ok {argTypes : Array TypeId} {e ty : TypeId} {sz : Nat} {vx vy v : V} {x y : Value} {H' : Heap} (ht : AppT P argTypes e sz) (h : Rel μ D F H w) (hD : ∀ id l, id < H.length → μ id = some l → l.real = true → D id) (hf : μ H.length = none)
    (hx : VR μ w F vx x) (hy : VR μ w F vy y) (he : evAppM H sz vx vy = some (v, H')) : ∃ z w', (Builtin.append_ argTypes ty #[x, y]).run P w = .ok z w' ∧ Leaves μ D F H w v H' z w' := by
  have h0 := ht.pos
  unfold evAppM at he
  split at he
  · cases he
  · rename_i ys hys
    obtain ⟨n, bs, hyl, hlen, hdet, hbs⟩ := elemsV_ok (P := P) h hD h0 hys hy
    have hbl : bs.length = n * sz := by rw [hbs.1, hyl]
    split at he
    · rename_i id len
      split at he
      · rename_i s vs hb
        split at he
        · rename_i hc
          obtain ⟨rfl, hc1, hc2, hc3, hc4, hc5⟩ := hc
          cases he
          have hdivn : ys.length / s = n := by rw [hyl]; exact Nat.mul_div_cancel _ h0
          rw [hdivn]
          have hone := VRs.oneV hbs hc4
          have hkill := Post.kill h id
          have hlen2 : (H.set id .dead).length = H.length := List.length_set
          have hf2 : μ (H.set id .dead).length = none := by rw [hlen2]; exact hf
          have hlim : len + n ≤ lim := by
            have h1 : len * 1 ≤ len * s := Nat.mul_le_mul_left _ h0
            have h2 : n * 1 ≤ n * s := Nat.mul_le_mul_left _ h0
            omega
          have hsum : (len + n) * s = vs.length + ys.length := by rw [Nat.add_mul, hc1, hyl]
          have fresh : ∀ (w0 : World) (os rest : List Value) (c : Nat), w0.heap = w.heap → w0.os = w.os → w0.tape = w.tape → w0.output = w.output → VRs μ w F vs os → len + n ≤ c → rest.length = (c - (len + n)) * s →
              Leaves μ D F H w (.ref H.length 0 (len + n)) (H.set id .dead ++ [.box s (vs ++ ys)]) (.slice (some ⟨w.heap.size, 0, none⟩) (len + n) c) (w0.alloc (.cells (os ++ bs ++ rest).toArray e)) := by
            intro w0 os rest c hw hos htp hout hvo hc hrest
            have hol : os.length = vs.length := hvo.1
            have hs0 : w0.heap.size = w.heap.size := by rw [hw]
            have hp1 := Post.same hkill.rel hw hos htp hout
            have hr1 := hp1.rel
            have hall : VRs μ w0 F (vs ++ ys) (os ++ bs) := (hvo.app hbs).mono (fun _ _ h => h) (fun m _ => by rw [hw]) fun _ h => h
            have hpost := Post.alloc (b := .box s (vs ++ ys)) hr1 hf2 ⟨w0.heap.size, s, len + n, (os ++ bs ++ rest).toArray.size, true⟩ (.cells (os ++ bs ++ rest).toArray e) rfl rfl fun hp hmo => by
              refine ⟨_, _, ⟨upd_same _ _ _, rfl⟩, Wri.alloc w0 _ e, hr1.notF, rfl, by rw [hsum, List.length_append], rfl, by simp; omega, fun i u hu => ?_⟩
              have hlt := (List.getElem?_eq_some_iff.1 hu).1
              have hlt2 : i < (os ++ bs).length := by rw [hall.1]; exact hlt
              refine (hall.2 i u _ hu ?_).mono hmo hp fun _ h => h
              rw [getD_toArray, List.getD_eq_getElem?_getD, List.getElem?_append_left hlt2, List.getElem?_eq_getElem hlt2]; rfl
            refine Leaves.after hkill ⟨_, _, _, hp1.trans hpost, ?_⟩
            have hroom : c * s ≤ (os ++ bs ++ rest).length := by
              have h2 : (c - (len + n)) * s = c * s - (len + n) * s := Nat.sub_mul _ _ _
              have h4 : (len + n) * s ≤ c * s := Nat.mul_le_mul_right _ hc
              simp only [List.length_append]
              rw [hol, hbl, hrest, ← hyl]; omega
            have := VR.ref (μ := upd μ (H.set id .dead).length (some ⟨w0.heap.size, s, len + n, (os ++ bs ++ rest).toArray.size, true⟩)) (w := w0.alloc (.cells (os ++ bs ++ rest).toArray e)) (F := F) (H.set id .dead).length 0 (len + n) c _ (upd_same _ _ _) rfl (by simp) (by simpa using hc) (by simpa using hroom)
            rw [hlen2] at this ⊢
            simpa [hs0] using this
          cases hx with
          | ref0 id off a l hl hl0 =>
            have hvs : vs = [] := List.length_eq_zero_iff.1 (by omega)
            subst hvs
            by_cases hn : n = 0
            · subst hn; omega
            · obtain ⟨c, rest, hc, hrest, hrun⟩ := app_grow (P := P) (ty := ty) (a := a) (len := 0) (cap := 0) (os := []) ht hlen hdet (fun w' _ => by cases a <;> simp only [Builtin.firstCells, Nat.zero_mul] <;> rfl) (by omega) hlim
              exact ⟨_, _, hrun, fresh w.drew [] rest c rfl rfl rfl rfl .nil hc hrest⟩
          | ref id off len' cap l hl hre k1 k2 k3 =>
            have hd := hD id l (List.getElem?_eq_some_iff.1 hb).1 hl hre
            obtain ⟨l', cs, q1, q2, q3, q4, q5, q6, q7, q8⟩ := h.blk id _ hd hb
            rw [hl] at q1; cases q1.1
            rw [Nat.zero_mul]
            rw [Nat.zero_add] at k2 k3
            have hln : l.n = len := Nat.eq_of_mul_eq_mul_right h0 (by omega)
            by_cases hfit : len + n ≤ cap
            · have hroom : (len + n) * s ≤ cs.size := by
                have := Nat.mul_le_mul_right l.sz hfit
                rw [← q4]; omega
              have hct : cs.toList.length = cs.size := Array.length_toList
              obtain ⟨w', e1, e2, e3⟩ := run_stores (P := P) l.m (0 + len * s) bs 0 w cs q2 hone (by omega)
              refine ⟨_, _, app_fit (P := P) (a := some ⟨l.m, 0, none⟩) (bs := bs) (w' := w') ht hlen (hdet w rfl) hfit (by simp only [Addr.add_lit]; exact e1), ?_⟩
              have hbb : len * s + bs.length ≤ cs.toList.length := by omega
              have hpost := Post.replace (w' := w') (b := .box s (vs ++ ys)) (x := ⟨l.m, s, len + n, cs.size, true⟩) h hf hd hb rfl hl (.inr rfl) rfl (by rw [e2.size]; exact Nat.le_refl _) (fun k _ hk => e2.same k hk) e2.os e2.tape e2.output fun hp hmo => by
                refine ⟨_, _, ⟨upd_same _ _ _, rfl⟩, e3, q3, rfl, by rw [hsum, List.length_append], ?_, ?_, fun i u hu => ?_⟩
                · simp only [Nat.zero_add, Nat.add_zero, List.size_toArray]
                  rw [splice_length _ _ _ hbb, hct]
                · simp only [Nat.zero_add, Nat.add_zero, List.size_toArray]
                  rw [splice_length _ _ _ hbb, List.length_append]; omega
                · simp only [Nat.zero_add, Nat.add_zero]
                  rw [getD_toArray, List.getD_eq_getElem?_getD, splice_get _ _ _ hbb]
                  rw [List.getElem?_append] at hu
                  split at hu
                  · rename_i hi
                    rw [if_neg (by omega)]
                    have := q8 i u hu
                    rw [getD_toList, List.getD_eq_getElem?_getD] at this
                    exact this.mono hmo hp fun _ h => h
                  · rename_i hi
                    have hlt := (List.getElem?_eq_some_iff.1 hu).1
                    rw [if_pos (by omega), hc1]
                    have hbg : bs[i - vs.length]? = some (bs[i - vs.length]'(by omega)) := List.getElem?_eq_getElem _
                    rw [hbg]
                    exact (hbs.2 _ u _ hu hbg).mono hmo hp fun _ h => h
              refine ⟨_, _, _, hpost, ?_⟩
              have := VR.ref (μ := upd μ H.length (some ⟨l.m, s, len + n, cs.size, true⟩)) (w := w') (F := F) H.length 0 (len + n) cap _ (upd_same _ _ _) rfl (by simp) (by simpa using hfit) (by
                simp only [Nat.zero_add]
                rw [← q4]; omega)
              simpa using this
            · have hmemo : ∀ w', w'.heap = w.heap → (Builtin.firstCells s len (.slice (some ⟨l.m, 0, none⟩) len cap)).run P w' = .ok ((List.range (len * s)).map fun j => cs.getD (0 + j) undef).toArray w' := fun w' e' => by
                simp only [Builtin.firstCells]
                exact run_loads (q2.cel.same (by rw [e'])) (by omega)
              obtain ⟨c, rest, hc, hrest, hrun⟩ := app_grow (P := P) (ty := ty) (a := some ⟨l.m, 0, none⟩) (cap := cap) ht hlen hdet hmemo hfit hlim
              have hvo := box_loads q8 0 (len * s) (by omega)
              rw [List.drop_zero, hc1, List.take_length, ← hc1] at hvo
              exact ⟨_, _, hrun, fresh w.drew _ rest c rfl rfl rfl rfl hvo hc hrest⟩
        · cases he
      · cases he
    · cases he

theorem cpy_ok {argTypes : Array TypeId} {e ty t : TypeId} {sz : Nat} {vx vy v : V} {x y : Value} {H' : Heap} (h : Rel μ D F H w) (hD : ∀ id l, id < H.length → μ id = some l → l.real = true → D id) (ht : argTypes[0]? = some t) (hu : P.underlying t = some (.slice e)) (hs : szT P e = some sz) (h0 : 0 < sz)
    (hx : VR μ w F vx x) (hy : VR μ w F vy y) (he : evCpy H sz vx vy = some (v, H')) : ∃ z w', (Builtin.copy_ argTypes ty #[x, y]).run P w = .ok z w' ∧ Leaves μ D F H w v H' z w' := by
  unfold evCpy at he
  split at he
  · cases he
  · rename_i ys hys
    have hsrc := elems_ok (P := P) h hD h0 hys hy
    split at he
    · rename_i id off len
      split at he
      · rename_i s xs hb
        split at he
        · rename_i hc
          obtain ⟨rfl, hc1⟩ := hc
          cases he
          obtain ⟨bs, hdet, hb2, hb3⟩ := hsrc.cells (min ys.length len) (Nat.min_le_left _ _)
          have htk : ys.take (min ys.length len) = ys.take len := by
            rw [Nat.min_comm, ← List.take_take, List.take_length]
          rw [htk] at hb2
          have hel := take_el hsrc.el len
          have htl : (ys.take len).length = min ys.length len := by rw [List.length_take, Nat.min_comm]
          have hone := VRs.one (μ' := μ) hb2 (flat_one hel)
          have hrun : ∀ (a : Option Addr) (cap : Nat) (w' : World), (match a with | some a => storeCells a bs | none => pure () : Sem Unit).run P w = .ok () w' →
              (Builtin.copy_ argTypes ty #[.slice a len cap, y]).run P w = .ok (.int .i64 (min ys.length len : Nat)) w' := fun a cap w' hst => by
            unfold Builtin.copy_
            simp only [ht, List.getElem?_toArray, List.getElem?_cons_zero, List.getElem?_cons_succ, Sem.run_bind, run_underlying hu, Result.andThen_ok, hsrc.len, run_sizeOf hs]
            have : Nat.min ys.length len = min ys.length len := rfl
            rw [this]
            simp only [hdet w rfl, Result.andThen_ok]
            cases a with
            | none => simp only [Sem.run_pure] at hst ⊢; cases hst; rfl
            | some a => simp only [Sem.run_bind] at hst ⊢; rw [hst]; rfl
          cases hx with
          | ref0 id off a l hl hl0 =>
            have hbs : bs = [] := by
              rw [Nat.min_zero, Nat.zero_mul] at hb3
              exact List.length_eq_zero_iff.1 hb3
            refine ⟨_, _, hrun a 0 w (by rw [hbs]; cases a <;> rfl), ?_⟩
            have : H.set id (.pure s (splice xs off (ys.take 0))) = H := by
              rw [List.take_zero]
              have : splice xs off [] = xs := by simp [splice]
              rw [this]; exact set_same hb
            rw [this]
            exact ⟨_, _, _, Post.refl h, .t (.int _ _)⟩
          | ref id off len' cap l hl hre k1 k2 k3 =>
            have hd := hD id l (List.getElem?_eq_some_iff.1 hb).1 hl hre
            obtain ⟨l', cs, q1, q2, q3, q4, q5, q6, q7, q8⟩ := h.blk id _ hd hb
            rw [hl] at q1; cases q1.1
            have hct : cs.toList.length = cs.size := Array.length_toList
            have hsum : off + (ys.take len).length ≤ xs.length := by rw [htl]; omega
            have hroom : (off + (ys.take len).length) * s ≤ cs.size := by
              have h1 := Nat.mul_le_mul_right s hsum
              have h2 := q8.size
              omega
            have hroom' : (off + (ys.take len).length) * s = off * s + (ys.take len).length * s := Nat.add_mul _ _ _
            have hbl : bs.length = (ys.take len).length * s := by rw [hb3, htl]
            obtain ⟨w', e1, e2, e3⟩ := run_stores (P := P) l.m (off * s) bs 0 w cs q2 hone (by omega)
            refine ⟨_, _, hrun (some ⟨l.m, off * l.sz, none⟩) cap w' (by rw [q4]; exact e1), ?_⟩
            have hover := ELs.over q8 h0 hel hb2 (k := off) (by omega) hroom
            have hpost := Post.write (b' := .pure s (splice xs off (ys.take len))) h hd hb rfl hl e2 rfl fun hp => by
              have hbb : off * s + bs.length ≤ cs.toList.length := by omega
              refine ⟨l, _, ⟨hl, hre⟩, e3, q3, q4, by rw [splice_length _ _ _ hsum]; exact q5, ?_, h0, ?_⟩
              · simp only [Nat.add_zero, List.size_toArray]
                rw [splice_length _ _ _ hbb, hct]; exact q6
              · simp only [Nat.add_zero]
                exact hover.mono hp fun _ h => h
            exact ⟨_, _, _, hpost, .t (.int _ _)⟩
        · cases he
      · cases he
    · cases he

theorem clr_ok {argTypes : Array TypeId} {e ty t : TypeId} {sz : Nat} {zt : T} {vx v : V} {x : Value} {H' : Heap} (h : Rel μ D F H w) (hD : ∀ id l, id < H.length → μ id = some l → l.real = true → D id) (ht : argTypes[0]? = some t) (hu : P.underlying t = some (.slice e)) (hz : elemT P e = some zt) (h0 : 0 < sz) (hzel : zt.el sz = true)
    (hx : VR μ w F vx x) (he : evClr H sz zt vx = some (v, H')) : ∃ z w', (Builtin.clear_ argTypes ty #[x]).run P w = .ok z w' ∧ Leaves μ D F H w v H' z w' := by
  obtain ⟨zv, hzv, hzr, hzt⟩ := elemT_ok (P := P) (w := w) (F := F) hz
  unfold evClr at he
  split at he
  · rename_i id off len
    split at he
    · rename_i s xs hb
      split at he
      · rename_i hc
        obtain ⟨rfl, hc1⟩ := hc
        cases he
        obtain ⟨hzs, hsz⟩ := zeros_ok (μ := μ) (e := e) len hzr hzt hzel h0
        have hel : ∀ (i : Nat) y, (List.replicate len zt)[i]? = some y → y.el s = true := fun i y hy => by
          rw [List.getElem?_replicate] at hy
          split at hy
          · cases hy; exact hzel
          · cases hy
        have hone := VRs.one (μ' := μ) hzs (flat_one hel)
        have hbl : ((Array.range (len * s)).map (fun i => zv.cells[i % zv.cells.size]!)).toList.length = len * s := by simp
        have hsame : len = 0 → H.set id (.pure s (splice xs off (List.replicate len zt))) = H := fun hl => by
          subst hl
          have : splice xs off (List.replicate 0 zt) = xs := by simp [splice]
          rw [this]; exact set_same hb
        have hrun0 : ∀ (a : Option Addr) (cap : Nat), (Builtin.clear_ argTypes ty #[.slice a 0 cap]).run P w = .ok (.tuple #[]) w := fun a cap => by
          unfold Builtin.clear_
          cases a <;> simp only [ht, List.getElem?_toArray, List.getElem?_cons_zero, Sem.run_bind, run_underlying hu, Result.andThen_ok, Sem.run_pure] <;> rfl
        cases hx with
        | ref0 id off a l hl hl0 =>
          refine ⟨_, _, hrun0 a 0, ?_⟩
          rw [hsame rfl]
          exact ⟨_, _, _, Post.refl h, .tup [] [] rfl (fun i v a hv => by simp at hv)⟩
        | ref id off len' cap l hl hre k1 k2 k3 =>
          by_cases hl0 : len = 0
          · subst hl0
            refine ⟨_, _, hrun0 _ cap, ?_⟩
            rw [hsame rfl]
            exact ⟨_, _, _, Post.refl h, .tup [] [] rfl (fun i v a hv => by simp at hv)⟩
          · have hd := hD id l (List.getElem?_eq_some_iff.1 hb).1 hl hre
            obtain ⟨l', cs, q1, q2, q3, q4, q5, q6, q7, q8⟩ := h.blk id _ hd hb
            rw [hl] at q1; cases q1.1
            have hct : cs.toList.length = cs.size := Array.length_toList
            have hsum : off + (List.replicate len zt).length ≤ xs.length := by rw [List.length_replicate]; exact hc1
            have hroom : (off + (List.replicate len zt).length) * s ≤ cs.size := by
              have h1 := Nat.mul_le_mul_right s hsum
              have h2 := q8.size
              omega
            have hroom' : (off + (List.replicate len zt).length) * s = off * s + len * s := by rw [List.length_replicate, Nat.add_mul]
            obtain ⟨w', e1, e2, e3⟩ := run_stores (P := P) l.m (off * s) ((Array.range (len * s)).map (fun i => zv.cells[i % zv.cells.size]!)).toList 0 w cs q2 hone (by omega)
            have hover := ELs.over q8 h0 hel hzs (k := off) (by omega) hroom
            have hrun : (Builtin.clear_ argTypes ty #[.slice (some ⟨l.m, off * l.sz, none⟩) len cap]).run P w = .ok (.tuple #[]) w' := by
              obtain ⟨n, rfl⟩ : ∃ n, len = n + 1 := ⟨len - 1, by omega⟩
              unfold Builtin.clear_
              simp only [ht, List.getElem?_toArray, List.getElem?_cons_zero, Sem.run_bind, run_underlying hu, Result.andThen_ok, hzv, Sem.run_pure]
              have hzc : Builtin.zeroCells zv.cells (n + 1) = (Array.range ((n + 1) * s)).map (fun i => zv.cells[i % zv.cells.size]!) := by
                unfold Builtin.zeroCells; rw [hsz]
              rw [hzc, q4, e1]
              rfl
            refine ⟨_, _, hrun, ?_⟩
            have hpost := Post.write (b' := .pure s (splice xs off (List.replicate len zt))) h hd hb rfl hl e2 rfl fun hp => by
              have hbb : off * s + ((Array.range (len * s)).map (fun i => zv.cells[i % zv.cells.size]!)).toList.length ≤ cs.toList.length := by omega
              refine ⟨l, _, ⟨hl, hre⟩, e3, q3, q4, by rw [splice_length _ _ _ hsum]; exact q5, ?_, h0, ?_⟩
              · simp only [Nat.add_zero, List.size_toArray]
                rw [splice_length _ _ _ hbb, hct]; exact q6
              · simp only [Nat.add_zero]
                exact hover.mono hp fun _ h => h
            exact ⟨_, _, _, hpost, .tup [] [] rfl (fun i v a hv => by simp at hv)⟩
      · cases he
    · cases he
  · cases he

theorem bytes_refl (s : ByteArray) : (s == s) = true := by
  show (s.data == s.data) = true
  exact BEq.rfl

theorem mkm_ok (h : Rel μ D F H w) (hf : μ H.length = none) (t : TypeId) : ∃ z w', (Instr.makeMap t none).run P w = .ok z w' ∧ Leaves μ D F H w (.map H.length) (H ++ [.map []]) z w' := by
  refine ⟨.map (some w.heap.size), w.alloc (.map #[] 0), rfl, ?_⟩
  have hpost := Post.alloc (b := .map []) h hf ⟨w.heap.size, 0, 0, 0, true⟩ (.map #[] 0) rfl rfl fun hp hmo =>
    ⟨_, #[], 0, ⟨upd_same _ _ _, rfl⟩, by show (w.heap.push _)[w.heap.size]? = _; simp, h.notF, rfl, fun i e k he => by simp at he⟩
  exact ⟨_, _, _, hpost, .map H.length _ (upd_same _ _ _) rfl⟩

theorem mup_ok {t kt et : TypeId} {kk id : Nat} {k x : T} {xm xk xx : Value} {es : List (T × T)} {r : Option (Nat × T)} (h : Rel μ D F H w) (hD : ∀ id l, id < H.length → μ id = some l → l.real = true → D id) (hu : P.underlying t = some (.map kt et)) (hkk : keyK P kt = some kk)
    (hm : VR μ w F (.map id) xm) (hk : TR w F k xk) (hx : TR w F x xx) (hb : H[id]? = some (.map es)) (hok : keyOk kk k = true) (hfd : findT kk k es 0 = some r) :
    ∃ w' μ' D' F', (Instr.mapUpdate t xm xk xx).run P w = .ok () w' ∧ Post μ D F H w μ' D' F' (match r with | some (i, _) => H.set id (.map (es.set i (k, x))) | none => H.set id (.map (es ++ [(k, x)]))) w' := by
  cases hm with
  | map id l hl hre =>
    have hd := hD id l (List.getElem?_eq_some_iff.1 hb).1 hl hre
    obtain ⟨l', mes, clock, k1, k2, k3, k4, k5⟩ := h.blk id _ hd hb
    rw [hl] at k1; cases k1.1
    obtain ⟨d, hdd⟩ : ∃ d, P.underlying kt = some d := by
      rcases keyK_ok hkk with ⟨_, q, hq⟩ | ⟨_, hq⟩ | ⟨_, hq⟩ <;> exact ⟨_, hq⟩
    have hkr : ∀ (j : Nat) e p, mes.toList[j]? = some e → es[j]? = some p → KR w F e p := fun j e p he hp => k5 j e p (by simpa using he) hp
    obtain ⟨q, q1, q2⟩ := findNow_ok hkk hdd hk es mes.toList 0 r (by simpa using k4) hkr hfd
    have hget : (getObj l.m).run P w = .ok (.map mes clock) w := by simp only [getObj, Sem.run, k2]
    have hck := run_checkKey (w := w) hkk hk hok false
    have hfk := run_findKey (P := P) (w := w) hdd q1
    have hks : k.sc = true := by
      rcases keyK_ok hkk with ⟨rfl, _, _⟩ | ⟨rfl, _⟩ | ⟨rfl, _⟩ <;> cases k <;> first | rfl | (simp [keyOk] at hok)
    have hlt : l.m < w.heap.size := (h.own_notF ⟨id, _, l, hd, hb, rfl, hl, rfl⟩).1
    have hset : ∀ (mes' : Array MapEntry) (c' : Nat), (setObj l.m (.map mes' c')).run P w = .ok () { w with heap := w.heap.setIfInBounds l.m (.map mes' c') } ∧ OnlyAt w { w with heap := w.heap.setIfInBounds l.m (.map mes' c') } l.m ∧
        ({ w with heap := w.heap.setIfInBounds l.m (.map mes' c') } : World).heap[l.m]? = some (.map mes' c') := fun mes' c' => by
      refine ⟨by simp only [setObj, Sem.run, k2], ⟨by simp, fun k hk => by simp [Array.getElem?_setIfInBounds, Ne.symm hk], rfl, rfl, rfl⟩, by simp [hlt]⟩
    cases r with
    | none =>
      cases q with
      | some q => exact q2.elim
      | none =>
        obtain ⟨s1, s2, s3⟩ := hset (mes.push { key := xk, val := xx, born := clock }) (clock + 1)
        refine ⟨_, μ, D, F, ?_, Post.write h hd hb rfl hl s2 rfl fun hp => ⟨l, _, _, ⟨hl, hre⟩, s3, k3, by simp [k4], fun i e p he hp' => ?_⟩⟩
        · unfold Instr.mapUpdate
          simp only [Sem.run_bind, run_underlying hu, Result.andThen_ok, hget, hck, hfk]
          exact s1
        · rw [Array.getElem?_push] at he
          rw [List.getElem?_append] at hp'
          split at he
          · rename_i hi
            cases he
            rw [if_neg (by omega), hi, k4, Nat.sub_self] at hp'
            simp at hp'; subst hp'
            exact ⟨hk.mono hp fun _ h => h, hx.mono hp fun _ h => h, hks⟩
          · have hlt2 := (Array.getElem?_eq_some_iff.1 he).1
            rw [if_pos (by omega)] at hp'
            obtain ⟨a, b, c⟩ := k5 i e p he hp'
            exact ⟨a.mono hp fun _ h => h, b.mono hp fun _ h => h, c⟩
    | some r =>
      cases q with
      | none => exact q2.elim
      | some q =>
        obtain ⟨n, tv⟩ := r
        obtain ⟨m, y⟩ := q
        obtain ⟨a1, a2, a3, e0, a4, a5, a6⟩ := q2
        subst a1
        rw [Nat.sub_zero] at a4
        have a4' : mes[n]? = some e0 := by simpa using a4
        let mes' := mes.modify n fun e => { e with key := xk, val := xx }
        obtain ⟨s1, s2, s3⟩ := hset mes' clock
        have hstay : (Instr.keyThatStays (((mes[n]?).map (·.key)).getD xk) xk).run P w = .ok xk w := by
          rw [a4']
          simp only [Option.map_some, Option.getD_some, a5]
          have : Instr.sameBits 10000 xk xk = true := by
            show Instr.sameBits (9999 + 1) xk xk = true
            cases hk <;> first
              | (simp [Instr.sameBits]; done)
              | (simp only [Instr.sameBits]; exact bytes_refl _)
              | (rcases keyK_ok hkk with ⟨rfl, _, _⟩ | ⟨rfl, _⟩ | ⟨rfl, _⟩ <;> simp [keyOk] at hok)
          unfold Instr.keyThatStays
          rw [this]; rfl
        refine ⟨_, μ, D, F, ?_, Post.write h hd hb rfl hl s2 rfl fun hp => ⟨l, _, _, ⟨hl, hre⟩, s3, k3, by simp [mes', k4], fun i e p he hp' => ?_⟩⟩
        · unfold Instr.mapUpdate
          simp only [Sem.run_bind, run_underlying hu, Result.andThen_ok, hget, hck, hfk, hstay]
          exact s1
        · simp only [mes', Array.getElem?_modify] at he
          rw [List.getElem?_set] at hp'
          split at he
          · rename_i hni
            subst hni
            rw [a4'] at he
            simp at he; subst he
            have hln : n < es.length := by rw [← k4]; exact (Array.getElem?_eq_some_iff.1 a4').1
            rw [if_pos rfl] at hp'
            first
            | (rw [if_pos hln] at hp'
               cases hp'
               exact ⟨hk.mono hp fun _ h => h, hx.mono hp fun _ h => h, hks⟩)
            | (cases hp'
               exact ⟨hk.mono hp fun _ h => h, hx.mono hp fun _ h => h, hks⟩)
          · rename_i hni
            rw [if_neg hni] at hp'
            obtain ⟨a, b, c⟩ := k5 i e p he hp'
            exact ⟨a.mono hp fun _ h => h, b.mono hp fun _ h => h, c⟩

end
end Go.Proofs.Ytanlmanifpknoaa.Ev
namespace Go.Proofs.Ytanlmanifpknoaa.Ev
open Go Go.RowKit
set_option linter.unusedVariables false
set_option linter.unusedSimpArgs false

def O.isCall : O → Bool
  | .call .. | .callv .. => true
  | _ => false

section
variable {P : Program} {μ : Nat → Option Loc} {D F : Nat → Prop} {H : Heap} {w : World}

theorem partsS_ok {n : Nat} {fr : Fr} {a : Act} (hfr : FR μ w F n fr a) : ∀ (ps : List (Nat × Operand)) (q : List (Nat × A)), partsS ps = some q →
    ps.map (·.1) = q.map (·.1) ∧ VRs μ w F (q.map fun p => p.2.ev fr) (ps.map fun p => a.eval p.2)
  | [], q, h => by simp only [partsS] at h; cases h; exact ⟨rfl, .nil⟩
  | (i, x) :: ps, q, h => by
    simp only [partsS] at h
    split at h
    · rename_i y q' h1 h2
      cases h
      obtain ⟨k1, k2⟩ := partsS_ok hfr ps q' h2
      exact ⟨by simp [k1], .cons (opd_VR hfr h1) k2⟩
    · cases h

theorem zip_maps {α β : Type} (f : α → β) : ∀ (ps : List (Nat × α)), (ps.map (·.1)).zip (ps.map fun p => f p.2) = ps.map fun p => (p.1, f p.2)
  | [] => rfl
  | p :: ps => by simp [zip_maps f ps]

theorem op_heap {mix : Mx} {E : Env} {rec : Rec} {o : Oper} {op : O} {n : Nat} {fr : Fr} {a : Act} {v : V} {H' : Heap} (hc : compO P mix o = some op) (hst : op.still = false) (hnc : op.isCall = false) (he : evO E rec fr H op = some (v, H'))
    (h : Rel μ D F H w) (hD : ∀ id l, id < H.length → μ id = some l → l.real = true → D id) (hf : μ H.length = none) (hfr : FR μ w F n fr a) : Does P o a w (Leaves μ D F H w v H') := by
  unfold compO at hc
  generalize hop : o.op = oo at hc
  cases oo with
  | move x => simp only [Option.map_eq_some_iff] at hc; obtain ⟨_, _, rfl⟩ := hc; simp [O.still] at hst
  | assign x => simp only [Option.map_eq_some_iff] at hc; obtain ⟨_, _, rfl⟩ := hc; simp [O.still] at hst
  | nilCheck x => simp only [Option.map_eq_some_iff] at hc; obtain ⟨_, _, rfl⟩ := hc; simp [O.still] at hst
  | unOp u t x => simp only [Option.map_eq_some_iff] at hc; obtain ⟨_, _, rfl⟩ := hc; simp [O.still] at hst
  | extract x i => simp only [Option.map_eq_some_iff] at hc; obtain ⟨_, _, rfl⟩ := hc; simp [O.still] at hst
  | alloc e =>
    simp only at hc
    split at hc
    · rename_i k z hs hz
      split at hc
      · rename_i hl
        cases hc
        simp only [evO] at he
        cases he
        obtain ⟨zv, h1, h2⟩ := run_zero (P := P) (μ := μ) (w := w) (F := F) hz
        obtain ⟨hleaf, _⟩ := box_ok h hf e h2 1 k (by simp [hl])
        refine Does.semL (s := Instr.alloc e true (.tuple #[])) (by simp only [execOp, hop]) ⟨_, _, ?_, hleaf⟩
        unfold Instr.alloc
        simp only [Sem.run_bind, h1, Result.andThen_ok, newVar, newRow, run_newObj, World.alloc_eq, Sem.run_pure]
      · cases hc
    · cases hc
  | box e x =>
    simp only [Option.map_eq_some_iff] at hc
    obtain ⟨y, hy, rfl⟩ := hc
    simp only [evO] at he
    split at he
    · rename_i cs hcs
      cases he
      have h2 := cells_VRs (opd_VR hfr hy) hcs
      obtain ⟨hleaf, _⟩ := box_ok h hf e h2 1 cs.length (by simp)
      refine Does.semL (s := Instr.box e (a.eval x)) (by simp only [execOp, hop]) ⟨_, _, ?_, hleaf⟩
      unfold Instr.box
      simp only [Sem.run_bind, Result.andThen_ok, newVar, newRow, run_newObj, World.alloc_eq, Sem.run_pure]
    · cases he
  | buildSlice t k ps =>
    simp only at hc
    split at hc
    · rename_i e hu
      split at hc
      · rename_i s z q hs hz hq
        split at hc
        · rename_i hcond
          obtain ⟨h0, hel, hlen⟩ := hcond
          obtain ⟨k1, k2⟩ := partsS_ok hfr ps.toList q hq
          have hps : (ps.map fun (x : Nat × Operand) => match x with | (i, x) => (i, a.eval x)) = (((q.map (·.1)).zip (ps.toList.map fun p => a.eval p.2))).toArray := by
            apply Array.toList_inj.1
            rw [← k1, zip_maps (fun x => a.eval x)]
            simp
          have hil : (q.map (·.1)).length = (ps.toList.map fun p => a.eval p.2).length := by rw [← k1]; simp
          have hexec : execOp a.eval o = (do pure (.value (← Instr.buildSlice t k (ps.map fun (x : Nat × Operand) => match x with | (i, x) => (i, a.eval x))))) := by simp only [execOp, hop]
          cases hmf : mix.f with
          | true =>
            rw [hmf] at hc
            simp only [if_true] at hc
            cases hc
            simp only [evO] at he
            split at he
            · cases he
            · rename_i ts hts
              split at he
              · cases he
              · rename_i ys hfill
                cases he
                refine Does.semL hexec ?_
                rw [hps]
                exact bsf_ok h hu hs hz h0 hel hlen hts k2 hil hfill
          | false =>
          rw [hmf] at hc
          simp only [Bool.false_eq_true, if_false] at hc
          cases hc
          cases hm : (mix.m && !keyB P e) with
          | false =>
            rw [hm] at he
            simp only [evO] at he
            split at he
            · cases he
            · rename_i ts L hrd
              split at he
              · cases he
              · rename_i ys hfill
                cases he
                refine Does.semL hexec ?_
                rw [hps]
                exact bsl_ok h hD hf hu hs hz h0 hel hlen hrd k2 hil hfill
          | true =>
            rw [hm] at he
            simp only [evO] at he
            split at he
            · cases he
            · rename_i us hfill
              cases he
              refine Does.semL hexec ?_
              rw [hps]
              refine bslM_ok h hf hu hs hz h0 hel hlen k2 hil ?_
              have : (q.map fun p => (p.1 * s, s, p.2.ev fr)) = ((q.map (·.1)).zip (q.map fun p => p.2.ev fr)).map fun p => (p.1 * s, s, p.2) := by
                rw [zip_maps (fun x : A => x.ev fr)]; simp
              rw [← this]; exact hfill
        · cases hc
      · cases hc
    · cases hc
  | makeSlice t x y =>
    simp only at hc
    split at hc
    · rename_i e hu
      split at hc
      · rename_i s z x' y' hs hz hx hy
        split at hc
        · rename_i hcond
          obtain ⟨h0, hel, hby⟩ := hcond
          cases hmf : mix.f with
          | true =>
            rw [hmf] at hc
            simp only [if_true] at hc
            cases hc
            simp only [evO] at he
            split at he
            · rename_i k1 l k2 c e1 e2
              split at he
              · rename_i hlc
                cases he
                have hv := opd_VR hfr hx
                have hv2 := opd_VR hfr hy
                rw [e1] at hv; rw [e2] at hv2
                refine Does.semL (s := Instr.makeSlice t (a.eval x) (a.eval y)) (by simp only [execOp, hop]) ?_
                rw [hv.int, hv2.int]
                exact msf_ok h hu hs hz h0 hel hby hlc.1 hlc.2.1 hlc.2.2
              · cases he
            · cases he
          | false =>
          rw [hmf] at hc
          simp only [Bool.false_eq_true, if_false] at hc
          cases hc
          simp only [evO] at he
          split at he
          · rename_i k1 l k2 c e1 e2
            split at he
            · rename_i hlc
              cases he
              have hv := opd_VR hfr hx
              have hv2 := opd_VR hfr hy
              rw [e1] at hv; rw [e2] at hv2
              refine Does.semL (s := Instr.makeSlice t (a.eval x) (a.eval y)) (by simp only [execOp, hop]) ?_
              rw [hv.int, hv2.int]
              exact mks_ok h hf hu hs hz h0 hel hby hlc.1 hlc.2.1 hlc.2.2
            · cases he
          · cases he
        · cases hc
      · cases hc
    · cases hc
  | makeMap t r =>
    cases r with
    | some r => cases hc
    | none =>
      cases hc
      simp only [evO] at he
      cases he
      exact Does.semL (s := Instr.makeMap t none) (by simp only [execOp, hop]; rfl) (mkm_ok h hf t)
  | store t x y =>
    simp only at hc
    split at hc
    · rename_i x' y' k hx hy hs
      cases hc
      simp only [evO] at he
      split at he
      · rename_i H2 hH2
        cases he
        refine Does.semU (s := Instr.storeAt t (a.eval x) (a.eval y)) (by simp only [execOp, hop]) (st_ok h hD hs (opd_VR hfr hx) (opd_VR hfr hy) hH2)
      · cases he
    · cases hc
  | mapUpdate t m k x =>
    simp only at hc
    split at hc
    · rename_i kt et m' k' x' hu hm hk hx
      obtain ⟨kk, hkk, rfl⟩ := Option.map_eq_some_iff.1 hc
      simp only [evO] at he
      split at he
      · rename_i id kt' xt e1 e2 e3
        have hv := opd_VR hfr hm
        have hv2 := opd_VR hfr hk
        have hv3 := opd_VR hfr hx
        rw [e1] at hv; rw [e2] at hv2; rw [e3] at hv3
        split at he
        · rename_i es hb
          split at he
          · cases he
          · rename_i hok
            have hok : keyOk kk kt' = true := by simpa using hok
            have hex : execOp a.eval o = (do Instr.mapUpdate t (a.eval m) (a.eval k) (a.eval x); pure .skip) := by simp only [execOp, hop]
            split at he
            · rename_i i tv hfd
              cases he
              exact Does.semU hex (mup_ok h hD hu hkk hv hv2.tT hv3.tT hb hok hfd)
            · rename_i hfd
              cases he
              exact Does.semU hex (mup_ok h hD hu hkk hv hv2.tT hv3.tT hb hok hfd)
            · cases he
        · cases he
      · cases he
    · cases hc
  | call c =>
    obtain ⟨callee, args, argTypes⟩ := c
    simp only at hc
    cases callee with
    | invoke r m => cases hc
    | value f =>
      cases f with
      | func f =>
        simp only at hc
        split at hc
        · split at hc <;> cases hc; simp [O.isCall] at hnc
        · cases hc
      | _ =>
        simp only at hc
        split at hc
        · cases hc; simp [O.isCall] at hnc
        · cases hc
    | builtin b =>
      have hexec : ∀ (s : Sem Value), builtin b argTypes o.type (args.map fun | .const _ => true | _ => false) (args.map a.eval) = (do pure (.value (← s))) → execOp a.eval o = (do pure (.value (← s))) := fun s hs => by
        simp only [execOp, hop, resolve]
        exact hs
      have hbind : ∀ {i : Nat} {d : TypeDesc}, argTypes[i]?.bind P.underlying = some d → ∃ t, argTypes[i]? = some t ∧ P.underlying t = some d := fun hb => Option.bind_eq_some_iff.1 hb
      have hargs : ∀ {x y : Operand}, args.toList = [x, y] → args.map a.eval = #[a.eval x, a.eval y] := fun hl => by
        apply Array.toList_inj.1; simp [hl]
      cases b with
      | append =>
        simp only at hc
        split at hc
        · rename_i e d x y t0 t1 hl
          obtain ⟨ta, ha1, ha2⟩ := hbind t0
          obtain ⟨tb, hb1, hb2⟩ := hbind t1
          split at hc
          · cases hc
          · rename_i s x' y' hs hx hy hnint
            split at hc
            · rename_i hcond
              obtain ⟨h0, hby, hzl⟩ := hcond
              cases hc
              have ht : AppT P argTypes e s := by
                refine ⟨⟨ta, ha1, ha2⟩, ⟨tb, _, hb1, hb2, hnint⟩, hs, h0, ?_⟩
                unfold okBytes at hby
                cases hz : zeroT P e with
                | none => simp [hz] at hzl
                | some z =>
                  obtain ⟨i, zv, i1, i2, i3⟩ := zeroT_ok hz
                  refine ⟨i, zv, i1, by simpa [i1] using hby, i2, ?_⟩
                  have := (tsOf_TR (w := w) (F := F) i3).1
                  rw [Array.length_toList] at this
                  simp [hz] at hzl
                  omega
              have hex := hexec (Builtin.append_ argTypes o.type (args.map a.eval)) rfl
              rw [hargs hl] at hex
              cases hm : (mix.m && !keyB P e) with
              | false =>
                rw [hm] at he
                simp only [evO] at he
                exact Does.semL hex (app_ok ht h hD hf (opd_VR hfr hx) (opd_VR hfr hy) he)
              | true =>
                rw [hm] at he
                simp only [evO] at he
                exact Does.semL hex (appM_ok ht h hD hf (opd_VR hfr hx) (opd_VR hfr hy) he)
            · cases hc
          · cases hc
        · cases hc
      | copy =>
        simp only at hc
        split at hc
        · rename_i e x y t0 hl
          obtain ⟨ta, ha1, ha2⟩ := hbind t0
          split at hc
          · rename_i s x' y' hs hx hy
            split at hc
            · rename_i h0
              cases hc
              simp only [evO] at he
              have hex := hexec (Builtin.copy_ argTypes o.type (args.map a.eval)) rfl
              rw [hargs hl] at hex
              exact Does.semL hex (cpy_ok h hD ha1 ha2 hs h0 (opd_VR hfr hx) (opd_VR hfr hy) he)
            · cases hc
          · cases hc
        · cases hc
      | clear =>
        simp only at hc
        split at hc
        · rename_i e x t0 hl
          obtain ⟨ta, ha1, ha2⟩ := hbind t0
          split at hc
          · rename_i s z x' hs hz hx
            split at hc
            · rename_i h0
              cases hc
              simp only [evO] at he
              have hex := hexec (Builtin.clear_ argTypes o.type (args.map a.eval)) rfl
              have hargs1 : args.map a.eval = #[a.eval x] := by apply Array.toList_inj.1; simp [hl]
              rw [hargs1] at hex
              exact Does.semL hex (clr_ok h hD ha1 ha2 hz h0.1 h0.2 (opd_VR hfr hx) he)
            · cases hc
          · cases hc
        · cases hc
      | len =>
        simp only at hc
        split at hc <;> first | (obtain ⟨_, _, rfl⟩ := Option.map_eq_some_iff.1 hc; simp [O.still] at hst) | cases hc
      | max =>
        simp only at hc
        split at hc <;> first | (cases hc; simp [O.still] at hst; done) | cases hc
      | min =>
        simp only at hc
        split at hc <;> first | (cases hc; simp [O.still] at hst; done) | cases hc
      | _ => cases hc
  | makeFunc fn x y =>
    cases fn with
    | func f =>
      simp only at hc
      split at hc <;> first | (cases hc; simp [O.still] at hst; done) | cases hc
    | _ => cases hc
  | slice t x lo hi mx =>
    cases mx with
    | some m => cases hc
    | none =>
      simp only at hc
      repeat' (split at hc)
      all_goals first | (cases hc; done) | (cases hc; simp [O.still] at hst; done)
  | indexAddr t x y =>
    simp only at hc
    split at hc
    · obtain ⟨_, _, rfl⟩ := Option.map_eq_some_iff.1 hc; simp [O.still] at hst
    · cases hc
  | build t ps =>
    simp only at hc
    repeat' (split at hc)
    all_goals first | (cases hc; done) | (obtain ⟨_, _, rfl⟩ := Option.map_eq_some_iff.1 hc; simp [O.still] at hst; done)
  | pick | load | binOp | convert | fieldAddr | field | index | lookup =>
    simp only at hc
    repeat' (split at hc)
    all_goals first | (cases hc; done) | (cases hc; simp [O.still] at hst; done)
  | _ => cases hc

end
end Go.Proofs.Ytanlmanifpknoaa.Ev
namespace Go.Proofs.Ytanlmanifpknoaa.Ev
open Go Go.RowKit
set_option linter.unusedVariables false
set_option linter.unusedSimpArgs false

theorem rens_map (r : Nat → Option Nat) : ∀ vs : List V, V.rens r vs = vs.map (V.ren r)
  | [] => rfl
  | v :: vs => by simp only [V.rens, List.map_cons, rens_map r vs]

section
variable {P : Program} {μ μ' : Nat → Option Loc} {D F : Nat → Prop} {H : Heap} {w : World}

theorem VR.ren {r : Nat → Option Nat} (hr : ∀ id j l, r id = some j → μ id = some l → μ' j = some l) {v : V} {x : Value} (h : VR μ w F v x) : VR μ' w F (v.ren r) x := by
  have lst : ∀ (vs : List V) (as : List Value), as.length = vs.length → (∀ (i : Nat) v a, vs[i]? = some v → as[i]? = some a → VR μ' w F (v.ren r) a) →
      as.length = (V.rens r vs).length ∧ ∀ (i : Nat) v a, (V.rens r vs)[i]? = some v → as[i]? = some a → VR μ' w F v a := fun vs as hl hh => by
    rw [rens_map]
    refine ⟨by simpa using hl, fun i v a hv ha => ?_⟩
    rw [List.getElem?_map] at hv
    cases hvi : vs[i]? with
    | none => simp [hvi] at hv
    | some u => simp [hvi] at hv; subst hv; exact hh i u a hvi ha
  induction h with
  | any v => simp only [V.ren]; exact .any v
  | t h => simp only [V.ren]; exact .t h
  | ref id off len cap l hl hre h1 h2 h3 =>
    simp only [V.ren]
    split
    · rename_i j hj; exact .ref j off len cap l (hr id j l hj hl) hre h1 h2 h3
    · exact .any _
  | ref0 id off a l hl h0 =>
    simp only [V.ren]
    split
    · rename_i j hj; exact .ref0 j off a l (hr id j l hj hl) h0
    · exact .any _
  | ptr id idx c l hl hre =>
    simp only [V.ren]
    split
    · rename_i j hj; exact .ptr j idx c l (hr id j l hj hl) hre
    · exact .any _
  | rptr t c m off cs hF hm hb h => simp only [V.ren]; exact .rptr t c m off cs hF hm hb h
  | agg vs as hl _ ih =>
    simp only [V.ren]
    obtain ⟨k1, k2⟩ := lst vs as hl ih
    exact .agg _ as k1 k2
  | tup vs as hl _ ih =>
    simp only [V.ren]
    obtain ⟨k1, k2⟩ := lst vs as hl ih
    exact .tup _ as k1 k2
  | clo f xs ys as bs hx hy _ _ ih ih' =>
    simp only [V.ren]
    obtain ⟨k1, k2⟩ := lst xs as hx ih
    obtain ⟨k3, k4⟩ := lst ys bs hy ih'
    exact .clo f _ _ as bs k1 k3 k2 k4
  | map id l hl hre =>
    simp only [V.ren]
    split
    · rename_i j hj; exact .map j l (hr id j l hj hl) hre
    · exact .any _

theorem BR.ren {r : Nat → Option Nat} (hr : ∀ id j l, r id = some j → μ id = some l → μ' j = some l) {id j : Nat} {b : Blk} (h : BR μ w F id b) (hj : ∀ l, μ id = some l → μ' j = some l) : BR μ' w F j (b.ren r) := by
  cases b with
  | dead => trivial
  | pure sz xs => obtain ⟨l, cs, h1, h2⟩ := h; exact ⟨l, cs, ⟨hj l h1.1, h1.2⟩, h2⟩
  | froz sz xs => obtain ⟨l, cs, h1, h2⟩ := h; exact ⟨l, cs, ⟨hj l h1.1, h1.2⟩, h2⟩
  | map es => obtain ⟨l, mes, c, h1, h2⟩ := h; exact ⟨l, mes, c, ⟨hj l h1.1, h1.2⟩, h2⟩
  | box sz vs =>
    obtain ⟨l, cs, h1, h2, h3, h4, h5, h6, h7, h8⟩ := h
    refine ⟨l, cs, ⟨hj l h1.1, h1.2⟩, h2, h3, h4, by rw [rens_map, List.length_map]; exact h5, h6, by rw [rens_map, List.length_map]; exact h7, fun i v hv => ?_⟩
    rw [rens_map, List.getElem?_map] at hv
    cases hvi : vs[i]? with
    | none => simp [hvi] at hv
    | some u => simp [hvi] at hv; subst hv; exact (h8 i u hvi).ren hr

theorem ren_own (r : Nat → Option Nat) (b : Blk) : (b.ren r).own = b.own := by cases b <;> rfl


theorem close_nodup (H : Heap) : ∀ (n : Nat) (todo acc : List Nat), acc.Nodup → (close H n todo acc).Nodup
  | 0, _, _, h => by simpa [close] using h
  | _ + 1, [], _, h => by simpa [close] using h
  | n + 1, id :: todo, acc, h => by
    unfold close
    split
    · exact close_nodup H n todo acc h
    · rename_i hn
      split
      · exact close_nodup H n todo acc h
      · refine close_nodup H n _ _ ?_
        rw [List.nodup_append]
        refine ⟨h, by simp, fun a ha b hb e => ?_⟩
        simp at hb; subst hb; subst e
        exact hn (by simpa using ha)
      · exact close_nodup H n todo acc h

theorem gcIds_nodup (H : Heap) (vs : List V) : (gcIds H vs).Nodup := close_nodup H _ _ _ List.nodup_nil

theorem rho_get {ids : List Nat} {id j : Nat} (h : rho ids id = some j) : ids[j]? = some id := by
  unfold rho at h
  induction ids generalizing j with
  | nil => simp [List.idxOf?] at h
  | cons a ids ih =>
    rw [List.idxOf?_cons] at h
    split at h
    · rename_i e
      cases h
      simp at e; subst e; rfl
    · cases hi : List.idxOf? id ids with
      | none => simp [hi] at h
      | some k => simp [hi] at h; subst h; simpa using ih hi

theorem pickB_get (H : Heap) (ids : List Nat) : ∀ (l : List Nat) (k : Nat), (pickB H ids l)[k]? = (l[k]?).map fun id => match H[id]? with | some b => b.ren (rho ids) | none => .dead
  | [], k => by simp [pickB]
  | id :: l, 0 => by
    simp only [pickB, List.getElem?_cons_zero, Option.map_some]
    cases H[id]? <;> rfl
  | id :: l, k + 1 => by simp [pickB, pickB_get H ids l k]

theorem pickB_length (H : Heap) (ids : List Nat) : ∀ l : List Nat, (pickB H ids l).length = l.length
  | [] => rfl
  | _ :: l => by simp [pickB, pickB_length H ids l]

def muGC (μ : Nat → Option Loc) (ids : List Nat) : Nat → Option Loc := fun j => (ids[j]?).bind μ
def dGC (D : Nat → Prop) (H : Heap) (ids : List Nat) : Nat → Prop := fun j => ∃ id, ids[j]? = some id ∧ D id

theorem muGC_ren {ids : List Nat} : ∀ id j l, rho ids id = some j → μ id = some l → muGC μ ids j = some l := fun id j l hj hl => by
  unfold muGC; rw [rho_get hj]; exact hl

theorem Rel.gc (h : Rel μ D F H w) {ids : List Nat} (hn : ids.Nodup) : Rel (muGC μ ids) (dGC D H ids) F (pickB H ids ids) w := by
  have hget : ∀ (j : Nat) b, (pickB H ids ids)[j]? = some b → ∃ id, ids[j]? = some id ∧ ((∃ b0, H[id]? = some b0 ∧ b = b0.ren (rho ids)) ∨ b = .dead) := fun j b hb => by
    rw [pickB_get] at hb
    cases hj : ids[j]? with
    | none => simp [hj] at hb
    | some id =>
      simp only [hj, Option.map_some] at hb
      cases hb
      refine ⟨id, rfl, ?_⟩
      cases hH : H[id]? with
      | none => exact .inr rfl
      | some b0 => exact .inl ⟨b0, rfl, rfl⟩
  refine ⟨fun j b ⟨id, hj, hd⟩ hb => ?_, fun i j li lj bi bj ⟨id, hi, hdi⟩ ⟨jd, hj, hdj⟩ hbi hbj hoi hoj hli hlj e => ?_, h.frz, fun j ⟨id, hj, _⟩ => ?_, fun j b l hb hl hr ho => ?_⟩
  · obtain ⟨id', hj', hc⟩ := hget j b hb
    rw [hj] at hj'; cases hj'
    rcases hc with ⟨b0, hb0, rfl⟩ | rfl
    · exact (h.blk id b0 hd hb0).ren muGC_ren fun l hl => by unfold muGC; rw [hj]; exact hl
    · trivial
  · obtain ⟨id', hi', hci⟩ := hget i bi hbi
    obtain ⟨jd', hj', hcj⟩ := hget j bj hbj
    rw [hi] at hi'; cases hi'
    rw [hj] at hj'; cases hj'
    unfold muGC at hli hlj
    rw [hi] at hli; rw [hj] at hlj
    rcases hci with ⟨b0, hb0, rfl⟩ | rfl
    · rcases hcj with ⟨c0, hc0, rfl⟩ | rfl
      · rw [ren_own] at hoi hoj
        have := h.inj id jd li lj b0 c0 hdi hdj hb0 hc0 hoi hoj hli hlj e
        subst this
        have h1 := (List.getElem?_eq_some_iff.1 hi).1
        have h2 := (List.getElem?_eq_some_iff.1 hj).1
        exact (List.getElem_inj hn).1 ((List.getElem?_eq_some_iff.1 hi).2.trans (List.getElem?_eq_some_iff.1 hj).2.symm)
      · simp [Blk.own] at hoj
    · simp [Blk.own] at hoi
  · rw [pickB_length]; exact (List.getElem?_eq_some_iff.1 hj).1
  · obtain ⟨id, hj, hc⟩ := hget j b hb
    unfold muGC at hl
    rw [hj] at hl
    rcases hc with ⟨b0, hb0, rfl⟩ | rfl
    · rw [ren_own] at ho
      obtain ⟨sz, rfl⟩ := h.non id b0 l hb0 hl hr ho
      exact ⟨sz, rfl⟩
    · simp [Blk.own] at ho

theorem OwnS.gc {ids : List Nat} {m : Nat} (h : OwnS (muGC μ ids) (dGC D H ids) (pickB H ids ids) m) : OwnS μ D H m := by
  obtain ⟨j, b, l, ⟨id, hj, hd⟩, hb, ho, hl, rfl⟩ := h
  rw [pickB_get, hj] at hb
  unfold muGC at hl
  rw [hj] at hl
  cases hH : H[id]? with
  | none => simp [hH] at hb; subst hb; simp [Blk.own] at ho
  | some b0 => simp [hH] at hb; subst hb; rw [ren_own] at ho; exact ⟨id, b0, l, hd, hH, ho, hl, rfl⟩

theorem Fr.get_ren (r : Nat → Option Nat) : ∀ (fr : Fr) (t : Nat), (fr.ren r).get t = (fr.get t).ren r
  | [], t => by simp [Fr.ren, Fr.get, V.ren]
  | (s, v) :: fr, t => by
    simp only [Fr.ren, Fr.get]
    split
    · rfl
    · exact Fr.get_ren r fr t

theorem keep_get (live : List Nat) : ∀ (fr : Fr) (t : Nat), (keep live fr).get t = fr.get t ∨ (keep live fr).get t = .any
  | [], t => .inl rfl
  | (s, v) :: fr, t => by
    simp only [keep]
    split
    · simp only [Fr.get]
      split
      · exact .inl rfl
      · exact keep_get live fr t
    · rename_i hs
      simp only [Fr.get]
      rcases keep_get live fr t with h | h
      · by_cases e : s = t
        · right
          have : ∀ (fr : Fr), live.contains t = false → (keep live fr).get t = .any := by
            intro fr hl
            induction fr with
            | nil => rfl
            | cons p fr ih =>
              obtain ⟨u, x⟩ := p
              simp only [keep]
              split
              · rename_i hu
                simp only [Fr.get]
                split
                · rename_i e2; subst e2; rw [hl] at hu; cases hu
                · exact ih
              · exact ih
          exact this fr (by subst e; simpa using hs)
        · rw [if_neg e]; exact .inl h
      · exact .inr h

theorem FR.keep {n : Nat} {fr : Fr} {a : Act} (h : FR μ w F n fr a) (live : List Nat) : FR μ w F n (keep live fr) a :=
  ⟨h.size, h.defers, fun t => by
    rcases keep_get live fr t with e | e
    · rw [e]; exact h.slot t
    · rw [e]; exact .any _⟩

theorem FR.ren {r : Nat → Option Nat} {n : Nat} {fr : Fr} {a : Act} (hr : ∀ id j l, r id = some j → μ id = some l → μ' j = some l) (h : FR μ w F n fr a) : FR μ' w F n (fr.ren r) a :=
  ⟨h.size, h.defers, fun t => by rw [Fr.get_ren]; exact (h.slot t).ren hr⟩

def Sound (P : Program) (f : FuncId) (args : List V) (H : Heap) (v : V) (H' : Heap) : Prop :=
  ∀ (μ : Nat → Option Loc) (D F : Nat → Prop) (w : World) (margs : List Value), Rel μ D F H w → (∀ id l, id < H.length → μ id = some l → l.real = true → D id) → (∀ id, D id → ∃ l, μ id = some l ∧ l.real = true) → (∀ id, H.length ≤ id → μ id = none) → VRs μ w F args margs →
    Calls P f margs.toArray w fun e w' => ∃ x, e = .returned x ∧ Leaves μ D F H w v H' x w'

def RecOk (P : Program) (rec : Rec) : Prop := ∀ f args H v H', rec f args H = some (v, H') → Sound P f args H v H'
def PrimOk (P : Program) (E : Env) : Prop := ∀ f m s, E f = some (.prim m s) → ∀ args H v H', s args H = some (v, H') → Sound P f args H v H'

theorem T.scR {w w' : World} {F F' : Nat → Prop} {t : T} {v : Value} (h : TR w F t v) (hs : t.flat = true) : TR w' F' t v := h.flat hs

theorem VR.fl0 {w' : World} {F' : Nat → Prop} {v : V} {x : Value} (h : VR μ w F v x) (hf : v.fl0 = true) : VR μ w' F' v x := by
  cases h with
  | any => exact .any _
  | t h => exact .t (h.flat hf)
  | ref id off len cap l hl hre h1 h2 h3 => exact .ref id off len cap l hl hre h1 h2 h3
  | ref0 id off a l hl h0 => exact .ref0 id off a l hl h0
  | _ => simp [V.fl0] at hf
theorem VR.fl1 {w' : World} {F' : Nat → Prop} {v : V} {x : Value} (h : VR μ w F v x) (hf : v.fl1 = true) : VR μ w' F' v x := by
  cases h with
  | agg vs as hl h =>
    refine .agg vs as hl fun i v a hv ha => (h i v a hv ha).fl0 ?_
    simp only [V.fl1] at hf
    exact List.all_of_all hf hv
  | any => exact .any _
  | t h => exact .t (h.flat hf)
  | ref id off len cap l hl hre h1 h2 h3 => exact .ref id off len cap l hl hre h1 h2 h3
  | ref0 id off a l hl h0 => exact .ref0 id off a l hl h0
  | _ => simp [V.fl1, V.fl0] at hf
theorem VR.flat {w' : World} {F' : Nat → Prop} {v : V} {x : Value} (h : VR μ w F v x) (hf : v.flat = true) : VR μ w' F' v x := by
  cases h with
  | tup vs as hl h =>
    refine .tup vs as hl fun i v a hv ha => (h i v a hv ha).fl1 ?_
    simp only [V.flat] at hf
    exact List.all_of_all hf hv
  | agg vs as hl h => exact (VR.agg vs as hl h).fl1 hf
  | any => exact .any _
  | t h => exact .t (h.flat hf)
  | ref id off len cap l hl hre h1 h2 h3 => exact .ref id off len cap l hl hre h1 h2 h3
  | ref0 id off a l hl h0 => exact .ref0 id off a l hl h0
  | _ => simp [V.flat, V.fl1, V.fl0] at hf

theorem ELs.flat {w' : World} {F' : Nat → Prop} {cs : Array Value} {o sz : Nat} {xs : List T} (h : ELs w F cs o sz xs) (hf : xs.all T.flat = true) : ELs w' F' cs o sz xs := by
  refine ⟨h.size, h.el, fun i x hx j y hy => (h.rd i x hx j y hy).flat ?_⟩
  have hx' := List.all_of_all hf hx
  have hel := h.el i x hx
  cases x with
  | agg cs =>
    simp only [T.cells] at hy
    simp only [T.flat] at hx'
    have := List.all_of_all hx' hy
    cases y <;> first | rfl | (simp [T.sc] at this)
  | _ =>
    all_goals
      simp only [T.cells] at hy
      cases j with
      | zero => simp at hy; subst hy; exact hx'
      | succ j => simp at hy

theorem BR.flat {w : World} {F F' : Nat → Prop} {id : Nat} {b : Blk} (h : BR μ w F id b) (hf : b.flat = true) (hF : ∀ m, F' m → F m) : BR μ w F' id b := by
  cases b with
  | dead => trivial
  | pure sz xs => obtain ⟨l, cs, h1, h2, h3, h4, h5, h6, h7, h8⟩ := h; exact ⟨l, cs, h1, h2, fun k => h3 (hF _ k), h4, h5, h6, h7, h8.flat hf⟩
  | box sz vs => obtain ⟨l, cs, h1, h2, h3, h4, h5, h6, h7, h8⟩ := h; exact ⟨l, cs, h1, h2, fun k => h3 (hF _ k), h4, h5, h6, h7, fun i v hv => (h8 i v hv).fl0 (List.all_of_all hf hv)⟩
  | _ => simp [Blk.flat] at hf
def muIn (μ : Nat → Option Loc) (n k : Nat) (μ2 : Nat → Option Loc) : Nat → Option Loc := fun id => if n ≤ id ∧ id < n + k then μ2 (id - n) else μ id

theorem install {μ μ2 : Nat → Option Loc} {D D2 F F' : Nat → Prop} {H H2 : Heap} {w w' : World} {v : V} {x : Value} (h : Rel μ D F H w) (hf : ∀ id, H.length ≤ id → id < H.length + H2.length → μ id = none)
    (hb2 : ∀ id b, D2 id → H2[id]? = some b → BR μ2 w' F' id b) (hinj : ∀ i j li lj bi bj, D2 i → D2 j → H2[i]? = some bi → H2[j]? = some bj → bi.own = true → bj.own = true → μ2 i = some li → μ2 j = some lj → li.m = lj.m → i = j)
    (hlt : ∀ id, D2 id → id < H2.length) (hD2 : ∀ id l, id < H2.length → μ2 id = some l → l.real = true → D2 id) (hD2' : ∀ id, D2 id → ∃ l, μ2 id = some l ∧ l.real = true) (hnon : ∀ id b l, H2[id]? = some b → μ2 id = some l → l.real = false → b.own = true → ∃ sz, b = .pure sz [])
    (hown : ∀ m, OwnS μ2 D2 H2 m → w.heap.size ≤ m) (hFF : ∀ m, F m → F' m) (hFn : ∀ m, F' m → F m ∨ w.heap.size ≤ m) (hFs : ∀ m, F' m → m < w'.heap.size)
    (hsame : ∀ m, m < w.heap.size → w'.heap[m]? = w.heap[m]?) (hs : w.heap.size ≤ w'.heap.size) (os : w'.os = w.os) (tp : w'.tape = w.tape) (out : w'.output = w.output) (hv : VR μ2 w' F' v x) (hvl : ∀ id l, μ2 id = some l → id < H2.length) :
    Leaves μ D F H w (v.ren fun i => some (H.length + i)) (H ++ H2.map (Blk.ren fun i => some (H.length + i))) x w' := by
  let μ' := muIn μ H.length H2.length μ2
  have hold : ∀ id, id < H.length ∨ H.length + H2.length ≤ id → μ' id = μ id := fun id hid => by show (if _ then _ else _) = _; rw [if_neg (by omega)]
  have hnew : ∀ id, id < H2.length → μ' (H.length + id) = μ2 id := fun id hid => by show (if _ then _ else _) = _; rw [if_pos (by omega), Nat.add_sub_cancel_left]
  have hmo : ∀ id l, μ id = some l → μ' id = some l := fun id l hl => by
    by_cases hid : H.length ≤ id ∧ id < H.length + H2.length
    · rw [hf id hid.1 hid.2] at hl; cases hl
    · rw [hold id (by omega)]; exact hl
  have hren : ∀ id j l, (fun i => some (H.length + i)) id = some j → μ2 id = some l → μ' j = some l := fun id j l hj hl => by
    cases hj; rw [hnew id (hvl id l hl)]; exact hl
  have hp : Pres F w w' := fun m hm => hsame m (h.frz m hm)
  have hget : ∀ (j : Nat) b, (H ++ H2.map (Blk.ren fun i => some (H.length + i)))[j]? = some b → (j < H.length ∧ H[j]? = some b) ∨ ∃ id b0, j = H.length + id ∧ H2[id]? = some b0 ∧ b = b0.ren fun i => some (H.length + i) := fun j b hb => by
    rw [List.getElem?_append] at hb
    split at hb
    · rename_i hj; exact .inl ⟨hj, hb⟩
    · rename_i hj
      rw [List.getElem?_map] at hb
      cases hc : H2[j - H.length]? with
      | none => simp [hc] at hb
      | some b0 => simp [hc] at hb; exact .inr ⟨j - H.length, b0, by omega, hc, hb.symm⟩
  let D' : Nat → Prop := fun id => D id ∨ ∃ k, id = H.length + k ∧ D2 k
  have hDo : ∀ {j}, j < H.length → D' j → D j := fun hj a => a.elim (fun a => a) fun ⟨k, e, _⟩ => by omega
  have hDn : ∀ {k : Nat}, D' (H.length + k) → D2 k := by
    rintro k (a | ⟨k', e, d⟩)
    · exact absurd (h.lt _ a) (by omega)
    · obtain rfl : k' = k := by omega
      exact d
  refine ⟨μ', D', F', ⟨fun id hid => ?_, hmo, by simp, fun id => ?_, hFF, fun m hm => (hFn m hm).elim .inl fun a => .inr (.inl a), ⟨?_, ?_, hFs, ?_, ?_⟩, fun m hm _ => hsame m hm, ?_, hs, os, tp, out⟩, hv.ren hren⟩
  · exact hold id (by simpa using hid)
  · simp only [List.length_append, List.length_map]
    constructor
    · rintro (a | ⟨k, rfl, d⟩)
      · exact .inl a
      · obtain ⟨l, hl, hre⟩ := hD2' k d
        exact .inr ⟨by omega, by have := hlt k d; omega, l, by rw [hnew k (hlt k d)]; exact hl, hre⟩
    · rintro (a | ⟨a, b, l, hl, hre⟩)
      · exact .inl a
      · obtain ⟨k, rfl⟩ : ∃ k, id = H.length + k := ⟨id - H.length, by omega⟩
        rw [hnew k (by omega)] at hl
        exact .inr ⟨k, rfl, hD2 k l (by omega) hl hre⟩
  · intro j b hj hb
    rcases hget j b hb with ⟨hlt', hb⟩ | ⟨id, b0, rfl, hb0, rfl⟩
    · refine (h.blk j b (hDo hlt' hj) hb).mono hmo hp hFF fun l hl ho => ?_
      have hm := h.own_notF ⟨j, b, l, hDo hlt' hj, hb, ho, hl, rfl⟩
      exact ⟨hsame _ hm.1, fun k => (hFn _ k).elim hm.2 fun a => absurd hm.1 (by omega)⟩
    · exact (hb2 id b0 (hDn hj) hb0).ren hren fun l hl => by rw [hnew id (hvl id l hl)]; exact hl
  · intro i j li lj bi bj hi hj hbi hbj hoi hoj hli hlj e
    rcases hget i bi hbi with ⟨hi', hbi⟩ | ⟨id, b0, rfl, hb0, rfl⟩ <;> rcases hget j bj hbj with ⟨hj', hbj⟩ | ⟨jd, c0, rfl, hc0, rfl⟩
    · rw [hold i (.inl hi')] at hli
      rw [hold j (.inl hj')] at hlj
      exact h.inj i j li lj bi bj (hDo hi' hi) (hDo hj' hj) hbi hbj hoi hoj hli hlj e
    · rw [ren_own] at hoj
      rw [hold i (.inl hi')] at hli
      rw [hnew jd (hlt jd (hDn hj))] at hlj
      have h1 := (h.own_notF ⟨i, bi, li, hDo hi' hi, hbi, hoi, hli, rfl⟩).1
      have h2 := hown _ ⟨jd, c0, lj, hDn hj, hc0, hoj, hlj, rfl⟩
      omega
    · rw [ren_own] at hoi
      rw [hold j (.inl hj')] at hlj
      rw [hnew id (hlt id (hDn hi))] at hli
      have h1 := (h.own_notF ⟨j, bj, lj, hDo hj' hj, hbj, hoj, hlj, rfl⟩).1
      have h2 := hown _ ⟨id, b0, li, hDn hi, hb0, hoi, hli, rfl⟩
      omega
    · rw [ren_own] at hoi hoj
      rw [hnew id (hlt id (hDn hi))] at hli
      rw [hnew jd (hlt jd (hDn hj))] at hlj
      rw [hinj id jd li lj b0 c0 (hDn hi) (hDn hj) hb0 hc0 hoi hoj hli hlj e]
  · intro j hj
    simp only [List.length_append, List.length_map]
    rcases hj with a | ⟨k, rfl, d⟩
    · have := h.lt j a; omega
    · have := hlt k d; omega
  · intro j b l hb hl hre ho
    rcases hget j b hb with ⟨hj', hb⟩ | ⟨id, b0, rfl, hb0, rfl⟩
    · rw [hold j (.inl hj')] at hl
      exact h.non j b l hb hl hre ho
    · rw [ren_own] at ho
      rw [hnew id (List.getElem?_eq_some_iff.1 hb0).1] at hl
      obtain ⟨sz, rfl⟩ := hnon id b0 l hb0 hl hre ho
      exact ⟨sz, rfl⟩
  · rintro m ⟨j, b, l, hj, hb, ho, hl, rfl⟩
    rcases hget j b hb with ⟨hj', hb⟩ | ⟨id, b0, rfl, hb0, rfl⟩
    · rw [hold j (.inl hj')] at hl
      exact .inr ⟨j, b, l, hDo hj' hj, hb, ho, hl, rfl⟩
    · rw [ren_own] at ho
      rw [hnew id (hlt id (hDn hj))] at hl
      exact .inl (hown _ ⟨id, b0, l, hDn hj, hb0, ho, hl, rfl⟩)

end
end Go.Proofs.Ytanlmanifpknoaa.Ev
namespace Go.Proofs.Ytanlmanifpknoaa.Ev
open Go Go.RowKit
set_option linter.unusedVariables false
set_option linter.unusedSimpArgs false

section
variable {P : Program} {μ : Nat → Option Loc} {D F : Nat → Prop} {H : Heap} {w : World}

def mu0 : Nat → Option Loc := fun _ => none
def d0 : Nat → Prop := fun _ => False

theorem Rel.nil (F : Nat → Prop) (hF : ∀ m, F m → m < w.heap.size) : Rel mu0 d0 F [] w :=
  ⟨fun _ _ h => h.elim, fun _ _ _ _ _ _ h => h.elim, hF, fun _ h => h.elim, fun _ _ _ h => by simp at h⟩
structure Back (w : World) (F1 : Nat → Prop) (v : V) (H2 : Heap) (x : Value) (w' : World) (μ2 : Nat → Option Loc) (D2 F2 : Nat → Prop) : Prop where
  rel : Rel μ2 D2 F2 H2 w'
  hD2 : ∀ id l, id < H2.length → μ2 id = some l → l.real = true → D2 id
  hD2' : ∀ id, D2 id → ∃ l, μ2 id = some l ∧ l.real = true
  hvl : ∀ id l, μ2 id = some l → id < H2.length
  own : ∀ m, OwnS μ2 D2 H2 m → w.heap.size ≤ m
  old : ∀ m, F1 m → F2 m
  new : ∀ m, F2 m → F1 m ∨ w.heap.size ≤ m
  same : ∀ m, m < w.heap.size → w'.heap[m]? = w.heap[m]?
  size : w.heap.size ≤ w'.heap.size
  os : w'.os = w.os
  tape : w'.tape = w.tape
  output : w'.output = w.output
  val : VR μ2 w' F2 v x

theorem back_ok {F1 : Nat → Prop} {v : V} {H1 : Heap} {x : Value} {w' : World} (h : Leaves mu0 d0 F1 [] w v H1 x w') : ∃ μ2 D2 F2, Back w F1 (gcV v H1).1 (gcV v H1).2 x w' μ2 D2 F2 := by
  obtain ⟨μ1, D1, F2, hp, hv⟩ := h
  have hnd := gcIds_nodup H1 [v]
  have hrel := hp.rel.gc hnd
  have hno : ∀ m, ¬ OwnS mu0 d0 [] m := fun m ⟨id, b, l, hd, _⟩ => hd.elim
  have hlt1 : ∀ id l, μ1 id = some l → id < H1.length := fun id l hl => by
    rcases Nat.lt_or_ge id H1.length with h | h
    · exact h
    · rw [hp.mu id (.inr h)] at hl; cases hl
  refine ⟨muGC μ1 (gcIds H1 [v]), dGC D1 H1 (gcIds H1 [v]), F2, hrel, fun id l hid hl hre => ?_, fun id ⟨k, hk, hd⟩ => ?_, fun id l hl => ?_, fun m hm => (hp.own m hm.gc).elim (fun a => a) fun a => absurd a (hno m), hp.old, fun m hm => (hp.new m hm).elim .inl fun a => a.elim .inr fun a => absurd a (hno m),
    fun m hm => hp.frame m hm (hno m), hp.size, hp.os, hp.tape, hp.output, hv.ren muGC_ren⟩
  · unfold muGC at hl
    cases hk : (gcIds H1 [v])[id]? with
    | none => simp [hk] at hl
    | some k =>
      simp [hk] at hl
      exact ⟨k, hk, (hp.dom k).2 (.inr ⟨Nat.zero_le _, hlt1 k l hl, l, hl, hre⟩)⟩
  · rcases (hp.dom k).1 hd with a | ⟨_, _, l, hl, hre⟩
    · exact a.elim
    · exact ⟨l, by unfold muGC; rw [hk]; exact hl, hre⟩
  · unfold muGC at hl
    show id < (pickB H1 (gcIds H1 [v]) (gcIds H1 [v])).length
    rw [pickB_length]
    cases hk : (gcIds H1 [v])[id]? with
    | none => simp [hk] at hl
    | some k => exact (List.getElem?_eq_some_iff.1 hk).1

theorem rdArgs_ok (h : Rel μ D F H w) (hD : ∀ id l, id < H.length → μ id = some l → l.real = true → D id) : ∀ (args us : List V) (L : List (Nat × Blk)) (as : List Value), callM.rdArgs H args = some (us, L) → VRs μ w F args as →
    ∀ F' : Nat → Prop, (∀ m, F m → F' m) → (∀ p ∈ L, ∀ l, μ p.1 = some l → l.real = true → F' l.m) → VRs μ w F' us as ∧ LOk μ D H w F' L
  | [], us, L, as, he, hv, F', hF, hL => by
    simp only [callM.rdArgs] at he; cases he
    have := hv.1
    simp at this; subst this
    exact ⟨.nil, .nil⟩
  | v :: vs, us, L, as, he, hv, F', hF, hL => by
    obtain ⟨a, bs, rfl, ha, hbs⟩ := hv.head
    unfold callM.rdArgs at he
    split at he
    · cases he
    · rename_i u l hu
      split at he
      · cases he
      · rename_i us' l' hus
        cases he
        obtain ⟨k1, k2⟩ := rdArgs_ok h hD vs us' l' bs hus hbs F' hF fun p hp => hL p (List.mem_append.2 (.inr hp))
        have hp : Pres F w w := .refl _ _
        have keyT : (match rd H depth v with | some (t, l) => some (V.t t, l) | none => none) = some (u, l) → VR μ w F' u a ∧ LOk μ D H w F' l := fun hr => by
          split at hr
          · rename_i t l2 hrd
            cases hr
            obtain ⟨q1, q2⟩ := rd_ok h hD depth v t l a hrd ha F' hF fun p hp => hL p (List.mem_append.2 (.inl hp))
            exact ⟨.t q1, q2⟩
          · cases hr
        have key : VR μ w F' u a ∧ LOk μ D H w F' l := by
          split at hu
          · exact keyT hu
          · exact keyT hu
          · exact keyT hu
          · cases hu; exact ⟨ha.mono (fun _ _ h => h) hp hF, .nil⟩
        exact ⟨.cons key.1 k1, key.2.append k2⟩

theorem callM_ok {m : Mode} {f : FuncId} {g : List V → Heap → Option (V × Heap)} {args : List V} {as : List Value} {v : V} {H' : Heap} (hg : ∀ args H v H', g args H = some (v, H') → Sound P f args H v H') (he : callM m g args H = some (v, H')) (h : Rel μ D F H w)
    (hD : ∀ id l, id < H.length → μ id = some l → l.real = true → D id) (hf : ∀ id, H.length ≤ id → id < H'.length → μ id = none) (hm : m = .own ∨ ∀ id, H.length ≤ id → μ id = none) (hdD : ∀ id, D id → ∃ l, μ id = some l ∧ l.real = true) (hv : VRs μ w F args as) :
    Calls P f as.toArray w fun e w' => ∃ x, e = .returned x ∧ Leaves μ D F H w v H' x w' := by
  unfold callM at he
  split at he
  · -- refM
    have hfr : ∀ id, H.length ≤ id → μ id = none := hm.resolve_left (by simp)
    exact hg args H v H' he μ D F w as h hD hdD hfr hv
  · -- ref
    have hfr : ∀ id, H.length ≤ id → μ id = none := hm.resolve_left (by simp)
    split at he
    · cases he
    · rename_i us L hus
      obtain ⟨k1, k2⟩ := rdArgs_ok h hD args us L as hus hv (LF μ F L) (fun m hm => .inl hm) fun p hp l hl hre => .inr ⟨p, hp, l, hl, hre, rfl⟩
      have hpost := Post.freeze h hD k2
      have hlen : (frz H L).length = H.length := frz_length L H
      refine (hg us (frz H L) v H' he μ D (LF μ F L) w as hpost.rel (by rw [hlen]; exact hD) hdD (by rw [hlen]; exact hfr) k1).mono fun e w' ⟨x, hx, hl⟩ => ⟨x, hx, Leaves.after hpost hl⟩
  · -- own
    split at he
    · cases he
    · rename_i ts L hrd
      split at he
      · cases he
      · rename_i v1 H1 hrun
        split at he
        · rename_i hflat
          cases he
          obtain ⟨hts, hLo⟩ := rdL_ok (rd_ok h hD depth) args ts L as hrd hv (LF μ F L) (fun m hm => .inl hm) fun p hp l hl hre => .inr ⟨p, hp, l, hl, hre, rfl⟩
          have hfz := (Post.freeze h hD hLo).rel.frz
          refine (hg (ts.map .t) [] v1 H1 hrun mu0 d0 (LF μ F L) w as (Rel.nil _ hfz) (fun _ _ hh => by simp at hh) (fun _ hh => hh.elim) (fun _ _ => rfl) (VRs.ofTRs hts)).mono fun e w' ⟨x, hx, hl⟩ => ⟨x, hx, ?_⟩
          obtain ⟨μ2, D2, F2, hb⟩ := back_ok hl
          simp only [Bool.and_eq_true] at hflat
          have hFF2 : ∀ m, F m → F2 m := fun m hm => hb.old m (.inl hm)
          exact install h (fun id h1 h2 => hf id h1 (by simpa using h2)) (fun id b hd hbb => (hb.rel.blk id b hd hbb).flat (List.all_of_all hflat.2 hbb) hFF2) hb.rel.inj hb.rel.lt hb.hD2 hb.hD2' hb.rel.non hb.own (fun _ h => h) (fun _ h => .inl h)
            (fun m hm => Nat.lt_of_lt_of_le (h.frz m hm) hb.size) hb.same hb.size hb.os hb.tape hb.output (hb.val.flat hflat.1) hb.hvl
        · cases he
  · -- ownF
    split at he
    · cases he
    · rename_i ts L hrd
      split at he
      · cases he
      · rename_i v1 H1 hrun
        cases he
        obtain ⟨hts, hLo⟩ := rdL_ok (rd_ok h hD depth) args ts L as hrd hv (LF μ F L) (fun m hm => .inl hm) fun p hp l hl hre => .inr ⟨p, hp, l, hl, hre, rfl⟩
        have hpost := Post.freeze h hD hLo
        have hlen : (frz H L).length = H.length := frz_length L H
        refine (hg (ts.map .t) [] v1 H1 hrun mu0 d0 (LF μ F L) w as (Rel.nil _ hpost.rel.frz) (fun _ _ hh => by simp at hh) (fun _ hh => hh.elim) (fun _ _ => rfl) (VRs.ofTRs hts)).mono fun e w' ⟨x, hx, hl⟩ => ⟨x, hx, ?_⟩
        obtain ⟨μ2, D2, F2, hb⟩ := back_ok hl
        have := install hpost.rel (fun id h1 h2 => hf id (by rwa [hlen] at h1) (by rw [hlen] at h2; simp [hlen]; exact h2)) (fun id b hd hbb => hb.rel.blk id b hd hbb) hb.rel.inj hb.rel.lt hb.hD2 hb.hD2' hb.rel.non hb.own hb.old hb.new hb.rel.frz hb.same hb.size hb.os hb.tape hb.output hb.val hb.hvl
        rw [hlen] at this
        exact Leaves.after hpost this

theorem evCall_ok {E : Env} {rec : Rec} {f : FuncId} {args : List V} {as : List Value} {v : V} {H' : Heap} (hrec : RecOk P rec) (hprim : PrimOk P E) (he : evCall E rec f args H = some (v, H')) (h : Rel μ D F H w)
    (hD : ∀ id l, id < H.length → μ id = some l → l.real = true → D id) (hf : ∀ id, H.length ≤ id → id < H'.length → μ id = none) (hm : (∃ G, E f = some G ∧ G.mode = .own) ∨ ∀ id, H.length ≤ id → μ id = none) (hdD : ∀ id, D id → ∃ l, μ id = some l ∧ l.real = true) (hv : VRs μ w F args as) :
    Calls P f as.toArray w fun e w' => ∃ x, e = .returned x ∧ Leaves μ D F H w v H' x w' := by
  unfold evCall at he
  split at he
  · cases he
  · rename_i m s hs
    exact callM_ok (hprim f m s hs) he h hD hf (hm.imp (fun ⟨G, hG, hmo⟩ => by rw [hs] at hG; cases hG; exact hmo) id) hdD hv
  · rename_i G hG
    exact callM_ok (hrec f) he h hD hf (hm.imp (fun ⟨G', hG', hmo⟩ => by rw [hG] at hG'; cases hG'; exact hmo) id) hdD hv
theorem op_call {mix : Mx} {E : Env} {rec : Rec} {o : Oper} {op : O} {n : Nat} {fr : Fr} {a : Act} {v : V} {H' : Heap} (hrec : RecOk P rec) (hprim : PrimOk P E) (hbody : ∀ f F', E f = some F' → ∃ fn, P.funcs[f]? = some fn ∧ fn.body.isSome = true ∧ (fn.name == "runtime.NumGoroutine") = false)
    (hc : compO P mix o = some op) (hcall : op.isCall = true) (he : evO E rec fr H op = some (v, H')) (h : Rel μ D F H w) (hD : ∀ id l, id < H.length → μ id = some l → l.real = true → D id) (hf : ∀ id, H.length ≤ id → id < H'.length → μ id = none)
    (hm : cls E fr H op = .q ∨ ∀ id, H.length ≤ id → μ id = none) (hdD : ∀ id, D id → ∃ l, μ id = some l ∧ l.real = true) (hfr : FR μ w F n fr a) : Does P o a w (Leaves μ D F H w v H') := by
  have henter : ∀ (f : FuncId) (args : Array Value), (∃ F', E f = some F') → (callFunc f args).run P w = .ok (.enter f args) w := fun f args ⟨F', hF'⟩ => by
    obtain ⟨fn, h1, h2, h3⟩ := hbody f F' hF'
    unfold callFunc
    have hb : fn.body.isNone = false := by cases hbd : fn.body <;> simp_all
    simp only [Sem.run_bind, run_program, Result.andThen_ok, h1, h3, hb, Bool.false_eq_true, if_false, Sem.run_pure]
  have hEf : ∀ {f args}, evCall E rec f args H = some (v, H') → ∃ F', E f = some F' := fun {f args} hev => by
    unfold evCall at hev
    cases hE : E f with
    | none => simp [hE] at hev
    | some F' => exact ⟨F', rfl⟩
  unfold compO at hc
  generalize hop : o.op = oo at hc
  cases oo with
  | call c =>
    obtain ⟨callee, args, argTypes⟩ := c
    simp only at hc
    cases callee with
    | invoke r m => cases hc
    | builtin b =>
      exfalso
      cases b <;> simp only at hc <;> (try (cases hc; done)) <;> (repeat' (split at hc)) <;> first
        | (cases hc; done)
        | (cases hc; simp [O.isCall] at hcall; done)
        | (obtain ⟨_, _, rfl⟩ := Option.map_eq_some_iff.1 hc; simp [O.isCall] at hcall; done)
    | value f =>
      have viaV : ∀ (x : Operand) (x' : A) (as : List A), f = x → opd x = some x' → opds args.toList = some as → op = .callv x' as → Does P o a w (Leaves μ D F H w v H') := by
        intro x x' as e1 hx has e2
        subst e1 e2
        have hva := opds_VRs hfr has
        have hvf := opd_VR hfr hx
        have hfr' : ∀ id, H.length ≤ id → μ id = none := hm.resolve_left (by simp [cls])
        have hres : ∀ (g : FuncId) (fi ca : List Value), a.eval f = .func (.func g) fi.toArray ca.toArray → ∀ us, evCall E rec g us H = some (v, H') → VRs μ w F us (fi ++ args.toList.map a.eval ++ ca) → Does P o a w (Leaves μ D F H w v H') := by
          intro g fi ca hfe us hev hus
          have hcalls := evCall_ok hrec hprim hev h hD hf (.inr hfr') hdD hus
          refine Does.enter (f := g) (args := (fi ++ args.toList.map a.eval ++ ca).toArray) (w' := w) ?_ hcalls
          have harr : (fi.toArray ++ args.map a.eval) ++ ca.toArray = (fi ++ args.toList.map a.eval ++ ca).toArray := by
            apply Array.toList_inj.1; simp
          simp only [execOp, hop, resolve, hfe, Deferred.ofValue, Sem.run_bind, Sem.run_pure, Result.andThen_ok, invoke, harr]
          exact henter g _ (hEf hev)
        simp only [evO] at he
        split at he
        · rename_i g fi ca hcl
          rw [hcl] at hvf
          generalize hfe : a.eval f = fv at hvf
          cases hvf with
          | clo g xs ys as' bs' hx' hy' hh hh' =>
            exact hres g as' bs' hfe _ he (VRs.app (VRs.app ⟨hx', hh⟩ hva) ⟨hy', hh'⟩)
        · rename_i g fi ca hcl
          rw [hcl] at hvf
          generalize hfe : a.eval f = fv at hvf
          cases hvf.tT with
          | clo g xs ys as' bs' hx' hy' hh hh' =>
            exact hres g as' bs' hfe _ he (VRs.app (VRs.app (VRs.ofT hx' hh) hva) (VRs.ofT hy' hh'))
        · cases he
      cases f with
      | func f =>
        simp only at hc
        split at hc
        · rename_i fn as hfn has
          split at hc
          · cases hc
          · cases hc
            simp only [evO] at he
            have hva := opds_VRs hfr has
            have hmode : (∃ G, E f = some G ∧ G.mode = .own) ∨ ∀ id, H.length ≤ id → μ id = none := by
              rcases hm with hq | hm
              · left
                simp only [cls] at hq
                split at hq
                · rename_i G hG
                  split at hq
                  · rename_i hmo; exact ⟨G, hG, hmo⟩
                  · cases hq
                · cases hq
              · exact .inr hm
            have hcalls := evCall_ok hrec hprim he h hD hf hmode hdD hva
            refine Does.enter (f := f) (args := (args.toList.map a.eval).toArray) (w' := w) ?_ hcalls
            have harr : #[] ++ args.map a.eval ++ #[] = (args.toList.map a.eval).toArray := by
              apply Array.toList_inj.1; simp
            simp only [execOp, hop, resolve, Act.eval, Deferred.ofValue, Sem.run_bind, Sem.run_pure, Result.andThen_ok, invoke]
            rw [harr]
            exact henter f _ (hEf he)
        · cases hc
      | _ =>
        simp only at hc
        split at hc
        · rename_i x' as hx has
          cases hc
          exact viaV _ x' as rfl hx has rfl
        · cases hc
  | makeFunc fn x y =>
    cases fn with
    | func f =>
      simp only at hc
      split at hc <;> first | (cases hc; simp [O.isCall] at hcall; done) | cases hc
    | _ => cases hc
  | slice t x lo hi mx =>
    cases mx with
    | some m => cases hc
    | none =>
      simp only at hc
      repeat' (split at hc)
      all_goals first | (cases hc; done) | (cases hc; simp [O.isCall] at hcall; done)
  | makeMap t r =>
    cases r with
    | some r => cases hc
    | none => cases hc; simp [O.isCall] at hcall
  | move | assign | box | nilCheck | unOp | extract =>
    simp only [Option.map_eq_some_iff] at hc
    obtain ⟨_, _, rfl⟩ := hc
    simp [O.isCall] at hcall
  | pick | load | binOp | convert | fieldAddr | field | index | lookup | alloc | build | buildSlice | store | makeSlice | indexAddr | mapUpdate =>
    simp only at hc
    repeat' (split at hc)
    all_goals first | (cases hc; done) | (cases hc; simp [O.isCall] at hcall; done) | (obtain ⟨_, _, rfl⟩ := Option.map_eq_some_iff.1 hc; simp [O.isCall] at hcall; done)
  | _ => cases hc

end
end Go.Proofs.Ytanlmanifpknoaa.Ev
namespace Go.Proofs.Ytanlmanifpknoaa.Ev
open Go Go.RowKit
set_option linter.unusedVariables false
set_option linter.unusedSimpArgs false
structure EnvOk (P : Program) (E : Env) : Prop where
  body : ∀ f F', E f = some F' → ∃ fn, P.funcs[f]? = some fn ∧ fn.body.isSome = true ∧ (fn.name == "runtime.NumGoroutine") = false
  prim : PrimOk P E
  ir : ∀ f G, E f = some (.ir G) → ∃ fn mix, P.funcs[f]? = some fn ∧ compF P G.mode mix fn = some G

abbrev Ctx := (Nat → Option Loc) → (Nat → Prop) → (Nat → Prop) → Heap → World → Prop

structure CtxOk (K : Ctx) (gc : Bool) : Prop where
  post : ∀ μ D F H w μ' D' F' H' w', K μ D F H w → Rel μ D F H w → Post μ D F H w μ' D' F' H' w' → K μ' D' F' H' w'
  gc : gc = true → ∀ μ D F H w ids, ids.Nodup → K μ D F H w → K (muGC μ ids) (dGC D H ids) F (pickB H ids ids) w
structure Mem (K : Ctx) (μ : Nat → Option Loc) (D F : Nat → Prop) (H : Heap) (w : World) : Prop where
  ctx : K μ D F H w
  rel : Rel μ D F H w
  hD : ∀ id l, id < H.length → μ id = some l → l.real = true → D id
  dD : ∀ id, D id → ∃ l, μ id = some l ∧ l.real = true
  fresh : ∀ id, H.length ≤ id → μ id = none

def Sta (K : Ctx) (n : Nat) (fr : Fr) (H : Heap) (a : Act) (w : World) : Prop := ∃ μ D F, Mem K μ D F H w ∧ FR μ w F n fr a

section
variable {P : Program} {E : Env} {rec : Rec} {K : Ctx} {gc : Bool} {mix : Mx} {n : Nat}

theorem Mem.post {μ μ' : Nat → Option Loc} {D D' F F' : Nat → Prop} {H H' : Heap} {w w' : World} (hK : CtxOk K gc) (h : Mem K μ D F H w) (p : Post μ D F H w μ' D' F' H' w') : Mem K μ' D' F' H' w' := by
  refine ⟨hK.post _ _ _ _ _ _ _ _ _ _ h.ctx h.rel p, p.rel, fun id l hid hl hre => ?_, fun id hid => ?_, fun id hid => ?_⟩
  · rw [p.dom]
    rcases Nat.lt_or_ge id H.length with a | a
    · rw [p.mu id (.inl a)] at hl; exact .inl (h.hD id l a hl hre)
    · exact .inr ⟨a, hid, l, hl, hre⟩
  · rcases (p.dom id).1 hid with a | ⟨_, _, l, hl, hre⟩
    · obtain ⟨l, hl, hre⟩ := h.dD id a
      exact ⟨l, p.mono id l hl, hre⟩
    · exact ⟨l, hl, hre⟩
  · rw [p.mu id (.inr hid)]; exact h.fresh id (Nat.le_trans p.len hid)

theorem op_any (hE : EnvOk P E) (hrec : RecOk P rec) {o : Oper} {op : O} {fr : Fr} {a : Act} {v : V} {μ : Nat → Option Loc} {D F : Nat → Prop} {H H' : Heap} {w : World} (hc : compO P mix o = some op) (he : evO E rec fr H op = some (v, H')) (h : Mem K μ D F H w) (hfr : FR μ w F n fr a) :
    Does P o a w (Leaves μ D F H w v H') := by
  cases hst : op.still with
  | true =>
    obtain ⟨e, hd⟩ := op_still hc hst he h.rel.blk hfr fun id l _ hl hre => by
      rcases Nat.lt_or_ge id H.length with a | a
      · exact h.hD id l a hl hre
      · rw [h.fresh id a] at hl; cases hl
    subst e
    exact hd.mono fun x w' ⟨e, hv⟩ => by subst e; exact ⟨_, _, _, Post.refl h.rel, hv⟩
  | false =>
    cases hcall : op.isCall with
    | true => exact op_call hrec hE.prim hE.body hc hcall he h.rel h.hD (fun id hid _ => h.fresh id hid) (.inr h.fresh) h.dD hfr
    | false => exact op_heap hc hst hcall he h.rel h.hD (h.fresh _ (Nat.le_refl _)) hfr

theorem wanted_ok {ops : Array Oper} {o : Oper} {fr : Fr} {a : Act} {μ : Nat → Option Loc} {F : Nat → Prop} {w : World} {g : Option (Nat × Bool)} {b : Bool} {i : I} (hg : guardOf ops o = some g) (hi : i.grd = g) (hw : wantedI fr i = some b) (hfr : FR μ w F n fr a) :
    Region.wanted o (yielded ops a.tmps) = b := by
  unfold guardOf at hg
  unfold wantedI at hw
  rw [hi] at hw
  unfold Region.wanted
  cases ho : o.guard with
  | none =>
    simp only [ho] at hg ⊢
    cases hg
    simp only at hw
    cases hw; rfl
  | some p =>
    obtain ⟨j, want⟩ := p
    simp only [ho] at hg ⊢
    cases hd : (ops[j]?).bind (·.dst) with
    | none => simp [hd] at hg
    | some s =>
      simp only [hd] at hg
      cases hg
      simp only at hw
      split at hw
      · rename_i c hc
        cases hw
        have hv := hfr.slot s
        rw [hc] at hv
        have hv := hv.boolv
        have hs : a.tmps[s]? = some (.bool c) := by
          rw [Array.getD_eq_getD_getElem?] at hv
          cases ht : a.tmps[s]? with
          | none => rw [ht] at hv; simp [undef] at hv
          | some x => rw [ht] at hv; simpa using hv
        have : yielded ops a.tmps j = some c := by
          unfold yielded
          rw [hd]
          simp only [Option.bind_some, hs]
        rw [this]
        cases c <;> cases want <;> rfl
      · rename_i vs hc
        cases hw
        have hv := hfr.slot s
        rw [hc] at hv
        obtain ⟨as, has⟩ : ∃ as, a.tmps.getD s undef = .tuple as := by
          generalize a.tmps.getD s undef = x at hv
          cases hv with
          | tup vs as _ _ => exact ⟨_, rfl⟩
        have : yielded ops a.tmps j = none := by
          unfold yielded
          rw [hd]
          simp only [Option.bind_some]
          rw [Array.getD_eq_getD_getElem?] at has
          cases ht : a.tmps[s]? with
          | none => rfl
          | some x => rw [ht] at has; simp only [Option.getD_some] at has; rw [has]
        rw [this]
        cases want <;> rfl
      · cases hw

theorem VR.undef {μ : Nat → Option Loc} {F : Nat → Prop} {w : World} : VR μ w F (.tup []) Go.undef := .tup [] [] rfl fun i v a h => by simp at h
theorem step_ok (hE : EnvOk P E) (hrec : RecOk P rec) (hK : CtxOk K gc) {ops : Array Oper} {o : Oper} {fr fr' : Fr} {a : Act} {H H' : Heap} {w : World} (he : evI E rec (fr, H) (compI P mix ops o) = some (fr', H')) (hlt : ∀ d, o.dst = some d → d < n) (h : Sta K n fr H a w)
    (next : Act → World → Prop) (Q : Exit → Act → World → Prop) (hn : ∀ a' w', Sta K n fr' H' a' w' → next a' w') : if Region.wanted o (yielded ops a.tmps) then o.wp P a w next Q else next (a.put o.dst undef) w := by
  obtain ⟨μ, D, F, hm, hfr⟩ := h
  unfold compI at he
  split at he
  · rename_i g op hg hop
    unfold evI at he
    split at he
    · cases he
    · rename_i hw
      cases he
      rw [wanted_ok hg rfl hw hfr]
      simp only [Bool.false_eq_true, if_false]
      exact hn _ _ ⟨μ, D, F, hm, hfr.put o.dst hlt .undef⟩
    · rename_i hw
      rw [wanted_ok hg rfl hw hfr]
      simp only [if_true]
      split at he
      · cases he
      · rename_i v H2 hev
        cases he
        refine op_any hE hrec hop hev hm hfr next Q fun x w' hl => ?_
        obtain ⟨μ', D', F', hp, hv⟩ := hl
        exact hn _ _ ⟨μ', D', F', hm.post hK hp, (hfr.mono hp.mono (hp.pres hm.rel) hp.old).put o.dst hlt hv⟩
  · rename_i g hg hop
    unfold evI at he
    split at he
    · cases he
    · rename_i hw
      cases he
      rw [wanted_ok hg rfl hw hfr]
      simp only [Bool.false_eq_true, if_false]
      exact hn _ _ ⟨μ, D, F, hm, hfr.put o.dst hlt .undef⟩
    · rename_i hw
      simp [evO] at he
  · unfold evI at he
    simp [wantedI, evO] at he

theorem reg_ok (hE : EnvOk P E) (hrec : RecOk P rec) (hK : CtxOk K gc) {ops : Array Oper} {Q : Exit → Act → World → Prop} : ∀ (l : List Nat) (os : List Oper) (fr fr' : Fr) (H H' : Heap) (a : Act) (w : World), l.length = os.length → (∀ (j i : Nat) o, l[j]? = some i → os[j]? = some o → ops[i]? = some o) →
    (∀ o ∈ os, ∀ d, o.dst = some d → d < n) → evIs E rec (os.map (compI P mix ops)) (fr, H) = some (fr', H') → Sta K n fr H a w → (∀ a' w', Sta K n fr' H' a' w' → Q .normal a' w') → wpOps P ops Q l a w
  | [], [], fr, fr', H, H', a, w, _, _, _, he, hs, hQ => by
    simp only [List.map_nil, evIs] at he; cases he
    exact hQ a w hs
  | [], _ :: _, _, _, _, _, _, _, hl, _, _, _, _, _ => by simp at hl
  | _ :: _, [], _, _, _, _, _, _, hl, _, _, _, _, _ => by simp at hl
  | i :: l, o :: os, fr, fr', H, H', a, w, hl, hi, hlt, he, hs, hQ => by
    have hoi := hi 0 i o rfl rfl
    simp only [List.map_cons, evIs] at he
    split at he
    · cases he
    · rename_i s hs1
      obtain ⟨fr1, H1⟩ := s
      simp only [wpOps, hoi]
      have hstep := step_ok hE hrec hK hs1 (hlt o (List.mem_cons_self ..)) hs (wpOps P ops Q l) Q fun a' w' hs' =>
        reg_ok hE hrec hK l os fr1 fr' H1 H' a' w' (by simpa using hl) (fun j i o h1 h2 => hi (j + 1) i o (by simpa using h1) (by simpa using h2)) (fun o ho => hlt o (List.mem_cons_of_mem _ ho)) he hs' hQ
      split
      · rename_i hw; rw [if_pos hw] at hstep; exact .inl hstep
      · rename_i hw; rw [if_neg hw] at hstep; exact hstep

theorem ltN_ok {is : List I} (h : ltN n is = true) {ops : Array Oper} (e : is = ops.toList.map (compI P mix ops)) : ∀ o ∈ ops.toList, ∀ d, o.dst = some d → d < n := fun o ho d hd => by
  unfold ltN at h
  rw [List.all_eq_true] at h
  have := h (compI P mix ops o) (by rw [e]; exact List.mem_map_of_mem ho)
  have hdst : (compI P mix ops o).dst = o.dst := by unfold compI; split <;> rfl
  rw [hdst, hd] at this
  simpa using this

theorem region_ok (hE : EnvOk P E) (hrec : RecOk P rec) (hK : CtxOk K gc) {id : Nat} {ops : Array Oper} {is : List I} {Q : Exit → Act → World → Prop} {fr fr' : Fr} {H H' : Heap} {a : Act} {w : World} (e : is = ops.toList.map (compI P mix ops)) (hlt : ltN n is = true) (he : evIs E rec is (fr, H) = some (fr', H'))
    (hs : Sta K n fr H a w) (hQ : ∀ a' w', Sta K n fr' H' a' w' → Q .normal a' w') : (Code.region id ops false).wp P Q a w := by
  refine wp_region (reg_ok hE hrec hK (List.range ops.size) ops.toList fr fr' H H' a w (by simp) (fun j i o h1 h2 => ?_) (ltN_ok hlt e) (e ▸ he) hs hQ)
  obtain ⟨h3, h4⟩ := List.getElem?_eq_some_iff.1 h1
  simp at h4
  subst h4
  simpa using h2

end
end Go.Proofs.Ytanlmanifpknoaa.Ev
namespace Go.Proofs.Ytanlmanifpknoaa.Ev
open Go Go.RowKit
set_option linter.unusedVariables false
set_option linter.unusedSimpArgs false
inductive CM (P : Program) (mix : Mx) (gc : Bool) (n : Nat) : Code → C → Prop
  | skip : CM P mix gc n .skip .skip
  | reg {id : Nat} {ops : Array Oper} {draw : Bool} (hl : ltN n (ops.toList.map (compI P (mix.at draw) ops)) = true) (hd : draw = true → edgesOk ops = true ∧ slotsOk (Region.before ops).toList (ops.toList.map (compI P (mix.at draw) ops)) = true ∧ P.follows .mixedOrders = true) :
      CM P mix gc n (.region id ops draw) (.reg draw (if draw then (Region.before ops).toList else []) (ops.toList.map (compI P (mix.at draw) ops)))
  | seq {a b : Code} {x y : C} (h : CM P mix gc n a x) (k : CM P mix gc n b y) : CM P mix gc n (.seq a b) (.seq x y)
  | cond {c : Operand} {z : A} {a b : Code} {x y : C} (hc : opd c = some z) (h : CM P mix gc n a x) (k : CM P mix gc n b y) : CM P mix gc n (.cond c a b) (.cond z x y)
  | block {id : Nat} {a : Code} {x : C} (h : CM P mix gc n a x) : CM P mix gc n (.block id a) (.block id x)
  | loop {a : Code} {x : C} (live : List Nat) (h : CM P mix gc n a x) : CM P mix gc n (.loop a) (.loop gc live x)
  | exit (id : Nat) : CM P mix gc n (.exit id) (.exit id)
  | ret : CM P mix gc n .ret .ret
  | bad (a : Code) : CM P mix gc n a .bad

section
variable {P : Program} {E : Env} {rec : Rec} {K : Ctx} {gc : Bool} {mix : Mx} {n : Nat}

theorem compC_CM : ∀ c : Code, CM P mix gc n c (compC P mix gc n c)
  | .skip => .skip
  | .region id ops draw => by
    simp only [compC]
    split
    · rename_i h
      simp only [Bool.and_eq_true, Bool.or_eq_true] at h
      refine .reg h.1 fun hd => ?_
      rcases h.2 with h | h
      · subst hd; simp at h
      · exact ⟨h.1.1, h.1.2, h.2⟩
    · exact .bad _
  | .seq a b => .seq (compC_CM a) (compC_CM b)
  | .cond c a b => by
    simp only [compC]
    split
    · rename_i z hz; exact .cond hz (compC_CM a) (compC_CM b)
    · exact .bad _
  | .block id c => .block (compC_CM c)
  | .loop c => .loop [] (compC_CM c)
  | .exit id => .exit id
  | .ret => .ret
  | .rangeFunc .. => .bad _
  | .scope _ => .bad _
  | .label _ => .bad _
  | .goto _ => .bad _
  | .refuse _ => .bad _

theorem annot_CM (ret : List Nat) : ∀ (c : Code) (x : C), CM P mix gc n c x → ∀ out env, CM P mix gc n c (annot ret x out env) := by
  intro c x h
  induction h with
  | seq h k ih ik => intro out env; simp only [annot]; exact .seq (ih _ _) (ik _ _)
  | cond hc h k ih ik => intro out env; simp only [annot]; exact .cond hc (ih _ _) (ik _ _)
  | block h ih => intro out env; simp only [annot]; exact .block (ih _ _)
  | loop live h ih => intro out env; simp only [annot]; exact .loop _ (ih _ _)
  | skip => intro out env; exact .skip
  | reg hl hd => intro out env; exact .reg hl hd
  | exit id => intro out env; exact .exit id
  | ret => intro out env; exact .ret
  | bad a => intro out env; exact .bad a
def LoopAt (P : Program) (c : Code) (Q : Exit → Act → World → Prop) (a : Act) (w : World) : Prop :=
  ∀ (b : Frame) (k : List Item) (cs : List Frame), ∃ e a' w', Q e a' w' ∧ Arrives P (lone (b.at a (.code c :: .inLoop c :: k)) cs w) b k cs e a' w'

theorem loopAt_round {c : Code} {Q : Exit → Act → World → Prop} {a : Act} {w : World} (h : c.wp P (Exit.then (LoopAt P c Q) Q) a w) : LoopAt P c Q a w := fun b k cs => by
  obtain ⟨e, a₁, w₁, hq, harr⟩ := h b (.inLoop c :: k) cs
  cases e with
  | normal =>
    obtain ⟨e₂, a₂, w₂, hq₂, harr₂⟩ := hq b k cs
    exact ⟨e₂, a₂, w₂, hq₂, .of_steps (Steps.trans harr (.one step_inLoop)) harr₂⟩
  | exit id => exact ⟨_, a₁, w₁, hq, .pass (x := .inLoop c) rfl (fun _ _ => .inl (by simp)) harr⟩
  | goto l => exact ⟨_, a₁, w₁, hq, .pass (x := .inLoop c) rfl (fun _ _ => .inl (by simp)) harr⟩
  | ret => exact ⟨_, a₁, w₁, hq, .pass (x := .inLoop c) rfl (fun _ _ => .inl (by simp)) harr⟩
  | panic ch => exact ⟨_, a₁, w₁, hq, .pass (x := .inLoop c) rfl (fun _ _ => .inl (by simp)) harr⟩
  | outgrown => exact ⟨_, a₁, w₁, hq, .pass (x := .inLoop c) rfl (fun _ _ => .inl (by simp)) harr⟩
theorem wp_loopAt {c : Code} {Q : Exit → Act → World → Prop} {a : Act} {w : World} (h : LoopAt P c Q a w) : (Code.loop c).wp P Q a w := fun b k cs => by
  obtain ⟨e, a', w', hq, harr⟩ := h b k cs
  exact ⟨e, a', w', hq, .of_steps (.one step_loop) harr⟩

def Ex.of : Ex → Exit
  | .norm => .normal
  | .exit id => .exit id
  | .ret => .ret

theorem Sta.gcFr (hK : CtxOk K gc) {fr : Fr} {H : Heap} {a : Act} {w : World} (h : Sta K n fr H a w) (live : List Nat) : Sta K n (gcFr gc live (fr, H)).1 (gcFr gc live (fr, H)).2 a w := by
  obtain ⟨μ, D, F, hm, hfr⟩ := h
  unfold Go.Proofs.Ytanlmanifpknoaa.Ev.gcFr
  cases hg : gc with
  | false => exact ⟨μ, D, F, hm, hfr.keep live⟩
  | true =>
    simp only [if_true]
    have hn := gcIds_nodup H (keep live fr).vals
    refine ⟨muGC μ (gcIds H (keep live fr).vals), dGC D H (gcIds H (keep live fr).vals), F, ⟨hK.gc hg _ _ _ _ _ _ hn hm.ctx, hm.rel.gc hn, fun id l hid hl hre => ?_, fun id ⟨k, hk, hd⟩ => ?_, fun id hid => ?_⟩, (hfr.keep live).ren muGC_ren⟩
    · unfold muGC at hl
      cases hk : (gcIds H (keep live fr).vals)[id]? with
      | none => simp [hk] at hl
      | some k =>
        simp [hk] at hl
        refine ⟨k, hk, ?_⟩
        rcases Nat.lt_or_ge k H.length with a | a
        · exact hm.hD k l a hl hre
        · rw [hm.fresh k a] at hl; cases hl
    · obtain ⟨l, hl, hre⟩ := hm.dD k hd
      exact ⟨l, by unfold muGC; rw [hk]; exact hl, hre⟩
    · rw [pickB_length] at hid
      unfold muGC
      rw [List.getElem?_eq_none hid]; rfl
def DrawOk (P : Program) (E : Env) (rec : Rec) : Prop := ∀ (K : Ctx) (gc : Bool) (mix : Mx) (n id : Nat) (ops : Array Oper) (fr fr' : Fr) (H H' : Heap) (cs : List Cls) (a : Act) (w : World) (Q : Exit → Act → World → Prop), CtxOk K gc →
  ltN n (ops.toList.map (compI P mix ops)) = true → edgesOk ops = true → slotsOk (Region.before ops).toList (ops.toList.map (compI P mix ops)) = true → P.follows .mixedOrders = true → evT E rec (ops.toList.map (compI P mix ops)) (fr, H) = some ((fr', H'), cs) →
  okDraw 0 (Region.before ops).toList cs = true → Sta K n fr H a w → (∀ a' w', Sta K n fr' H' a' w' → Q .normal a' w') → (Code.region id ops true).wp P Q a w

theorem exec_ok (hE : EnvOk P E) (hrec : RecOk P rec) (hdraw : DrawOk P E rec) (hK : CtxOk K gc) (k : Nat) : ∀ (c : Code) (x : C), CM P mix gc n c x → ∀ (fr : Fr) (H : Heap) (e : Ex) (fr' : Fr) (H' : Heap) (a : Act) (w : World) (Q : Exit → Act → World → Prop),
    exec E rec k x (fr, H) = some (e, fr', H') → Sta K n fr H a w → (∀ a' w', Sta K n fr' H' a' w' → Q e.of a' w') → c.wp P Q a w := by
  intro c x h
  induction h with
  | skip =>
    intro fr H e fr' H' a w Q he hs hQ
    simp only [exec] at he; cases he
    exact wp_skip (hQ a w hs)
  | @reg id ops draw hl hd =>
    intro fr H e fr' H' a w Q he hs hQ
    cases draw with
    | false =>
      simp only [exec] at he
      split at he
      · cases he
      · rename_i s hs1
        cases he
        exact region_ok hE hrec hK rfl hl hs1 hs hQ
    | true =>
      simp only [exec, ↓reduceIte] at he
      split at he
      · cases he
      · rename_i s cs hs1
        split at he
        · rename_i hok
          cases he
          obtain ⟨h0, h1, h2⟩ := hd rfl
          exact hdraw K gc (mix.at true) n id ops fr _ H _ cs a w Q hK hl h0 h1 h2 hs1 hok hs hQ
        · cases he
  | seq h k ih ik =>
    intro fr H e fr' H' a w Q he hs hQ
    simp only [exec] at he
    split at he
    · rename_i s hs1
      refine wp_seq (ih fr H .norm s.1 s.2 a w _ hs1 hs fun a1 w1 h1 => ?_)
      exact ik s.1 s.2 e fr' H' a1 w1 Q he h1 hQ
    · rename_i hno
      refine wp_seq (ih fr H e fr' H' a w _ he hs fun a1 w1 h1 => ?_)
      cases e with
      | norm => exact absurd he (by intro h; exact hno _ h)
      | exit id => exact hQ a1 w1 h1
      | ret => exact hQ a1 w1 h1
  | cond hc h k ih ik =>
    intro fr H e fr' H' a w Q he hs hQ
    simp only [exec] at he
    split at he
    · rename_i t ht
      obtain ⟨μ, D, F, hm, hfr⟩ := id hs
      have hv := opd_VR hfr hc
      rw [ht] at hv
      have hv := hv.boolv
      refine wp_cond hv ?_
      cases t with
      | true => exact ih fr H e fr' H' a w Q he hs hQ
      | false => exact ik fr H e fr' H' a w Q he hs hQ
    · cases he
  | @block id a x h ih =>
    intro fr H e fr' H' a w Q he hs hQ
    simp only [exec] at he
    refine wp_block ?_
    split at he
    · rename_i j s hs1
      refine ih fr H (.exit j) s.1 s.2 a w _ hs1 hs fun a1 w1 h1 => ?_
      show Exit.inBlock id Q (.exit j) a1 w1
      unfold Exit.inBlock
      split at he
      · rename_i hj
        cases he
        simp only [hj, if_true]
        exact hQ a1 w1 h1
      · rename_i hj
        cases he
        simp only [hj, if_false]
        exact hQ a1 w1 h1
    · rename_i hno
      refine ih fr H e fr' H' a w _ he hs fun a1 w1 h1 => ?_
      cases e with
      | norm => exact hQ a1 w1 h1
      | exit j => exact absurd he (by intro h; exact hno _ _ h)
      | ret => exact hQ a1 w1 h1
  | @loop b x live h ih =>
    intro fr H e fr' H' a w Q he hs hQ
    simp only [exec] at he
    refine wp_loopAt ?_
    have key : ∀ (m : Nat) (fr : Fr) (H : Heap) (a : Act) (w : World), iter gc live (exec E rec k x) m (fr, H) = some (e, fr', H') → Sta K n fr H a w → LoopAt P b Q a w := by
      intro m
      induction m with
      | zero => intro fr H a w he; simp [iter] at he
      | succ m im =>
        intro fr H a w he hs
        simp only [iter] at he
        refine loopAt_round ?_
        split at he
        · rename_i s hs1
          refine ih fr H .norm s.1 s.2 a w _ hs1 hs fun a1 w1 h1 => ?_
          exact im _ _ a1 w1 he (h1.gcFr hK live)
        · rename_i hno
          refine ih fr H e fr' H' a w _ he hs fun a1 w1 h1 => ?_
          cases e with
          | norm => exact absurd he (by intro h; exact hno _ h)
          | exit id => exact hQ a1 w1 h1
          | ret => exact hQ a1 w1 h1
    exact key k _ _ a w he (hs.gcFr hK live)
  | exit id =>
    intro fr H e fr' H' a w Q he hs hQ
    simp only [exec] at he; cases he
    exact wp_exit (hQ a w hs)
  | ret =>
    intro fr H e fr' H' a w Q he hs hQ
    simp only [exec] at he; cases he
    exact wp_ret (hQ a w hs)
  | bad a =>
    intro fr H e fr' H' a w Q he
    simp [exec] at he


theorem frameOf_get : ∀ (args : List V) (i t : Nat), (frameOf i args).get t = if i ≤ t then (args[t - i]?).getD .any else .any
  | [], i, t => by simp [frameOf, Fr.get]
  | v :: vs, i, t => by
    simp only [frameOf, Fr.get]
    rw [frameOf_get vs (i + 1) t]
    by_cases h : i = t
    · subst h; simp
    · rw [if_neg h]
      by_cases h2 : i + 1 ≤ t
      · rw [if_pos h2, if_pos (by omega), show t - i = (t - (i + 1)) + 1 by omega, List.getElem?_cons_succ]
      · rw [if_neg h2, if_neg (by omega)]

theorem results_ok {μ : Nat → Option Loc} {D F : Nat → Prop} {H : Heap} {w : World} {fr : Fr} {a : Act} (h : Mem K μ D F H w) (hfr : FR μ w F n fr a) : ∀ (rs : List ResultVar) (ir : List R) (vs : List V), compRs P rs = some ir → resV fr H ir = some vs →
    ∃ xs : List Value, (rs.mapM (m := Sem) fun | .tmp t => pure (a.tmps.getD t undef) | .cell p t => do loadVar t (← asAddr (a.tmps.getD p undef))).run P w = .ok xs w ∧ VRs μ w F vs xs
  | [], ir, vs, hc, hr => by
    simp only [compRs] at hc; cases hc
    simp only [resV] at hr; cases hr
    exact ⟨[], rfl, .nil⟩
  | r :: rs, ir, vs, hc, hr => by
    simp only [compRs] at hc
    split at hc
    · rename_i x xs h1 h2
      cases hc
      cases r with
      | tmp t =>
        simp only [compR] at h1; cases h1
        simp only [resV] at hr
        split at hr
        · rename_i us hus
          cases hr
          obtain ⟨ys, k1, k2⟩ := results_ok h hfr rs xs us h2 hus
          refine ⟨a.tmps.getD t undef :: ys, ?_, .cons (hfr.slot t) k2⟩
          simp only [List.mapM_cons, Sem.run_bind, Sem.run_pure, Result.andThen_ok, k1]
        · cases hr
      | cell p t =>
        simp only [compR] at h1
        split at h1
        · rename_i sz g hs hg
          cases h1
          simp only [resV] at hr
          split at hr
          · rename_i v us hv hus
            cases hr
            obtain ⟨ys, k1, k2⟩ := results_ok h hfr rs xs us h2 hus
            have hp := hfr.slot p
            obtain ⟨y, hy, hyv⟩ := ld_ok (P := P) (t := t) h.rel.blk hg hs hv hp fun id i c l e hl hre => by
              rcases Nat.lt_or_ge id H.length with q | q
              · exact h.hD id l q hl hre
              · rw [h.fresh id q] at hl; cases hl
            refine ⟨y :: ys, ?_, .cons hyv k2⟩
            have hadr : (do loadVar t (← asAddr (a.tmps.getD p undef)) : Sem Value).run P w = .ok y w := by
              generalize a.tmps.getD p undef = pv at hp hy
              generalize fr.get p = pu at hp hv
              unfold Instr.loadAt at hy
              cases hp with
              | rptr | ptr => simpa [Instr.sureAddr, asAddr] using hy
              | t hx => cases hx with
                | ptr => simpa [Instr.sureAddr, asAddr] using hy
                | _ => simp [evLd] at hv
              | _ => simp [evLd] at hv
            simp only [List.mapM_cons, Sem.run_bind, Sem.run_pure, Result.andThen_ok, k1] at hadr ⊢
            rw [hadr]
            simp only [Result.andThen_ok, k1]
          · cases hr
        · cases h1
    · cases hc

theorem resOf_ok {μ : Nat → Option Loc} {F : Nat → Prop} {w : World} {vs : List V} {xs : List Value} (h : VRs μ w F vs xs) : VR μ w F (resOf vs) (if h : xs.toArray.size = 1 then xs.toArray[0] else .tuple xs.toArray) := by
  match vs, xs, h with
  | [], xs, h =>
    have : xs = [] := by have := h.1; simpa using this
    subst this
    exact .tup [] [] rfl h.2
  | [v], xs, h =>
    obtain ⟨x, ys, rfl, h1, h2⟩ := h.head
    have : ys = [] := by have := h2.1; simpa using this
    subst this
    exact h1
  | v :: u :: vs, xs, h =>
    obtain ⟨x, ys, rfl, h1, h2⟩ := h.head
    obtain ⟨y, zs, rfl, h3, h4⟩ := h2.head
    simp only [List.size_toArray, List.length_cons, resOf]
    rw [dif_neg (by omega)]
    exact .tup _ _ h.1 h.2
def Kown (F : Nat → Prop) (w : World) : Ctx := fun μ' D' F' H' w' =>
  (∀ m, F m → F' m) ∧ (∀ m, F' m → F m ∨ w.heap.size ≤ m) ∧ (∀ m, OwnS μ' D' H' m → w.heap.size ≤ m) ∧ (∀ m, m < w.heap.size → w'.heap[m]? = w.heap[m]?) ∧ w.heap.size ≤ w'.heap.size ∧ (w'.os = w.os ∧ w'.tape = w.tape ∧ w'.output = w.output) ∧
  ∀ id, D' id → ∃ l, μ' id = some l ∧ l.real = true

theorem Kown_ok (F : Nat → Prop) (w : World) : CtxOk (Kown F w) true := by
  refine ⟨fun μ D F1 H w1 μ' D' F' H' w' ⟨h1, h2, h3, h4, h5, ⟨h6, h7, h8⟩, h9⟩ hr p => ⟨fun m hm => p.old m (h1 m hm), fun m hm => ?_, fun m hm => ?_, fun m hm => ?_, Nat.le_trans h5 p.size, ⟨p.os.trans h6, p.tape.trans h7, p.output.trans h8⟩, fun id hid => ?_⟩,
    fun _ μ D F1 H w1 ids hn ⟨h1, h2, h3, h4, h5, h6, h9⟩ => ⟨h1, h2, fun m hm => h3 m hm.gc, h4, h5, h6, fun id ⟨k, hk, hd⟩ => ?_⟩⟩
  · rcases p.new m hm with a | a | a
    · exact h2 m a
    · exact .inr (Nat.le_trans h5 a)
    · exact .inr (h3 m a)
  · rcases p.own m hm with a | a
    · exact Nat.le_trans h5 a
    · exact h3 m a
  · rw [p.frame m (Nat.lt_of_lt_of_le hm h5) fun a => absurd (h3 m a) (Nat.not_le.2 hm), h4 m hm]
  · rcases (p.dom id).1 hid with a | ⟨_, _, l, hl, hre⟩
    · obtain ⟨l, hl, hre⟩ := h9 id a
      exact ⟨l, p.mono id l hl, hre⟩
    · exact ⟨l, hl, hre⟩
  · obtain ⟨l, hl, hre⟩ := h9 k hd
    exact ⟨l, by unfold muGC; rw [hk]; exact hl, hre⟩

def Kref (μ : Nat → Option Loc) (D F : Nat → Prop) (H : Heap) (w : World) : Ctx := fun μ' D' F' H' w' => Post μ D F H w μ' D' F' H' w'
theorem Kref_ok (μ : Nat → Option Loc) (D F : Nat → Prop) (H : Heap) (w : World) : CtxOk (Kref μ D F H w) false :=
  ⟨fun _ _ _ _ _ _ _ _ _ _ h _ p => h.trans p, fun h => by cases h⟩

theorem fn_ok (hE : EnvOk P E) (k : Nat) (hrec : RecOk P (run E k)) (hdraw : DrawOk P E (run E k)) : RecOk P (run E (k + 1)) := by
  intro f args H v H' he μ D F w margs hrel hD hdD hfresh hargs
  simp only [run] at he
  split at he
  · rename_i G hG
    obtain ⟨fn, mix, hfn, hcomp⟩ := hE.ir f G hG
    split at he
    · rename_i hcond
      obtain ⟨hlen, hmode⟩ := hcond
      unfold compF at hcomp
      split at hcomp
      · rename_i c rs hbody hrs
        split at hcomp
        · rename_i hnt
          have hG2 := Option.some.inj hcomp
          have e1 : G.nargs = fn.params.size + fn.nfree := (congrArg Fn.nargs hG2).symm
          have e2 : G.res = rs := (congrArg Fn.res hG2).symm
          have e3 : G.body = _ := (congrArg Fn.body hG2).symm
          have hn : margs.length = fn.params.size + fn.nfree := by rw [hargs.1, hlen, e1]
          have hfr0 : ∀ (μ' : Nat → Option Loc) (F' : Nat → Prop), VRs μ' w F' args margs → FR μ' w F' fn.ntmps (frameOf 0 args) { tmps := margs.toArray ++ Array.replicate (fn.ntmps - margs.toArray.size) undef, defers := [] } := fun μ' F' hv => by
            refine ⟨by simp; omega, rfl, fun t => ?_⟩
            rw [frameOf_get, if_pos (Nat.zero_le _), Nat.sub_zero]
            cases ht : args[t]? with
            | none => exact .any _
            | some u =>
              have hlt := (List.getElem?_eq_some_iff.1 ht).1
              have hlt2 : t < margs.length := by rw [hv.1]; exact hlt
              have : (margs.toArray ++ Array.replicate (fn.ntmps - margs.toArray.size) undef).getD t undef = margs[t] := by
                rw [Array.getD_eq_getD_getElem?, Array.getElem?_append_left (by simpa using hlt2)]
                simp [hlt2]
              rw [this]
              exact hv.2 t u _ ht (List.getElem?_eq_getElem _)
          have hCM : CM P mix (G.mode == .own || G.mode == .ownF) fn.ntmps c G.body := by
            rw [e3]; exact annot_CM _ _ _ (compC_CM c) _ _
          have fin : ∀ (gc : Bool) (K : Ctx), CtxOk K gc → (G.mode == .own || G.mode == .ownF) = gc → (∃ μ1 D1 F1, Mem K μ1 D1 F1 H w ∧ VRs μ1 w F1 args margs) →
              (∀ μ' D' F' w', Mem K μ' D' F' H' w' → Post μ D F H w μ' D' F' H' w') → Calls P f margs.toArray w fun e w' => ∃ x, e = .returned x ∧ Leaves μ D F H w v H' x w' := by
            intro gc K hK hgc ⟨μ1, D1, F1, hm, hva⟩ hpost
            refine calls_of_wp hfn hbody ?_
            rw [hgc] at hCM
            have go : ∀ (e : Ex) (fr' : Fr) (H2 : Heap), exec E (run E k) k G.body (frameOf 0 args, H) = some (e, fr', H2) → (e = .norm ∨ e = .ret) → (match resV fr' H2 G.res with | some vs => some (resOf vs, H2) | none => none) = some (v, H') →
                c.wp P (bodyPost P fn fun e w' => ∃ x, e = .returned x ∧ Leaves μ D F H w v H' x w') { tmps := margs.toArray ++ Array.replicate (fn.ntmps - margs.toArray.size) undef, defers := [] } w := by
              intro e fr' H2 hex hee hres
              split at hres
              · rename_i vs hvs
                cases hres
                refine exec_ok hE hrec hdraw hK k c G.body hCM (frameOf 0 args) H e fr' H' _ w _ hex ⟨μ1, D1, F1, hm, hfr0 μ1 F1 hva⟩ fun a' w' hs => ?_
                obtain ⟨μ2, D2, F2, hm2, hfr2⟩ := hs
                rw [e2] at hvs
                obtain ⟨xs, hx1, hx2⟩ := results_ok hm2 hfr2 fn.results.toList rs vs hrs hvs
                have hr : (results fn a'.tmps).run P w' = .ok (if h : xs.toArray.size = 1 then xs.toArray[0] else .tuple xs.toArray) w' := by
                  unfold results
                  simp only [Sem.run_bind]
                  rw [Array.mapM_eq_mapM_toList]
                  simp only [Sem.run_map]
                  erw [hx1]
                  rfl
                have hend : a'.defers = [] ∧ ∃ v', (results fn a'.tmps).run P w' = .ok v' w' ∧ ∃ x, Ending.returned v' = .returned x ∧ Leaves μ D F H w (resOf vs) H' x w' :=
                  ⟨hfr2.defers, _, hr, _, rfl, μ2, D2, F2, hpost μ2 D2 F2 w' hm2, resOf_ok hx2⟩
                rcases hee with rfl | rfl
                · exact hend
                · exact hend
              · cases hres
            split at he
            · rename_i fr' H2 hex
              exact go .norm fr' H2 hex (.inl rfl) he
            · rename_i fr' H2 hex
              exact go .ret fr' H2 hex (.inr rfl) he
            · cases he
          cases hgc : (G.mode == .own || G.mode == .ownF) with
          | true =>
            rw [hgc] at hmode
            have hH : H = [] := List.length_eq_zero_iff.1 (hmode.resolve_left (by simp))
            subst hH
            have hnoD : ∀ id, ¬ D id := fun id hd => absurd (hrel.lt id hd) (Nat.not_lt_zero _)
            have hmu : ∀ id, μ id = none := fun id => hfresh id (Nat.zero_le _)
            have hno : ∀ m, ¬ OwnS μ D [] m := fun m ⟨id, b, l, hd, _⟩ => hnoD id hd
            refine fin true (Kown F w) (Kown_ok F w) hgc ⟨μ, D, F, ⟨⟨fun _ h => h, fun _ h => .inl h, fun m hm => absurd hm (hno m), fun _ _ => rfl, Nat.le_refl _, ⟨rfl, rfl, rfl⟩, fun id hd => absurd hd (hnoD id)⟩, hrel, hD, hdD, hfresh⟩, hargs⟩ fun μ' D' F' w' hm => ?_
            obtain ⟨⟨h1, h2, h3, h4, h5, ⟨h6, h7, h8⟩, h9⟩, hr', hD', _, hf'⟩ := hm
            refine ⟨fun id hid => ?_, fun id l hl => ?_, Nat.zero_le _, fun id => ⟨fun hd => ?_, fun hd => ?_⟩, h1, fun m hm => (h2 m hm).elim .inl fun a => .inr (.inl a), hr', fun m hm _ => h4 m hm, fun m hm => .inl (h3 m hm), h5, h6, h7, h8⟩
            · rw [hmu id]; exact hf' id (hid.resolve_left (Nat.not_lt_zero _))
            · rw [hmu id] at hl; cases hl
            · obtain ⟨l, hl, hre⟩ := h9 id hd
              exact .inr ⟨Nat.zero_le _, hr'.lt id hd, l, hl, hre⟩
            · rcases hd with a | ⟨_, a, l, hl, hre⟩
              · exact absurd a (hnoD id)
              · exact hD' id l a hl hre
          | false =>
            exact fin false (Kref μ D F H w) (Kref_ok μ D F H w) hgc ⟨μ, D, F, ⟨Post.refl hrel, hrel, hD, hdD, hfresh⟩, hargs⟩ fun μ' D' F' w' hm => hm.ctx
        · cases hcomp
      · cases hcomp
    · cases he
  · cases he

theorem run_ok (hE : EnvOk P E) (hdraw : ∀ k, RecOk P (run E k) → DrawOk P E (run E k)) : ∀ k, RecOk P (run E k)
  | 0 => fun f args H v H' he => by simp [run] at he
  | k + 1 => fn_ok hE k (run_ok hE hdraw k) (hdraw k (run_ok hE hdraw k))

end
end Go.Proofs.Ytanlmanifpknoaa.Ev
