-- by wip/xprint.py, a program of this session over the kit's print: not trusted, Lean checks it.
import Derived.Test.YtldeaeeolibpjagQx0
import Derived.Test.YtldeaeeolibpjagXMark
import Derived.Test.YtldeaeeolibpjagXShort
namespace Go.Proofs.Ytldeaeeolibpjag.Q
open Go.RowKit Go.Proofs.YtldeaeeolibpjagW.PrintWords Go.Proofs.YtldeaeeolibpjagW.PrintLast Go.Proofs.YtldeaeeolibpjagW.PrintMore
attribute [local go_sem] max2_int min2_int max_two min_two max_three min_three max_four min_four   -- for this text's walks alone
set_option linter.unusedVariables false
set_option linter.unusedSimpArgs false

/-! ### impl_Voyage: function 26 (by hand: Reverse.lean) -/
-- NOHALVE
-- IMPORT: Derived.Test.YtldeaeeolibpjagXMark
-- IMPORT: Derived.Test.YtldeaeeolibpjagXShort
/-- A voyage's two cells. -/
def impl_Voyage.vk : Kd (Int × Option Addr × Nat × Nat) where
  sz := 2
  E := []
  K := fun _ x cs => cs = [.int .i64 x.1, .slice x.2.1 x.2.2.1 x.2.2.2]
  M := fun _ _ _ x cs => cs = [.int .i64 x.1, .slice x.2.1 x.2.2.1 x.2.2.2]
  K_len := fun h => by rw [h]; rfl
  K_one := fun h u hu => by
    rw [h] at hu
    simp only [List.mem_cons, List.not_mem_nil, or_false] at hu
    rcases hu with rfl | rfl <;> rfl
  K_below := fun _ h => h
  K_of_M := fun h => h
  M_mono := fun _ h => h
  M_bound := fun h => h
  M_move := fun _ h => h
  M_lower := fun _ h => h
def impl_Voyage.dec : List Value → Int × Option Addr × Nat × Nat
  | [.int .i64 a, .slice A n c] => (a, A, n, c)
  | _ => (0, none, 0, 0)
theorem impl_Voyage.cells_of {w : World} {base : Nat} {ok : Nat → Prop} {x : S43} {cs : List Value} (h : k43.M w base ok x cs) : cs = [.int .i64 (impl_Voyage.dec cs).1, .slice (impl_Voyage.dec cs).2.1 (impl_Voyage.dec cs).2.2.1 (impl_Voyage.dec cs).2.2.2] := by
  obtain ⟨v1, rfl, h1⟩ := k43_openM h
  obtain ⟨A, c, rfl⟩ := Kd.R_slice h1
  rfl
theorem impl_Voyage.S_vk {w : World} {base : Nat} {ok : Nat → Prop} {v : Value} {xs : List S43} (h : Kd.S k43 43 w base ok v xs) : ∃ ys : List (Int × Option Addr × Nat × Nat), ys.length = xs.length ∧ impl_Voyage.vk.R 43 w base (fun _ => True) v ys ∧
    ∀ w' : World, (∀ k, ok k → some k ≠ v.ownBlock → k < w.heap.size → w'.heap[k]? = w.heap[k]?) → impl_Voyage.vk.R 43 w' base (fun _ => True) v ys.reverse → Kd.S k43 43 w' base ok v xs.reverse := by
  obtain ⟨f, hok0, inner, ho, hr⟩ := h
  have hlen : inner.length = xs.length * 2 := by have := hr.1; rw [List.length_zipIdx] at this; exact this
  have hM : ∀ j (hj : j < xs.length), k43.M w base (fun k => (ok k ∧ some k ≠ v.ownBlock) ∧ f k = j) xs[j] ((inner.drop (j * 2)).take 2) := fun j hj => hr.2 j _ (Kd.zip_at (List.getElem?_eq_getElem hj))
  refine ⟨(List.range xs.length).map fun j => impl_Voyage.dec ((inner.drop (j * 2)).take 2), by simp, ⟨fun _ _ => trivial, inner, by rw [List.length_map, List.length_range]; rw [List.length_zipIdx] at ho; exact ho, by rw [List.length_map, List.length_range]; exact hlen, fun j p hj => ?_⟩, fun w' hw hR => ?_⟩
  · rw [List.getElem?_map] at hj
    obtain ⟨j', hj', rfl⟩ := Option.map_eq_some_iff.1 hj
    obtain ⟨hl, he⟩ := List.getElem?_eq_some_iff.1 hj'
    rw [List.getElem_range] at he
    subst he
    rw [List.length_range] at hl
    exact impl_Voyage.cells_of (hM j hl)
  · obtain ⟨_, inner', ho', hr'⟩ := hR
    rw [List.length_reverse, List.length_map, List.length_range] at ho'
    have hlen' : inner'.length = xs.length * 2 := by have := hr'.1; rw [List.length_reverse, List.length_map, List.length_range] at this; exact this
    refine ⟨fun k => xs.length - 1 - f k, hok0, inner', by rw [List.length_zipIdx, List.length_reverse]; exact ho', by rw [List.length_zipIdx, List.length_reverse]; exact hlen', fun m p hm => ?_⟩
    rw [List.getElem?_zipIdx, Nat.zero_add] at hm
    obtain ⟨q, hq, rfl⟩ := Option.map_eq_some_iff.1 hm
    have hml : m < xs.length := by
      have := (List.getElem?_eq_some_iff.1 hq).1
      rwa [List.length_reverse] at this
    rw [List.getElem?_reverse hml] at hq
    obtain ⟨hjl, rfl⟩ := List.getElem?_eq_some_iff.1 hq
    have h1 := hM (xs.length - 1 - m) hjl
    have h2 := hr'.2 m (impl_Voyage.dec ((inner.drop ((xs.length - 1 - m) * 2)).take 2)) (by
      rw [List.getElem?_reverse (by simp; exact hml), List.length_map, List.length_range, List.getElem?_map, List.getElem?_eq_getElem (by rw [List.length_range]; omega), List.getElem_range]
      rfl)
    have h3 : (inner'.drop (m * 2)).take 2 = (inner.drop ((xs.length - 1 - m) * 2)).take 2 := (show (inner'.drop (m * 2)).take 2 = _ from h2).trans (impl_Voyage.cells_of h1).symm
    show k43.M w' base _ _ ((inner'.drop (m * 2)).take 2)
    rw [h3]
    exact Kd.M_step (k43.M_mono (fun k hk => ⟨hk.1, by have h4 : xs.length - 1 - f k = m := by {have h5 : f k = xs.length - 1 - m := hk.2; omega}; exact h4⟩) h1) (fun k hk hlt => hw k hk.1.1 hk.1.2 hlt)
def impl_Voyage.f (l0 : List S43) : Option (List S43) := if l0.length ≤ 1000000000 then some l0.reverse else none
def impl_Voyage.T3 : Bool × List (List Nat × List Nat) := (true, [([], []), ([], []), ([], []), ([], []), ([], []), ([], []), ([4, 5], [4, 5]), ([6], [6]), ([], []), ([], []), ([8, 9], [8, 9]), ([10], [10]), ([0, 1, 0, 1, 4, 5, 6, 7, 11], [0, 1]), ([12, 7, 0, 1, 4, 5, 6, 7, 11], [7, 12]), ([2, 3, 0, 1, 2, 3, 4, 5, 6, 7, 8, 9, 10, 11, 12, 13], [2, 3]), ([14, 11, 13, 0, 1, 2, 3, 4, 5, 6, 7, 8, 9, 10, 11, 12, 13], [11, 14])])
def impl_Voyage.B3 : List Nat := [0, 0, 0, 0, 0, 0, 48, 112, 0, 0, 768, 1792, 4083, 8179, 16383, 32767]
theorem impl_Voyage.tab3 : rtab .any (opsOf Try.f26 3) = impl_Voyage.T3 := by kernel_rfl
theorem impl_Voyage.bits3 : waitsOk impl_Voyage.T3.2 impl_Voyage.B3 = true := by kernel_rfl
set_option maxHeartbeats 8000000 in
set_option maxRecDepth 100000 in
theorem impl_Voyage.calls (P0_ : Nat → Prop) (u9000_ : Value) (l0 : List S43) (r : List S43) (w0 w : World) (hB : Below w0.heap.size w0 w) (ho0 : Kd.S k43 43 w w0.heap.size P0_ u9000_ l0) (h : impl_Voyage.f l0 = some r) :
    Calls Try.prog 26 #[u9000_] w fun e w' => e = .returned (.tuple #[]) ∧ Kd.S k43 43 w' w0.heap.size P0_ u9000_ r ∧ Below w0.heap.size w0 w' ∧ Kept w w' P0_ := by
  have hu := Try.underlying43
  unfold impl_Voyage.f at h
  by_cases hlen : l0.length ≤ 1000000000
  rotate_left
  · rw [if_neg hlen] at h
    cases h
  rw [if_pos hlen] at h
  injection h with h
  obtain ⟨ys, hyl, hR, hback⟩ := impl_Voyage.S_vk ho0
  have hP : ∀ k_, u9000_.ownBlock = some k_ → P0_ k_ := (Kd.S_R ho0).1
  have HBK := X.A hback
  have HP0 := X.A hP
  have HE := X.A h
  have HO0 := X.A hR
  have HB := X.A hB
  have HYL := X.A hyl
  obtain ⟨Ao2, co2, eo2⟩ := Kd.R_slice hR
  subst eo2
  have HK : Aside0 (Kept w w (fun k_ => (Value.slice Ao2 ys.length co2).ownBlock = some k_)) := ⟨Kept.refl _ _⟩
  clear hback hP hB hR ho0 h hyl
  go_enter Try.func26, Try.ntmps26
  go_wp2
  have hw0 : wrap64 ((ys.length : Int) - 1) = (ys.length : Int) - 1 := by have := HYL.out; unfold wrap64; omega
  go_loopg [2, 3] ys.length (fun kq v2 v3 w' => ∃ (x0_1 : List (Int × Option Addr × Nat × Nat)) (x2_1 : Int) (x3_1 : Int) (i : Nat), v2 = .int .i64 x2_1 ∧ v3 = .int .i64 x3_1 ∧ x2_1 = (i : Int) ∧ x3_1 = (ys.length : Int) - 1 - i ∧ ys.length - i ≤ kq ∧ i ≤ ys.length ∧ x0_1.length = ys.length ∧ Aside0 (∀ m, m < ys.length → x0_1[m]? = if m < i ∨ ys.length - 1 - i < m then ys.reverse[m]? else ys[m]?) ∧ Aside0 (impl_Voyage.vk.R 43 w' w0.heap.size (fun _ => True) (.slice Ao2 ys.length co2) x0_1) ∧ Aside0 (Kept w w' (fun k_ => (Value.slice Ao2 ys.length co2).ownBlock = some k_)) ∧ Aside0 (Below w0.heap.size w0 w'))
  case atStart => exact ⟨ys, 0, wrap64 ((ys.length : Int) - 1), 0, by first | rfl | (simp; done), by first | rfl | (simp [HYL.out]; done) | (rw [HYL.out]), rfl, by rw [hw0]; omega, by omega, by omega, rfl, ⟨fun m hm => by rw [if_neg (by omega)]⟩, HO0, HK, HB⟩
  case round =>
    obtain ⟨x0_1, x2_1, x3_1, i, rfl, rfl, h2, h3, hkq, hil, hxl, HX, HO_0, HK, HB⟩ := hrel
    by_cases c3 : x2_1 < x3_1
    · have c3b0 : decide (x2_1 < x3_1) = true := decide_eq_true c3
      have hij : (i : Int) < (ys.length : Int) - 1 - i := by omega
      have d2 : 0 ≤ x2_1 := by omega
      have d3 : 0 ≤ x3_1 := by omega
      have m2 : x2_1 < (x0_1.length : Int) := by omega
      have m3 : x3_1 < (x0_1.length : Int) := by omega
      have p2 : (0 ≤ (x2_1 : Int)) = True := eq_true d2
      have p3 : (0 ≤ (x3_1 : Int)) = True := eq_true d3
      obtain ⟨go8, co8, eo8, gb8, gl8, cl8, HG8⟩ := Kd.R_form HO_0.out (by omega)
      injection eo8 with ea_ en_ ec_
      subst ea_
      subst ec_
      have q2 : (x2_1 < ((ys.length : Int) : Int)) = True := eq_true (by omega)
      have q3 : (x3_1 < ((ys.length : Int) : Int)) = True := eq_true (by omega)
      have H2 := X.A h2
      have H3 := X.A h3
      clear h2 h3 hij
      try go_wp2
      have h2 := H2.out
      have h3 := H3.out
      have hij : (i : Int) < (ys.length : Int) - 1 - i := by omega
      have HO1 := X.A (Kd.R_drew HO_0.out)
      have HK1 := X.A (Kept.drew HK.out)
      have HB1 := X.A (below_drew1 HB.out)
      have GB8 := X.A gb8
      obtain ⟨c3', hcl3, hM3, hcc3, hfr3⟩ := Kd.R_elem HO1.out (0, none, 0, 0) x3_1 d3 (by omega)
      obtain ⟨c2', hcl2, hM2, hcc2, hfr2⟩ := Kd.R_elem HO1.out (0, none, 0, 0) x2_1 d2 (by omega)
      obtain ⟨e3, he3⟩ : ∃ e, e = x0_1.getD x3_1.toNat (0, none, 0, 0) := ⟨_, rfl⟩
      obtain ⟨e2, he2⟩ : ∃ e, e = x0_1.getD x2_1.toNat (0, none, 0, 0) := ⟨_, rfl⟩
      rw [← he3] at hM3
      rw [← he2] at hM2
      obtain rfl : c3' = [.int .i64 e3.1, .slice e3.2.1 e3.2.2.1 e3.2.2.2] := hM3
      obtain rfl : c2' = [.int .i64 e2.1, .slice e2.2.1 e2.2.2.1 e2.2.2.2] := hM2
      have HP1 := Kd.R_seg HO1.out x2_1 d2 (by omega) (seg := [.int .i64 e3.1, .slice e3.2.1 e3.2.2.1 e3.2.2.2]) (j := 0) (x' := e3) (okp := fun _ => False) hcl2 hcc2 (by show 0 + 2 ≤ 2; omega) rfl (fun _ hk => hk.elim)
      have HQ1 : Aside0 (impl_Voyage.vk.R 43 ((wr.drew.setCell ⟨go8, x2_1.toNat * 2, none⟩ (.int .i64 e3.1)).setCell ⟨go8, x2_1.toNat * 2 + 1, none⟩ (.slice e3.2.1 e3.2.2.1 e3.2.2.2)) w0.heap.size (fun _ => True) (.slice (some ⟨go8, 0, none⟩) ys.length co2) (x0_1.set x2_1.toNat e3)) := ⟨HP1.1⟩
      have hg32 : (x0_1.set x2_1.toNat e3).getD x3_1.toNat (0, none, 0, 0) = e3 := by
        rw [he3, List.getD_eq_getElem?_getD, List.getD_eq_getElem?_getD, List.getElem?_set_ne (by omega)]
      obtain ⟨c9, hcl9, hM9, hcc9, hfr9⟩ := Kd.R_elem HQ1.out (0, none, 0, 0) x3_1 d3 (by omega)
      rw [hg32] at hM9
      obtain rfl : c9 = [.int .i64 e3.1, .slice e3.2.1 e3.2.2.1 e3.2.2.2] := hM9
      have HP2 := Kd.R_seg HQ1.out x3_1 d3 (by omega) (seg := [.int .i64 e2.1, .slice e2.2.1 e2.2.2.1 e2.2.2.2]) (j := 0) (x' := e2) (okp := fun _ => False) hcl9 hcc9 (by show 0 + 2 ≤ 2; omega) rfl (fun _ hk => hk.elim)
      have HQ2 : Aside0 (impl_Voyage.vk.R 43 ((((wr.drew.setCell ⟨go8, x2_1.toNat * 2, none⟩ (.int .i64 e3.1)).setCell ⟨go8, x2_1.toNat * 2 + 1, none⟩ (.slice e3.2.1 e3.2.2.1 e3.2.2.2)).setCell ⟨go8, x3_1.toNat * 2, none⟩ (.int .i64 e2.1)).setCell ⟨go8, x3_1.toNat * 2 + 1, none⟩ (.slice e2.2.1 e2.2.2.1 e2.2.2.2)) w0.heap.size (fun _ => True) (.slice (some ⟨go8, 0, none⟩) ys.length co2) ((x0_1.set x2_1.toNat e3).set x3_1.toNat e2)) := ⟨HP2.1⟩
      have hx3_0 : wr.drew.cell? ⟨go8, x3_1.toNat * 2, none⟩ = some (.int .i64 e3.1) := hcc3 0 _ rfl
      have hx3_1 : wr.drew.cell? ⟨go8, x3_1.toNat * 2 + 1, none⟩ = some (.slice e3.2.1 e3.2.2.1 e3.2.2.2) := hcc3 1 _ rfl
      have hx2_0 : wr.drew.cell? ⟨go8, x2_1.toNat * 2, none⟩ = some (.int .i64 e2.1) := hcc2 0 _ rfl
      have hx2_1 : wr.drew.cell? ⟨go8, x2_1.toNat * 2 + 1, none⟩ = some (.slice e2.2.1 e2.2.2.1 e2.2.2.2) := hcc2 1 _ rfl
      have hf2_0 : wr.drew.frozen? ⟨go8, x2_1.toNat * 2, none⟩ = false := hfr2 0
      have hf2_1 : wr.drew.frozen? ⟨go8, x2_1.toNat * 2 + 1, none⟩ = false := hfr2 1
      have hx9_0 : ((wr.drew.setCell ⟨go8, x2_1.toNat * 2, none⟩ (.int .i64 e3.1)).setCell ⟨go8, x2_1.toNat * 2 + 1, none⟩ (.slice e3.2.1 e3.2.2.1 e3.2.2.2)).cell? ⟨go8, x3_1.toNat * 2, none⟩ = some (.int .i64 e3.1) := hcc9 0 _ rfl
      have hx9_1 : ((wr.drew.setCell ⟨go8, x2_1.toNat * 2, none⟩ (.int .i64 e3.1)).setCell ⟨go8, x2_1.toNat * 2 + 1, none⟩ (.slice e3.2.1 e3.2.2.1 e3.2.2.2)).cell? ⟨go8, x3_1.toNat * 2 + 1, none⟩ = some (.slice e3.2.1 e3.2.2.1 e3.2.2.2) := hcc9 1 _ rfl
      have hf9_0 : ((wr.drew.setCell ⟨go8, x2_1.toNat * 2, none⟩ (.int .i64 e3.1)).setCell ⟨go8, x2_1.toNat * 2 + 1, none⟩ (.slice e3.2.1 e3.2.2.1 e3.2.2.2)).frozen? ⟨go8, x3_1.toNat * 2, none⟩ = false := hfr9 0
      have hf9_1 : ((wr.drew.setCell ⟨go8, x2_1.toNat * 2, none⟩ (.int .i64 e3.1)).setCell ⟨go8, x2_1.toNat * 2 + 1, none⟩ (.slice e3.2.1 e3.2.2.1 e3.2.2.2)).frozen? ⟨go8, x3_1.toNat * 2 + 1, none⟩ = false := hfr9 1
      have HXL := X.A hxl
      have HKQ := X.A hkq
      have HIL := X.A hil
      have C3 := X.A c3
      have HLEN := X.A hlen
      have HE3 := X.A he3
      have HE2 := X.A he2
      clear HP1 HP2 hcc3 hcc2 hcc9 hfr3 hfr2 hfr9 hcl3 hcl2 hcl9 hg32 he3 he2 HO_0 HK HB HO1 gb8 gl8 cl8 HG8 h2 h3 d2 d3 m2 m3 hij hw0 hxl hkq hil c3 hlen en_
      refine start_ (n := 16) (S := fun w' => w'.cell? ⟨go8, x3_1.toNat * 2, none⟩ = some (.int .i64 e3.1) ∧ w'.cell? ⟨go8, x3_1.toNat * 2 + 1, none⟩ = some (.slice e3.2.1 e3.2.2.1 e3.2.2.2) ∧ w'.cell? ⟨go8, x2_1.toNat * 2, none⟩ = some (.int .i64 e2.1) ∧ w'.cell? ⟨go8, x2_1.toNat * 2 + 1, none⟩ = some (.slice e2.2.1 e2.2.2.1 e2.2.2.2)) (ds := [13, 15]) #[false, false, false, false, false, false, false, false, false, false, false, false, false, false, false, false] (by kernel_rfl) rfl rfl ⟨hx3_0, hx3_1, hx2_0, hx2_1⟩ (fun hHeld => ?_); refine with_tabW impl_Voyage.tab3 impl_Voyage.bits3 (fun HT_ HW_ => ?_)
      generalize wr.drew = w10 at HK1 HB1 HQ1 HQ2 hf2_0 hf2_1 hx3_0 hx3_1 hx2_0 hx2_1 hx9_0 hx9_1 hf9_0 hf9_1 hHeld ⊢
      refine pure_ (i := 0) (N := some 14) (v := ?_) (a' := ?_) #[true, false, false, false, false, false, false, false, false, false, false, false, false, false, false, false] rfl rfl (any_of HT_.out (by kernel_rfl)) (fun _ _ _ h => h) (Or.inl ⟨by rfl, ?_⟩) ?_ ?_
      rotate_left
      ·intro w'
       go_simp
       with_reducible rfl
      rotate_left
      ·exact X.Pu
      refine pure_ (i := 1) (N := some 15) (v := ?_) (a' := ?_) #[true, true, false, false, false, false, false, false, false, false, false, false, false, false, false, false] rfl rfl (any_of HT_.out (by kernel_rfl)) (fun _ _ _ h => h) (Or.inl ⟨by rfl, ?_⟩) ?_ ?_
      rotate_left
      ·intro w'
       go_simp
       with_reducible rfl
      rotate_left
      ·exact X.Pu
      refine pure_ (i := 2) (N := some 16) (v := ?_) (a' := ?_) #[true, true, true, false, false, false, false, false, false, false, false, false, false, false, false, false] rfl rfl (any_of HT_.out (by kernel_rfl)) (fun _ _ _ h => h) (Or.inl ⟨by rfl, ?_⟩) ?_ ?_
      rotate_left
      ·intro w'
       go_simp
       with_reducible rfl
      rotate_left
      ·exact X.Pu
      refine pure_ (i := 3) (N := some 17) (v := ?_) (a' := ?_) #[true, true, true, true, false, false, false, false, false, false, false, false, false, false, false, false] rfl rfl (any_of HT_.out (by kernel_rfl)) (fun _ _ _ h => h) (Or.inl ⟨by rfl, ?_⟩) ?_ ?_
      rotate_left
      ·intro w'
       go_simp
       with_reducible rfl
      rotate_left
      ·exact X.Pu
      refine pure_ (i := 4) (N := some 18) (v := ?_) (a' := ?_) #[true, true, true, true, true, false, false, false, false, false, false, false, false, false, false, false] rfl rfl (any_of HT_.out (by kernel_rfl)) (fun _ _ _ h => h) (Or.inl ⟨by rfl, ?_⟩) ?_ ?_
      rotate_left
      ·intro w'
       go_simp
       with_reducible rfl
      rotate_left
      ·exact X.Pu
      refine pure_ (i := 5) (N := some 19) (v := ?_) (a' := ?_) #[true, true, true, true, true, true, false, false, false, false, false, false, false, false, false, false] rfl rfl (any_of HT_.out (by kernel_rfl)) (fun _ _ _ h => h) (Or.inl ⟨by rfl, ?_⟩) ?_ ?_
      rotate_left
      ·intro w'
       go_simp
       with_reducible rfl
      rotate_left
      ·exact X.Pu
      refine pure_ (i := 6) (N := some 20) (v := ?_) (a' := ?_) #[true, true, true, true, true, true, true, false, false, false, false, false, false, false, false, false] rfl rfl (any_of HT_.out (by kernel_rfl)) (fun _ _ _ h => h) (Or.inl ⟨by rfl, ?_⟩) ?_ ?_
      rotate_left
      ·intro w'
       go_simp
       with_reducible rfl
      rotate_left
      ·exact X.Pu
      refine pure_ (i := 8) (N := some 22) (v := ?_) (a' := ?_) #[true, true, true, true, true, true, true, false, true, false, false, false, false, false, false, false] rfl rfl (any_of HT_.out (by kernel_rfl)) (fun _ _ _ h => h) (Or.inl ⟨by rfl, ?_⟩) ?_ ?_
      rotate_left
      ·intro w'
       go_simp
       with_reducible rfl
      rotate_left
      ·exact X.Pu
      refine pure_ (i := 9) (N := some 23) (v := ?_) (a' := ?_) #[true, true, true, true, true, true, true, false, true, true, false, false, false, false, false, false] rfl rfl (any_of HT_.out (by kernel_rfl)) (fun _ _ _ h => h) (Or.inl ⟨by rfl, ?_⟩) ?_ ?_
      rotate_left
      ·intro w'
       go_simp
       with_reducible rfl
      rotate_left
      ·exact X.Pu
      refine pure_ (i := 10) (N := some 24) (v := ?_) (a' := ?_) #[true, true, true, true, true, true, true, false, true, true, true, false, false, false, false, false] rfl rfl (any_of HT_.out (by kernel_rfl)) (fun _ _ _ h => h) (Or.inl ⟨by rfl, ?_⟩) ?_ ?_
      rotate_left
      ·intro w'
       go_simp
       with_reducible rfl
      rotate_left
      ·exact X.Pu
      refine take_ (i := 7) (N := some 21) (v := ?_) (a' := ?_) #[true, true, true, true, true, true, true, true, true, true, true, false, false, false, false, false] rfl rfl (take_ofW HT_.out HW_.out (by kernel_rfl)) (fun _ _ _ h => h) (Or.inl ⟨by rfl, ?_⟩) hHeld ?_ ?_
      rotate_left
      ·rintro w' ⟨s0, s1, s2, s3⟩
       go_simp
       with_reducible rfl
      rotate_left
      ·exact X.Pu
      refine take_ (i := 11) (N := some 25) (v := ?_) (a' := ?_) #[true, true, true, true, true, true, true, true, true, true, true, true, false, false, false, false] rfl rfl (take_ofW HT_.out HW_.out (by kernel_rfl)) (fun _ _ _ h => h) (Or.inl ⟨by rfl, ?_⟩) hHeld ?_ ?_
      rotate_left
      ·rintro w' ⟨s0, s1, s2, s3⟩
       go_simp
       with_reducible rfl
      rotate_left
      ·exact X.Pu
      refine pure_ (i := 12) (N := some 26) (v := ?_) (a' := ?_) #[true, true, true, true, true, true, true, true, true, true, true, true, true, false, false, false] rfl rfl (any_of HT_.out (by kernel_rfl)) (fun _ _ _ h => h) (Or.inl ⟨by rfl, ?_⟩) ?_ ?_
      rotate_left
      ·intro w'
       go_simp
       with_reducible rfl
      rotate_left
      ·exact X.Pu
      refine last_ (i := 13) (N := none) #[true, true, true, true, true, true, true, true, true, true, true, true, true, true, false, false] rfl rfl (one_of HT_.out (by kernel_rfl)) (by decide) (fun K hK => ?_)
      refine skip_ (w1 := ?_) (by rfl) rfl ?_ ?_
      rotate_left
      ·go_simp
       rfl
      refine hK.out _ _ ?_
      clear hK K
      refine pure_ (i := 14) (N := some 27) (v := ?_) (a' := ?_) #[true, true, true, true, true, true, true, true, true, true, true, true, true, true, true, false] rfl rfl (any_of HT_.out (by kernel_rfl)) (fun _ _ _ h => h) (Or.inl ⟨by rfl, ?_⟩) ?_ ?_
      rotate_left
      ·intro w'
       go_simp
       with_reducible rfl
      rotate_left
      ·exact X.Pu
      refine last_ (i := 15) (N := none) #[true, true, true, true, true, true, true, true, true, true, true, true, true, true, true, true] rfl rfl (one_of HT_.out (by kernel_rfl)) (by decide) (fun K hK => ?_)
      refine skip_ (w1 := ?_) (by rfl) rfl ?_ ?_
      rotate_left
      ·go_simp
       rfl
      refine hK.out _ _ ?_
      clear hK K
      refine done_ (done_of HT_.out (by kernel_rfl)) ?_
      have hn := HYL.out
      have hle := HLEN.out
      have h2 := H2.out
      have h3 := H3.out
      have hc := C3.out
      have hxl := HXL.out
      have ha : x2_1.toNat = i := by omega
      have hb : x3_1.toNat = ys.length - 1 - i := by omega
      have hw2 : wrap64 (x2_1 + 1) = ((i + 1 : Nat) : Int) := by unfold wrap64; omega
      have hw3 : wrap64 (x3_1 - 1) = (ys.length : Int) - 1 - ((i + 1 : Nat) : Int) := by unfold wrap64; omega
      have HW2 := X.A hw2
      have HW3 := X.A hw3
      have hset : ∀ m, m < ys.length → ((x0_1.set x2_1.toNat e3).set x3_1.toNat e2)[m]? = if m < i + 1 ∨ ys.length - 1 - (i + 1) < m then ys.reverse[m]? else ys[m]? := by
        intro m hm
        have hxi := HX.out i (by omega)
        rw [if_neg (by omega)] at hxi
        have hxj := HX.out (ys.length - 1 - i) (by omega)
        rw [if_neg (by omega)] at hxj
        have hE2 : some e2 = ys[i]? := by rw [HE2.out, ha, List.getD_eq_getElem?_getD, hxi, List.getElem?_eq_getElem (by omega)]; rfl
        have hE3 : some e3 = ys[ys.length - 1 - i]? := by rw [HE3.out, hb, List.getD_eq_getElem?_getD, hxj, List.getElem?_eq_getElem (by omega)]; rfl
        rw [ha, hb]
        by_cases hmb : m = ys.length - 1 - i
        · subst hmb
          rw [List.getElem?_set_self (by rw [List.length_set]; omega), if_pos (by omega), List.getElem?_reverse hm, hE2]
          congr 1
          omega
        · rw [List.getElem?_set_ne (by omega)]
          by_cases hma : m = i
          · subst hma
            rw [List.getElem?_set_self (by omega), if_pos (by omega), List.getElem?_reverse hm, hE3]
          · rw [List.getElem?_set_ne (by omega), HX.out m hm]
            by_cases hcc : m < i ∨ ys.length - 1 - i < m
            · rw [if_pos hcc, if_pos (by omega)]
            · rw [if_neg hcc, if_neg (by omega)]
      have HSET := X.A hset
      clear hset hw2 hw3 h2 h3 hc hxl ha hb hn hle
      try go_wp2
      go_roundg (ys.length - (i + 1))
      case measure => have := HKQ.out; have := C3.out; have := H2.out; have := H3.out; omega
      case rel =>
        refine ⟨(x0_1.set x2_1.toNat e3).set x3_1.toNat e2, wrap64 (x2_1 + 1), wrap64 (x3_1 - 1), i + 1, ?qa, ?qb, HW2.out, HW3.out, Nat.le_refl _, by have := C3.out; have := H2.out; have := H3.out; omega, by rw [List.length_set, List.length_set]; exact HXL.out, HSET, ?qc, ?qd, ?qe⟩
        case qa => rfl
        case qb => rfl
        case qc => exact HQ2
        case qd => exact ⟨Kept.setCell (p := ⟨go8, x3_1.toNat * 2 + 1, none⟩) (Kept.setCell (p := ⟨go8, x3_1.toNat * 2, none⟩) (Kept.setCell (p := ⟨go8, x2_1.toNat * 2 + 1, none⟩) (Kept.setCell (p := ⟨go8, x2_1.toNat * 2, none⟩) HK1.out (.inl rfl) _) (.inl rfl) _) (.inl rfl) _) (.inl rfl) _⟩
        case qe => exact ⟨below_set (below_set (below_set (below_set HB1.out GB8.out) GB8.out) GB8.out) GB8.out⟩
    · have c3b0 : decide (x2_1 < x3_1) = false := decide_eq_false c3
      have hfin : x0_1 = ys.reverse := by
        apply List.ext_getElem?
        intro m
        rcases Nat.lt_or_ge m ys.length with hm | hm
        · rw [HX.out m hm]
          by_cases hc : m < i ∨ ys.length - 1 - i < m
          · rw [if_pos hc]
          · rw [if_neg hc, List.getElem?_reverse hm]
            congr 1
            omega
        · rw [List.getElem?_eq_none (by omega), List.getElem?_eq_none (by simp; exact hm)]
      subst hfin
      go_wp2
      first | go_end0 | ((try simp only [Exit.inBlock, Exit.then]); refine bodyPost_ret (results_none rfl _ _ _) rfl ?_)
      refine ⟨rfl, ?_, X.G, Kept.mono HK.out (fun k_ hk => HP0.out k_ hk)⟩
      rw [← HE.out]
      exact HBK.out _ (fun k_ _ hne hlt => HK.out.2 k_ hlt (fun he => hne he.symm)) HO_0.out

end Go.Proofs.Ytldeaeeolibpjag.Q
