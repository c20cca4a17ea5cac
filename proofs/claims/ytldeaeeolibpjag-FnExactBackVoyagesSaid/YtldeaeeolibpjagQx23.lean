-- by wip/xprint.py, a program of this session over the kit's print: not trusted, Lean checks it.
import Derived.Test.YtldeaeeolibpjagXShort
import Derived.Test.YtldeaeeolibpjagQx0
import Derived.Test.YtldeaeeolibpjagQx7
import Derived.Test.YtldeaeeolibpjagQx8
import Derived.Test.YtldeaeeolibpjagQx19
import Derived.Test.YtldeaeeolibpjagQx21
import Derived.Test.YtldeaeeolibpjagQx22
import Derived.Test.YtldeaeeolibpjagXMark
namespace Go.Proofs.Ytldeaeeolibpjag.Q
open Go.RowKit Go.Proofs.YtldeaeeolibpjagW.PrintWords Go.Proofs.YtldeaeeolibpjagW.PrintLast Go.Proofs.YtldeaeeolibpjagW.PrintMore
attribute [local go_sem] max2_int min2_int max_two min_two max_three min_three max_four min_four   -- for this text's walks alone
set_option linter.unusedVariables false
set_option linter.unusedSimpArgs false

/-! ### impl_BackVoyages: function 8 -/
-- IMPORT: Derived.Test.YtldeaeeolibpjagXMark
mutual
def impl_BackVoyages.j0 : Nat → List (S43) → Bool → Int → Int → Int → Option ((List (S43)) × Bool)
 | 0, _, _, _, _, _ => none
 | k + 1, x1, x19, x295000, x295001, x295002 => if x19 = true then (some (([] : List (S43)), false)) else ((impl_Isles_allIn.f x295000 x295001 x295002 0).bind fun bt296 => ((impl_Isles_sailed.f k x295000 x295001 x295002 bt296.1 bt296.2 x1).bind fun bt300 => (if bt300.2.2 ≥ 0 then (impl_BackVoyages.j1 k x1 true x295000 x295001 x295002) else ((impl_Places_code.f k bt300.1 bt300.2.1).bind fun t306 => ((impl_Isles_far.f x295000 x295001 x295002).bind fun t307 => ((impl_Isles_allIn.f x295000 x295001 x295002 t307).bind fun bt308 => ((impl_Places_code.f k bt308.1 bt308.2).bind fun t312 => (impl_BackVoyages.j1 k x1 (t306 != t312) x295000 x295001 x295002))))))))
def impl_BackVoyages.j1 : Nat → List (S43) → Bool → Int → Int → Int → Option ((List (S43)) × Bool)
 | 0, _, _, _, _, _ => none
 | k + 1, x1, x39, x295000, x295001, x295002 => if x39 = true then (some (([] : List (S43)), false)) else (impl_BackVoyages.l0 k (([] : List (S43))) 0 x1 (x1.length : Int) 0 x295000 x295001 x295002)
def impl_BackVoyages.l0 : Nat → List (S43) → Int → List (S43) → Int → Int → Int → Int → Int → Option ((List (S43)) × Bool)
 | 0, _, _, _, _, _, _, _, _ => none
 | k + 1, x8, x9, x41, x42, x43, x295000, x295001, x295002 => if x43 < x42 then (if 0 ≤ x43 then (if x43 < (x41.length : Int) then ((impl_Isles_far.f x295000 x295001 x295002).bind fun t318 => ((slices_Clone_int_int.f ((rd_T43 x41 x43).f1)).bind fun t319 => (if x8.length < 4398046511104 then (impl_BackVoyages.l0 k (x8 ++ [(⟨wrap64 (t318 - x9), t319⟩ : S43)]) ((rd_T43 x41 x43).f0) x41 x42 (wrap64 (x43 + 1)) x295000 x295001 x295002) else (none)))) else (none)) else (none)) else ((impl_Voyage.f x8).bind fun t325 => (some (t325, true)))
end
def impl_BackVoyages.f (k : Nat) (a0_0 : Int) (a0_1 : Int) (a0_2 : Int) (l1 : List (S43)) : Option ((List (S43)) × Bool) := (impl_IsIsles.f a0_0 a0_1 a0_2).bind fun t295 => (if t295 = true then (impl_BackVoyages.j0 k l1 (decide ((l1.length : Int) > 40)) a0_0 a0_1 a0_2) else (impl_BackVoyages.j0 k l1 true a0_0 a0_1 a0_2))
theorem impl_BackVoyages.mono_l : ∀ k, (∀ y0 y1 y2 y3 y4, LeO (impl_BackVoyages.j0 k y0 y1 y2 y3 y4) (impl_BackVoyages.j0 (k + 1) y0 y1 y2 y3 y4)) ∧ (∀ y0 y1 y2 y3 y4, LeO (impl_BackVoyages.j1 k y0 y1 y2 y3 y4) (impl_BackVoyages.j1 (k + 1) y0 y1 y2 y3 y4)) ∧ (∀ y0 y1 y2 y3 y4 y5 y6 y7, LeO (impl_BackVoyages.l0 k y0 y1 y2 y3 y4 y5 y6 y7) (impl_BackVoyages.l0 (k + 1) y0 y1 y2 y3 y4 y5 y6 y7))
 | 0 => ⟨fun _ _ _ _ _ r h => by simp [impl_BackVoyages.j0] at h, fun _ _ _ _ _ r h => by simp [impl_BackVoyages.j1] at h, fun _ _ _ _ _ _ _ _ r h => by simp [impl_BackVoyages.l0] at h⟩
 | k + 1 => by
  obtain ⟨ih0, ih1, ih2⟩ := impl_BackVoyages.mono_l k
  refine ⟨?_, ?_, ?_⟩
  ·intro y0 y1 y2 y3 y4
   unfold impl_BackVoyages.j0
   repeat' first
   | (with_reducible exact ih0 _ _ _ _ _)
   | (with_reducible exact ih1 _ _ _ _ _)
   | (with_reducible exact ih2 _ _ _ _ _ _ _ _)
   | (with_reducible exact impl_Isles_sailed.mono _ _ _ _ _ _ _)
   | (with_reducible exact impl_Places_code.mono _ _ _)
   | (with_reducible exact LeO.refl _)
   | (with_reducible exact LeO.none _)
   | (with_reducible refine LeO.ite ?_ ?_)
   | (with_reducible refine LeO.bind ?_ (fun _ => ?_))
  ·intro y0 y1 y2 y3 y4
   unfold impl_BackVoyages.j1
   repeat' first
   | (with_reducible exact ih0 _ _ _ _ _)
   | (with_reducible exact ih1 _ _ _ _ _)
   | (with_reducible exact ih2 _ _ _ _ _ _ _ _)
   | (with_reducible exact impl_Isles_sailed.mono _ _ _ _ _ _ _)
   | (with_reducible exact impl_Places_code.mono _ _ _)
   | (with_reducible exact LeO.refl _)
   | (with_reducible exact LeO.none _)
   | (with_reducible refine LeO.ite ?_ ?_)
   | (with_reducible refine LeO.bind ?_ (fun _ => ?_))
  ·intro y0 y1 y2 y3 y4 y5 y6 y7
   unfold impl_BackVoyages.l0
   repeat' first
   | (with_reducible exact ih0 _ _ _ _ _)
   | (with_reducible exact ih1 _ _ _ _ _)
   | (with_reducible exact ih2 _ _ _ _ _ _ _ _)
   | (with_reducible exact impl_Isles_sailed.mono _ _ _ _ _ _ _)
   | (with_reducible exact impl_Places_code.mono _ _ _)
   | (with_reducible exact LeO.refl _)
   | (with_reducible exact LeO.none _)
   | (with_reducible refine LeO.ite ?_ ?_)
   | (with_reducible refine LeO.bind ?_ (fun _ => ?_))
theorem impl_BackVoyages.mono : ∀ a0 a1 a2 a3 k, LeO (impl_BackVoyages.f k a0 a1 a2 a3) (impl_BackVoyages.f (k + 1) a0 a1 a2 a3) := by
 intro a0 a1 a2 a3 k
 obtain ⟨ih0, ih1, ih2⟩ := impl_BackVoyages.mono_l k
 unfold impl_BackVoyages.f
 repeat' first
   | (with_reducible exact ih0 _ _ _ _ _)
   | (with_reducible exact ih1 _ _ _ _ _)
   | (with_reducible exact ih2 _ _ _ _ _ _ _ _)
   | (with_reducible exact impl_Isles_sailed.mono _ _ _ _ _ _ _)
   | (with_reducible exact impl_Places_code.mono _ _ _)
   | (with_reducible exact LeO.refl _)
   | (with_reducible exact LeO.none _)
   | (with_reducible refine LeO.ite ?_ ?_)
   | (with_reducible refine LeO.bind ?_ (fun _ => ?_))
def impl_BackVoyages.T3 : Bool × List (List Nat × List Nat) := (true, [([], []), ([], []), ([1], [1]), ([], []), ([0, 2, 3, 2], [0, 2, 3]), ([4], [4]), ([5], [5]), ([5], [5]), ([], []), ([8, 6, 4, 0, 1, 2, 3, 4, 5, 6, 8], [6, 8]), ([7, 9, 0, 1, 2, 3, 4, 5, 6, 7, 8, 9], [7])])
def impl_BackVoyages.B3 : List Nat := [0, 0, 2, 0, 15, 31, 63, 63, 0, 383, 1023]
theorem impl_BackVoyages.tab3 : rtab .any (opsOf Try.f8 3) = impl_BackVoyages.T3 := by kernel_rfl
theorem impl_BackVoyages.bits3 : waitsOk impl_BackVoyages.T3.2 impl_BackVoyages.B3 = true := by kernel_rfl
def impl_BackVoyages.T4 : Bool × List (List Nat × List Nat) := (true, [([], []), ([0], [0]), ([1], [1]), ([2], [2]), ([3, 2, 2], [2, 3]), ([2], [2]), ([2], [2]), ([6, 4, 2], [2, 6]), ([5, 7, 7, 2], [2, 5, 7]), ([8, 8, 2], [2, 8]), ([4, 9, 2], [2, 4, 9]), ([2, 10], [2, 10])])
def impl_BackVoyages.B4 : List Nat := [0, 1, 3, 7, 15, 7, 7, 95, 255, 511, 1023, 2047]
theorem impl_BackVoyages.tab4 : rtab .any (opsOf Try.f8 4) = impl_BackVoyages.T4 := by kernel_rfl
theorem impl_BackVoyages.bits4 : waitsOk impl_BackVoyages.T4.2 impl_BackVoyages.B4 = true := by kernel_rfl
def impl_BackVoyages.T10 : Bool × List (List Nat × List Nat) := (true, [([], []), ([], []), ([1], [1]), ([], []), ([2, 3], [2, 3]), ([], []), ([5], [5]), ([6, 2], [6]), ([4, 7], [4, 7]), ([8], [8]), ([0, 9, 7], [0, 9]), ([], []), ([11], [11]), ([10, 10, 0, 1, 2, 3, 4, 5, 6, 7, 8, 9, 10], [0, 10]), ([12, 13, 0, 1, 2, 3, 4, 5, 6, 7, 8, 9, 10, 11, 12, 13], [3, 12])])
def impl_BackVoyages.B10 : List Nat := [0, 0, 2, 0, 14, 0, 32, 102, 254, 510, 1023, 0, 2048, 2047, 16383]
theorem impl_BackVoyages.tab10 : rtab .any (opsOf Try.f8 10) = impl_BackVoyages.T10 := by kernel_rfl
theorem impl_BackVoyages.bits10 : waitsOk impl_BackVoyages.T10.2 impl_BackVoyages.B10 = true := by kernel_rfl
set_option maxHeartbeats 8000000 in
set_option maxRecDepth 100000 in
theorem impl_BackVoyages.calls (k : Nat) (a0_0 : Int) (a0_1 : Int) (a0_2 : Int) (A1 : Option Addr) (c1 : Nat) (l1 : List (S43)) (r1 : List (S43)) (r2 : Bool) (w : World) (hr1 : Kd.C k43 w A1 l1.length l1) (hc1 : l1.length ≤ c1) (h : impl_BackVoyages.f k a0_0 a0_1 a0_2 l1 = some (r1, r2)) :
  Calls Try.prog 8 #[.agg #[.int .i64 a0_0, .int .i64 a0_1, .int .i64 a0_2], .slice A1 l1.length c1] w fun e w' => ∃ v0_ : Value, e = .returned (.tuple #[v0_, .bool r2]) ∧ Kd.S k43 43 w' w.heap.size (fun _ => True) v0_ r1 ∧ Below w.heap.size w w' := by
 have hu29 := Try.underlying29
 have hu41 := Try.underlying41
 have hu43 := Try.underlying43
 have HR1 := X.A hr1
 have HC1 := X.A hc1
 clear hr1 hc1
 have HB := X.A (Below.refl w.heap.size w)
 have H : ((impl_IsIsles.f a0_0 a0_1 a0_2).bind fun t295 => (if t295 = true then (impl_BackVoyages.j0 k l1 (decide ((l1.length : Int) > 40)) a0_0 a0_1 a0_2) else (impl_BackVoyages.j0 k l1 true a0_0 a0_1 a0_2))) = some (r1, r2) := h
 clear h
 have HC3 := X.A H
 clear H
 go_enter Try.func8, Try.ntmps8
 go_upto_region 1 with (first | ((with_reducible refine gate_dst (N := 2) rfl ?_); (try (refine gate_guard (by rfl) ?_; dsimp only)); refine box_event ?hg (N := 2) ?hd (cs := #[.int .i64 a0_0, .int .i64 a0_1, .int .i64 a0_2]) (t := 29) ?hr ?_; (case hd => rfl); (case hg => rfl); (case hr => exact X.R); intro gb294 hg w4 hbox hb; have n0_ := X.A (below_step X.G hb); have n1_ := X.A (hbox); have n2_ := X.A ((by rw [hg]; exact (below_size X.G) : w.heap.size ≤ gb294)); have n3_ := X.A ((by rw [hg]; exact (below_size X.G) : w.heap.size ≤ gb294)); clear HB; have HB := n0_; have BK294 := n1_; have GW294 := n2_; have GE294 := n3_; clear n0_ n1_ n2_ n3_; clear hb hbox hg))
 (try simp only [Act.put, List.setIfInBounds_toArray, List.set_cons_zero, List.set_cons_succ])
 go_cut [19] (fun v19 wc => ∃ (kq : Nat) (x19_2 : Bool), v19 = .bool x19_2 ∧ Aside0 (impl_BackVoyages.j0 kq l1 x19_2 a0_0 a0_1 a0_2 = some (r1, r2)) ∧ Aside0 (kq ≤ k) ∧ Aside0 (wc.heap[gb294]? = some (.cells #[.int .i64 a0_0, .int .i64 a0_1, .int .i64 a0_2] 29 (0, 0))) ∧ Aside0 (Below w.heap.size w wc))
 case first =>
  have H := HC3.out
  clear HC3
  replace H := Option.bind_eq_some_iff.mp H
  obtain ⟨t295, A50, H⟩ := H
  replace H : (if t295 = true then (impl_BackVoyages.j0 k l1 (decide ((l1.length : Int) > 40)) a0_0 a0_1 a0_2) else (impl_BackVoyages.j0 k l1 true a0_0 a0_1 a0_2)) = some (r1, r2) := H
  have A5 := X.A A50
  clear A50
  by_cases c6 : t295 = true
  ·subst c6
   have H1 : (impl_BackVoyages.j0 k l1 (decide ((l1.length : Int) > 40)) a0_0 a0_1 a0_2) = some (r1, r2) := by rw [if_pos rfl] at H; exact H
   clear H
   have H := H1
   clear H1
   have H' := X.A H
   clear H
   have hcz7_0 : w4.cell? ⟨gb294, 0, none⟩ = some (.int .i64 a0_0) := (blk_cell BK294.out 0).trans rfl
   have hcz7_1 : w4.cell? ⟨gb294, 1, none⟩ = some (.int .i64 a0_1) := (blk_cell BK294.out 1).trans rfl
   have hcz7_2 : w4.cell? ⟨gb294, 2, none⟩ = some (.int .i64 a0_2) := (blk_cell BK294.out 2).trans rfl
   have hfz7_0 := blk_frozen BK294.out 0
   have hfz7_1 := blk_frozen BK294.out 1
   have hfz7_2 := blk_frozen BK294.out 2
   go_wp2_with (first | ((with_reducible refine gate_callee (f := 20) rfl ?_); refine goesL_ (some 13) rfl rfl Try.func20 (by kernel_rfl) rfl #[.agg #[.int .i64 a0_0, .int .i64 a0_1, .int .i64 a0_2]] rfl X.M ?_; (with_reducible refine (impl_IsIsles.calls a0_0 a0_1 a0_2 true _ A5.out).mono ?_); rintro e w8 ⟨rfl, hb⟩; refine ⟨_, rfl, ?_⟩; have n0_ := X.A (X.BB BK294 hb); have n1_ := X.A (below_step X.G hb); clear BK294 HB; have BK294 := n0_; have HB := n1_; clear n0_ n1_; (try clear hb); (try clear hb2); (try clear hk); (try clear hi)))
   go_meet
   case rel => exact ⟨_, (decide ((l1.length : Int) > 40)), (by first | rfl | (simp; done) | (simp [*]; done)), H', ⟨by first | omega | exact Nat.le_refl _⟩, ⟨X.B BK294⟩, ⟨X.G⟩⟩
  ·replace c6 := Bool.eq_false_iff.mpr c6
   subst c6
   have H1 : (impl_BackVoyages.j0 k l1 true a0_0 a0_1 a0_2) = some (r1, r2) := by rw [if_neg (show ¬ (false = true) by decide)] at H; exact H
   clear H
   have H := H1
   clear H1
   have H' := X.A H
   clear H
   have hcz9_0 : w4.cell? ⟨gb294, 0, none⟩ = some (.int .i64 a0_0) := (blk_cell BK294.out 0).trans rfl
   have hcz9_1 : w4.cell? ⟨gb294, 1, none⟩ = some (.int .i64 a0_1) := (blk_cell BK294.out 1).trans rfl
   have hcz9_2 : w4.cell? ⟨gb294, 2, none⟩ = some (.int .i64 a0_2) := (blk_cell BK294.out 2).trans rfl
   have hfz9_0 := blk_frozen BK294.out 0
   have hfz9_1 := blk_frozen BK294.out 1
   have hfz9_2 := blk_frozen BK294.out 2
   go_wp2_with (first | ((with_reducible refine gate_callee (f := 20) rfl ?_); refine goesL_ (some 13) rfl rfl Try.func20 (by kernel_rfl) rfl #[.agg #[.int .i64 a0_0, .int .i64 a0_1, .int .i64 a0_2]] rfl X.M ?_; (with_reducible refine (impl_IsIsles.calls a0_0 a0_1 a0_2 false _ A5.out).mono ?_); rintro e w10 ⟨rfl, hb⟩; refine ⟨_, rfl, ?_⟩; have n0_ := X.A (X.BB BK294 hb); have n1_ := X.A (below_step X.G hb); clear BK294 HB; have BK294 := n0_; have HB := n1_; clear n0_ n1_; (try clear hb); (try clear hb2); (try clear hk); (try clear hi)))
   go_meet
   case rel => exact ⟨_, (true), (by first | rfl | (simp; done) | (simp [*]; done)), H', ⟨by first | omega | exact Nat.le_refl _⟩, ⟨X.B BK294⟩, ⟨X.G⟩⟩
 case rest =>
  clear HC3
  try clear c1
  try clear c2
  try clear p2
  try clear c6
  try clear c8
  try clear hcz7_0
  try clear hcz7_1
  try clear hcz7_2
  try clear hcz9_0
  try clear hcz9_1
  try clear hcz9_2
  try clear hfz7_0
  try clear hfz7_1
  try clear hfz7_2
  try clear hfz9_0
  try clear hfz9_1
  try clear hfz9_2
  obtain ⟨kq, x19_2, rfl, HA, HJ2, BK294, HB⟩ := hcut
  cases kq with
  | zero => exact absurd HA.out (by simp [impl_BackVoyages.j0])
  | succ kj2 =>
   have H := HA.out
   clear HA
   simp only [impl_BackVoyages.j0] at H
   by_cases c11 : x19_2 = true
   ·subst c11
    have H1 : (some (([] : List (S43)), false)) = some (r1, r2) := by rw [if_pos rfl] at H; exact H
    clear H
    have H := H1
    clear H1
    simp only [Option.some.injEq, Prod.mk.injEq] at H
    obtain ⟨rfl, rfl⟩ := H
    go_wp2
    go_ret2
    exact ⟨_, by first | rfl | (simp [errW_none, errW_some] <;> rfl) | (simp [*, errW_none, errW_some] <;> rfl), by first | exact Kd.S_nil _ _ _ _ _ | exact Kd.N_nil _ _ _ _ _ | exact Kd.V_nil _ _ _ _ _ | exact Kd.Q_nil _ _ _ _ _ | exact Kd.R_nil _ _ _ _ _, X.G⟩
   ·replace c11 := Bool.eq_false_iff.mpr c11
    subst c11
    have H1 : ((impl_Isles_allIn.f a0_0 a0_1 a0_2 0).bind fun bt296 => ((impl_Isles_sailed.f kj2 a0_0 a0_1 a0_2 bt296.1 bt296.2 l1).bind fun bt300 => (if bt300.2.2 ≥ 0 then (impl_BackVoyages.j1 kj2 l1 true a0_0 a0_1 a0_2) else ((impl_Places_code.f kj2 bt300.1 bt300.2.1).bind fun t306 => ((impl_Isles_far.f a0_0 a0_1 a0_2).bind fun t307 => ((impl_Isles_allIn.f a0_0 a0_1 a0_2 t307).bind fun bt308 => ((impl_Places_code.f kj2 bt308.1 bt308.2).bind fun t312 => (impl_BackVoyages.j1 kj2 l1 (t306 != t312) a0_0 a0_1 a0_2)))))))) = some (r1, r2) := by rw [if_neg (show ¬ (false = true) by decide)] at H; exact H
    clear H
    have H := H1
    clear H1
    replace H := Option.bind_eq_some_iff.mp H
    obtain ⟨⟨t296, t299⟩, A120, H⟩ := H
    replace H : ((impl_Isles_sailed.f kj2 a0_0 a0_1 a0_2 t296 t299 l1).bind fun bt300 => (if bt300.2.2 ≥ 0 then (impl_BackVoyages.j1 kj2 l1 true a0_0 a0_1 a0_2) else ((impl_Places_code.f kj2 bt300.1 bt300.2.1).bind fun t306 => ((impl_Isles_far.f a0_0 a0_1 a0_2).bind fun t307 => ((impl_Isles_allIn.f a0_0 a0_1 a0_2 t307).bind fun bt308 => ((impl_Places_code.f kj2 bt308.1 bt308.2).bind fun t312 => (impl_BackVoyages.j1 kj2 l1 (t306 != t312) a0_0 a0_1 a0_2))))))) = some (r1, r2) := H
    have A12 := X.A A120
    clear A120
    replace H := Option.bind_eq_some_iff.mp H
    obtain ⟨⟨t300, t303, t304⟩, A130, H⟩ := H
    replace H : (if t304 ≥ 0 then (impl_BackVoyages.j1 kj2 l1 true a0_0 a0_1 a0_2) else ((impl_Places_code.f kj2 t300 t303).bind fun t306 => ((impl_Isles_far.f a0_0 a0_1 a0_2).bind fun t307 => ((impl_Isles_allIn.f a0_0 a0_1 a0_2 t307).bind fun bt308 => ((impl_Places_code.f kj2 bt308.1 bt308.2).bind fun t312 => (impl_BackVoyages.j1 kj2 l1 (t306 != t312) a0_0 a0_1 a0_2)))))) = some (r1, r2) := H
    have A13 := X.A A130
    clear A130
    have HC14 := X.A H
    clear H
    try go_wp2
    have n0_ := X.A (blk_drew BK294.out)
    have n1_ := X.A (below_drew1 HB.out)
    clear BK294 HB
    have BK294 := n0_
    have HB := n1_
    clear n0_ n1_
    refine start_ (n := 11) (S := fun w' => w'.cell? ⟨gb294, 0, none⟩ = some (.int .i64 a0_0) ∧ w'.cell? ⟨gb294, 1, none⟩ = some (.int .i64 a0_1) ∧ w'.cell? ⟨gb294, 2, none⟩ = some (.int .i64 a0_2)) (ds := []) #[false, false, false, false, false, false, false, false, false, false, false] (by kernel_rfl) rfl rfl ⟨(blk_cell BK294.out 0).trans rfl, (blk_cell BK294.out 1).trans rfl, (blk_cell BK294.out 2).trans rfl⟩ (fun hHeld => ?_); refine with_tabW impl_BackVoyages.tab3 impl_BackVoyages.bits3 (fun HT_ HW_ => ?_)
    generalize wc.drew = w15 at BK294 HB hHeld ⊢
    refine pure_ (i := 3) (N := some 24) (v := ?_) (a' := ?_) #[false, false, false, true, false, false, false, false, false, false, false] rfl rfl (any_of HT_.out (by kernel_rfl)) (fun _ _ _ h => h) (Or.inl ⟨by rfl, ?_⟩) ?_ ?_
    rotate_left
    ·intro w'
     go_simp
     with_reducible rfl
    rotate_left
    ·exact X.Pu
    refine take_ (i := 0) (N := some 21) (v := ?_) (a' := ?_) #[true, false, false, true, false, false, false, false, false, false, false] rfl rfl (take_ofW HT_.out HW_.out (by kernel_rfl)) (fun _ _ _ h => h) (Or.inl ⟨by rfl, ?_⟩) hHeld ?_ ?_
    rotate_left
    ·rintro w' ⟨s0, s1, s2⟩
     go_simp
     with_reducible rfl
    rotate_left
    ·exact X.Pu
    refine take_ (i := 1) (N := some 22) (v := ?_) (a' := ?_) #[true, true, false, true, false, false, false, false, false, false, false] rfl rfl (take_ofW HT_.out HW_.out (by kernel_rfl)) (fun _ _ _ h => h) (Or.inl ⟨by rfl, ?_⟩) hHeld ?_ ?_
    rotate_left
    ·rintro w' ⟨s0, s1, s2⟩
     go_simp
     with_reducible rfl
    rotate_left
    ·exact X.Pu
    refine join_ (σ := Value × Value × Nat) 2 #[true, true, true, true, true, true, true, true, true, false, false] (fun s_ => [(23, .agg #[s_.1, .int .i64 t299]), (25, .tuple #[.agg #[s_.2.1, .int .i64 t303], .int .i64 t304]), (6, .pointer (some ⟨s_.2.2, 0, none⟩)), (20, .tuple #[.agg #[s_.2.1, .int .i64 t303], .int .i64 t304]), (26, .agg #[s_.2.1, .int .i64 t303]), (27, .int .i64 t304)]) (fun s_ w' => (w'.cell? ⟨gb294, 0, none⟩ = some (.int .i64 a0_0) ∧ w'.cell? ⟨gb294, 1, none⟩ = some (.int .i64 a0_1) ∧ w'.cell? ⟨gb294, 2, none⟩ = some (.int .i64 a0_2)) ∧ (Kd.R (Kd.int .i64) 3 w' w.heap.size (fun _ => True) s_.1 t296) ∧ (Kd.V (Kd.int .i64) 3 w' w.heap.size (fun k_ => k_ ≠ gb294 ∧ k_ ≠ s_.2.2) s_.2.1 t300) ∧ (w'.heap[gb294]? = some (.cells #[.int .i64 a0_0, .int .i64 a0_1, .int .i64 a0_2] 29 (0, 0))) ∧ (w'.heap[s_.2.2]? = some (.cells #[.slice none 0 0, .int .i64 0] 41 (0, 0))) ∧ (w.heap.size ≤ s_.2.2) ∧ (w.heap.size ≤ s_.2.2) ∧ (gb294 ≠ s_.2.2) ∧ (s_.2.2 ≠ gb294) ∧ (Below w.heap.size w w')) ?_ ?_
    rotate_left
    ·intro hCont
     refine two_ (i := 2) (j := 8) (Ni := some 23) (Nj := some 6) #[true, true, true, true, false, false, false, false, false, false, false] #[true, true, false, true, false, false, false, false, true, false, false] rfl rfl rfl rfl (two_of HT_.out (by kernel_rfl)) (by decide) (by decide) (fun K hK => ?_) (fun K hK => ?_)
     ·skip
      refine goes_ Try.func22 (by kernel_rfl) rfl #[.agg #[.int .i64 a0_0, .int .i64 a0_1, .int .i64 a0_2], .int .i64 0] (by rfl) rfl rfl X.M ?_
      with_reducible refine (impl_Isles_allIn.calls a0_0 a0_1 a0_2 0 t296 t299 _ A12.out).mono ?_
      rintro e w16 ⟨v297, rfl, ho0, hb⟩
      refine ⟨_, rfl, ?_⟩
      have n0_ := X.A (Kd.R_lower ho0 (below_size X.G))
      have n1_ := X.A (X.BB BK294 hb)
      have n2_ := X.A (below_step X.G hb)
      clear BK294 HB
      have HO298 := n0_
      have BK294 := n1_
      have HB := n2_
      clear n0_ n1_ n2_
      (try clear hb)
      (try clear hb2)
      (try clear hk)
      (try clear hi)
      (try clear ho0)
      obtain ⟨Ao17, co17, eo17⟩ := Kd.R_slice HO298.out
      (first | subst eo17 | (injection eo17 with f1_ f2_ f3_; have f4_ := f1_.symm; have f5_ := f3_.symm; clear f1_ f2_ f3_; subst f4_; subst f5_))
      refine hK.out _ _ ⟨(blk_cell BK294.out 0).trans rfl, (blk_cell BK294.out 1).trans rfl, (blk_cell BK294.out 2).trans rfl⟩ (fun hHeld => ?_)
      clear hK K
      refine norm_ (a' := ?_) ?_ ?_
      rotate_left
      ·exact (show Act.put _ (some 23) _ = _ from X.Pu)
      refine two_ (i := 4) (j := 8) (Ni := some 25) (Nj := some 6) #[true, true, true, true, true, false, false, false, false, false, false] #[true, true, true, true, false, false, false, false, true, false, false] rfl rfl rfl rfl (two_of HT_.out (by kernel_rfl)) (by decide) (by decide) (fun K hK => ?_) (fun K hK => ?_)
      ·skip
       refine goes_ Try.func21 (by kernel_rfl) rfl #[.agg #[.int .i64 a0_0, .int .i64 a0_1, .int .i64 a0_2], .agg #[.slice Ao17 t296.length co17, .int .i64 t299], .slice A1 l1.length c1] (by rfl) rfl rfl X.M ?_
       with_reducible refine (impl_Isles_sailed.calls kj2 a0_0 a0_1 a0_2 (fun k_ => some k_ = (.slice Ao17 t296.length co17 : Value).ownBlock) _ _ t296 t299 _ _ l1 t300 t303 t304 _ ?side1 ?side2 ?side3 A13.out).mono ?_
       (case side1 => exact Kd.R_V (Kd.R_tight rfl (Kd.R_types (HO298.out) BK294.out (by decide))))
       (case side2 => exact X.C (Kd.C_below HR1.out HB.out))
       (case side3 => exact HC1.out)
       rintro e w18 ⟨v301, rfl, ho0, hb⟩
       refine ⟨_, rfl, ?_⟩
       have n0_ := X.A (Kd.R_below (X.K HO298) hb)
       have n1_ := X.A (Kd.V_lower (Kd.V_mono (ok' := fun k_ => k_ ≠ gb294) ho0 (fun k_ hk_ => Or.elim hk_ (fun hs_ => ((Kd.R_types (HO298.out) BK294.out (by decide)).1 k_ hs_.symm).2) (fun hn_ => (Kd.freshB (g := gb294) (o := .cells #[.int .i64 a0_0, .int .i64 a0_1, .int .i64 a0_2] 29 (0, 0)) (X.B BK294) k_ hn_)))) (below_size X.G))
       have n2_ := X.A (X.BB BK294 hb)
       have n3_ := X.A (below_step X.G hb)
       clear HO298 BK294 HB
       have HO298 := n0_
       have HO302 := n1_
       have BK294 := n2_
       have HB := n3_
       clear n0_ n1_ n2_ n3_
       (try clear hb)
       (try clear hb2)
       (try clear hk)
       (try clear hi)
       (try clear ho0)
       refine hK.out _ _ ⟨(blk_cell BK294.out 0).trans rfl, (blk_cell BK294.out 1).trans rfl, (blk_cell BK294.out 2).trans rfl⟩ (fun hHeld => ?_)
       clear hK K
       refine norm_ (a' := ?_) ?_ ?_
       rotate_left
       ·exact (show Act.put _ (some 25) _ = _ from X.Pu)
       refine pure_ (i := 5) (N := some 20) (v := ?_) (a' := ?_) #[true, true, true, true, true, true, false, false, false, false, false] rfl rfl (any_of HT_.out (by kernel_rfl)) (fun _ _ _ h => h) (Or.inl ⟨by rfl, ?_⟩) ?_ ?_
       rotate_left
       ·intro w'
        go_simp
        with_reducible rfl
       rotate_left
       ·exact X.Pu
       refine pure_ (i := 6) (N := some 26) (v := ?_) (a' := ?_) #[true, true, true, true, true, true, true, false, false, false, false] rfl rfl (any_of HT_.out (by kernel_rfl)) (fun _ _ _ h => h) (Or.inl ⟨by rfl, ?_⟩) ?_ ?_
       rotate_left
       ·intro w'
        go_simp
        with_reducible rfl
       rotate_left
       ·exact X.Pu
       refine pure_ (i := 7) (N := some 27) (v := ?_) (a' := ?_) #[true, true, true, true, true, true, true, true, false, false, false] rfl rfl (any_of HT_.out (by kernel_rfl)) (fun _ _ _ h => h) (Or.inl ⟨by rfl, ?_⟩) ?_ ?_
       rotate_left
       ·intro w'
        go_simp
        with_reducible rfl
       rotate_left
       ·exact X.Pu
       refine one_ (i := 8) (N := some 6) #[true, true, true, true, true, true, true, true, true, false, false] rfl rfl (one_of HT_.out (by kernel_rfl)) (by decide) (fun K hK => ?_)
       refine box_step ?hg (N := 6) ?hd (cs := #[.slice none 0 0, .int .i64 0]) (t := 41) ?hr ?_; (case hd => rfl); (case hg => rfl); (case hr => exact X.R)
       intro gb305 hg w19 hbox hb
       have n0_ := X.A (Kd.R_below (X.K HO298) hb)
       have n1_ := X.A (Kd.V_below (Kd.V_elderB (by (with_reducible repeat (first | apply Kd.V_alloc | apply Kd.V_drewN | apply Kd.V_drew)); exact HO302.out) gb305 (Nat.le_of_eq hg.symm)) hb)
       have n2_ := X.A (X.BB BK294 hb)
       have n3_ := X.A (below_step X.G hb)
       have n4_ := X.A (hbox)
       have n5_ := X.A ((by rw [hg]; exact (below_size X.G) : w.heap.size ≤ gb305))
       have n6_ := X.A ((by rw [hg]; exact (below_size X.G) : w.heap.size ≤ gb305))
       have n7_ := X.A (X.NL hg BK294)
       have n8_ := X.A (X.NG hg BK294)
       clear HO298 HO302 BK294 HB
       have HO298 := n0_
       have HO302 := n1_
       have BK294 := n2_
       have HB := n3_
       have BK305 := n4_
       have GW305 := n5_
       have GE305 := n6_
       have NB294_305 := n7_
       have NB305_294 := n8_
       clear n0_ n1_ n2_ n3_ n4_ n5_ n6_ n7_ n8_ hb hbox hg
       refine hK.out _ _ ⟨(blk_cell BK294.out 0).trans rfl, (blk_cell BK294.out 1).trans rfl, (blk_cell BK294.out 2).trans rfl⟩ (fun hHeld => ?_)
       clear hK K
       refine norm_ (a' := ?_) ?_ ?_
       rotate_left
       ·exact (show Act.put _ (some 6) _ = _ from X.Pu)
       exact norm_ (by simp only [putAll, Act.put, List.setIfInBounds_toArray, List.set_cons_zero, List.set_cons_succ]) (hCont (.slice Ao17 t296.length co17, v301, gb305) _ ⟨hHeld, (X.K HO298), (by (with_reducible repeat (first | apply Kd.V_alloc | apply Kd.V_drewN | apply Kd.V_drew)); exact HO302.out), (X.B BK294), (X.B BK305), GW305.out, GE305.out, NB294_305.out, NB305_294.out, X.G⟩)
      ·skip
       refine box_step ?hg (N := 6) ?hd (cs := #[.slice none 0 0, .int .i64 0]) (t := 41) ?hr ?_; (case hd => rfl); (case hg => rfl); (case hr => exact X.R)
       intro gb305 hg w17 hbox hb
       have n0_ := X.A (Kd.R_below (X.K HO298) hb)
       have n1_ := X.A (X.BB BK294 hb)
       have n2_ := X.A (below_step X.G hb)
       have n3_ := X.A (hbox)
       have n4_ := X.A ((by rw [hg]; exact (below_size X.G) : w.heap.size ≤ gb305))
       have n5_ := X.A ((by rw [hg]; exact (below_size X.G) : w.heap.size ≤ gb305))
       have n6_ := X.A (X.NL hg BK294)
       have n7_ := X.A (X.NG hg BK294)
       clear HO298 BK294 HB
       have HO298 := n0_
       have BK294 := n1_
       have HB := n2_
       have BK305 := n3_
       have GW305 := n4_
       have GE305 := n5_
       have NB294_305 := n6_
       have NB305_294 := n7_
       clear n0_ n1_ n2_ n3_ n4_ n5_ n6_ n7_ hb hbox hg
       obtain ⟨Ao18, co18, eo18⟩ := Kd.R_slice HO298.out
       (first | subst eo18 | (injection eo18 with f1_ f2_ f3_; have f4_ := f1_.symm; have f5_ := f3_.symm; clear f1_ f2_ f3_; subst f4_; subst f5_))
       refine hK.out _ _ ⟨(blk_cell BK294.out 0).trans rfl, (blk_cell BK294.out 1).trans rfl, (blk_cell BK294.out 2).trans rfl⟩ (fun hHeld => ?_)
       clear hK K
       refine norm_ (a' := ?_) ?_ ?_
       rotate_left
       ·exact (show Act.put _ (some 6) _ = _ from X.Pu)
       refine one_ (i := 4) (N := some 25) #[true, true, true, true, true, false, false, false, true, false, false] rfl rfl (one_of HT_.out (by kernel_rfl)) (by decide) (fun K hK => ?_)
       refine goes_ Try.func21 (by kernel_rfl) rfl #[.agg #[.int .i64 a0_0, .int .i64 a0_1, .int .i64 a0_2], .agg #[.slice Ao18 t296.length co18, .int .i64 t299], .slice A1 l1.length c1] (by rfl) rfl rfl X.M ?_
       with_reducible refine (impl_Isles_sailed.calls kj2 a0_0 a0_1 a0_2 (fun k_ => some k_ = (.slice Ao18 t296.length co18 : Value).ownBlock) _ _ t296 t299 _ _ l1 t300 t303 t304 _ ?side1 ?side2 ?side3 A13.out).mono ?_
       (case side1 => exact Kd.R_V (Kd.R_tight rfl (Kd.R_types (Kd.R_types (HO298.out) BK294.out (by decide)) BK305.out (by decide))))
       (case side2 => exact X.C (Kd.C_below HR1.out HB.out))
       (case side3 => exact HC1.out)
       rintro e w19 ⟨v301, rfl, ho0, hb⟩
       refine ⟨_, rfl, ?_⟩
       have n0_ := X.A (Kd.R_below (X.K HO298) hb)
       have n1_ := X.A (Kd.V_lower (Kd.V_mono (ok' := fun k_ => k_ ≠ gb294 ∧ k_ ≠ gb305) ho0 (fun k_ hk_ => ⟨Or.elim hk_ (fun hs_ => ((Kd.R_types (Kd.R_types (HO298.out) BK294.out (by decide)) BK305.out (by decide)).1 k_ hs_.symm).1.2) (fun hn_ => (Kd.freshB (g := gb294) (o := .cells #[.int .i64 a0_0, .int .i64 a0_1, .int .i64 a0_2] 29 (0, 0)) (X.B BK294) k_ hn_)), Or.elim hk_ (fun hs_ => ((Kd.R_types (Kd.R_types (HO298.out) BK294.out (by decide)) BK305.out (by decide)).1 k_ hs_.symm).2) (fun hn_ => (Kd.freshB (g := gb305) (o := .cells #[.slice none 0 0, .int .i64 0] 41 (0, 0)) (X.B BK305) k_ hn_))⟩)) (below_size X.G))
       have n2_ := X.A (X.BB BK294 hb)
       have n3_ := X.A (X.BB BK305 hb)
       have n4_ := X.A (below_step X.G hb)
       clear HO298 BK294 BK305 HB
       have HO298 := n0_
       have HO302 := n1_
       have BK294 := n2_
       have BK305 := n3_
       have HB := n4_
       clear n0_ n1_ n2_ n3_ n4_
       (try clear hb)
       (try clear hb2)
       (try clear hk)
       (try clear hi)
       (try clear ho0)
       refine hK.out _ _ ⟨(blk_cell BK294.out 0).trans rfl, (blk_cell BK294.out 1).trans rfl, (blk_cell BK294.out 2).trans rfl⟩ (fun hHeld => ?_)
       clear hK K
       refine norm_ (a' := ?_) ?_ ?_
       rotate_left
       ·exact (show Act.put _ (some 25) _ = _ from X.Pu)
       refine pure_ (i := 5) (N := some 20) (v := ?_) (a' := ?_) #[true, true, true, true, true, true, false, false, true, false, false] rfl rfl (any_of HT_.out (by kernel_rfl)) (fun _ _ _ h => h) (Or.inl ⟨by rfl, ?_⟩) ?_ ?_
       rotate_left
       ·intro w'
        go_simp
        with_reducible rfl
       rotate_left
       ·exact X.Pu
       refine pure_ (i := 6) (N := some 26) (v := ?_) (a' := ?_) #[true, true, true, true, true, true, true, false, true, false, false] rfl rfl (any_of HT_.out (by kernel_rfl)) (fun _ _ _ h => h) (Or.inl ⟨by rfl, ?_⟩) ?_ ?_
       rotate_left
       ·intro w'
        go_simp
        with_reducible rfl
       rotate_left
       ·exact X.Pu
       refine pure_ (i := 7) (N := some 27) (v := ?_) (a' := ?_) #[true, true, true, true, true, true, true, true, true, false, false] rfl rfl (any_of HT_.out (by kernel_rfl)) (fun _ _ _ h => h) (Or.inl ⟨by rfl, ?_⟩) ?_ ?_
       rotate_left
       ·intro w'
        go_simp
        with_reducible rfl
       rotate_left
       ·exact X.Pu
       exact norm_ (by simp only [putAll, Act.put, List.setIfInBounds_toArray, List.set_cons_zero, List.set_cons_succ]) (hCont (.slice Ao18 t296.length co18, v301, gb305) _ ⟨hHeld, (X.K HO298), (by (with_reducible repeat (first | apply Kd.V_alloc | apply Kd.V_drewN | apply Kd.V_drew)); exact HO302.out), (X.B BK294), (X.B BK305), GW305.out, GE305.out, NB294_305.out, NB305_294.out, X.G⟩)
     ·skip
      refine box_step ?hg (N := 6) ?hd (cs := #[.slice none 0 0, .int .i64 0]) (t := 41) ?hr ?_; (case hd => rfl); (case hg => rfl); (case hr => exact X.R)
      intro gb305 hg w16 hbox hb
      have n0_ := X.A (X.BB BK294 hb)
      have n1_ := X.A (below_step X.G hb)
      have n2_ := X.A (hbox)
      have n3_ := X.A ((by rw [hg]; exact (below_size X.G) : w.heap.size ≤ gb305))
      have n4_ := X.A ((by rw [hg]; exact (below_size X.G) : w.heap.size ≤ gb305))
      have n5_ := X.A (X.NL hg BK294)
      have n6_ := X.A (X.NG hg BK294)
      clear BK294 HB
      have BK294 := n0_
      have HB := n1_
      have BK305 := n2_
      have GW305 := n3_
      have GE305 := n4_
      have NB294_305 := n5_
      have NB305_294 := n6_
      clear n0_ n1_ n2_ n3_ n4_ n5_ n6_ hb hbox hg
      refine hK.out _ _ ⟨(blk_cell BK294.out 0).trans rfl, (blk_cell BK294.out 1).trans rfl, (blk_cell BK294.out 2).trans rfl⟩ (fun hHeld => ?_)
      clear hK K
      refine norm_ (a' := ?_) ?_ ?_
      rotate_left
      ·exact (show Act.put _ (some 6) _ = _ from X.Pu)
      refine one_ (i := 2) (N := some 23) #[true, true, true, true, false, false, false, false, true, false, false] rfl rfl (one_of HT_.out (by kernel_rfl)) (by decide) (fun K hK => ?_)
      refine goes_ Try.func22 (by kernel_rfl) rfl #[.agg #[.int .i64 a0_0, .int .i64 a0_1, .int .i64 a0_2], .int .i64 0] (by rfl) rfl rfl X.M ?_
      with_reducible refine (impl_Isles_allIn.calls a0_0 a0_1 a0_2 0 t296 t299 _ A12.out).mono ?_
      rintro e w17 ⟨v297, rfl, ho0, hb⟩
      refine ⟨_, rfl, ?_⟩
      have n0_ := X.A (Kd.R_lower ho0 (below_size X.G))
      have n1_ := X.A (X.BB BK294 hb)
      have n2_ := X.A (X.BB BK305 hb)
      have n3_ := X.A (below_step X.G hb)
      clear BK294 BK305 HB
      have HO298 := n0_
      have BK294 := n1_
      have BK305 := n2_
      have HB := n3_
      clear n0_ n1_ n2_ n3_
      (try clear hb)
      (try clear hb2)
      (try clear hk)
      (try clear hi)
      (try clear ho0)
      obtain ⟨Ao18, co18, eo18⟩ := Kd.R_slice HO298.out
      (first | subst eo18 | (injection eo18 with f1_ f2_ f3_; have f4_ := f1_.symm; have f5_ := f3_.symm; clear f1_ f2_ f3_; subst f4_; subst f5_))
      refine hK.out _ _ ⟨(blk_cell BK294.out 0).trans rfl, (blk_cell BK294.out 1).trans rfl, (blk_cell BK294.out 2).trans rfl⟩ (fun hHeld => ?_)
      clear hK K
      refine norm_ (a' := ?_) ?_ ?_
      rotate_left
      ·exact (show Act.put _ (some 23) _ = _ from X.Pu)
      refine one_ (i := 4) (N := some 25) #[true, true, true, true, true, false, false, false, true, false, false] rfl rfl (one_of HT_.out (by kernel_rfl)) (by decide) (fun K hK => ?_)
      refine goes_ Try.func21 (by kernel_rfl) rfl #[.agg #[.int .i64 a0_0, .int .i64 a0_1, .int .i64 a0_2], .agg #[.slice Ao18 t296.length co18, .int .i64 t299], .slice A1 l1.length c1] (by rfl) rfl rfl X.M ?_
      with_reducible refine (impl_Isles_sailed.calls kj2 a0_0 a0_1 a0_2 (fun k_ => some k_ = (.slice Ao18 t296.length co18 : Value).ownBlock) _ _ t296 t299 _ _ l1 t300 t303 t304 _ ?side1 ?side2 ?side3 A13.out).mono ?_
      (case side1 => exact Kd.R_V (Kd.R_tight rfl (Kd.R_types (Kd.R_types (HO298.out) BK294.out (by decide)) BK305.out (by decide))))
      (case side2 => exact X.C (Kd.C_below HR1.out HB.out))
      (case side3 => exact HC1.out)
      rintro e w19 ⟨v301, rfl, ho0, hb⟩
      refine ⟨_, rfl, ?_⟩
      have n0_ := X.A (Kd.R_below (X.K HO298) hb)
      have n1_ := X.A (Kd.V_lower (Kd.V_mono (ok' := fun k_ => k_ ≠ gb294 ∧ k_ ≠ gb305) ho0 (fun k_ hk_ => ⟨Or.elim hk_ (fun hs_ => ((Kd.R_types (Kd.R_types (HO298.out) BK294.out (by decide)) BK305.out (by decide)).1 k_ hs_.symm).1.2) (fun hn_ => (Kd.freshB (g := gb294) (o := .cells #[.int .i64 a0_0, .int .i64 a0_1, .int .i64 a0_2] 29 (0, 0)) (X.B BK294) k_ hn_)), Or.elim hk_ (fun hs_ => ((Kd.R_types (Kd.R_types (HO298.out) BK294.out (by decide)) BK305.out (by decide)).1 k_ hs_.symm).2) (fun hn_ => (Kd.freshB (g := gb305) (o := .cells #[.slice none 0 0, .int .i64 0] 41 (0, 0)) (X.B BK305) k_ hn_))⟩)) (below_size X.G))
      have n2_ := X.A (X.BB BK294 hb)
      have n3_ := X.A (X.BB BK305 hb)
      have n4_ := X.A (below_step X.G hb)
      clear HO298 BK294 BK305 HB
      have HO298 := n0_
      have HO302 := n1_
      have BK294 := n2_
      have BK305 := n3_
      have HB := n4_
      clear n0_ n1_ n2_ n3_ n4_
      (try clear hb)
      (try clear hb2)
      (try clear hk)
      (try clear hi)
      (try clear ho0)
      refine hK.out _ _ ⟨(blk_cell BK294.out 0).trans rfl, (blk_cell BK294.out 1).trans rfl, (blk_cell BK294.out 2).trans rfl⟩ (fun hHeld => ?_)
      clear hK K
      refine norm_ (a' := ?_) ?_ ?_
      rotate_left
      ·exact (show Act.put _ (some 25) _ = _ from X.Pu)
      refine pure_ (i := 5) (N := some 20) (v := ?_) (a' := ?_) #[true, true, true, true, true, true, false, false, true, false, false] rfl rfl (any_of HT_.out (by kernel_rfl)) (fun _ _ _ h => h) (Or.inl ⟨by rfl, ?_⟩) ?_ ?_
      rotate_left
      ·intro w'
       go_simp
       with_reducible rfl
      rotate_left
      ·exact X.Pu
      refine pure_ (i := 6) (N := some 26) (v := ?_) (a' := ?_) #[true, true, true, true, true, true, true, false, true, false, false] rfl rfl (any_of HT_.out (by kernel_rfl)) (fun _ _ _ h => h) (Or.inl ⟨by rfl, ?_⟩) ?_ ?_
      rotate_left
      ·intro w'
       go_simp
       with_reducible rfl
      rotate_left
      ·exact X.Pu
      refine pure_ (i := 7) (N := some 27) (v := ?_) (a' := ?_) #[true, true, true, true, true, true, true, true, true, false, false] rfl rfl (any_of HT_.out (by kernel_rfl)) (fun _ _ _ h => h) (Or.inl ⟨by rfl, ?_⟩) ?_ ?_
      rotate_left
      ·intro w'
       go_simp
       with_reducible rfl
      rotate_left
      ·exact X.Pu
      exact norm_ (by simp only [putAll, Act.put, List.setIfInBounds_toArray, List.set_cons_zero, List.set_cons_succ]) (hCont (.slice Ao18 t296.length co18, v301, gb305) _ ⟨hHeld, (X.K HO298), (by (with_reducible repeat (first | apply Kd.V_alloc | apply Kd.V_drewN | apply Kd.V_drew)); exact HO302.out), (X.B BK294), (X.B BK305), GW305.out, GE305.out, NB294_305.out, NB305_294.out, X.G⟩)
    rintro ⟨v297, v301, gb305⟩ w20 ⟨hS_, h0_, h1_, h2_, h3_, h4_, h5_, h6_, h7_, h8_⟩
    have n0_ : Aside0 (Kd.R (Kd.int .i64) 3 w20 w.heap.size (fun _ => True) v297 t296) := ⟨h0_⟩
    have n1_ : Aside0 (Kd.V (Kd.int .i64) 3 w20 w.heap.size (fun k_ => k_ ≠ gb294 ∧ k_ ≠ gb305) v301 t300) := ⟨h1_⟩
    have n2_ : Aside0 (w20.heap[gb294]? = some (.cells #[.int .i64 a0_0, .int .i64 a0_1, .int .i64 a0_2] 29 (0, 0))) := ⟨h2_⟩
    have n3_ : Aside0 (w20.heap[gb305]? = some (.cells #[.slice none 0 0, .int .i64 0] 41 (0, 0))) := ⟨h3_⟩
    have n4_ : Aside0 (w.heap.size ≤ gb305) := ⟨h4_⟩
    have n5_ : Aside0 (w.heap.size ≤ gb305) := ⟨h5_⟩
    have n6_ : Aside0 (gb294 ≠ gb305) := ⟨h6_⟩
    have n7_ : Aside0 (gb305 ≠ gb294) := ⟨h7_⟩
    have n8_ : Aside0 (Below w.heap.size w w20) := ⟨h8_⟩
    clear BK294 HB h0_ h1_ h2_ h3_ h4_ h5_ h6_ h7_ h8_
    have HO298 := n0_
    have HO302 := n1_
    have BK294 := n2_
    have BK305 := n3_
    have GW305 := n4_
    have GE305 := n5_
    have NB294_305 := n6_
    have NB305_294 := n7_
    have HB := n8_
    clear n0_ n1_ n2_ n3_ n4_ n5_ n6_ n7_ n8_
    have hHeld : w20.cell? ⟨gb294, 0, none⟩ = some (.int .i64 a0_0) ∧ w20.cell? ⟨gb294, 1, none⟩ = some (.int .i64 a0_1) ∧ w20.cell? ⟨gb294, 2, none⟩ = some (.int .i64 a0_2) := hS_
    obtain ⟨Ao21, co21, eo21⟩ := Kd.V_slice HO302.out
    (first | subst eo21 | (injection eo21 with f1_ f2_ f3_; have f4_ := f1_.symm; have f5_ := f3_.symm; clear f1_ f2_ f3_; subst f4_; subst f5_))
    refine norm_ (a' := ?_) ?_ ?_
    rotate_left
    ·simp only [putAll, Act.put, List.setIfInBounds_toArray, List.set_cons_zero, List.set_cons_succ]
     rfl
    refine one_ (i := 9) (N := none) #[true, true, true, true, true, true, true, true, true, true, false] rfl rfl (one_of HT_.out (by kernel_rfl)) (by decide) (fun K hK => ?_)
    have hs22 : w20.cell? ⟨gb305, 0, none⟩ = some (.slice none 0 0) := (blk_cell BK305.out 0).trans rfl
    have hfs22 := blk_frozen BK305.out 0
    have hns22_0 := NB294_305.out
    have hms22_0 := NB305_294.out
    have hs23 : w20.cell? ⟨gb305, 1, none⟩ = some (.int .i64 0) := (blk_cell BK305.out 1).trans rfl
    have hfs23 := blk_frozen BK305.out 1
    have hns23_0 := NB294_305.out
    have hms23_0 := NB305_294.out
    refine skip_ (w1 := ?_) (by rfl) rfl ?_ ?_
    rotate_left
    ·go_simp
     rfl
    refine hK.out _ _ ⟨((cell_far (p := ⟨gb305, _, none⟩) NB294_305.out _).trans (((cell_far (p := ⟨gb305, _, none⟩) NB294_305.out _).trans (hHeld.1)))), ((cell_far (p := ⟨gb305, _, none⟩) NB294_305.out _).trans (((cell_far (p := ⟨gb305, _, none⟩) NB294_305.out _).trans (hHeld.2.1)))), ((cell_far (p := ⟨gb305, _, none⟩) NB294_305.out _).trans (((cell_far (p := ⟨gb305, _, none⟩) NB294_305.out _).trans (hHeld.2.2))))⟩ (fun hHeld => ?_)
    clear hK K
    refine pure_ (i := 10) (N := some 7) (v := ?_) (a' := ?_) #[true, true, true, true, true, true, true, true, true, true, true] rfl rfl (any_of HT_.out (by kernel_rfl)) (fun _ _ _ h => h) (Or.inl ⟨by rfl, ?_⟩) ?_ ?_
    rotate_left
    ·intro w'
     go_simp
     with_reducible rfl
    rotate_left
    ·exact X.Pu
    refine done_ (done_of HT_.out (by kernel_rfl)) ?_
    go_upto_region 4 with (fail)
    go_cut [39] (fun v39 wc => ∃ (kq : Nat) (x39_13 : Bool), v39 = .bool x39_13 ∧ Aside0 (impl_BackVoyages.j1 kq l1 x39_13 a0_0 a0_1 a0_2 = some (r1, r2)) ∧ Aside0 (kq ≤ kj2) ∧ Aside0 (Kd.V (Kd.int .i64) 3 wc w.heap.size (fun k_ => k_ ≠ gb294 ∧ k_ ≠ gb305) (.slice Ao21 t300.length co21) t300) ∧ Aside0 (wc.heap[gb294]? = some (.cells #[.int .i64 a0_0, .int .i64 a0_1, .int .i64 a0_2] 29 (0, 0))) ∧ Aside0 (wc.heap[gb305]? = some (.cells #[(.slice Ao21 t300.length co21), .int .i64 t303] 41 (0, 0))) ∧ Aside0 (Below w.heap.size w wc))
    case first =>
     have H := HC14.out
     clear HC14
     by_cases c24 : t304 ≥ 0
     ·rw [if_pos c24] at H
      have c24b0 : decide (0 ≤ t304) = true := decide_eq_true c24
      clear c24
      (first | rw [c24b0] | (simp only [i64_w, i32_w]; rw [c24b0]) | skip)
      have H' := X.A H
      clear H
      try go_wp2
      have n0_ : Aside0 (Kd.R (Kd.int .i64) 3 ((w20.setCell ⟨gb305, 0, none⟩ (.slice Ao21 t300.length co21)).setCell ⟨gb305, 1, none⟩ (.int .i64 t303)) w.heap.size (fun _ => True) v297 t296) := ⟨by (with_reducible repeat (first | apply Kd.R_alloc | apply Kd.R_drewN | apply Kd.R_drew)); exact Kd.R_mono (Kd.R_far (p := ⟨gb305, 1, none⟩) (Kd.R_far (p := ⟨gb305, 0, none⟩) (Kd.R_types HO298.out BK305.out (by decide)) (fun _ hk => hk.2) (.slice Ao21 t300.length co21)) (fun _ hk => hk.2) (.int .i64 t303)) (fun _ hk => trivial)⟩
      have n1_ : Aside0 (Kd.V (Kd.int .i64) 3 ((w20.setCell ⟨gb305, 0, none⟩ (.slice Ao21 t300.length co21)).setCell ⟨gb305, 1, none⟩ (.int .i64 t303)) w.heap.size (fun k_ => k_ ≠ gb294 ∧ k_ ≠ gb305) (.slice Ao21 t300.length co21) t300) := ⟨by (with_reducible repeat (first | apply Kd.V_alloc | apply Kd.V_drewN | apply Kd.V_drew)); exact Kd.V_mono (Kd.V_far (p := ⟨gb305, 1, none⟩) (Kd.V_far (p := ⟨gb305, 0, none⟩) (Kd.V_mono HO302.out (fun k_ hk => (⟨hk, hk.2⟩ : _ ∧ k_ ≠ gb305))) (fun _ hk => hk.2) (.slice Ao21 t300.length co21)) (fun _ hk => hk.2) (.int .i64 t303)) (fun _ hk => ⟨hk.1.1, hk.1.2⟩)⟩
      have n2_ : Aside0 (((w20.setCell ⟨gb305, 0, none⟩ (.slice Ao21 t300.length co21)).setCell ⟨gb305, 1, none⟩ (.int .i64 t303)).heap[gb294]? = some (.cells #[.int .i64 a0_0, .int .i64 a0_1, .int .i64 a0_2] 29 (0, 0))) := ⟨by (with_reducible repeat (first | refine blk_drewN ?_ _ | refine blk_drew ?_ | refine blk_alloc ?_ _)); refine blk_far ?_ NB294_305.out _; (with_reducible repeat (first | refine blk_drewN ?_ _ | refine blk_drew ?_ | refine blk_alloc ?_ _)); refine blk_far ?_ NB294_305.out _; (with_reducible repeat (first | refine blk_drewN ?_ _ | refine blk_drew ?_ | refine blk_alloc ?_ _)); exact BK294.out⟩
      have n3_ : Aside0 (((w20.setCell ⟨gb305, 0, none⟩ (.slice Ao21 t300.length co21)).setCell ⟨gb305, 1, none⟩ (.int .i64 t303)).heap[gb305]? = some (.cells #[.slice Ao21 t300.length co21, .int .i64 t303] 41 (0, 0))) := ⟨by (with_reducible repeat (first | refine blk_drewN ?_ _ | refine blk_drew ?_ | refine blk_alloc ?_ _)); refine blk_put (cs := #[.slice Ao21 t300.length co21, .int .i64 0]) ?_ 1 _ rfl; (with_reducible repeat (first | refine blk_drewN ?_ _ | refine blk_drew ?_ | refine blk_alloc ?_ _)); refine blk_put (cs := #[.slice none 0 0, .int .i64 0]) ?_ 0 _ rfl; (with_reducible repeat (first | refine blk_drewN ?_ _ | refine blk_drew ?_ | refine blk_alloc ?_ _)); exact BK305.out⟩
      have n4_ : Aside0 (Below w.heap.size w ((w20.setCell ⟨gb305, 0, none⟩ (.slice Ao21 t300.length co21)).setCell ⟨gb305, 1, none⟩ (.int .i64 t303))) := ⟨X.G⟩
      (try clear HO298)
      (try clear HO302)
      (try clear BK294)
      (try clear BK305)
      (try clear HB)
      generalize ((w20.setCell ⟨gb305, 0, none⟩ (.slice Ao21 t300.length co21)).setCell ⟨gb305, 1, none⟩ (.int .i64 t303)) = w25 at n0_ n1_ n2_ n3_ n4_ ⊢
      have HO298 := n0_
      have HO302 := n1_
      have BK294 := n2_
      have BK305 := n3_
      have HB := n4_
      clear n0_ n1_ n2_ n3_ n4_
      have n0_ := X.A (Kd.R_drew HO298.out)
      have n1_ := X.A (Kd.V_drew HO302.out)
      have n2_ := X.A (blk_drew BK294.out)
      have n3_ := X.A (blk_drew BK305.out)
      have n4_ := X.A (below_drew1 HB.out)
      clear HO298 HO302 BK294 BK305 HB
      have HO298 := n0_
      have HO302 := n1_
      have BK294 := n2_
      have BK305 := n3_
      have HB := n4_
      clear n0_ n1_ n2_ n3_ n4_
      refine start_ (n := 12) (S := fun w' => True) (ds := []) #[false, false, false, false, false, false, false, false, false, false, false, false] (by kernel_rfl) rfl rfl trivial (fun hHeld => ?_); refine with_tabW impl_BackVoyages.tab4 impl_BackVoyages.bits4 (fun HT_ HW_ => ?_)
      generalize w25.drew = w26 at HO298 HO302 BK294 BK305 HB hHeld ⊢
      refine pure_ (i := 0) (N := some 28) (v := ?_) (a' := ?_) #[true, false, false, false, false, false, false, false, false, false, false, false] rfl rfl (any_of HT_.out (by kernel_rfl)) (fun _ _ _ h => h) (Or.inl ⟨by rfl, ?_⟩) ?_ ?_
      rotate_left
      ·intro w'
       go_simp
       with_reducible rfl
      rotate_left
      ·exact X.Pu
      refine pure_ (i := 1) (N := some 29) (v := ?_) (a' := ?_) #[true, true, false, false, false, false, false, false, false, false, false, false] rfl rfl (any_of HT_.out (by kernel_rfl)) (fun _ _ _ h => h) (Or.inl ⟨by rfl, ?_⟩) ?_ ?_
      rotate_left
      ·intro w'
       go_simp
       with_reducible rfl
      rotate_left
      ·exact X.Pu
      refine pure_ (i := 2) (N := some 30) (v := ?_) (a' := ?_) #[true, true, true, false, false, false, false, false, false, false, false, false] rfl rfl (any_of HT_.out (by kernel_rfl)) (fun _ _ _ h => h) (Or.inl ⟨by rfl, ?_⟩) ?_ ?_
      rotate_left
      ·intro w'
       go_simp
       with_reducible rfl
      rotate_left
      ·exact X.Pu
      refine pure_ (i := 3) (N := some 31) (v := undef) (a' := ?_) #[true, true, true, true, false, false, false, false, false, false, false, false] rfl rfl (any_of HT_.out (by kernel_rfl)) (fun _ _ _ h => h) (Or.inr ⟨by rfl, rfl⟩) ?_ ?_
      rotate_left
      ·exact X.Pu
      refine pure_ (i := 4) (N := some 32) (v := undef) (a' := ?_) #[true, true, true, true, true, false, false, false, false, false, false, false] rfl rfl (any_of HT_.out (by kernel_rfl)) (fun _ _ _ h => h) (Or.inr ⟨by rfl, rfl⟩) ?_ ?_
      rotate_left
      ·exact X.Pu
      refine pure_ (i := 5) (N := some 33) (v := undef) (a' := ?_) #[true, true, true, true, true, true, false, false, false, false, false, false] rfl rfl (any_of HT_.out (by kernel_rfl)) (fun _ _ _ h => h) (Or.inr ⟨by rfl, rfl⟩) ?_ ?_
      rotate_left
      ·exact X.Pu
      refine pure_ (i := 6) (N := some 34) (v := undef) (a' := ?_) #[true, true, true, true, true, true, true, false, false, false, false, false] rfl rfl (any_of HT_.out (by kernel_rfl)) (fun _ _ _ h => h) (Or.inr ⟨by rfl, rfl⟩) ?_ ?_
      rotate_left
      ·exact X.Pu
      refine pure_ (i := 7) (N := some 35) (v := undef) (a' := ?_) #[true, true, true, true, true, true, true, true, false, false, false, false] rfl rfl (any_of HT_.out (by kernel_rfl)) (fun _ _ _ h => h) (Or.inr ⟨by rfl, rfl⟩) ?_ ?_
      rotate_left
      ·exact X.Pu
      refine pure_ (i := 8) (N := some 36) (v := undef) (a' := ?_) #[true, true, true, true, true, true, true, true, true, false, false, false] rfl rfl (any_of HT_.out (by kernel_rfl)) (fun _ _ _ h => h) (Or.inr ⟨by rfl, rfl⟩) ?_ ?_
      rotate_left
      ·exact X.Pu
      refine pure_ (i := 9) (N := some 37) (v := undef) (a' := ?_) #[true, true, true, true, true, true, true, true, true, true, false, false] rfl rfl (any_of HT_.out (by kernel_rfl)) (fun _ _ _ h => h) (Or.inr ⟨by rfl, rfl⟩) ?_ ?_
      rotate_left
      ·exact X.Pu
      refine pure_ (i := 10) (N := some 38) (v := undef) (a' := ?_) #[true, true, true, true, true, true, true, true, true, true, true, false] rfl rfl (any_of HT_.out (by kernel_rfl)) (fun _ _ _ h => h) (Or.inr ⟨by rfl, rfl⟩) ?_ ?_
      rotate_left
      ·exact X.Pu
      refine pure_ (i := 11) (N := some 39) (v := ?_) (a' := ?_) #[true, true, true, true, true, true, true, true, true, true, true, true] rfl rfl (any_of HT_.out (by kernel_rfl)) (fun _ _ _ h => h) (Or.inl ⟨by rfl, ?_⟩) ?_ ?_
      rotate_left
      ·intro w'
       go_simp
       with_reducible rfl
      rotate_left
      ·exact X.Pu
      refine done_ (done_of HT_.out (by kernel_rfl)) ?_
      try go_wp2
      go_meet
      case rel => exact ⟨_, (true), (by first | rfl | (simp; done) | (simp [*]; done)), H', ⟨by have := HJ2.out; first | omega | exact Nat.le_refl _⟩, ⟨by (with_reducible repeat (first | apply Kd.V_alloc | apply Kd.V_drewN | apply Kd.V_drew)); exact HO302.out⟩, ⟨X.B BK294⟩, ⟨X.B BK305⟩, ⟨X.G⟩⟩
     ·rw [if_neg c24] at H
      have c24b0 : decide (0 ≤ t304) = false := decide_eq_false c24
      clear c24
      (first | rw [c24b0] | (simp only [i64_w, i32_w]; rw [c24b0]) | skip)
      replace H := Option.bind_eq_some_iff.mp H
      obtain ⟨t306, A270, H⟩ := H
      replace H : ((impl_Isles_far.f a0_0 a0_1 a0_2).bind fun t307 => ((impl_Isles_allIn.f a0_0 a0_1 a0_2 t307).bind fun bt308 => ((impl_Places_code.f kj2 bt308.1 bt308.2).bind fun t312 => (impl_BackVoyages.j1 kj2 l1 (t306 != t312) a0_0 a0_1 a0_2)))) = some (r1, r2) := H
      have A27 := X.A A270
      clear A270
      replace H := Option.bind_eq_some_iff.mp H
      obtain ⟨t307, A280, H⟩ := H
      replace H : ((impl_Isles_allIn.f a0_0 a0_1 a0_2 t307).bind fun bt308 => ((impl_Places_code.f kj2 bt308.1 bt308.2).bind fun t312 => (impl_BackVoyages.j1 kj2 l1 (t306 != t312) a0_0 a0_1 a0_2))) = some (r1, r2) := H
      have A28 := X.A A280
      clear A280
      replace H := Option.bind_eq_some_iff.mp H
      obtain ⟨⟨t308, t311⟩, A290, H⟩ := H
      replace H : ((impl_Places_code.f kj2 t308 t311).bind fun t312 => (impl_BackVoyages.j1 kj2 l1 (t306 != t312) a0_0 a0_1 a0_2)) = some (r1, r2) := H
      have A29 := X.A A290
      clear A290
      replace H := Option.bind_eq_some_iff.mp H
      obtain ⟨t312, A300, H⟩ := H
      replace H : (impl_BackVoyages.j1 kj2 l1 (t306 != t312) a0_0 a0_1 a0_2) = some (r1, r2) := H
      have A30 := X.A A300
      clear A300
      have H' := X.A H
      clear H
      try go_wp2
      have n0_ : Aside0 (Kd.R (Kd.int .i64) 3 ((w20.setCell ⟨gb305, 0, none⟩ (.slice Ao21 t300.length co21)).setCell ⟨gb305, 1, none⟩ (.int .i64 t303)) w.heap.size (fun _ => True) v297 t296) := ⟨by (with_reducible repeat (first | apply Kd.R_alloc | apply Kd.R_drewN | apply Kd.R_drew)); exact Kd.R_mono (Kd.R_far (p := ⟨gb305, 1, none⟩) (Kd.R_far (p := ⟨gb305, 0, none⟩) (Kd.R_types HO298.out BK305.out (by decide)) (fun _ hk => hk.2) (.slice Ao21 t300.length co21)) (fun _ hk => hk.2) (.int .i64 t303)) (fun _ hk => trivial)⟩
      have n1_ : Aside0 (Kd.V (Kd.int .i64) 3 ((w20.setCell ⟨gb305, 0, none⟩ (.slice Ao21 t300.length co21)).setCell ⟨gb305, 1, none⟩ (.int .i64 t303)) w.heap.size (fun k_ => k_ ≠ gb294 ∧ k_ ≠ gb305) (.slice Ao21 t300.length co21) t300) := ⟨by (with_reducible repeat (first | apply Kd.V_alloc | apply Kd.V_drewN | apply Kd.V_drew)); exact Kd.V_mono (Kd.V_far (p := ⟨gb305, 1, none⟩) (Kd.V_far (p := ⟨gb305, 0, none⟩) (Kd.V_mono HO302.out (fun k_ hk => (⟨hk, hk.2⟩ : _ ∧ k_ ≠ gb305))) (fun _ hk => hk.2) (.slice Ao21 t300.length co21)) (fun _ hk => hk.2) (.int .i64 t303)) (fun _ hk => ⟨hk.1.1, hk.1.2⟩)⟩
      have n2_ : Aside0 (((w20.setCell ⟨gb305, 0, none⟩ (.slice Ao21 t300.length co21)).setCell ⟨gb305, 1, none⟩ (.int .i64 t303)).heap[gb294]? = some (.cells #[.int .i64 a0_0, .int .i64 a0_1, .int .i64 a0_2] 29 (0, 0))) := ⟨by (with_reducible repeat (first | refine blk_drewN ?_ _ | refine blk_drew ?_ | refine blk_alloc ?_ _)); refine blk_far ?_ NB294_305.out _; (with_reducible repeat (first | refine blk_drewN ?_ _ | refine blk_drew ?_ | refine blk_alloc ?_ _)); refine blk_far ?_ NB294_305.out _; (with_reducible repeat (first | refine blk_drewN ?_ _ | refine blk_drew ?_ | refine blk_alloc ?_ _)); exact BK294.out⟩
      have n3_ : Aside0 (((w20.setCell ⟨gb305, 0, none⟩ (.slice Ao21 t300.length co21)).setCell ⟨gb305, 1, none⟩ (.int .i64 t303)).heap[gb305]? = some (.cells #[.slice Ao21 t300.length co21, .int .i64 t303] 41 (0, 0))) := ⟨by (with_reducible repeat (first | refine blk_drewN ?_ _ | refine blk_drew ?_ | refine blk_alloc ?_ _)); refine blk_put (cs := #[.slice Ao21 t300.length co21, .int .i64 0]) ?_ 1 _ rfl; (with_reducible repeat (first | refine blk_drewN ?_ _ | refine blk_drew ?_ | refine blk_alloc ?_ _)); refine blk_put (cs := #[.slice none 0 0, .int .i64 0]) ?_ 0 _ rfl; (with_reducible repeat (first | refine blk_drewN ?_ _ | refine blk_drew ?_ | refine blk_alloc ?_ _)); exact BK305.out⟩
      have n4_ : Aside0 (Below w.heap.size w ((w20.setCell ⟨gb305, 0, none⟩ (.slice Ao21 t300.length co21)).setCell ⟨gb305, 1, none⟩ (.int .i64 t303))) := ⟨X.G⟩
      (try clear HO298)
      (try clear HO302)
      (try clear BK294)
      (try clear BK305)
      (try clear HB)
      generalize ((w20.setCell ⟨gb305, 0, none⟩ (.slice Ao21 t300.length co21)).setCell ⟨gb305, 1, none⟩ (.int .i64 t303)) = w31 at n0_ n1_ n2_ n3_ n4_ ⊢
      have HO298 := n0_
      have HO302 := n1_
      have BK294 := n2_
      have BK305 := n3_
      have HB := n4_
      clear n0_ n1_ n2_ n3_ n4_
      have n0_ := X.A (Kd.R_drew HO298.out)
      have n1_ := X.A (Kd.V_drew HO302.out)
      have n2_ := X.A (blk_drew BK294.out)
      have n3_ := X.A (blk_drew BK305.out)
      have n4_ := X.A (below_drew1 HB.out)
      clear HO298 HO302 BK294 BK305 HB
      have HO298 := n0_
      have HO302 := n1_
      have BK294 := n2_
      have BK305 := n3_
      have HB := n4_
      clear n0_ n1_ n2_ n3_ n4_
      refine start_ (n := 12) (S := fun w' => w'.cell? ⟨gb305, 0, none⟩ = some (.slice Ao21 t300.length co21) ∧ w'.cell? ⟨gb305, 1, none⟩ = some (.int .i64 t303) ∧ w'.cell? ⟨gb294, 0, none⟩ = some (.int .i64 a0_0) ∧ w'.cell? ⟨gb294, 1, none⟩ = some (.int .i64 a0_1) ∧ w'.cell? ⟨gb294, 2, none⟩ = some (.int .i64 a0_2)) (ds := []) #[false, false, false, false, false, false, false, false, false, false, false, false] (by kernel_rfl) rfl rfl ⟨(blk_cell BK305.out 0).trans rfl, (blk_cell BK305.out 1).trans rfl, (blk_cell BK294.out 0).trans rfl, (blk_cell BK294.out 1).trans rfl, (blk_cell BK294.out 2).trans rfl⟩ (fun hHeld => ?_); refine with_tabW impl_BackVoyages.tab4 impl_BackVoyages.bits4 (fun HT_ HW_ => ?_)
      generalize w31.drew = w32 at HO298 HO302 BK294 BK305 HB hHeld ⊢
      refine pure_ (i := 0) (N := some 28) (v := ?_) (a' := ?_) #[true, false, false, false, false, false, false, false, false, false, false, false] rfl rfl (any_of HT_.out (by kernel_rfl)) (fun _ _ _ h => h) (Or.inl ⟨by rfl, ?_⟩) ?_ ?_
      rotate_left
      ·intro w'
       go_simp
       with_reducible rfl
      rotate_left
      ·exact X.Pu
      refine pure_ (i := 1) (N := some 29) (v := ?_) (a' := ?_) #[true, true, false, false, false, false, false, false, false, false, false, false] rfl rfl (any_of HT_.out (by kernel_rfl)) (fun _ _ _ h => h) (Or.inl ⟨by rfl, ?_⟩) ?_ ?_
      rotate_left
      ·intro w'
       go_simp
       with_reducible rfl
      rotate_left
      ·exact X.Pu
      refine pure_ (i := 2) (N := some 30) (v := ?_) (a' := ?_) #[true, true, true, false, false, false, false, false, false, false, false, false] rfl rfl (any_of HT_.out (by kernel_rfl)) (fun _ _ _ h => h) (Or.inl ⟨by rfl, ?_⟩) ?_ ?_
      rotate_left
      ·intro w'
       go_simp
       with_reducible rfl
      rotate_left
      ·exact X.Pu
      refine take_ (i := 3) (N := some 31) (v := ?_) (a' := ?_) #[true, true, true, true, false, false, false, false, false, false, false, false] rfl rfl (take_ofW HT_.out HW_.out (by kernel_rfl)) (fun _ _ _ h => h) (Or.inl ⟨by rfl, ?_⟩) hHeld ?_ ?_
      rotate_left
      ·rintro w' ⟨s0, s1, s2, s3, s4⟩
       go_simp
       with_reducible rfl
      rotate_left
      ·exact X.Pu
      refine take_ (i := 5) (N := some 33) (v := ?_) (a' := ?_) #[true, true, true, true, false, true, false, false, false, false, false, false] rfl rfl (take_ofW HT_.out HW_.out (by kernel_rfl)) (fun _ _ _ h => h) (Or.inl ⟨by rfl, ?_⟩) hHeld ?_ ?_
      rotate_left
      ·rintro w' ⟨s0, s1, s2, s3, s4⟩
       go_simp
       with_reducible rfl
      rotate_left
      ·exact X.Pu
      refine take_ (i := 6) (N := some 34) (v := ?_) (a' := ?_) #[true, true, true, true, false, true, true, false, false, false, false, false] rfl rfl (take_ofW HT_.out HW_.out (by kernel_rfl)) (fun _ _ _ h => h) (Or.inl ⟨by rfl, ?_⟩) hHeld ?_ ?_
      rotate_left
      ·rintro w' ⟨s0, s1, s2, s3, s4⟩
       go_simp
       with_reducible rfl
      rotate_left
      ·exact X.Pu
      refine one_ (i := 4) (N := some 32) #[true, true, true, true, true, true, true, false, false, false, false, false] rfl rfl (one_of HT_.out (by kernel_rfl)) (by decide) (fun K hK => ?_)
      refine goes_ Try.func23 (by kernel_rfl) rfl #[.agg #[.slice Ao21 t300.length co21, .int .i64 t303]] (by rfl) rfl rfl X.M ?_
      with_reducible refine (impl_Places_code.calls kj2 _ _ t300 t303 t306 _ ?side1 ?side2 A27.out).mono ?_
      (case side1 => exact X.C (Kd.V_reads' HO302.out).2.2)
      (case side2 => exact (Kd.V_reads' HO302.out).2.1)
      rintro e w33 ⟨rfl, hb⟩
      refine ⟨_, rfl, ?_⟩
      have n0_ := X.A (Kd.R_below (X.K HO298) hb)
      have n1_ := X.A (Kd.V_below (by (with_reducible repeat (first | apply Kd.V_alloc | apply Kd.V_drewN | apply Kd.V_drew)); exact HO302.out) hb)
      have n2_ := X.A (X.BB BK294 hb)
      have n3_ := X.A (X.BB BK305 hb)
      have n4_ := X.A (below_step X.G hb)
      clear HO298 HO302 BK294 BK305 HB
      have HO298 := n0_
      have HO302 := n1_
      have BK294 := n2_
      have BK305 := n3_
      have HB := n4_
      clear n0_ n1_ n2_ n3_ n4_
      (try clear hb)
      (try clear hb2)
      (try clear hk)
      (try clear hi)
      refine hK.out _ _ ⟨(blk_cell BK305.out 0).trans rfl, (blk_cell BK305.out 1).trans rfl, (blk_cell BK294.out 0).trans rfl, (blk_cell BK294.out 1).trans rfl, (blk_cell BK294.out 2).trans rfl⟩ (fun hHeld => ?_)
      clear hK K
      refine norm_ (a' := ?_) ?_ ?_
      rotate_left
      ·exact (show Act.put _ (some 32) _ = _ from X.Pu)
      refine one_ (i := 7) (N := some 35) #[true, true, true, true, true, true, true, true, false, false, false, false] rfl rfl (one_of HT_.out (by kernel_rfl)) (by decide) (fun K hK => ?_)
      refine goes_ Try.func24 (by kernel_rfl) rfl #[.agg #[.int .i64 a0_0, .int .i64 a0_1, .int .i64 a0_2]] (by rfl) rfl rfl X.M ?_
      with_reducible refine (impl_Isles_far.calls a0_0 a0_1 a0_2 t307 _ A28.out).mono ?_
      rintro e w34 ⟨rfl, hb⟩
      refine ⟨_, rfl, ?_⟩
      have n0_ := X.A (Kd.R_below (X.K HO298) hb)
      have n1_ := X.A (Kd.V_below (by (with_reducible repeat (first | apply Kd.V_alloc | apply Kd.V_drewN | apply Kd.V_drew)); exact HO302.out) hb)
      have n2_ := X.A (X.BB BK294 hb)
      have n3_ := X.A (X.BB BK305 hb)
      have n4_ := X.A (below_step X.G hb)
      clear HO298 HO302 BK294 BK305 HB
      have HO298 := n0_
      have HO302 := n1_
      have BK294 := n2_
      have BK305 := n3_
      have HB := n4_
      clear n0_ n1_ n2_ n3_ n4_
      (try clear hb)
      (try clear hb2)
      (try clear hk)
      (try clear hi)
      refine hK.out _ _ ⟨(blk_cell BK305.out 0).trans rfl, (blk_cell BK305.out 1).trans rfl, (blk_cell BK294.out 0).trans rfl, (blk_cell BK294.out 1).trans rfl, (blk_cell BK294.out 2).trans rfl⟩ (fun hHeld => ?_)
      clear hK K
      refine norm_ (a' := ?_) ?_ ?_
      rotate_left
      ·exact (show Act.put _ (some 35) _ = _ from X.Pu)
      refine one_ (i := 8) (N := some 36) #[true, true, true, true, true, true, true, true, true, false, false, false] rfl rfl (one_of HT_.out (by kernel_rfl)) (by decide) (fun K hK => ?_)
      refine goes_ Try.func22 (by kernel_rfl) rfl #[.agg #[.int .i64 a0_0, .int .i64 a0_1, .int .i64 a0_2], .int .i64 t307] (by rfl) rfl rfl X.M ?_
      with_reducible refine (impl_Isles_allIn.calls a0_0 a0_1 a0_2 t307 t308 t311 _ A29.out).mono ?_
      rintro e w35 ⟨v309, rfl, ho0, hb⟩
      refine ⟨_, rfl, ?_⟩
      have n0_ := X.A (Kd.R_elder' (X.K HO298) (Kd.R_base ho0) hb)
      have n1_ := X.A (Kd.V_elder' (by (with_reducible repeat (first | apply Kd.V_alloc | apply Kd.V_drewN | apply Kd.V_drew)); exact HO302.out) (Kd.R_base ho0) hb)
      have n2_ := X.A (Kd.R_lower (Kd.R_new' ho0 (Kd.R_lt (X.K HO298))) (below_size X.G))
      have n3_ := X.A (X.BB BK294 hb)
      have n4_ := X.A (X.BB BK305 hb)
      have n5_ := X.A (below_step X.G hb)
      clear HO298 HO302 BK294 BK305 HB
      have HO298 := n0_
      have HO302 := n1_
      have HO310 := n2_
      have BK294 := n3_
      have BK305 := n4_
      have HB := n5_
      clear n0_ n1_ n2_ n3_ n4_ n5_
      (try clear hb)
      (try clear hb2)
      (try clear hk)
      (try clear hi)
      (try clear ho0)
      obtain ⟨Ao36, co36, eo36⟩ := Kd.R_slice HO310.out
      (first | subst eo36 | (injection eo36 with f1_ f2_ f3_; have f4_ := f1_.symm; have f5_ := f3_.symm; clear f1_ f2_ f3_; subst f4_; subst f5_))
      refine hK.out _ _ ⟨(blk_cell BK305.out 0).trans rfl, (blk_cell BK305.out 1).trans rfl, (blk_cell BK294.out 0).trans rfl, (blk_cell BK294.out 1).trans rfl, (blk_cell BK294.out 2).trans rfl⟩ (fun hHeld => ?_)
      clear hK K
      refine norm_ (a' := ?_) ?_ ?_
      rotate_left
      ·exact (show Act.put _ (some 36) _ = _ from X.Pu)
      refine one_ (i := 9) (N := some 37) #[true, true, true, true, true, true, true, true, true, true, false, false] rfl rfl (one_of HT_.out (by kernel_rfl)) (by decide) (fun K hK => ?_)
      refine goes_ Try.func23 (by kernel_rfl) rfl #[.agg #[.slice Ao36 t308.length co36, .int .i64 t311]] (by rfl) rfl rfl X.M ?_
      with_reducible refine (impl_Places_code.calls kj2 _ _ t308 t311 t312 _ ?side1 ?side2 A30.out).mono ?_
      (case side1 => exact X.C (Kd.R_reads' HO310.out).2.2)
      (case side2 => exact (Kd.R_reads' HO310.out).2.1)
      rintro e w37 ⟨rfl, hb⟩
      refine ⟨_, rfl, ?_⟩
      have n0_ := X.A (Kd.R_below (X.K HO298) hb)
      have n1_ := X.A (Kd.V_below (by (with_reducible repeat (first | apply Kd.V_alloc | apply Kd.V_drewN | apply Kd.V_drew)); exact HO302.out) hb)
      have n2_ := X.A (Kd.R_below (X.K HO310) hb)
      have n3_ := X.A (X.BB BK294 hb)
      have n4_ := X.A (X.BB BK305 hb)
      have n5_ := X.A (below_step X.G hb)
      clear HO298 HO302 HO310 BK294 BK305 HB
      have HO298 := n0_
      have HO302 := n1_
      have HO310 := n2_
      have BK294 := n3_
      have BK305 := n4_
      have HB := n5_
      clear n0_ n1_ n2_ n3_ n4_ n5_
      (try clear hb)
      (try clear hb2)
      (try clear hk)
      (try clear hi)
      refine hK.out _ _ ⟨(blk_cell BK305.out 0).trans rfl, (blk_cell BK305.out 1).trans rfl, (blk_cell BK294.out 0).trans rfl, (blk_cell BK294.out 1).trans rfl, (blk_cell BK294.out 2).trans rfl⟩ (fun hHeld => ?_)
      clear hK K
      refine norm_ (a' := ?_) ?_ ?_
      rotate_left
      ·exact (show Act.put _ (some 37) _ = _ from X.Pu)
      refine pure_ (i := 10) (N := some 38) (v := ?_) (a' := ?_) #[true, true, true, true, true, true, true, true, true, true, true, false] rfl rfl (any_of HT_.out (by kernel_rfl)) (fun _ _ _ h => h) (Or.inl ⟨by rfl, ?_⟩) ?_ ?_
      rotate_left
      ·intro w'
       go_simp
       with_reducible rfl
      rotate_left
      ·exact X.Pu
      refine pure_ (i := 11) (N := some 39) (v := ?_) (a' := ?_) #[true, true, true, true, true, true, true, true, true, true, true, true] rfl rfl (any_of HT_.out (by kernel_rfl)) (fun _ _ _ h => h) (Or.inl ⟨by rfl, ?_⟩) ?_ ?_
      rotate_left
      ·intro w'
       go_simp
       with_reducible rfl
      rotate_left
      ·exact X.Pu
      refine done_ (done_of HT_.out (by kernel_rfl)) ?_
      try go_wp2
      go_meet
      case rel => exact ⟨_, ((t306 != t312)), (by first | rfl | (simp; done) | (simp [*]; done)), H', ⟨by have := HJ2.out; first | omega | exact Nat.le_refl _⟩, ⟨by (with_reducible repeat (first | apply Kd.V_alloc | apply Kd.V_drewN | apply Kd.V_drew)); exact Kd.V_mono HO302.out (fun _ hk => ⟨hk.1.1, hk.1.2⟩)⟩, ⟨X.B BK294⟩, ⟨X.B BK305⟩, ⟨X.G⟩⟩
    case rest =>
     clear HC14
     try clear c1
     try clear c2
     try clear p2
     try clear c21
     try clear c22
     try clear c23
     try clear c24
     try clear c24b0
     obtain ⟨kq, x39_13, rfl, HA, HJ13, HO_306000, BK294, BK305, HB⟩ := hcut
     cases kq with
     | zero => exact absurd HA.out (by simp [impl_BackVoyages.j1])
     | succ kj13 =>
      have H := HA.out
      clear HA
      simp only [impl_BackVoyages.j1] at H
      by_cases c38 : x39_13 = true
      ·subst c38
       have H1 : (some (([] : List (S43)), false)) = some (r1, r2) := by rw [if_pos rfl] at H; exact H
       clear H
       have H := H1
       clear H1
       simp only [Option.some.injEq, Prod.mk.injEq] at H
       obtain ⟨rfl, rfl⟩ := H
       go_wp2
       go_ret2
       exact ⟨_, by first | rfl | (simp [errW_none, errW_some] <;> rfl) | (simp [*, errW_none, errW_some] <;> rfl), by first | exact Kd.S_nil _ _ _ _ _ | exact Kd.N_nil _ _ _ _ _ | exact Kd.V_nil _ _ _ _ _ | exact Kd.Q_nil _ _ _ _ _ | exact Kd.R_nil _ _ _ _ _, X.G⟩
      ·replace c38 := Bool.eq_false_iff.mpr c38
       subst c38
       have H1 : (impl_BackVoyages.l0 kj13 (([] : List (S43))) 0 l1 (l1.length : Int) 0 a0_0 a0_1 a0_2) = some (r1, r2) := by rw [if_neg (show ¬ (false = true) by decide)] at H; exact H
       clear H
       have H := H1
       clear H1
       obtain ⟨y313, hy313⟩ : ∃ y_ : List (S43), y_ = (([] : List (S43))) := ⟨_, rfl⟩
       replace H : (impl_BackVoyages.l0 kj13 y313 0 l1 (l1.length : Int) 0 a0_0 a0_1 a0_2) = some (r1, r2) := by first | (rw [hy313]; with_reducible exact H) | (have H2_ := (Option.bind_some _ _).symm.trans H; rw [hy313]; with_reducible exact H2_) | (have H2_ := (Option.bind_some _ _).symm.trans H; with_reducible exact H2_) | with_reducible exact H | (rw [hy313]; exact H) | exact H
       have Ny313 := X.A hy313
       clear hy313
       have H' := X.A H
       clear H
       go_wp2_with (first | ((with_reducible refine gate_dst (N := 40) rfl ?_); (try (refine gate_guard (by rfl) ?_; dsimp only)); refine Kd.S_lit k43 _ 43 ?hg (N := 40) ?hd (xs := ([] : List (S43))) (inner := []) (ok := fun _ => True) (okp := fun _ => True) ?hr ?hp (fun _ hk => hk) trivial (Below.refl _ _) (Nat.le_refl _) (by simp) ?_; (case hd => rfl); (case hg => rfl); (case hr => exact X.R); (case hp => exact (Reps.none _ _)); intro v314 w39 ho40 hb hg_ hnew_; clear hg_ hnew_; (first | rw [← Ny313.out] at ho40 | (simp only [Int.reduceToNat] at ho40; rw [← Ny313.out] at ho40)); have n0_ := X.A (Kd.V_elder' (by (with_reducible repeat (first | apply Kd.V_alloc | apply Kd.V_drewN | apply Kd.V_drew)); exact HO_306000.out) (Kd.S_base ho40) hb); have n1_ := X.A (Kd.S_lower ho40 (below_size X.G)); have n2_ := X.A (X.BB BK294 hb); have n3_ := X.A (X.BB BK305 hb); have n4_ := X.A (below_step X.G hb); clear HO_306000 BK294 BK305 HB; have HO_306000 := n0_; have HO315 := n1_; have BK294 := n2_; have BK305 := n3_; have HB := n4_; clear n0_ n1_ n2_ n3_ n4_; clear hb ho40))
       go_loopg [8, 9, 43] kj13 (fun kq v8 v9 v43 w' => ∃ (x8_3 : List (S43)) (x9_3 : Int) (x43_3 : Int), v9 = .int .i64 x9_3 ∧ v43 = .int .i64 x43_3 ∧ Aside0 (impl_BackVoyages.l0 kq x8_3 x9_3 l1 (l1.length : Int) x43_3 a0_0 a0_1 a0_2 = some (r1, r2)) ∧ Aside0 (kq ≤ kj13) ∧ Aside0 (Kd.S k43 43 w' w.heap.size (fun _ => True) v8 x8_3) ∧ Aside0 (Kd.V (Kd.int .i64) 3 w' w.heap.size (fun k_ => some k_ ≠ (v8 : Value).ownBlock ∧ k_ ≠ gb294 ∧ k_ ≠ gb305) (.slice Ao21 t300.length co21) t300) ∧ Aside0 (w'.heap[gb294]? = some (.cells #[.int .i64 a0_0, .int .i64 a0_1, .int .i64 a0_2] 29 (0, 0))) ∧ Aside0 (w'.heap[gb305]? = some (.cells #[(.slice Ao21 t300.length co21), .int .i64 t303] 41 (0, 0))) ∧ Aside0 (Below w.heap.size w w'))
       case atStart => exact ⟨(y313), (0), (0), (by first | rfl | (simp; done) | (simp [*]; done)), (by first | rfl | (simp; done) | (simp [*]; done)), H', ⟨Nat.le_refl _⟩, ⟨by (with_reducible repeat (first | apply Kd.S_alloc | apply Kd.S_drewN | apply Kd.S_drew)); exact HO315.out⟩, ⟨by (with_reducible repeat (first | apply Kd.V_alloc | apply Kd.V_drewN | apply Kd.V_drew)); exact Kd.V_mono HO_306000.out (fun _ hk => ⟨hk.2, ⟨hk.1.1, hk.1.2⟩⟩)⟩, ⟨X.B BK294⟩, ⟨X.B BK305⟩, ⟨X.G⟩⟩
       case round =>
        clear H'
        try clear c1
        try clear c2
        try clear p2
        try clear c3
        try clear c21
        try clear c22
        try clear c23
        try clear c24
        try clear c24b0
        try clear c38
        try clear p2
        obtain ⟨x8_3, x9_3, x43_3, rfl, rfl, HA, HK3, HO_8, HO_306000, BK294, BK305, HB⟩ := hrel
        cases gk with
        | zero => exact absurd HA.out (by simp [impl_BackVoyages.l0])
        | succ k3 =>
         have H := HA.out
         clear HA
         simp only [impl_BackVoyages.l0] at H
         by_cases c41 : x43_3 < (l1.length : Int)
         ·rw [if_pos c41] at H
          have c41b0 : decide (x43_3 < (l1.length : Int)) = true := decide_eq_true c41
          clear c41
          by_cases c42 : 0 ≤ x43_3
          rotate_left
          ·rw [if_neg c42] at H
           exact absurd H (by simp)
          rw [if_pos c42] at H
          have c42b0 : decide (0 ≤ x43_3) = true := decide_eq_true c42
          clear c42
          by_cases c43 : x43_3 < (l1.length : Int)
          rotate_left
          ·rw [if_neg c43] at H
           exact absurd H (by simp)
          rw [if_pos c43] at H
          have c43b0 : decide (x43_3 < (l1.length : Int)) = true := decide_eq_true c43
          clear c43
          replace H := Option.bind_eq_some_iff.mp H
          obtain ⟨t318, A440, H⟩ := H
          replace H : ((slices_Clone_int_int.f ((rd_T43 l1 x43_3).f1)).bind fun t319 => (if x8_3.length < 4398046511104 then (impl_BackVoyages.l0 k3 (x8_3 ++ [(⟨wrap64 (t318 - x9_3), t319⟩ : S43)]) ((rd_T43 l1 x43_3).f0) l1 (l1.length : Int) (wrap64 (x43_3 + 1)) a0_0 a0_1 a0_2) else (none))) = some (r1, r2) := H
          have A44 := X.A A440
          clear A440
          replace H := Option.bind_eq_some_iff.mp H
          obtain ⟨t319, A450, H⟩ := H
          replace H : (if x8_3.length < 4398046511104 then (impl_BackVoyages.l0 k3 (x8_3 ++ [(⟨wrap64 (t318 - x9_3), t319⟩ : S43)]) ((rd_T43 l1 x43_3).f0) l1 (l1.length : Int) (wrap64 (x43_3 + 1)) a0_0 a0_1 a0_2) else (none)) = some (r1, r2) := H
          have A45 := X.A A450
          clear A450
          by_cases c46 : x8_3.length < 4398046511104
          rotate_left
          ·rw [if_neg c46] at H
           exact absurd H (by simp)
          rw [if_pos c46] at H
          have LMc46 := X.A c46
          clear c46
          obtain ⟨y322, hy322⟩ : ∃ y_ : List (S43), y_ = (x8_3 ++ [(⟨wrap64 (t318 - x9_3), t319⟩ : S43)]) := ⟨_, rfl⟩
          replace H : (impl_BackVoyages.l0 k3 y322 ((rd_T43 l1 x43_3).f0) l1 (l1.length : Int) (wrap64 (x43_3 + 1)) a0_0 a0_1 a0_2) = some (r1, r2) := by first | (rw [hy322]; with_reducible exact H) | (have H2_ := (Option.bind_some _ _).symm.trans H; rw [hy322]; with_reducible exact H2_) | (have H2_ := (Option.bind_some _ _).symm.trans H; with_reducible exact H2_) | with_reducible exact H | (rw [hy322]; exact H) | exact H
          have Ny322 := X.A hy322
          clear hy322
          have H' := X.A H
          clear H
          have p316 : 0 ≤ (x43_3 : Int) := X.D
          have q316 : x43_3 < (l1.length : Int) := X.D
          obtain ⟨ad316, A316_1, c316_1, e316, hx316_0, hx316_1, hl316_1, hi316_1⟩ := at_T43 HR1.out x43_3 p316 q316
          cases e316
          replace hx316_0 := (HB.out.cell (World.block_lt_of_cell? w _ hx316_0)).trans hx316_0
          replace hx316_1 := (HB.out.cell (World.block_lt_of_cell? w _ hx316_1)).trans hx316_1
          have HR316_1 := X.A hi316_1
          have HC316_1 := X.A hl316_1
          clear hi316_1 hl316_1
          replace p316 := eq_true p316
          replace q316 := eq_true q316
          try go_wp2_with (first | ((with_reducible refine gate_dst (N := 11) rfl ?_); (try (refine gate_guard (by rfl) ?_; dsimp only)); refine box_event ?hg (N := 11) ?hd (cs := #[.int .i64 0, .slice none 0 0]) (t := 43) ?hr ?_; (case hd => rfl); (case hg => rfl); (case hr => exact X.R); intro gb317 hg w47 hbox hb; have n0_ := X.A (Kd.S_below (Kd.S_elderB (X.L HO_8) gb317 (Nat.le_of_eq hg.symm)) hb); have n1_ := X.A (Kd.V_below (Kd.V_elderB (by (with_reducible repeat (first | apply Kd.V_alloc | apply Kd.V_drewN | apply Kd.V_drew)); exact HO_306000.out) gb317 (Nat.le_of_eq hg.symm)) hb); have n2_ := X.A (X.BB BK294 hb); have n3_ := X.A (X.BB BK305 hb); have n4_ := X.A (below_step X.G hb); have n5_ := X.A (hbox); have n6_ := X.A ((by rw [hg]; exact (below_size X.G) : w.heap.size ≤ gb317)); have n7_ := X.A ((by rw [hg]; exact (below_size X.G) : w.heap.size ≤ gb317)); have n8_ := X.A (X.NL hg BK294); have n9_ := X.A (X.NG hg BK294); have n10_ := X.A (X.NL hg BK305); have n11_ := X.A (X.NG hg BK305); clear HO_8 HO_306000 BK294 BK305 HB; have HO_8 := n0_; have HO_306000 := n1_; have BK294 := n2_; have BK305 := n3_; have HB := n4_; have BK317 := n5_; have GW317 := n6_; have GE317 := n7_; have NB294_317 := n8_; have NB317_294 := n9_; have NB305_317 := n10_; have NB317_305 := n11_; clear n0_ n1_ n2_ n3_ n4_ n5_ n6_ n7_ n8_ n9_ n10_ n11_ hb hbox hg; have hnb48 := NB317_294.out; have hnc48 := NB294_317.out; have hnb49 := NB317_305.out; have hnc49 := NB305_317.out; have hcz50_0 : w47.cell? ⟨gb317, 0, none⟩ = some (.int .i64 0) := (blk_cell BK317.out 0).trans rfl; have hcz50_1 : w47.cell? ⟨gb317, 1, none⟩ = some (.slice none 0 0) := (blk_cell BK317.out 1).trans rfl; have hfz50_0 := blk_frozen BK317.out 0; have hfz50_1 := blk_frozen BK317.out 1))
          have n0_ : Aside0 (Kd.S k43 43 ((w47.setCell ⟨gb317, 0, none⟩ (.int .i64 ((rd_T43 l1 x43_3).f0))).setCell ⟨gb317, 1, none⟩ (.slice A316_1 ((rd_T43 l1 x43_3).f1).length c316_1)) w.heap.size (fun k_ => k_ ≠ gb317) u8 x8_3) := ⟨by (with_reducible repeat (first | apply Kd.S_alloc | apply Kd.S_drewN | apply Kd.S_drew)); exact Kd.S_mono (Kd.S_far (p := ⟨gb317, 1, none⟩) (Kd.S_far (p := ⟨gb317, 0, none⟩) (Kd.S_mono HO_8.out (fun k_ hk => (⟨hk, hk.2⟩ : _ ∧ k_ ≠ gb317))) (fun _ hk => hk.2) (.int .i64 ((rd_T43 l1 x43_3).f0))) (fun _ hk => hk.2) (.slice A316_1 ((rd_T43 l1 x43_3).f1).length c316_1)) (fun _ hk => hk.1.2)⟩
          have n1_ : Aside0 (Kd.V (Kd.int .i64) 3 ((w47.setCell ⟨gb317, 0, none⟩ (.int .i64 ((rd_T43 l1 x43_3).f0))).setCell ⟨gb317, 1, none⟩ (.slice A316_1 ((rd_T43 l1 x43_3).f1).length c316_1)) w.heap.size (fun k_ => some k_ ≠ (u8 : Value).ownBlock ∧ k_ ≠ gb294 ∧ k_ ≠ gb305 ∧ k_ ≠ gb317) (.slice Ao21 t300.length co21) t300) := ⟨by (with_reducible repeat (first | apply Kd.V_alloc | apply Kd.V_drewN | apply Kd.V_drew)); exact Kd.V_mono (Kd.V_far (p := ⟨gb317, 1, none⟩) (Kd.V_far (p := ⟨gb317, 0, none⟩) (Kd.V_mono HO_306000.out (fun k_ hk => (⟨hk, hk.2⟩ : _ ∧ k_ ≠ gb317))) (fun _ hk => hk.2) (.int .i64 ((rd_T43 l1 x43_3).f0))) (fun _ hk => hk.2) (.slice A316_1 ((rd_T43 l1 x43_3).f1).length c316_1)) (fun _ hk => ⟨hk.1.1.1, ⟨hk.1.1.2.1, ⟨hk.1.1.2.2, hk.1.2⟩⟩⟩)⟩
          have n2_ : Aside0 (((w47.setCell ⟨gb317, 0, none⟩ (.int .i64 ((rd_T43 l1 x43_3).f0))).setCell ⟨gb317, 1, none⟩ (.slice A316_1 ((rd_T43 l1 x43_3).f1).length c316_1)).heap[gb294]? = some (.cells #[.int .i64 a0_0, .int .i64 a0_1, .int .i64 a0_2] 29 (0, 0))) := ⟨by (with_reducible repeat (first | refine blk_drewN ?_ _ | refine blk_drew ?_ | refine blk_alloc ?_ _)); refine blk_far ?_ NB294_317.out _; (with_reducible repeat (first | refine blk_drewN ?_ _ | refine blk_drew ?_ | refine blk_alloc ?_ _)); refine blk_far ?_ NB294_317.out _; (with_reducible repeat (first | refine blk_drewN ?_ _ | refine blk_drew ?_ | refine blk_alloc ?_ _)); exact BK294.out⟩
          have n3_ : Aside0 (((w47.setCell ⟨gb317, 0, none⟩ (.int .i64 ((rd_T43 l1 x43_3).f0))).setCell ⟨gb317, 1, none⟩ (.slice A316_1 ((rd_T43 l1 x43_3).f1).length c316_1)).heap[gb305]? = some (.cells #[.slice Ao21 t300.length co21, .int .i64 t303] 41 (0, 0))) := ⟨by (with_reducible repeat (first | refine blk_drewN ?_ _ | refine blk_drew ?_ | refine blk_alloc ?_ _)); refine blk_far ?_ NB305_317.out _; (with_reducible repeat (first | refine blk_drewN ?_ _ | refine blk_drew ?_ | refine blk_alloc ?_ _)); refine blk_far ?_ NB305_317.out _; (with_reducible repeat (first | refine blk_drewN ?_ _ | refine blk_drew ?_ | refine blk_alloc ?_ _)); exact BK305.out⟩
          have n4_ : Aside0 (((w47.setCell ⟨gb317, 0, none⟩ (.int .i64 ((rd_T43 l1 x43_3).f0))).setCell ⟨gb317, 1, none⟩ (.slice A316_1 ((rd_T43 l1 x43_3).f1).length c316_1)).heap[gb317]? = some (.cells #[.int .i64 ((rd_T43 l1 x43_3).f0), .slice A316_1 ((rd_T43 l1 x43_3).f1).length c316_1] 43 (0, 0))) := ⟨by (with_reducible repeat (first | refine blk_drewN ?_ _ | refine blk_drew ?_ | refine blk_alloc ?_ _)); refine blk_put (cs := #[.int .i64 ((rd_T43 l1 x43_3).f0), .slice none 0 0]) ?_ 1 _ rfl; (with_reducible repeat (first | refine blk_drewN ?_ _ | refine blk_drew ?_ | refine blk_alloc ?_ _)); refine blk_put (cs := #[.int .i64 0, .slice none 0 0]) ?_ 0 _ rfl; (with_reducible repeat (first | refine blk_drewN ?_ _ | refine blk_drew ?_ | refine blk_alloc ?_ _)); exact BK317.out⟩
          have n5_ : Aside0 (Below w.heap.size w ((w47.setCell ⟨gb317, 0, none⟩ (.int .i64 ((rd_T43 l1 x43_3).f0))).setCell ⟨gb317, 1, none⟩ (.slice A316_1 ((rd_T43 l1 x43_3).f1).length c316_1))) := ⟨X.G⟩
          (try clear HO_8)
          (try clear HO_306000)
          (try clear BK294)
          (try clear BK305)
          (try clear BK317)
          (try clear HB)
          generalize ((w47.setCell ⟨gb317, 0, none⟩ (.int .i64 ((rd_T43 l1 x43_3).f0))).setCell ⟨gb317, 1, none⟩ (.slice A316_1 ((rd_T43 l1 x43_3).f1).length c316_1)) = w51 at n0_ n1_ n2_ n3_ n4_ n5_ ⊢
          have HO_8 := n0_
          have HO_306000 := n1_
          have BK294 := n2_
          have BK305 := n3_
          have BK317 := n4_
          have HB := n5_
          clear n0_ n1_ n2_ n3_ n4_ n5_
          have n0_ := X.A (Kd.S_drew HO_8.out)
          have n1_ := X.A (Kd.V_drew HO_306000.out)
          have n2_ := X.A (blk_drew BK294.out)
          have n3_ := X.A (blk_drew BK305.out)
          have n4_ := X.A (blk_drew BK317.out)
          have n5_ := X.A (below_drew1 HB.out)
          clear HO_8 HO_306000 BK294 BK305 BK317 HB
          have HO_8 := n0_
          have HO_306000 := n1_
          have BK294 := n2_
          have BK305 := n3_
          have BK317 := n4_
          have HB := n5_
          clear n0_ n1_ n2_ n3_ n4_ n5_
          refine start_ (n := 15) (S := fun w' => w'.cell? ⟨gb294, 0, none⟩ = some (.int .i64 a0_0) ∧ w'.cell? ⟨gb294, 1, none⟩ = some (.int .i64 a0_1) ∧ w'.cell? ⟨gb294, 2, none⟩ = some (.int .i64 a0_2) ∧ w'.cell? ⟨gb317, 0, none⟩ = some (.int .i64 ((rd_T43 l1 x43_3).f0)) ∧ w'.cell? ⟨gb317, 1, none⟩ = some (.slice A316_1 ((rd_T43 l1 x43_3).f1).length c316_1)) (ds := []) #[false, false, false, false, false, false, false, false, false, false, false, false, false, false, false] (by kernel_rfl) rfl rfl ⟨(blk_cell BK294.out 0).trans rfl, (blk_cell BK294.out 1).trans rfl, (blk_cell BK294.out 2).trans rfl, (blk_cell BK317.out 0).trans rfl, (blk_cell BK317.out 1).trans rfl⟩ (fun hHeld => ?_); refine with_tabW impl_BackVoyages.tab10 impl_BackVoyages.bits10 (fun HT_ HW_ => ?_)
          generalize w51.drew = w52 at HO_8 HO_306000 BK294 BK305 BK317 HB hHeld ⊢
          refine pure_ (i := 0) (N := some 47) (v := ?_) (a' := ?_) #[true, false, false, false, false, false, false, false, false, false, false, false, false, false, false] rfl rfl (any_of HT_.out (by kernel_rfl)) (fun _ _ _ h => h) (Or.inl ⟨by rfl, ?_⟩) ?_ ?_
          rotate_left
          ·intro w'
           go_simp
           with_reducible rfl
          rotate_left
          ·exact X.Pu
          refine pure_ (i := 3) (N := some 50) (v := ?_) (a' := ?_) #[true, false, false, true, false, false, false, false, false, false, false, false, false, false, false] rfl rfl (any_of HT_.out (by kernel_rfl)) (fun _ _ _ h => h) (Or.inl ⟨by rfl, ?_⟩) ?_ ?_
          rotate_left
          ·intro w'
           go_simp
           with_reducible rfl
          rotate_left
          ·exact X.Pu
          refine pure_ (i := 5) (N := some 52) (v := ?_) (a' := ?_) #[true, false, false, true, false, true, false, false, false, false, false, false, false, false, false] rfl rfl (any_of HT_.out (by kernel_rfl)) (fun _ _ _ h => h) (Or.inl ⟨by rfl, ?_⟩) ?_ ?_
          rotate_left
          ·intro w'
           go_simp
           with_reducible rfl
          rotate_left
          ·exact X.Pu
          refine pure_ (i := 11) (N := some 58) (v := ?_) (a' := ?_) #[true, false, false, true, false, true, false, false, false, false, false, true, false, false, false] rfl rfl (any_of HT_.out (by kernel_rfl)) (fun _ _ _ h => h) (Or.inl ⟨by rfl, ?_⟩) ?_ ?_
          rotate_left
          ·intro w'
           go_simp
           with_reducible rfl
          rotate_left
          ·exact X.Pu
          refine take_ (i := 1) (N := some 48) (v := ?_) (a' := ?_) #[true, true, false, true, false, true, false, false, false, false, false, true, false, false, false] rfl rfl (take_ofW HT_.out HW_.out (by kernel_rfl)) (fun _ _ _ h => h) (Or.inl ⟨by rfl, ?_⟩) hHeld ?_ ?_
          rotate_left
          ·rintro w' ⟨s0, s1, s2, s3, s4⟩
           go_simp
           with_reducible rfl
          rotate_left
          ·exact X.Pu
          refine take_ (i := 6) (N := some 53) (v := ?_) (a' := ?_) #[true, true, false, true, false, true, true, false, false, false, false, true, false, false, false] rfl rfl (take_ofW HT_.out HW_.out (by kernel_rfl)) (fun _ _ _ h => h) (Or.inl ⟨by rfl, ?_⟩) hHeld ?_ ?_
          rotate_left
          ·rintro w' ⟨s0, s1, s2, s3, s4⟩
           go_simp
           with_reducible rfl
          rotate_left
          ·exact X.Pu
          refine take_ (i := 12) (N := some 59) (v := ?_) (a' := ?_) #[true, true, false, true, false, true, true, false, false, false, false, true, true, false, false] rfl rfl (take_ofW HT_.out HW_.out (by kernel_rfl)) (fun _ _ _ h => h) (Or.inl ⟨by rfl, ?_⟩) hHeld ?_ ?_
          rotate_left
          ·rintro w' ⟨s0, s1, s2, s3, s4⟩
           go_simp
           with_reducible rfl
          rotate_left
          ·exact X.Pu
          refine one_ (i := 2) (N := some 49) #[true, true, true, true, false, true, true, false, false, false, false, true, true, false, false] rfl rfl (one_of HT_.out (by kernel_rfl)) (by decide) (fun K hK => ?_)
          refine goes_ Try.func24 (by kernel_rfl) rfl #[.agg #[.int .i64 a0_0, .int .i64 a0_1, .int .i64 a0_2]] (by rfl) rfl rfl X.M ?_
          with_reducible refine (impl_Isles_far.calls a0_0 a0_1 a0_2 t318 _ A44.out).mono ?_
          rintro e w53 ⟨rfl, hb⟩
          refine ⟨_, rfl, ?_⟩
          have n0_ := X.A (Kd.S_below (X.L HO_8) hb)
          have n1_ := X.A (Kd.V_below (by (with_reducible repeat (first | apply Kd.V_alloc | apply Kd.V_drewN | apply Kd.V_drew)); exact HO_306000.out) hb)
          have n2_ := X.A (X.BB BK294 hb)
          have n3_ := X.A (X.BB BK305 hb)
          have n4_ := X.A (blk_below (g := gb317) (o := .cells #[.int .i64 ((rd_T43 l1 x43_3).f0), .slice A316_1 ((rd_T43 l1 x43_3).f1).length c316_1] 43 (0, 0)) (X.B BK317) hb)
          have n5_ := X.A (below_step X.G hb)
          clear HO_8 HO_306000 BK294 BK305 BK317 HB
          have HO_8 := n0_
          have HO_306000 := n1_
          have BK294 := n2_
          have BK305 := n3_
          have BK317 := n4_
          have HB := n5_
          clear n0_ n1_ n2_ n3_ n4_ n5_
          (try clear hb)
          (try clear hb2)
          (try clear hk)
          (try clear hi)
          refine hK.out _ _ ⟨(blk_cell BK294.out 0).trans rfl, (blk_cell BK294.out 1).trans rfl, (blk_cell BK294.out 2).trans rfl, (blk_cell BK317.out 0).trans rfl, (blk_cell BK317.out 1).trans rfl⟩ (fun hHeld => ?_)
          clear hK K
          refine norm_ (a' := ?_) ?_ ?_
          rotate_left
          ·exact (show Act.put _ (some 49) _ = _ from X.Pu)
          refine pure_ (i := 4) (N := some 51) (v := ?_) (a' := ?_) #[true, true, true, true, true, true, true, false, false, false, false, true, true, false, false] rfl rfl (any_of HT_.out (by kernel_rfl)) (fun _ _ _ h => h) (Or.inl ⟨by rfl, ?_⟩) ?_ ?_
          rotate_left
          ·intro w'
           go_simp
           with_reducible rfl
          rotate_left
          ·exact X.Pu
          refine one_ (i := 7) (N := some 54) #[true, true, true, true, true, true, true, true, false, false, false, true, true, false, false] rfl rfl (one_of HT_.out (by kernel_rfl)) (by decide) (fun K hK => ?_)
          refine goes_ Try.func25 (by kernel_rfl) rfl #[.slice A316_1 ((rd_T43 l1 x43_3).f1).length c316_1] (by rfl) rfl rfl X.M ?_
          with_reducible refine (slices_Clone_int_int.calls _ _ ((rd_T43 l1 x43_3).f1) t319 _ ?side1 ?side2 A45.out).mono ?_
          (case side1 => exact X.C (Kd.C_below HR316_1.out HB.out))
          (case side2 => exact HC316_1.out)
          rintro e w54 ⟨v320, rfl, ho0, hb⟩
          refine ⟨_, rfl, ?_⟩
          have n0_ := X.A (Kd.S_elder' (X.L HO_8) (Kd.R_base ho0) hb)
          have n1_ := X.A (Kd.V_elder' (by (with_reducible repeat (first | apply Kd.V_alloc | apply Kd.V_drewN | apply Kd.V_drew)); exact HO_306000.out) (Kd.R_base ho0) hb)
          have n2_ := X.A (Kd.R_lower ho0 (below_size X.G))
          have n3_ := X.A (X.BB BK294 hb)
          have n4_ := X.A (X.BB BK305 hb)
          have n5_ := X.A (blk_below (g := gb317) (o := .cells #[.int .i64 ((rd_T43 l1 x43_3).f0), .slice A316_1 ((rd_T43 l1 x43_3).f1).length c316_1] 43 (0, 0)) (X.B BK317) hb)
          have n6_ := X.A (below_step X.G hb)
          clear HO_8 HO_306000 BK294 BK305 BK317 HB
          have HO_8 := n0_
          have HO_306000 := n1_
          have HO321 := n2_
          have BK294 := n3_
          have BK305 := n4_
          have BK317 := n5_
          have HB := n6_
          clear n0_ n1_ n2_ n3_ n4_ n5_ n6_
          (try clear hb)
          (try clear hb2)
          (try clear hk)
          (try clear hi)
          (try clear ho0)
          obtain ⟨Ao55, co55, eo55⟩ := Kd.R_slice HO321.out
          (first | subst eo55 | (injection eo55 with f1_ f2_ f3_; have f4_ := f1_.symm; have f5_ := f3_.symm; clear f1_ f2_ f3_; subst f4_; subst f5_))
          refine hK.out _ _ ⟨(blk_cell BK294.out 0).trans rfl, (blk_cell BK294.out 1).trans rfl, (blk_cell BK294.out 2).trans rfl, (blk_cell BK317.out 0).trans rfl, (blk_cell BK317.out 1).trans rfl⟩ (fun hHeld => ?_)
          clear hK K
          refine norm_ (a' := ?_) ?_ ?_
          rotate_left
          ·exact (show Act.put _ (some 54) _ = _ from X.Pu)
          refine pure_ (i := 8) (N := some 55) (v := ?_) (a' := ?_) #[true, true, true, true, true, true, true, true, true, false, false, true, true, false, false] rfl rfl (any_of HT_.out (by kernel_rfl)) (fun _ _ _ h => h) (Or.inl ⟨by rfl, ?_⟩) ?_ ?_
          rotate_left
          ·intro w'
           go_simp
           with_reducible rfl
          rotate_left
          ·exact X.Pu
          refine one_ (i := 9) (N := some 56) #[true, true, true, true, true, true, true, true, true, true, false, true, true, false, false] rfl rfl (one_of HT_.out (by kernel_rfl)) (by decide) (fun K hK => ?_)
          refine value_ (w1 := ?_) (v := ?_) (by rfl) rfl ?_ ?_
          rotate_left 2
          ·go_simp
           constructor
           ·rfl
           ·rfl
          refine hK.out _ _ ⟨(blk_cell (blk_alloc BK294.out _) 0).trans rfl, (blk_cell (blk_alloc BK294.out _) 1).trans rfl, (blk_cell (blk_alloc BK294.out _) 2).trans rfl, (blk_cell (blk_alloc BK317.out _) 0).trans rfl, (blk_cell (blk_alloc BK317.out _) 1).trans rfl⟩ (fun hHeld => ?_)
          clear hK K
          refine norm_ (a' := ?_) ?_ ?_
          rotate_left
          ·exact (show Act.put _ (some 56) _ = _ from X.Pu)
          refine one_ (i := 10) (N := some 57) #[true, true, true, true, true, true, true, true, true, true, true, true, true, false, false] rfl rfl (one_of HT_.out (by kernel_rfl)) (by decide) (fun K hK => ?_)
          refine Kd.S_append_step k43 (w0 := w) w.heap.size (by rfl) (.tmp 47) (.tmp 56) 26 43 (.agg #[(.int .i64 0), (.slice none 0 0)]) 32 rfl Try.underlying26 info43 rfl (by decide) (by omega) u8 x8_3 (⟨wrap64 (t318 - x9_3), t319⟩ : S43) [.int .i64 (wrap64 (t318 - x9_3)), .slice Ao55 t319.length co55] (fun k_ => k_ ≠ gb317) (fun k_ => some k_ = (.slice Ao55 t319.length co55 : Value).ownBlock) rfl rfl ?aP (fun k_ hk_ => ((Kd.R_mono (ok' := fun k_ => ((fun k_ => k_ ≠ gb317)) k_ ∧ some k_ ≠ (u8 : Value).ownBlock) (Kd.R_types (Kd.R_apart' (HO321.out) (Kd.S_typed HO_8.out) (by decide)) BK317.out (by decide)) (fun k_ hk => ⟨hk.2, hk.1.2⟩))).1 k_ hk_.symm) ?aF ?aO ?aB ?aS ?aL ?_
          (case aP => exact k43_mkM _ _ _ (⟨wrap64 (t318 - x9_3), t319⟩ : S43) (Kd.R_mono (Kd.R_tight rfl (Kd.R_mono (ok' := fun k_ => ((fun k_ => k_ ≠ gb317)) k_ ∧ some k_ ≠ (u8 : Value).ownBlock) (Kd.R_types (Kd.R_apart' (HO321.out) (Kd.S_typed HO_8.out) (by decide)) BK317.out (by decide)) (fun k_ hk => ⟨hk.2, hk.1.2⟩))) (fun _ h_ => h_)))
          (case aB => exact X.G)
          (case aF => exact (fun k_ hk => Kd.freshB (g := gb317) (o := .cells #[.int .i64 ((rd_T43 l1 x43_3).f0), .slice A316_1 ((rd_T43 l1 x43_3).f1).length c316_1] 43 (0, 0)) (X.B BK317) k_ hk))
          (case aO => exact (by (with_reducible repeat (first | apply Kd.S_alloc | apply Kd.S_drewN | apply Kd.S_drew)); exact Kd.S_mono HO_8.out (fun k_ hk => ⟨hk.1, fun e_ => hk.2 e_⟩)))
          (case aS => exact (below_size X.G))
          (case aL => have := LMc46.out; omega)
          intro v323 w56 ho hb hg hat
          rw [← Ny322.out] at ho
          have n0_ := X.A (Kd.V_afterv (ok := (fun k_ => some k_ ≠ (.slice Ao55 t319.length co55 : Value).ownBlock ∧ k_ ≠ gb294 ∧ k_ ≠ gb305 ∧ k_ ≠ gb317)) (by (with_reducible repeat (first | apply Kd.V_alloc | apply Kd.V_drewN | apply Kd.V_drew)); exact Kd.V_mono HO_306000.out (fun _ hk => ⟨⟨hk.2, ⟨hk.1.2.1, ⟨hk.1.2.2.1, hk.1.2.2.2⟩⟩⟩, hk.1.1⟩)) hg hat)
          have n1_ := X.A (blk_grown (g := gb294) (o := .cells #[.int .i64 a0_0, .int .i64 a0_1, .int .i64 a0_2] 29 (0, 0)) (X.B BK294) hg (Kd.S_ne HO_8.out BK294.out (by decide)))
          have n2_ := X.A (blk_grown (g := gb305) (o := .cells #[.slice Ao21 t300.length co21, .int .i64 t303] 41 (0, 0)) (X.B BK305) hg (Kd.S_ne HO_8.out BK305.out (by decide)))
          have n3_ := X.A (blk_grown (g := gb317) (o := .cells #[.int .i64 ((rd_T43 l1 x43_3).f0), .slice A316_1 ((rd_T43 l1 x43_3).f1).length c316_1] 43 (0, 0)) (X.B BK317) hg (Kd.S_away HO_8.out (fun _ hk => hk.1)))
          have n4_ := X.A (hb)
          have n5_ := X.A (ho)
          clear HO_306000 BK294 BK305 BK317 HB HO_8 HO321
          have HO_306000 := n0_
          have BK294 := n1_
          have BK305 := n2_
          have BK317 := n3_
          have HB := n4_
          have HO324 := n5_
          clear n0_ n1_ n2_ n3_ n4_ n5_ ho hb hg hat
          refine hK.out _ _ ⟨(blk_cell BK294.out 0).trans rfl, (blk_cell BK294.out 1).trans rfl, (blk_cell BK294.out 2).trans rfl, (blk_cell BK317.out 0).trans rfl, (blk_cell BK317.out 1).trans rfl⟩ (fun hHeld => ?_)
          clear hK K
          refine norm_ (a' := ?_) ?_ ?_
          rotate_left
          ·exact (show Act.put _ (some 57) _ = _ from X.Pu)
          refine pure_ (i := 13) (N := some 8) (v := ?_) (a' := ?_) #[true, true, true, true, true, true, true, true, true, true, true, true, true, true, false] rfl rfl (any_of HT_.out (by kernel_rfl)) (fun _ _ _ h => h) (Or.inl ⟨by rfl, ?_⟩) ?_ ?_
          rotate_left
          ·intro w'
           go_simp
           with_reducible rfl
          rotate_left
          ·exact X.Pu
          refine pure_ (i := 14) (N := some 9) (v := ?_) (a' := ?_) #[true, true, true, true, true, true, true, true, true, true, true, true, true, true, true] rfl rfl (any_of HT_.out (by kernel_rfl)) (fun _ _ _ h => h) (Or.inl ⟨by rfl, ?_⟩) ?_ ?_
          rotate_left
          ·intro w'
           go_simp
           with_reducible rfl
          rotate_left
          ·exact X.Pu
          refine done_ (done_of HT_.out (by kernel_rfl)) ?_
          try go_wp2
          go_roundg k3
          case measure => have := HJ2.out; have := HJ13.out; have := HK3.out; omega
          case rel => exact ⟨(y322), ((rd_T43 l1 x43_3).f0), (wrap64 (x43_3 + 1)), (by first | rfl | (simp; done) | (simp [*]; done)), (by first | rfl | (simp; done) | (simp [*]; done)), H', ⟨by have := HJ2.out; have := HJ13.out; have := HK3.out; omega⟩, ⟨by (with_reducible repeat (first | apply Kd.S_alloc | apply Kd.S_drewN | apply Kd.S_drew)); exact Kd.S_mono HO324.out (fun _ hk => trivial)⟩, ⟨by (with_reducible repeat (first | apply Kd.V_alloc | apply Kd.V_drewN | apply Kd.V_drew)); exact Kd.V_mono HO_306000.out (fun _ hk => ⟨hk.2, ⟨hk.1.2.1, hk.1.2.2.1⟩⟩)⟩, ⟨X.B BK294⟩, ⟨X.B BK305⟩, ⟨X.G⟩⟩
         ·rw [if_neg c41] at H
          have c41b0 : decide (x43_3 < (l1.length : Int)) = false := decide_eq_false c41
          clear c41
          replace H := Option.bind_eq_some_iff.mp H
          obtain ⟨t325, A570, H⟩ := H
          replace H : (some (t325, true)) = some (r1, r2) := H
          have A57 := X.A A570
          clear A570
          simp only [Option.some.injEq, Prod.mk.injEq] at H
          obtain ⟨rfl, rfl⟩ := H
          obtain ⟨Ao58, co58, eo58⟩ := Kd.S_slice HO_8.out
          subst eo58
          obtain ⟨PPHO_8, hpp_, hpq_⟩ := X.S_given HO_8.out
          clear HO_8
          have HO_8 := X.A hpp_
          have PQHO_8 := X.A hpq_
          clear hpp_ hpq_
          have NPHO_8_294 := X.A (X.box_sepE BK294.out (fun k_ hp_ => (PQHO_8.out k_ hp_).2.2.2) (by decide))
          have NPHO_8_305 := X.A (X.box_sepE BK305.out (fun k_ hp_ => (PQHO_8.out k_ hp_).2.2.2) (by decide))
          go_wp2_with (first | ((with_reducible refine gate_callee (f := 26) rfl ?_); refine goesL_ (some 62) rfl rfl Try.func26 (by kernel_rfl) rfl #[.slice Ao58 x8_3.length co58] rfl X.M ?_; (with_reducible refine (impl_Voyage.calls PPHO_8 (.slice Ao58 x8_3.length co58) x8_3 t325 w _ ?side1 ?side2 A57.out).mono ?_); (case side1 => repeat (first | (with_reducible first | exact HB.out | apply below_alloc | apply pw_below_drewN | apply below_drew1 | refine below_set ?_ GE294.out | refine below_set ?_ GE305.out) | exact HB.out)); (case side2 => exact HO_8.out); rintro e w59 ⟨rfl, hy0, hb, hkp⟩; refine ⟨_, rfl, ?_⟩; have n0_ := X.A (Kd.S_mono hy0 (fun k_ h_ => (PQHO_8.out k_ h_).1)); have n1_ := X.A (blk_kept (X.B BK294) hkp (fun hs_ => (fun e_ => NPHO_8_294.out e_) hs_)); have n2_ := X.A (blk_kept (X.B BK305) hkp (fun hs_ => (fun e_ => NPHO_8_305.out e_) hs_)); have n3_ := X.A (hb); clear HO_8 BK294 BK305 HB; have HO_8 := n0_; have BK294 := n1_; have BK305 := n2_; have HB := n3_; clear n0_ n1_ n2_ n3_; (try clear hb); (try clear hkp); (try clear hy0)))
          go_ret2
          exact ⟨_, by first | rfl | (simp [errW_none, errW_some] <;> rfl) | (simp [*, errW_none, errW_some] <;> rfl), by (with_reducible repeat (first | apply Kd.S_alloc | apply Kd.S_drewN | apply Kd.S_drew)); exact HO_8.out, X.G⟩

end Go.Proofs.Ytldeaeeolibpjag.Q
