-- by wip/xprint.py, a program of this session over the kit's print: not trusted, Lean checks it.
import Derived.Test.YtldeaeeolibpjagXShort
import Derived.Test.YtldeaeeolibpjagQx0
import Derived.Test.YtldeaeeolibpjagQx1
import Derived.Test.YtldeaeeolibpjagQx2
import Derived.Test.YtldeaeeolibpjagQx4
import Derived.Test.YtldeaeeolibpjagQx5
namespace Go.Proofs.Ytldeaeeolibpjag.Q
open Go.RowKit Go.Proofs.YtldeaeeolibpjagW.PrintWords Go.Proofs.YtldeaeeolibpjagW.PrintLast Go.Proofs.YtldeaeeolibpjagW.PrintMore
attribute [local go_sem] max2_int min2_int max_two min_two max_three min_three max_four min_four   -- for this text's walks alone
set_option linter.unusedVariables false
set_option linter.unusedSimpArgs false

/-! ### spec_BackVoyages: function 5 -/
mutual
def spec_BackVoyages.j0 : Nat → List (S43) → Bool → Int → Int → Int → Option ((List (S43)) × Bool)
 | 0, _, _, _, _, _ => none
 | k + 1, x1, x19, x157000, x157001, x157002 => if x19 = true then (some (([] : List (S43)), false)) else ((spec_isAll.f k x157000 x157001 x157002 0).bind fun bt158 => (spec_BackVoyages.l0 k x1 ([] : List Int) x1 (x1.length : Int) 0 x157000 x157001 x157002 bt158.1 bt158.2))
def spec_BackVoyages.l0 : Nat → List (S43) → List Int → List (S43) → Int → Int → Int → Int → Int → List Int → Int → Option ((List (S43)) × Bool)
 | 0, _, _, _, _, _, _, _, _, _, _ => none
 | k + 1, x1, x7, x22, x23, x24, x157000, x157001, x157002, x163000, x163001 => if x24 < x23 then (if 0 ≤ x24 then (if x24 < (x22.length : Int) then ((spec_isCan.f k x157000 x157001 x157002 x163000 x163001 ((rd_T43 x22 x24).f0) ((rd_T43 x22 x24).f1)).bind fun t165 => (if t165 = true then (if x7.length < 17592186044416 then ((spec_isSail.f k x163000 x163001 ((rd_T43 x22 x24).f0) ((rd_T43 x22 x24).f1)).bind fun bt169 => (spec_BackVoyages.l0 k x1 (x7 ++ [x163001]) x22 x23 (wrap64 (x24 + 1)) x157000 x157001 x157002 bt169.1 bt169.2)) else (none)) else (some (([] : List (S43)), false)))) else (none)) else (none)) else ((spec_isCode.f k x157000 x157001 x157002 x163000 x163001).bind fun t173 => ((spec_isAll.f k x157000 x157001 x157002 (wrap64 (x157002 + 1))).bind fun bt174 => ((spec_isCode.f k x157000 x157001 x157002 bt174.1 bt174.2).bind fun t178 => (if t173 = t178 then (spec_BackVoyages.l1 k x1 x7 ([] : List (S43)) (wrap64 ((x1.length : Int) - 1)) x157000 x157001 x157002) else (some (([] : List (S43)), false))))))
def spec_BackVoyages.l1 : Nat → List (S43) → List Int → List (S43) → Int → Int → Int → Int → Option ((List (S43)) × Bool)
 | 0, _, _, _, _, _, _, _ => none
 | k + 1, x1, x7, x10, x11, x157000, x157001, x157002 => if x11 ≥ 0 then (if 0 ≤ x11 then (if x11 < (x7.length : Int) then (if x11 < (x1.length : Int) then ((spec_l1Own.f ((rd_T43 x1 x11).f1)).bind fun t181 => (if x10.length < 4398046511104 then (spec_BackVoyages.l1 k x1 x7 (x10 ++ [(⟨wrap64 ((wrap64 (x157002 + 1)) - (rd x7 x11)), t181⟩ : S43)]) (wrap64 (x11 - 1)) x157000 x157001 x157002) else (none))) else (none)) else (none)) else (none)) else (some (x10, true))
end
def spec_BackVoyages.f (k : Nat) (a0_0 : Int) (a0_1 : Int) (a0_2 : Int) (l1 : List (S43)) : Option ((List (S43)) × Bool) := (spec_isGood.f a0_0 a0_1 a0_2).bind fun t157 => (if t157 = true then (spec_BackVoyages.j0 k l1 (decide ((l1.length : Int) > 40)) a0_0 a0_1 a0_2) else (spec_BackVoyages.j0 k l1 true a0_0 a0_1 a0_2))
theorem spec_BackVoyages.mono_l : ∀ k, (∀ y0 y1 y2 y3 y4, LeO (spec_BackVoyages.j0 k y0 y1 y2 y3 y4) (spec_BackVoyages.j0 (k + 1) y0 y1 y2 y3 y4)) ∧ (∀ y0 y1 y2 y3 y4 y5 y6 y7 y8 y9, LeO (spec_BackVoyages.l0 k y0 y1 y2 y3 y4 y5 y6 y7 y8 y9) (spec_BackVoyages.l0 (k + 1) y0 y1 y2 y3 y4 y5 y6 y7 y8 y9)) ∧ (∀ y0 y1 y2 y3 y4 y5 y6, LeO (spec_BackVoyages.l1 k y0 y1 y2 y3 y4 y5 y6) (spec_BackVoyages.l1 (k + 1) y0 y1 y2 y3 y4 y5 y6))
 | 0 => ⟨fun _ _ _ _ _ r h => by simp [spec_BackVoyages.j0] at h, fun _ _ _ _ _ _ _ _ _ _ r h => by simp [spec_BackVoyages.l0] at h, fun _ _ _ _ _ _ _ r h => by simp [spec_BackVoyages.l1] at h⟩
 | k + 1 => by
  obtain ⟨ih0, ih1, ih2⟩ := spec_BackVoyages.mono_l k
  refine ⟨?_, ?_, ?_⟩
  ·intro y0 y1 y2 y3 y4
   unfold spec_BackVoyages.j0
   repeat' first
   | (with_reducible exact ih0 _ _ _ _ _)
   | (with_reducible exact ih1 _ _ _ _ _ _ _ _ _ _)
   | (with_reducible exact ih2 _ _ _ _ _ _ _)
   | (with_reducible exact spec_isAll.mono _ _ _ _ _)
   | (with_reducible exact spec_isCan.mono _ _ _ _ _ _ _ _)
   | (with_reducible exact spec_isCode.mono _ _ _ _ _ _)
   | (with_reducible exact spec_isSail.mono _ _ _ _ _)
   | (with_reducible exact LeO.refl _)
   | (with_reducible exact LeO.none _)
   | (with_reducible refine LeO.ite ?_ ?_)
   | (with_reducible refine LeO.bind ?_ (fun _ => ?_))
  ·intro y0 y1 y2 y3 y4 y5 y6 y7 y8 y9
   unfold spec_BackVoyages.l0
   repeat' first
   | (with_reducible exact ih0 _ _ _ _ _)
   | (with_reducible exact ih1 _ _ _ _ _ _ _ _ _ _)
   | (with_reducible exact ih2 _ _ _ _ _ _ _)
   | (with_reducible exact spec_isAll.mono _ _ _ _ _)
   | (with_reducible exact spec_isCan.mono _ _ _ _ _ _ _ _)
   | (with_reducible exact spec_isCode.mono _ _ _ _ _ _)
   | (with_reducible exact spec_isSail.mono _ _ _ _ _)
   | (with_reducible exact LeO.refl _)
   | (with_reducible exact LeO.none _)
   | (with_reducible refine LeO.ite ?_ ?_)
   | (with_reducible refine LeO.bind ?_ (fun _ => ?_))
  ·intro y0 y1 y2 y3 y4 y5 y6
   unfold spec_BackVoyages.l1
   repeat' first
   | (with_reducible exact ih0 _ _ _ _ _)
   | (with_reducible exact ih1 _ _ _ _ _ _ _ _ _ _)
   | (with_reducible exact ih2 _ _ _ _ _ _ _)
   | (with_reducible exact spec_isAll.mono _ _ _ _ _)
   | (with_reducible exact spec_isCan.mono _ _ _ _ _ _ _ _)
   | (with_reducible exact spec_isCode.mono _ _ _ _ _ _)
   | (with_reducible exact spec_isSail.mono _ _ _ _ _)
   | (with_reducible exact LeO.refl _)
   | (with_reducible exact LeO.none _)
   | (with_reducible refine LeO.ite ?_ ?_)
   | (with_reducible refine LeO.bind ?_ (fun _ => ?_))
theorem spec_BackVoyages.mono : ∀ a0 a1 a2 a3 k, LeO (spec_BackVoyages.f k a0 a1 a2 a3) (spec_BackVoyages.f (k + 1) a0 a1 a2 a3) := by
 intro a0 a1 a2 a3 k
 obtain ⟨ih0, ih1, ih2⟩ := spec_BackVoyages.mono_l k
 unfold spec_BackVoyages.f
 repeat' first
   | (with_reducible exact ih0 _ _ _ _ _)
   | (with_reducible exact ih1 _ _ _ _ _ _ _ _ _ _)
   | (with_reducible exact ih2 _ _ _ _ _ _ _)
   | (with_reducible exact spec_isAll.mono _ _ _ _ _)
   | (with_reducible exact spec_isCan.mono _ _ _ _ _ _ _ _)
   | (with_reducible exact spec_isCode.mono _ _ _ _ _ _)
   | (with_reducible exact spec_isSail.mono _ _ _ _ _)
   | (with_reducible exact LeO.refl _)
   | (with_reducible exact LeO.none _)
   | (with_reducible refine LeO.ite ?_ ?_)
   | (with_reducible refine LeO.bind ?_ (fun _ => ?_))
def spec_BackVoyages.T13 : Bool × List (List Nat × List Nat) := (true, [([], []), ([], []), ([0, 1], [0, 1]), ([], []), ([], []), ([], []), ([5], [5]), ([6], [6]), ([4, 7, 2], [4, 7]), ([3, 8, 8], [3, 8]), ([2, 9], [2, 9])])
def spec_BackVoyages.B13 : List Nat := [0, 0, 3, 0, 0, 0, 32, 96, 247, 511, 1023]
theorem spec_BackVoyages.tab13 : rtab .any (opsOf Try.f5 13) = spec_BackVoyages.T13 := by kernel_rfl
theorem spec_BackVoyages.bits13 : waitsOk spec_BackVoyages.T13.2 spec_BackVoyages.B13 = true := by kernel_rfl
def spec_BackVoyages.T19 : Bool × List (List Nat × List Nat) := (true, [([], []), ([], []), ([1], [1]), ([2], [2]), ([], []), ([], []), ([4, 5], [4, 5]), ([6], [6]), ([3, 7], [3, 7]), ([], []), ([], []), ([9, 10], [9, 10]), ([11], [11]), ([12], [12]), ([13], [13]), ([8, 14], [8, 14]), ([15], [15]), ([0, 16, 14], [0, 16]), ([17, 17, 0, 1, 2, 3, 4, 5, 6, 7, 8, 9, 10, 11, 12, 13, 14, 15, 16, 17], [0, 17])])
def spec_BackVoyages.B19 : List Nat := [0, 0, 2, 6, 0, 0, 48, 112, 254, 0, 0, 1536, 3584, 7680, 15872, 32766, 65534, 131071, 262143]
theorem spec_BackVoyages.tab19 : rtab .any (opsOf Try.f5 19) = spec_BackVoyages.T19 := by kernel_rfl
theorem spec_BackVoyages.bits19 : waitsOk spec_BackVoyages.T19.2 spec_BackVoyages.B19 = true := by kernel_rfl
set_option maxHeartbeats 8000000 in
set_option maxRecDepth 100000 in
theorem spec_BackVoyages.calls (k : Nat) (a0_0 : Int) (a0_1 : Int) (a0_2 : Int) (A1 : Option Addr) (c1 : Nat) (l1 : List (S43)) (r1 : List (S43)) (r2 : Bool) (w : World) (hr1 : Kd.C k43 w A1 l1.length l1) (hc1 : l1.length ≤ c1) (h : spec_BackVoyages.f k a0_0 a0_1 a0_2 l1 = some (r1, r2)) :
  Calls Try.prog 5 #[.agg #[.int .i64 a0_0, .int .i64 a0_1, .int .i64 a0_2], .slice A1 l1.length c1] w fun e w' => ∃ v0_ : Value, e = .returned (.tuple #[v0_, .bool r2]) ∧ Kd.S k43 43 w' w.heap.size (fun _ => True) v0_ r1 ∧ Below w.heap.size w w' := by
 have hu29 := Try.underlying29
 have hu41 := Try.underlying41
 have hu43 := Try.underlying43
 have HR1 := X.A hr1
 have HC1 := X.A hc1
 clear hr1 hc1
 have HB := X.A (Below.refl w.heap.size w)
 have H : ((spec_isGood.f a0_0 a0_1 a0_2).bind fun t157 => (if t157 = true then (spec_BackVoyages.j0 k l1 (decide ((l1.length : Int) > 40)) a0_0 a0_1 a0_2) else (spec_BackVoyages.j0 k l1 true a0_0 a0_1 a0_2))) = some (r1, r2) := h
 clear h
 have HC3 := X.A H
 clear H
 go_enter Try.func5, Try.ntmps5
 go_upto_region 1 with (first | ((with_reducible refine gate_dst (N := 2) rfl ?_); (try (refine gate_guard (by rfl) ?_; dsimp only)); refine box_event ?hg (N := 2) ?hd (cs := #[.int .i64 a0_0, .int .i64 a0_1, .int .i64 a0_2]) (t := 29) ?hr ?_; (case hd => rfl); (case hg => rfl); (case hr => exact X.R); intro gb156 hg w4 hbox hb; have n0_ := X.A (below_step X.G hb); have n1_ := X.A (hbox); have n2_ := X.A ((by rw [hg]; exact (below_size X.G) : w.heap.size ≤ gb156)); have n3_ := X.A ((by rw [hg]; exact (below_size X.G) : w.heap.size ≤ gb156)); clear HB; have HB := n0_; have BK156 := n1_; have GW156 := n2_; have GE156 := n3_; clear n0_ n1_ n2_ n3_; clear hb hbox hg))
 (try simp only [Act.put, List.setIfInBounds_toArray, List.set_cons_zero, List.set_cons_succ])
 go_cut [19] (fun v19 wc => ∃ (kq : Nat) (x19_2 : Bool), v19 = .bool x19_2 ∧ Aside0 (spec_BackVoyages.j0 kq l1 x19_2 a0_0 a0_1 a0_2 = some (r1, r2)) ∧ Aside0 (kq ≤ k) ∧ Aside0 (wc.heap[gb156]? = some (.cells #[.int .i64 a0_0, .int .i64 a0_1, .int .i64 a0_2] 29 (0, 0))) ∧ Aside0 (Below w.heap.size w wc))
 case first =>
  have H := HC3.out
  clear HC3
  replace H := Option.bind_eq_some_iff.mp H
  obtain ⟨t157, A50, H⟩ := H
  replace H : (if t157 = true then (spec_BackVoyages.j0 k l1 (decide ((l1.length : Int) > 40)) a0_0 a0_1 a0_2) else (spec_BackVoyages.j0 k l1 true a0_0 a0_1 a0_2)) = some (r1, r2) := H
  have A5 := X.A A50
  clear A50
  by_cases c6 : t157 = true
  ·subst c6
   have H1 : (spec_BackVoyages.j0 k l1 (decide ((l1.length : Int) > 40)) a0_0 a0_1 a0_2) = some (r1, r2) := by rw [if_pos rfl] at H; exact H
   clear H
   have H := H1
   clear H1
   have H' := X.A H
   clear H
   have hcz7_0 : w4.cell? ⟨gb156, 0, none⟩ = some (.int .i64 a0_0) := (blk_cell BK156.out 0).trans rfl
   have hcz7_1 : w4.cell? ⟨gb156, 1, none⟩ = some (.int .i64 a0_1) := (blk_cell BK156.out 1).trans rfl
   have hcz7_2 : w4.cell? ⟨gb156, 2, none⟩ = some (.int .i64 a0_2) := (blk_cell BK156.out 2).trans rfl
   have hfz7_0 := blk_frozen BK156.out 0
   have hfz7_1 := blk_frozen BK156.out 1
   have hfz7_2 := blk_frozen BK156.out 2
   go_wp2_with (first | ((with_reducible refine gate_callee (f := 13) rfl ?_); refine goesL_ (some 13) rfl rfl Try.func13 (by kernel_rfl) rfl #[.agg #[.int .i64 a0_0, .int .i64 a0_1, .int .i64 a0_2]] rfl X.M ?_; (with_reducible refine (spec_isGood.calls a0_0 a0_1 a0_2 true _ A5.out).mono ?_); rintro e w8 ⟨rfl, hb⟩; refine ⟨_, rfl, ?_⟩; have n0_ := X.A (X.BB BK156 hb); have n1_ := X.A (below_step X.G hb); clear BK156 HB; have BK156 := n0_; have HB := n1_; clear n0_ n1_; (try clear hb); (try clear hb2); (try clear hk); (try clear hi)))
   go_meet
   case rel => exact ⟨_, (decide ((l1.length : Int) > 40)), (by first | rfl | (simp; done) | (simp [*]; done)), H', ⟨by first | omega | exact Nat.le_refl _⟩, ⟨X.B BK156⟩, ⟨X.G⟩⟩
  ·replace c6 := Bool.eq_false_iff.mpr c6
   subst c6
   have H1 : (spec_BackVoyages.j0 k l1 true a0_0 a0_1 a0_2) = some (r1, r2) := by rw [if_neg (show ¬ (false = true) by decide)] at H; exact H
   clear H
   have H := H1
   clear H1
   have H' := X.A H
   clear H
   have hcz9_0 : w4.cell? ⟨gb156, 0, none⟩ = some (.int .i64 a0_0) := (blk_cell BK156.out 0).trans rfl
   have hcz9_1 : w4.cell? ⟨gb156, 1, none⟩ = some (.int .i64 a0_1) := (blk_cell BK156.out 1).trans rfl
   have hcz9_2 : w4.cell? ⟨gb156, 2, none⟩ = some (.int .i64 a0_2) := (blk_cell BK156.out 2).trans rfl
   have hfz9_0 := blk_frozen BK156.out 0
   have hfz9_1 := blk_frozen BK156.out 1
   have hfz9_2 := blk_frozen BK156.out 2
   go_wp2_with (first | ((with_reducible refine gate_callee (f := 13) rfl ?_); refine goesL_ (some 13) rfl rfl Try.func13 (by kernel_rfl) rfl #[.agg #[.int .i64 a0_0, .int .i64 a0_1, .int .i64 a0_2]] rfl X.M ?_; (with_reducible refine (spec_isGood.calls a0_0 a0_1 a0_2 false _ A5.out).mono ?_); rintro e w10 ⟨rfl, hb⟩; refine ⟨_, rfl, ?_⟩; have n0_ := X.A (X.BB BK156 hb); have n1_ := X.A (below_step X.G hb); clear BK156 HB; have BK156 := n0_; have HB := n1_; clear n0_ n1_; (try clear hb); (try clear hb2); (try clear hk); (try clear hi)))
   go_meet
   case rel => exact ⟨_, (true), (by first | rfl | (simp; done) | (simp [*]; done)), H', ⟨by first | omega | exact Nat.le_refl _⟩, ⟨X.B BK156⟩, ⟨X.G⟩⟩
 case rest =>
  clear HC3
  try clear c1
  try clear p2
  try clear c5
  try clear c6
  try clear hcz7_0
  try clear hcz7_1
  try clear hcz7_2
  try clear hcz9_0
  try clear hcz9_1
  try clear hcz9_2
  try clear hfz7_0
  try clear hfz7_1
  try clear hfz7_2
  try clear hfz9_0
  try clear hfz9_1
  try clear hfz9_2
  obtain ⟨kq, x19_2, rfl, HA, HJ2, BK156, HB⟩ := hcut
  cases kq with
  | zero => exact absurd HA.out (by simp [spec_BackVoyages.j0])
  | succ kj2 =>
   have H := HA.out
   clear HA
   simp only [spec_BackVoyages.j0] at H
   by_cases c11 : x19_2 = true
   ·subst c11
    have H1 : (some (([] : List (S43)), false)) = some (r1, r2) := by rw [if_pos rfl] at H; exact H
    clear H
    have H := H1
    clear H1
    simp only [Option.some.injEq, Prod.mk.injEq] at H
    obtain ⟨rfl, rfl⟩ := H
    go_wp2
    go_ret2
    exact ⟨_, by first | rfl | (simp [errW_none, errW_some] <;> rfl) | (simp [*, errW_none, errW_some] <;> rfl), by first | exact Kd.S_nil _ _ _ _ _ | exact Kd.N_nil _ _ _ _ _ | exact Kd.V_nil _ _ _ _ _ | exact Kd.Q_nil _ _ _ _ _ | exact Kd.R_nil _ _ _ _ _, X.G⟩
   ·replace c11 := Bool.eq_false_iff.mpr c11
    subst c11
    have H1 : ((spec_isAll.f kj2 a0_0 a0_1 a0_2 0).bind fun bt158 => (spec_BackVoyages.l0 kj2 l1 ([] : List Int) l1 (l1.length : Int) 0 a0_0 a0_1 a0_2 bt158.1 bt158.2)) = some (r1, r2) := by rw [if_neg (show ¬ (false = true) by decide)] at H; exact H
    clear H
    have H := H1
    clear H1
    replace H := Option.bind_eq_some_iff.mp H
    obtain ⟨⟨t158, t161⟩, A120, H⟩ := H
    replace H : (spec_BackVoyages.l0 kj2 l1 ([] : List Int) l1 (l1.length : Int) 0 a0_0 a0_1 a0_2 t158 t161) = some (r1, r2) := H
    have A12 := X.A A120
    clear A120
    have H' := X.A H
    clear H
    have hcz13_0 : wc.cell? ⟨gb156, 0, none⟩ = some (.int .i64 a0_0) := (blk_cell BK156.out 0).trans rfl
    have hcz13_1 : wc.cell? ⟨gb156, 1, none⟩ = some (.int .i64 a0_1) := (blk_cell BK156.out 1).trans rfl
    have hcz13_2 : wc.cell? ⟨gb156, 2, none⟩ = some (.int .i64 a0_2) := (blk_cell BK156.out 2).trans rfl
    have hfz13_0 := blk_frozen BK156.out 0
    have hfz13_1 := blk_frozen BK156.out 1
    have hfz13_2 := blk_frozen BK156.out 2
    go_wp2_with (first | ((with_reducible refine gate_callee (f := 14) rfl ?_); refine goesL_ (some 21) rfl rfl Try.func14 (by kernel_rfl) rfl #[.agg #[.int .i64 a0_0, .int .i64 a0_1, .int .i64 a0_2], .int .i64 0] rfl X.M ?_; (with_reducible refine (spec_isAll.calls kj2 a0_0 a0_1 a0_2 0 t158 t161 _ A12.out).mono ?_); rintro e w14 ⟨v159, rfl, ho0, hb⟩; refine ⟨_, rfl, ?_⟩; have n0_ := X.A (Kd.R_lower ho0 (below_size X.G)); have n1_ := X.A (X.BB BK156 hb); have n2_ := X.A (below_step X.G hb); clear BK156 HB; have HO160 := n0_; have BK156 := n1_; have HB := n2_; clear n0_ n1_ n2_; (try clear hb); (try clear hb2); (try clear hk); (try clear hi); (try clear ho0)) | ((with_reducible refine gate_dst (N := 6) rfl ?_); (try (refine gate_guard (by rfl) ?_; dsimp only)); refine box_event ?hg (N := 6) ?hd (cs := #[.slice none 0 0, .int .i64 0]) (t := 41) ?hr ?_; (case hd => rfl); (case hg => rfl); (case hr => exact X.R); intro gb162 hg w15 hbox hb; have n0_ := X.A (Kd.R_below (X.K HO160) hb); have n1_ := X.A (X.BB BK156 hb); have n2_ := X.A (below_step X.G hb); have n3_ := X.A (hbox); have n4_ := X.A ((by rw [hg]; exact (below_size X.G) : w.heap.size ≤ gb162)); have n5_ := X.A ((by rw [hg]; exact (below_size X.G) : w.heap.size ≤ gb162)); have n6_ := X.A (X.NL hg BK156); have n7_ := X.A (X.NG hg BK156); clear HO160 BK156 HB; have HO160 := n0_; have BK156 := n1_; have HB := n2_; have BK162 := n3_; have GW162 := n4_; have GE162 := n5_; have NB156_162 := n6_; have NB162_156 := n7_; clear n0_ n1_ n2_ n3_ n4_ n5_ n6_ n7_ hb hbox hg; obtain ⟨Ao16, co16, eo16⟩ := Kd.R_slice HO160.out; subst eo16; have hnb17 := NB162_156.out; have hnc17 := NB156_162.out; have hcz18_0 : w15.cell? ⟨gb162, 0, none⟩ = some (.slice none 0 0) := (blk_cell BK162.out 0).trans rfl; have hcz18_1 : w15.cell? ⟨gb162, 1, none⟩ = some (.int .i64 0) := (blk_cell BK162.out 1).trans rfl; have hfz18_0 := blk_frozen BK162.out 0; have hfz18_1 := blk_frozen BK162.out 1))
    go_loopg [7, 24] kj2 (fun kq v7 v24 w' => ∃ (x7_2 : List Int) (x24_2 : Int) (x163000_2 : List Int) (x163001_2 : Int) (u163000 : Value), v24 = .int .i64 x24_2 ∧ Aside0 (spec_BackVoyages.l0 kq l1 x7_2 l1 (l1.length : Int) x24_2 a0_0 a0_1 a0_2 x163000_2 x163001_2 = some (r1, r2)) ∧ Aside0 (kq ≤ kj2) ∧ Aside0 (Kd.R (Kd.int .i64) 3 w' w.heap.size (fun k_ => some k_ ≠ (u163000 : Value).ownBlock) v7 x7_2) ∧ Aside0 (Kd.R (Kd.int .i64) 3 w' w.heap.size (fun k_ => some k_ ≠ (v7 : Value).ownBlock) u163000 x163000_2) ∧ Aside0 (w'.heap[gb156]? = some (.cells #[.int .i64 a0_0, .int .i64 a0_1, .int .i64 a0_2] 29 (0, 0))) ∧ Aside0 (w'.heap[gb162]? = some (.cells #[u163000, .int .i64 x163001_2] 41 (0, 0))) ∧ Aside0 (Below w.heap.size w w'))
    case atStart => exact ⟨(([] : List Int)), (0), (t158), (t161), (.slice Ao16 t158.length co16), (by first | rfl | (simp; done) | (simp [*]; done)), H', ⟨Nat.le_refl _⟩, ⟨by first | exact Kd.R_nil _ _ _ _ _ | exact Kd.N_nil _ _ _ _ _ | exact Kd.V_nil _ _ _ _ _ | exact Kd.Q_nil _ _ _ _ _ | exact Kd.S_nil _ _ _ _ _⟩, ⟨by (with_reducible repeat (first | apply Kd.R_alloc | apply Kd.R_drewN | apply Kd.R_drew)); exact Kd.R_mono (Kd.R_far (p := ⟨gb162, 1, none⟩) (Kd.R_far (p := ⟨gb162, 0, none⟩) (Kd.R_types HO160.out BK162.out (by decide)) (fun _ hk => hk.2) (.slice Ao16 t158.length co16)) (fun _ hk => hk.2) (.int .i64 t161)) (fun _ hk => (by simp [Value.ownBlock]))⟩, ⟨by (with_reducible repeat (first | refine blk_drewN ?_ _ | refine blk_drew ?_ | refine blk_alloc ?_ _)); refine blk_far ?_ NB156_162.out _; (with_reducible repeat (first | refine blk_drewN ?_ _ | refine blk_drew ?_ | refine blk_alloc ?_ _)); refine blk_far ?_ NB156_162.out _; (with_reducible repeat (first | refine blk_drewN ?_ _ | refine blk_drew ?_ | refine blk_alloc ?_ _)); exact BK156.out⟩, ⟨by (with_reducible repeat (first | refine blk_drewN ?_ _ | refine blk_drew ?_ | refine blk_alloc ?_ _)); refine blk_put (cs := #[.slice Ao16 t158.length co16, .int .i64 0]) ?_ 1 _ rfl; (with_reducible repeat (first | refine blk_drewN ?_ _ | refine blk_drew ?_ | refine blk_alloc ?_ _)); refine blk_put (cs := #[.slice none 0 0, .int .i64 0]) ?_ 0 _ rfl; (with_reducible repeat (first | refine blk_drewN ?_ _ | refine blk_drew ?_ | refine blk_alloc ?_ _)); exact BK162.out⟩, ⟨X.G⟩⟩
    case round =>
     clear H'
     try clear c1
     try clear p2
     try clear c5
     try clear c6
     try clear c11
     try clear c13
     try clear c14
     try clear c17
     try clear hcz13_0
     try clear hcz13_1
     try clear hcz13_2
     try clear hcz18_0
     try clear hcz18_1
     try clear hcz7_0
     try clear hcz7_1
     try clear hcz7_2
     try clear hcz9_0
     try clear hcz9_1
     try clear hcz9_2
     try clear hfz13_0
     try clear hfz13_1
     try clear hfz13_2
     try clear hfz18_0
     try clear hfz18_1
     try clear hfz7_0
     try clear hfz7_1
     try clear hfz7_2
     try clear hfz9_0
     try clear hfz9_1
     try clear hfz9_2
     try clear p2
     obtain ⟨x7_2, x24_2, x163000_2, x163001_2, u163000, rfl, HA, HK2, HO_7, HO_163000, BK156, BK162, HB⟩ := hrel
     cases gk with
     | zero => exact absurd HA.out (by simp [spec_BackVoyages.l0])
     | succ k2 =>
      have H := HA.out
      clear HA
      simp only [spec_BackVoyages.l0] at H
      by_cases c19 : x24_2 < (l1.length : Int)
      ·rw [if_pos c19] at H
       have c19b0 : decide (x24_2 < (l1.length : Int)) = true := decide_eq_true c19
       clear c19
       by_cases c20 : 0 ≤ x24_2
       rotate_left
       ·rw [if_neg c20] at H
        exact absurd H (by simp)
       rw [if_pos c20] at H
       have c20b0 : decide (0 ≤ x24_2) = true := decide_eq_true c20
       clear c20
       by_cases c21 : x24_2 < (l1.length : Int)
       rotate_left
       ·rw [if_neg c21] at H
        exact absurd H (by simp)
       rw [if_pos c21] at H
       have c21b0 : decide (x24_2 < (l1.length : Int)) = true := decide_eq_true c21
       clear c21
       replace H := Option.bind_eq_some_iff.mp H
       obtain ⟨t165, A220, H⟩ := H
       replace H : (if t165 = true then (if x7_2.length < 17592186044416 then ((spec_isSail.f k2 x163000_2 x163001_2 ((rd_T43 l1 x24_2).f0) ((rd_T43 l1 x24_2).f1)).bind fun bt169 => (spec_BackVoyages.l0 k2 l1 (x7_2 ++ [x163001_2]) l1 (l1.length : Int) (wrap64 (x24_2 + 1)) a0_0 a0_1 a0_2 bt169.1 bt169.2)) else (none)) else (some (([] : List (S43)), false))) = some (r1, r2) := H
       have A22 := X.A A220
       clear A220
       by_cases c23 : t165 = true
       ·subst c23
        have H1 : (if x7_2.length < 17592186044416 then ((spec_isSail.f k2 x163000_2 x163001_2 ((rd_T43 l1 x24_2).f0) ((rd_T43 l1 x24_2).f1)).bind fun bt169 => (spec_BackVoyages.l0 k2 l1 (x7_2 ++ [x163001_2]) l1 (l1.length : Int) (wrap64 (x24_2 + 1)) a0_0 a0_1 a0_2 bt169.1 bt169.2)) else (none)) = some (r1, r2) := by rw [if_pos rfl] at H; exact H
        clear H
        have H := H1
        clear H1
        by_cases c24 : x7_2.length < 17592186044416
        rotate_left
        ·rw [if_neg c24] at H
         exact absurd H (by simp)
        rw [if_pos c24] at H
        have LMc24 := X.A c24
        clear c24
        obtain ⟨y166, hy166⟩ : ∃ y_ : List Int, y_ = (x7_2 ++ [x163001_2]) := ⟨_, rfl⟩
        replace H : ((spec_isSail.f k2 x163000_2 x163001_2 ((rd_T43 l1 x24_2).f0) ((rd_T43 l1 x24_2).f1)).bind fun bt169 => (spec_BackVoyages.l0 k2 l1 y166 l1 (l1.length : Int) (wrap64 (x24_2 + 1)) a0_0 a0_1 a0_2 bt169.1 bt169.2)) = some (r1, r2) := by first | (rw [hy166]; with_reducible exact H) | (have H2_ := (Option.bind_some _ _).symm.trans H; rw [hy166]; with_reducible exact H2_) | (have H2_ := (Option.bind_some _ _).symm.trans H; with_reducible exact H2_) | with_reducible exact H | (rw [hy166]; exact H) | exact H
        have Ny166 := X.A hy166
        clear hy166
        replace H := Option.bind_eq_some_iff.mp H
        obtain ⟨⟨t169, t172⟩, A250, H⟩ := H
        replace H : (spec_BackVoyages.l0 k2 l1 y166 l1 (l1.length : Int) (wrap64 (x24_2 + 1)) a0_0 a0_1 a0_2 t169 t172) = some (r1, r2) := H
        have A25 := X.A A250
        clear A250
        have H' := X.A H
        clear H
        have p163 : 0 ≤ (x24_2 : Int) := X.D
        have q163 : x24_2 < (l1.length : Int) := X.D
        obtain ⟨ad163, A163_1, c163_1, e163, hx163_0, hx163_1, hl163_1, hi163_1⟩ := at_T43 HR1.out x24_2 p163 q163
        cases e163
        replace hx163_0 := (HB.out.cell (World.block_lt_of_cell? w _ hx163_0)).trans hx163_0
        replace hx163_1 := (HB.out.cell (World.block_lt_of_cell? w _ hx163_1)).trans hx163_1
        have HR163_1 := X.A hi163_1
        have HC163_1 := X.A hl163_1
        clear hi163_1 hl163_1
        replace p163 := eq_true p163
        replace q163 := eq_true q163
        go_wp2_with (first | ((with_reducible refine gate_dst (N := 9) rfl ?_); (try (refine gate_guard (by rfl) ?_; dsimp only)); refine box_event ?hg (N := 9) ?hd (cs := #[.int .i64 0, .slice none 0 0]) (t := 43) ?hr ?_; (case hd => rfl); (case hg => rfl); (case hr => exact X.R); intro gb164 hg w26 hbox hb; have n0_ := X.A (Kd.R_below (X.K HO_7) hb); have n1_ := X.A (Kd.R_below (X.K HO_163000) hb); have n2_ := X.A (X.BB BK156 hb); have n3_ := X.A (X.BB BK162 hb); have n4_ := X.A (below_step X.G hb); have n5_ := X.A (hbox); have n6_ := X.A ((by rw [hg]; exact (below_size X.G) : w.heap.size ≤ gb164)); have n7_ := X.A ((by rw [hg]; exact (below_size X.G) : w.heap.size ≤ gb164)); have n8_ := X.A (X.NL hg BK156); have n9_ := X.A (X.NG hg BK156); have n10_ := X.A (X.NL hg BK162); have n11_ := X.A (X.NG hg BK162); clear HO_7 HO_163000 BK156 BK162 HB; have HO_7 := n0_; have HO_163000 := n1_; have BK156 := n2_; have BK162 := n3_; have HB := n4_; have BK164 := n5_; have GW164 := n6_; have GE164 := n7_; have NB156_164 := n8_; have NB164_156 := n9_; have NB162_164 := n10_; have NB164_162 := n11_; clear n0_ n1_ n2_ n3_ n4_ n5_ n6_ n7_ n8_ n9_ n10_ n11_ hb hbox hg; have hnb27 := NB164_156.out; have hnc27 := NB156_164.out; have hnb28 := NB164_162.out; have hnc28 := NB162_164.out; have hcz29_0 : w26.cell? ⟨gb164, 0, none⟩ = some (.int .i64 0) := (blk_cell BK164.out 0).trans rfl; have hcz29_1 : w26.cell? ⟨gb164, 1, none⟩ = some (.slice none 0 0) := (blk_cell BK164.out 1).trans rfl; have hfz29_0 := blk_frozen BK164.out 0; have hfz29_1 := blk_frozen BK164.out 1; have hnb30 := NB156_162.out; have hnc30 := NB162_156.out; have hcz31_0 : w26.cell? ⟨gb156, 0, none⟩ = some (.int .i64 a0_0) := (blk_cell BK156.out 0).trans rfl; have hcz31_1 : w26.cell? ⟨gb156, 1, none⟩ = some (.int .i64 a0_1) := (blk_cell BK156.out 1).trans rfl; have hcz31_2 : w26.cell? ⟨gb156, 2, none⟩ = some (.int .i64 a0_2) := (blk_cell BK156.out 2).trans rfl; have hfz31_0 := blk_frozen BK156.out 0; have hfz31_1 := blk_frozen BK156.out 1; have hfz31_2 := blk_frozen BK156.out 2; have hcz32_0 : w26.cell? ⟨gb162, 0, none⟩ = some (u163000) := (blk_cell BK162.out 0).trans rfl; have hcz32_1 : w26.cell? ⟨gb162, 1, none⟩ = some (.int .i64 x163001_2) := (blk_cell BK162.out 1).trans rfl; have hfz32_0 := blk_frozen BK162.out 0; have hfz32_1 := blk_frozen BK162.out 1; obtain ⟨Ao33, co33, eo33⟩ := Kd.R_slice HO_163000.out; subst eo33) | ((with_reducible refine gate_callee (f := 15) rfl ?_); refine goesL_ (some 31) rfl rfl Try.func15 (by kernel_rfl) rfl #[.agg #[.int .i64 a0_0, .int .i64 a0_1, .int .i64 a0_2], .agg #[.slice Ao33 x163000_2.length co33, .int .i64 x163001_2], .agg #[.int .i64 ((rd_T43 l1 x24_2).f0), .slice A163_1 ((rd_T43 l1 x24_2).f1).length c163_1]] rfl X.M ?_; (with_reducible refine (spec_isCan.calls k2 a0_0 a0_1 a0_2 _ _ x163000_2 x163001_2 ((rd_T43 l1 x24_2).f0) _ _ ((rd_T43 l1 x24_2).f1) true _ ?side1 ?side2 ?side3 ?side4 A22.out).mono ?_); (case side1 => refine (Kd.R_reads' (e := 3) (base := w.heap.size) (ok := fun k_ => some k_ ≠ (u7 : Value).ownBlock) (n := x163000_2.length) (c := co33) ?_).2.2; exact (by (with_reducible repeat (first | apply Kd.R_alloc | apply Kd.R_drewN | apply Kd.R_drew)); exact (Kd.R_mono (Kd.R_far (p := ⟨gb164, 1, none⟩) (Kd.R_far (p := ⟨gb164, 0, none⟩) (Kd.R_types HO_163000.out BK164.out (by decide)) (fun _ hk => hk.2) (.int .i64 ((rd_T43 l1 x24_2).f0))) (fun _ hk => hk.2) (.slice A163_1 ((rd_T43 l1 x24_2).f1).length c163_1)) (fun _ h_ => h_.1)))); (case side2 => exact (Kd.R_reads' HO_163000.out).2.1); (case side3 => exact Kd.C_below HR163_1.out X.G); (case side4 => exact HC163_1.out); rintro e w34 ⟨rfl, hb⟩; refine ⟨_, rfl, ?_⟩; have n0_ := X.A (Kd.R_below (by (with_reducible repeat (first | apply Kd.R_alloc | apply Kd.R_drewN | apply Kd.R_drew)); exact (Kd.R_mono (Kd.R_far (p := ⟨gb164, 1, none⟩) (Kd.R_far (p := ⟨gb164, 0, none⟩) (Kd.R_types HO_7.out BK164.out (by decide)) (fun _ hk => hk.2) (.int .i64 ((rd_T43 l1 x24_2).f0))) (fun _ hk => hk.2) (.slice A163_1 ((rd_T43 l1 x24_2).f1).length c163_1)) (fun _ h_ => h_.1))) hb); have n1_ := X.A (Kd.R_below (by (with_reducible repeat (first | apply Kd.R_alloc | apply Kd.R_drewN | apply Kd.R_drew)); exact (Kd.R_mono (Kd.R_far (p := ⟨gb164, 1, none⟩) (Kd.R_far (p := ⟨gb164, 0, none⟩) (Kd.R_types HO_163000.out BK164.out (by decide)) (fun _ hk => hk.2) (.int .i64 ((rd_T43 l1 x24_2).f0))) (fun _ hk => hk.2) (.slice A163_1 ((rd_T43 l1 x24_2).f1).length c163_1)) (fun _ h_ => h_.1))) hb); have n2_ := X.A (blk_below (g := gb156) (o := .cells #[.int .i64 a0_0, .int .i64 a0_1, .int .i64 a0_2] 29 (0, 0)) (by (with_reducible repeat (first | refine blk_drewN ?_ _ | refine blk_drew ?_ | refine blk_alloc ?_ _)); refine blk_far ?_ NB156_164.out _; (with_reducible repeat (first | refine blk_drewN ?_ _ | refine blk_drew ?_ | refine blk_alloc ?_ _)); refine blk_far ?_ NB156_164.out _; (with_reducible repeat (first | refine blk_drewN ?_ _ | refine blk_drew ?_ | refine blk_alloc ?_ _)); exact BK156.out) hb); have n3_ := X.A (blk_below (g := gb162) (o := .cells #[.slice Ao33 x163000_2.length co33, .int .i64 x163001_2] 41 (0, 0)) (by (with_reducible repeat (first | refine blk_drewN ?_ _ | refine blk_drew ?_ | refine blk_alloc ?_ _)); refine blk_far ?_ NB162_164.out _; (with_reducible repeat (first | refine blk_drewN ?_ _ | refine blk_drew ?_ | refine blk_alloc ?_ _)); refine blk_far ?_ NB162_164.out _; (with_reducible repeat (first | refine blk_drewN ?_ _ | refine blk_drew ?_ | refine blk_alloc ?_ _)); exact BK162.out) hb); have n4_ := X.A (blk_below (g := gb164) (o := .cells #[.int .i64 ((rd_T43 l1 x24_2).f0), .slice A163_1 ((rd_T43 l1 x24_2).f1).length c163_1] 43 (0, 0)) (by (with_reducible repeat (first | refine blk_drewN ?_ _ | refine blk_drew ?_ | refine blk_alloc ?_ _)); refine blk_put (cs := #[.int .i64 ((rd_T43 l1 x24_2).f0), .slice none 0 0]) ?_ 1 _ rfl; (with_reducible repeat (first | refine blk_drewN ?_ _ | refine blk_drew ?_ | refine blk_alloc ?_ _)); refine blk_put (cs := #[.int .i64 0, .slice none 0 0]) ?_ 0 _ rfl; (with_reducible repeat (first | refine blk_drewN ?_ _ | refine blk_drew ?_ | refine blk_alloc ?_ _)); exact BK164.out) hb); have n5_ := X.A (below_step X.G hb); clear HO_7 HO_163000 BK156 BK162 BK164 HB; have HO_7 := n0_; have HO_163000 := n1_; have BK156 := n2_; have BK162 := n3_; have BK164 := n4_; have HB := n5_; clear n0_ n1_ n2_ n3_ n4_ n5_; (try clear hb); (try clear hb2); (try clear hk); (try clear hi); have hcz35_0 : w34.cell? ⟨gb162, 0, none⟩ = some (.slice Ao33 x163000_2.length co33) := (blk_cell BK162.out 0).trans rfl; have hcz35_1 : w34.cell? ⟨gb162, 1, none⟩ = some (.int .i64 x163001_2) := (blk_cell BK162.out 1).trans rfl; have hfz35_0 := blk_frozen BK162.out 0; have hfz35_1 := blk_frozen BK162.out 1) | ((with_reducible refine gate_builtin (b := .append) (xs := #[.tmp 33, .tmp 36]) rfl ?_); (try (refine gate_guard (by rfl) ?_; dsimp only)); at_builtin; refine Kd.R_append (Kd.int .i64) (w0 := w) w.heap.size rfl (.tmp 33) (.tmp 36) 36 3 (.int .i64 0) 8 rfl Try.underlying36 info3 rfl (by decide) (by omega) u7 x7_2 x163001_2 [.int .i64 x163001_2] (fun k_ => some k_ ≠ (.slice Ao33 x163000_2.length co33 : Value).ownBlock) (fun _ => False) rfl rfl ?aP (fun _ hk => hk.elim) ?aF ?aO ?aB ?aS ?aL ?_; (case aP => exact rfl); (case aB => exact X.G); (case aF => exact (fun k_ hk => Kd.fresh' (Kd.R_lt (X.K HO_163000)) k_ hk)); (case aO => exact (X.K HO_7)); (case aS => exact (below_size X.G)); (case aL => have := LMc24.out; omega); intro v167 w36 ho hb hg hat; rw [← Ny166.out] at ho; have n0_ := X.A (Kd.R_after (ok := (fun _ => True)) (by (with_reducible repeat (first | apply Kd.R_alloc | apply Kd.R_drewN | apply Kd.R_drew)); exact Kd.R_mono HO_163000.out (fun _ hk => ⟨trivial, hk⟩)) hg hat); have n1_ := X.A (blk_grown (g := gb156) (o := .cells #[.int .i64 a0_0, .int .i64 a0_1, .int .i64 a0_2] 29 (0, 0)) (X.B BK156) hg (Kd.R_ne HO_7.out BK156.out (by decide))); have n2_ := X.A (blk_grown (g := gb162) (o := .cells #[.slice Ao33 x163000_2.length co33, .int .i64 x163001_2] 41 (0, 0)) (X.B BK162) hg (Kd.R_ne HO_7.out BK162.out (by decide))); have n3_ := X.A (blk_grown (g := gb164) (o := .cells #[.int .i64 ((rd_T43 l1 x24_2).f0), .slice A163_1 ((rd_T43 l1 x24_2).f1).length c163_1] 43 (0, 0)) (X.B BK164) hg (Kd.R_ne HO_7.out BK164.out (by decide))); have n4_ := X.A (hb); have n5_ := X.A (ho); clear HO_163000 BK156 BK162 BK164 HB HO_7; have HO_163000 := n0_; have BK156 := n1_; have BK162 := n2_; have BK164 := n3_; have HB := n4_; have HO168 := n5_; clear n0_ n1_ n2_ n3_ n4_ n5_ ho hb hg hat; have hcz37_0 : w36.cell? ⟨gb162, 0, none⟩ = some (.slice Ao33 x163000_2.length co33) := (blk_cell BK162.out 0).trans rfl; have hcz37_1 : w36.cell? ⟨gb162, 1, none⟩ = some (.int .i64 x163001_2) := (blk_cell BK162.out 1).trans rfl; have hfz37_0 := blk_frozen BK162.out 0; have hfz37_1 := blk_frozen BK162.out 1; have hcz38_0 : w36.cell? ⟨gb164, 0, none⟩ = some (.int .i64 ((rd_T43 l1 x24_2).f0)) := (blk_cell BK164.out 0).trans rfl; have hcz38_1 : w36.cell? ⟨gb164, 1, none⟩ = some (.slice A163_1 ((rd_T43 l1 x24_2).f1).length c163_1) := (blk_cell BK164.out 1).trans rfl; have hfz38_0 := blk_frozen BK164.out 0; have hfz38_1 := blk_frozen BK164.out 1) | ((with_reducible refine gate_callee (f := 16) rfl ?_); refine goesL_ (some 40) rfl rfl Try.func16 (by kernel_rfl) rfl #[.agg #[.slice Ao33 x163000_2.length co33, .int .i64 x163001_2], .agg #[.int .i64 ((rd_T43 l1 x24_2).f0), .slice A163_1 ((rd_T43 l1 x24_2).f1).length c163_1]] rfl X.M ?_; (with_reducible refine (spec_isSail.calls k2 _ _ x163000_2 x163001_2 ((rd_T43 l1 x24_2).f0) _ _ ((rd_T43 l1 x24_2).f1) t169 t172 _ ?side1 ?side2 ?side3 ?side4 A25.out).mono ?_); (case side1 => exact X.C (Kd.R_reads' HO_163000.out).2.2); (case side2 => exact (Kd.R_reads' HO_163000.out).2.1); (case side3 => exact X.C (Kd.C_below HR163_1.out HB.out)); (case side4 => exact HC163_1.out); rintro e w39 ⟨v170, rfl, ho0, hb⟩; refine ⟨_, rfl, ?_⟩; have n0_ := X.A (Kd.R_elder' (X.K HO_163000) (Kd.R_base ho0) hb); have n1_ := X.A (Kd.R_elder' (X.K HO168) (Kd.R_base ho0) hb); have n2_ := X.A (Kd.R_lower (Kd.R_new' (Kd.R_new' ho0 (Kd.R_lt (X.K HO_163000))) (Kd.R_lt (X.K HO168))) (below_size X.G)); have n3_ := X.A (X.BB BK156 hb); have n4_ := X.A (X.BB BK162 hb); have n5_ := X.A (blk_below (g := gb164) (o := .cells #[.int .i64 ((rd_T43 l1 x24_2).f0), .slice A163_1 ((rd_T43 l1 x24_2).f1).length c163_1] 43 (0, 0)) (X.B BK164) hb); have n6_ := X.A (below_step X.G hb); clear HO_163000 HO168 BK156 BK162 BK164 HB; have HO_163000 := n0_; have HO168 := n1_; have HO171 := n2_; have BK156 := n3_; have BK162 := n4_; have BK164 := n5_; have HB := n6_; clear n0_ n1_ n2_ n3_ n4_ n5_ n6_; (try clear hb); (try clear hb2); (try clear hk); (try clear hi); (try clear ho0); obtain ⟨Ao40, co40, eo40⟩ := Kd.R_slice HO171.out; subst eo40; have hcz41_0 : w39.cell? ⟨gb162, 0, none⟩ = some (.slice Ao33 x163000_2.length co33) := (blk_cell BK162.out 0).trans rfl; have hcz41_1 : w39.cell? ⟨gb162, 1, none⟩ = some (.int .i64 x163001_2) := (blk_cell BK162.out 1).trans rfl; have hfz41_0 := blk_frozen BK162.out 0; have hfz41_1 := blk_frozen BK162.out 1))
        go_roundg k2
        case measure => have := HJ2.out; have := HK2.out; omega
        case rel => exact ⟨(y166), (wrap64 (x24_2 + 1)), (t169), (t172), (.slice Ao40 t169.length co40), (by first | rfl | (simp; done) | (simp [*]; done)), H', ⟨by have := HJ2.out; have := HK2.out; omega⟩, ⟨by (with_reducible repeat (first | apply Kd.R_alloc | apply Kd.R_drewN | apply Kd.R_drew)); exact Kd.R_mono (Kd.R_far (p := ⟨gb162, 1, none⟩) (Kd.R_far (p := ⟨gb162, 0, none⟩) (Kd.R_types HO168.out BK162.out (by decide)) (fun _ hk => hk.2) (.slice Ao40 t169.length co40)) (fun _ hk => hk.2) (.int .i64 t172)) (fun _ hk => hk.1.2)⟩, ⟨by (with_reducible repeat (first | apply Kd.R_alloc | apply Kd.R_drewN | apply Kd.R_drew)); exact Kd.R_mono (Kd.R_far (p := ⟨gb162, 1, none⟩) (Kd.R_far (p := ⟨gb162, 0, none⟩) (Kd.R_types HO171.out BK162.out (by decide)) (fun _ hk => hk.2) (.slice Ao40 t169.length co40)) (fun _ hk => hk.2) (.int .i64 t172)) (fun _ hk => hk.1.2)⟩, ⟨by (with_reducible repeat (first | refine blk_drewN ?_ _ | refine blk_drew ?_ | refine blk_alloc ?_ _)); refine blk_far ?_ NB156_162.out _; (with_reducible repeat (first | refine blk_drewN ?_ _ | refine blk_drew ?_ | refine blk_alloc ?_ _)); refine blk_far ?_ NB156_162.out _; (with_reducible repeat (first | refine blk_drewN ?_ _ | refine blk_drew ?_ | refine blk_alloc ?_ _)); exact BK156.out⟩, ⟨by (with_reducible repeat (first | refine blk_drewN ?_ _ | refine blk_drew ?_ | refine blk_alloc ?_ _)); refine blk_put (cs := #[.slice Ao40 t169.length co40, .int .i64 x163001_2]) ?_ 1 _ rfl; (with_reducible repeat (first | refine blk_drewN ?_ _ | refine blk_drew ?_ | refine blk_alloc ?_ _)); refine blk_put (cs := #[.slice Ao33 x163000_2.length co33, .int .i64 x163001_2]) ?_ 0 _ rfl; (with_reducible repeat (first | refine blk_drewN ?_ _ | refine blk_drew ?_ | refine blk_alloc ?_ _)); exact BK162.out⟩, ⟨X.G⟩⟩
       ·replace c23 := Bool.eq_false_iff.mpr c23
        subst c23
        have H1 : (some (([] : List (S43)), false)) = some (r1, r2) := by rw [if_neg (show ¬ (false = true) by decide)] at H; exact H
        clear H
        have H := H1
        clear H1
        simp only [Option.some.injEq, Prod.mk.injEq] at H
        obtain ⟨rfl, rfl⟩ := H
        have p163 : 0 ≤ (x24_2 : Int) := X.D
        have q163 : x24_2 < (l1.length : Int) := X.D
        obtain ⟨ad163, A163_1, c163_1, e163, hx163_0, hx163_1, hl163_1, hi163_1⟩ := at_T43 HR1.out x24_2 p163 q163
        cases e163
        replace hx163_0 := (HB.out.cell (World.block_lt_of_cell? w _ hx163_0)).trans hx163_0
        replace hx163_1 := (HB.out.cell (World.block_lt_of_cell? w _ hx163_1)).trans hx163_1
        have HR163_1 := X.A hi163_1
        have HC163_1 := X.A hl163_1
        clear hi163_1 hl163_1
        replace p163 := eq_true p163
        replace q163 := eq_true q163
        go_wp2_with (first | ((with_reducible refine gate_dst (N := 9) rfl ?_); (try (refine gate_guard (by rfl) ?_; dsimp only)); refine box_event ?hg (N := 9) ?hd (cs := #[.int .i64 0, .slice none 0 0]) (t := 43) ?hr ?_; (case hd => rfl); (case hg => rfl); (case hr => exact X.R); intro gb164 hg w42 hbox hb; have n0_ := X.A (Kd.R_below (X.K HO_7) hb); have n1_ := X.A (Kd.R_below (X.K HO_163000) hb); have n2_ := X.A (X.BB BK156 hb); have n3_ := X.A (X.BB BK162 hb); have n4_ := X.A (below_step X.G hb); have n5_ := X.A (hbox); have n6_ := X.A ((by rw [hg]; exact (below_size X.G) : w.heap.size ≤ gb164)); have n7_ := X.A ((by rw [hg]; exact (below_size X.G) : w.heap.size ≤ gb164)); have n8_ := X.A (X.NL hg BK156); have n9_ := X.A (X.NG hg BK156); have n10_ := X.A (X.NL hg BK162); have n11_ := X.A (X.NG hg BK162); clear HO_7 HO_163000 BK156 BK162 HB; have HO_7 := n0_; have HO_163000 := n1_; have BK156 := n2_; have BK162 := n3_; have HB := n4_; have BK164 := n5_; have GW164 := n6_; have GE164 := n7_; have NB156_164 := n8_; have NB164_156 := n9_; have NB162_164 := n10_; have NB164_162 := n11_; clear n0_ n1_ n2_ n3_ n4_ n5_ n6_ n7_ n8_ n9_ n10_ n11_ hb hbox hg; have hnb43 := NB164_156.out; have hnc43 := NB156_164.out; have hnb44 := NB164_162.out; have hnc44 := NB162_164.out; have hcz45_0 : w42.cell? ⟨gb164, 0, none⟩ = some (.int .i64 0) := (blk_cell BK164.out 0).trans rfl; have hcz45_1 : w42.cell? ⟨gb164, 1, none⟩ = some (.slice none 0 0) := (blk_cell BK164.out 1).trans rfl; have hfz45_0 := blk_frozen BK164.out 0; have hfz45_1 := blk_frozen BK164.out 1; have hnb46 := NB156_162.out; have hnc46 := NB162_156.out; have hcz47_0 : w42.cell? ⟨gb156, 0, none⟩ = some (.int .i64 a0_0) := (blk_cell BK156.out 0).trans rfl; have hcz47_1 : w42.cell? ⟨gb156, 1, none⟩ = some (.int .i64 a0_1) := (blk_cell BK156.out 1).trans rfl; have hcz47_2 : w42.cell? ⟨gb156, 2, none⟩ = some (.int .i64 a0_2) := (blk_cell BK156.out 2).trans rfl; have hfz47_0 := blk_frozen BK156.out 0; have hfz47_1 := blk_frozen BK156.out 1; have hfz47_2 := blk_frozen BK156.out 2; have hcz48_0 : w42.cell? ⟨gb162, 0, none⟩ = some (u163000) := (blk_cell BK162.out 0).trans rfl; have hcz48_1 : w42.cell? ⟨gb162, 1, none⟩ = some (.int .i64 x163001_2) := (blk_cell BK162.out 1).trans rfl; have hfz48_0 := blk_frozen BK162.out 0; have hfz48_1 := blk_frozen BK162.out 1; obtain ⟨Ao49, co49, eo49⟩ := Kd.R_slice HO_163000.out; subst eo49) | ((with_reducible refine gate_callee (f := 15) rfl ?_); refine goesL_ (some 31) rfl rfl Try.func15 (by kernel_rfl) rfl #[.agg #[.int .i64 a0_0, .int .i64 a0_1, .int .i64 a0_2], .agg #[.slice Ao49 x163000_2.length co49, .int .i64 x163001_2], .agg #[.int .i64 ((rd_T43 l1 x24_2).f0), .slice A163_1 ((rd_T43 l1 x24_2).f1).length c163_1]] rfl X.M ?_; (with_reducible refine (spec_isCan.calls k2 a0_0 a0_1 a0_2 _ _ x163000_2 x163001_2 ((rd_T43 l1 x24_2).f0) _ _ ((rd_T43 l1 x24_2).f1) false _ ?side1 ?side2 ?side3 ?side4 A22.out).mono ?_); (case side1 => refine (Kd.R_reads' (e := 3) (base := w.heap.size) (ok := fun k_ => some k_ ≠ (u7 : Value).ownBlock) (n := x163000_2.length) (c := co49) ?_).2.2; exact (by (with_reducible repeat (first | apply Kd.R_alloc | apply Kd.R_drewN | apply Kd.R_drew)); exact (Kd.R_mono (Kd.R_far (p := ⟨gb164, 1, none⟩) (Kd.R_far (p := ⟨gb164, 0, none⟩) (Kd.R_types HO_163000.out BK164.out (by decide)) (fun _ hk => hk.2) (.int .i64 ((rd_T43 l1 x24_2).f0))) (fun _ hk => hk.2) (.slice A163_1 ((rd_T43 l1 x24_2).f1).length c163_1)) (fun _ h_ => h_.1)))); (case side2 => exact (Kd.R_reads' HO_163000.out).2.1); (case side3 => exact Kd.C_below HR163_1.out X.G); (case side4 => exact HC163_1.out); rintro e w50 ⟨rfl, hb⟩; refine ⟨_, rfl, ?_⟩; have n0_ := X.A (Kd.R_below (by (with_reducible repeat (first | apply Kd.R_alloc | apply Kd.R_drewN | apply Kd.R_drew)); exact (Kd.R_mono (Kd.R_far (p := ⟨gb164, 1, none⟩) (Kd.R_far (p := ⟨gb164, 0, none⟩) (Kd.R_types HO_7.out BK164.out (by decide)) (fun _ hk => hk.2) (.int .i64 ((rd_T43 l1 x24_2).f0))) (fun _ hk => hk.2) (.slice A163_1 ((rd_T43 l1 x24_2).f1).length c163_1)) (fun _ h_ => h_.1))) hb); have n1_ := X.A (Kd.R_below (by (with_reducible repeat (first | apply Kd.R_alloc | apply Kd.R_drewN | apply Kd.R_drew)); exact (Kd.R_mono (Kd.R_far (p := ⟨gb164, 1, none⟩) (Kd.R_far (p := ⟨gb164, 0, none⟩) (Kd.R_types HO_163000.out BK164.out (by decide)) (fun _ hk => hk.2) (.int .i64 ((rd_T43 l1 x24_2).f0))) (fun _ hk => hk.2) (.slice A163_1 ((rd_T43 l1 x24_2).f1).length c163_1)) (fun _ h_ => h_.1))) hb); have n2_ := X.A (blk_below (g := gb156) (o := .cells #[.int .i64 a0_0, .int .i64 a0_1, .int .i64 a0_2] 29 (0, 0)) (by (with_reducible repeat (first | refine blk_drewN ?_ _ | refine blk_drew ?_ | refine blk_alloc ?_ _)); refine blk_far ?_ NB156_164.out _; (with_reducible repeat (first | refine blk_drewN ?_ _ | refine blk_drew ?_ | refine blk_alloc ?_ _)); refine blk_far ?_ NB156_164.out _; (with_reducible repeat (first | refine blk_drewN ?_ _ | refine blk_drew ?_ | refine blk_alloc ?_ _)); exact BK156.out) hb); have n3_ := X.A (blk_below (g := gb162) (o := .cells #[.slice Ao49 x163000_2.length co49, .int .i64 x163001_2] 41 (0, 0)) (by (with_reducible repeat (first | refine blk_drewN ?_ _ | refine blk_drew ?_ | refine blk_alloc ?_ _)); refine blk_far ?_ NB162_164.out _; (with_reducible repeat (first | refine blk_drewN ?_ _ | refine blk_drew ?_ | refine blk_alloc ?_ _)); refine blk_far ?_ NB162_164.out _; (with_reducible repeat (first | refine blk_drewN ?_ _ | refine blk_drew ?_ | refine blk_alloc ?_ _)); exact BK162.out) hb); have n4_ := X.A (blk_below (g := gb164) (o := .cells #[.int .i64 ((rd_T43 l1 x24_2).f0), .slice A163_1 ((rd_T43 l1 x24_2).f1).length c163_1] 43 (0, 0)) (by (with_reducible repeat (first | refine blk_drewN ?_ _ | refine blk_drew ?_ | refine blk_alloc ?_ _)); refine blk_put (cs := #[.int .i64 ((rd_T43 l1 x24_2).f0), .slice none 0 0]) ?_ 1 _ rfl; (with_reducible repeat (first | refine blk_drewN ?_ _ | refine blk_drew ?_ | refine blk_alloc ?_ _)); refine blk_put (cs := #[.int .i64 0, .slice none 0 0]) ?_ 0 _ rfl; (with_reducible repeat (first | refine blk_drewN ?_ _ | refine blk_drew ?_ | refine blk_alloc ?_ _)); exact BK164.out) hb); have n5_ := X.A (below_step X.G hb); clear HO_7 HO_163000 BK156 BK162 BK164 HB; have HO_7 := n0_; have HO_163000 := n1_; have BK156 := n2_; have BK162 := n3_; have BK164 := n4_; have HB := n5_; clear n0_ n1_ n2_ n3_ n4_ n5_; (try clear hb); (try clear hb2); (try clear hk); (try clear hi)))
        go_ret2
        exact ⟨_, by first | rfl | (simp [errW_none, errW_some] <;> rfl) | (simp [*, errW_none, errW_some] <;> rfl), by first | exact Kd.S_nil _ _ _ _ _ | exact Kd.N_nil _ _ _ _ _ | exact Kd.V_nil _ _ _ _ _ | exact Kd.Q_nil _ _ _ _ _ | exact Kd.R_nil _ _ _ _ _, X.G⟩
      ·rw [if_neg c19] at H
       have c19b0 : decide (x24_2 < (l1.length : Int)) = false := decide_eq_false c19
       clear c19
       replace H := Option.bind_eq_some_iff.mp H
       obtain ⟨t173, A510, H⟩ := H
       replace H : ((spec_isAll.f k2 a0_0 a0_1 a0_2 (wrap64 (a0_2 + 1))).bind fun bt174 => ((spec_isCode.f k2 a0_0 a0_1 a0_2 bt174.1 bt174.2).bind fun t178 => (if t173 = t178 then (spec_BackVoyages.l1 k2 l1 x7_2 ([] : List (S43)) (wrap64 ((l1.length : Int) - 1)) a0_0 a0_1 a0_2) else (some (([] : List (S43)), false))))) = some (r1, r2) := H
       have A51 := X.A A510
       clear A510
       replace H := Option.bind_eq_some_iff.mp H
       obtain ⟨⟨t174, t177⟩, A520, H⟩ := H
       replace H : ((spec_isCode.f k2 a0_0 a0_1 a0_2 t174 t177).bind fun t178 => (if t173 = t178 then (spec_BackVoyages.l1 k2 l1 x7_2 ([] : List (S43)) (wrap64 ((l1.length : Int) - 1)) a0_0 a0_1 a0_2) else (some (([] : List (S43)), false)))) = some (r1, r2) := H
       have A52 := X.A A520
       clear A520
       replace H := Option.bind_eq_some_iff.mp H
       obtain ⟨t178, A530, H⟩ := H
       replace H : (if t173 = t178 then (spec_BackVoyages.l1 k2 l1 x7_2 ([] : List (S43)) (wrap64 ((l1.length : Int) - 1)) a0_0 a0_1 a0_2) else (some (([] : List (S43)), false))) = some (r1, r2) := H
       have A53 := X.A A530
       clear A530
       by_cases c54 : t173 = t178
       ·rw [if_pos c54] at H
        have c54b0 : (t173 == t178) = true := beq_iff_eq.mpr c54
        have c54b1 : (t173 != t178) = false := bne_eq_false_iff_eq.mpr c54
        clear c54
        have H' := X.A H
        clear H
        try go_wp2
        have n0_ := X.A (Kd.R_drew HO_7.out)
        have n1_ := X.A (Kd.R_drew HO_163000.out)
        have n2_ := X.A (blk_drew BK156.out)
        have n3_ := X.A (blk_drew BK162.out)
        have n4_ := X.A (below_drew1 HB.out)
        clear HO_7 HO_163000 BK156 BK162 HB
        have HO_7 := n0_
        have HO_163000 := n1_
        have BK156 := n2_
        have BK162 := n3_
        have HB := n4_
        clear n0_ n1_ n2_ n3_ n4_
        obtain ⟨Ao56, co56, eo56⟩ := Kd.R_slice HO_163000.out
        (first | subst eo56 | (injection eo56 with f1_ f2_ f3_; have f4_ := f1_.symm; have f5_ := f3_.symm; clear f1_ f2_ f3_; subst f4_; subst f5_))
        refine start_ (n := 11) (S := fun w' => w'.cell? ⟨gb156, 0, none⟩ = some (.int .i64 a0_0) ∧ w'.cell? ⟨gb156, 1, none⟩ = some (.int .i64 a0_1) ∧ w'.cell? ⟨gb156, 2, none⟩ = some (.int .i64 a0_2) ∧ w'.cell? ⟨gb162, 0, none⟩ = some (.slice Ao56 x163000_2.length co56) ∧ w'.cell? ⟨gb162, 1, none⟩ = some (.int .i64 x163001_2)) (ds := []) #[false, false, false, false, false, false, false, false, false, false, false] (by kernel_rfl) rfl rfl ⟨(blk_cell BK156.out 0).trans rfl, (blk_cell BK156.out 1).trans rfl, (blk_cell BK156.out 2).trans rfl, (blk_cell BK162.out 0).trans rfl, (blk_cell BK162.out 1).trans rfl⟩ (fun hHeld => ?_); refine with_tabW spec_BackVoyages.tab13 spec_BackVoyages.bits13 (fun HT_ HW_ => ?_)
        generalize wr.drew = w55 at HO_7 HO_163000 BK156 BK162 HB hHeld ⊢
        refine pure_ (i := 5) (N := some 47) (v := ?_) (a' := ?_) #[false, false, false, false, false, true, false, false, false, false, false] rfl rfl (any_of HT_.out (by kernel_rfl)) (fun _ _ _ h => h) (Or.inl ⟨by rfl, ?_⟩) ?_ ?_
        rotate_left
        ·intro w'
         go_simp
         with_reducible rfl
        rotate_left
        ·exact X.Pu
        refine take_ (i := 0) (N := some 42) (v := ?_) (a' := ?_) #[true, false, false, false, false, true, false, false, false, false, false] rfl rfl (take_ofW HT_.out HW_.out (by kernel_rfl)) (fun _ _ _ h => h) (Or.inl ⟨by rfl, ?_⟩) hHeld ?_ ?_
        rotate_left
        ·rintro w' ⟨s0, s1, s2, s3, s4⟩
         go_simp
         with_reducible rfl
        rotate_left
        ·exact X.Pu
        refine take_ (i := 1) (N := some 43) (v := ?_) (a' := ?_) #[true, true, false, false, false, true, false, false, false, false, false] rfl rfl (take_ofW HT_.out HW_.out (by kernel_rfl)) (fun _ _ _ h => h) (Or.inl ⟨by rfl, ?_⟩) hHeld ?_ ?_
        rotate_left
        ·rintro w' ⟨s0, s1, s2, s3, s4⟩
         go_simp
         with_reducible rfl
        rotate_left
        ·exact X.Pu
        refine take_ (i := 3) (N := some 45) (v := ?_) (a' := ?_) #[true, true, false, true, false, true, false, false, false, false, false] rfl rfl (take_ofW HT_.out HW_.out (by kernel_rfl)) (fun _ _ _ h => h) (Or.inl ⟨by rfl, ?_⟩) hHeld ?_ ?_
        rotate_left
        ·rintro w' ⟨s0, s1, s2, s3, s4⟩
         go_simp
         with_reducible rfl
        rotate_left
        ·exact X.Pu
        refine take_ (i := 4) (N := some 46) (v := ?_) (a' := ?_) #[true, true, false, true, true, true, false, false, false, false, false] rfl rfl (take_ofW HT_.out HW_.out (by kernel_rfl)) (fun _ _ _ h => h) (Or.inl ⟨by rfl, ?_⟩) hHeld ?_ ?_
        rotate_left
        ·rintro w' ⟨s0, s1, s2, s3, s4⟩
         go_simp
         with_reducible rfl
        rotate_left
        ·exact X.Pu
        refine take_ (i := 6) (N := some 48) (v := ?_) (a' := ?_) #[true, true, false, true, true, true, true, false, false, false, false] rfl rfl (take_ofW HT_.out HW_.out (by kernel_rfl)) (fun _ _ _ h => h) (Or.inl ⟨by rfl, ?_⟩) hHeld ?_ ?_
        rotate_left
        ·rintro w' ⟨s0, s1, s2, s3, s4⟩
         go_simp
         with_reducible rfl
        rotate_left
        ·exact X.Pu
        refine pure_ (i := 7) (N := some 49) (v := ?_) (a' := ?_) #[true, true, false, true, true, true, true, true, false, false, false] rfl rfl (any_of HT_.out (by kernel_rfl)) (fun _ _ _ h => h) (Or.inl ⟨by rfl, ?_⟩) ?_ ?_
        rotate_left
        ·intro w'
         go_simp
         with_reducible rfl
        rotate_left
        ·exact X.Pu
        refine one_ (i := 2) (N := some 44) #[true, true, true, true, true, true, true, true, false, false, false] rfl rfl (one_of HT_.out (by kernel_rfl)) (by decide) (fun K hK => ?_)
        refine goes_ Try.func17 (by kernel_rfl) rfl #[.agg #[.int .i64 a0_0, .int .i64 a0_1, .int .i64 a0_2], .agg #[.slice Ao56 x163000_2.length co56, .int .i64 x163001_2]] (by rfl) rfl rfl X.M ?_
        with_reducible refine (spec_isCode.calls k2 a0_0 a0_1 a0_2 _ _ x163000_2 x163001_2 t173 _ ?side1 ?side2 A51.out).mono ?_
        (case side1 => exact X.C (Kd.R_reads' HO_163000.out).2.2)
        (case side2 => exact (Kd.R_reads' HO_163000.out).2.1)
        rintro e w57 ⟨rfl, hb⟩
        refine ⟨_, rfl, ?_⟩
        have n0_ := X.A (Kd.R_below (X.K HO_7) hb)
        have n1_ := X.A (Kd.R_below (X.K HO_163000) hb)
        have n2_ := X.A (X.BB BK156 hb)
        have n3_ := X.A (X.BB BK162 hb)
        have n4_ := X.A (below_step X.G hb)
        clear HO_7 HO_163000 BK156 BK162 HB
        have HO_7 := n0_
        have HO_163000 := n1_
        have BK156 := n2_
        have BK162 := n3_
        have HB := n4_
        clear n0_ n1_ n2_ n3_ n4_
        (try clear hb)
        (try clear hb2)
        (try clear hk)
        (try clear hi)
        refine hK.out _ _ ⟨(blk_cell BK156.out 0).trans rfl, (blk_cell BK156.out 1).trans rfl, (blk_cell BK156.out 2).trans rfl, (blk_cell BK162.out 0).trans rfl, (blk_cell BK162.out 1).trans rfl⟩ (fun hHeld => ?_)
        clear hK K
        refine norm_ (a' := ?_) ?_ ?_
        rotate_left
        ·exact (show Act.put _ (some 44) _ = _ from X.Pu)
        refine one_ (i := 8) (N := some 50) #[true, true, true, true, true, true, true, true, true, false, false] rfl rfl (one_of HT_.out (by kernel_rfl)) (by decide) (fun K hK => ?_)
        refine goes_ Try.func14 (by kernel_rfl) rfl #[.agg #[.int .i64 a0_0, .int .i64 a0_1, .int .i64 a0_2], .int .i64 (wrap64 (a0_2 + 1))] (by rfl) rfl rfl X.M ?_
        with_reducible refine (spec_isAll.calls k2 a0_0 a0_1 a0_2 (wrap64 (a0_2 + 1)) t174 t177 _ A52.out).mono ?_
        rintro e w58 ⟨v175, rfl, ho0, hb⟩
        refine ⟨_, rfl, ?_⟩
        have n0_ := X.A (Kd.R_elder' (X.K HO_7) (Kd.R_base ho0) hb)
        have n1_ := X.A (Kd.R_elder' (X.K HO_163000) (Kd.R_base ho0) hb)
        have n2_ := X.A (Kd.R_lower (Kd.R_new' (Kd.R_new' ho0 (Kd.R_lt (X.K HO_7))) (Kd.R_lt (X.K HO_163000))) (below_size X.G))
        have n3_ := X.A (X.BB BK156 hb)
        have n4_ := X.A (X.BB BK162 hb)
        have n5_ := X.A (below_step X.G hb)
        clear HO_7 HO_163000 BK156 BK162 HB
        have HO_7 := n0_
        have HO_163000 := n1_
        have HO176 := n2_
        have BK156 := n3_
        have BK162 := n4_
        have HB := n5_
        clear n0_ n1_ n2_ n3_ n4_ n5_
        (try clear hb)
        (try clear hb2)
        (try clear hk)
        (try clear hi)
        (try clear ho0)
        obtain ⟨Ao59, co59, eo59⟩ := Kd.R_slice HO176.out
        (first | subst eo59 | (injection eo59 with f1_ f2_ f3_; have f4_ := f1_.symm; have f5_ := f3_.symm; clear f1_ f2_ f3_; subst f4_; subst f5_))
        refine hK.out _ _ ⟨(blk_cell BK156.out 0).trans rfl, (blk_cell BK156.out 1).trans rfl, (blk_cell BK156.out 2).trans rfl, (blk_cell BK162.out 0).trans rfl, (blk_cell BK162.out 1).trans rfl⟩ (fun hHeld => ?_)
        clear hK K
        refine norm_ (a' := ?_) ?_ ?_
        rotate_left
        ·exact (show Act.put _ (some 50) _ = _ from X.Pu)
        refine one_ (i := 9) (N := some 51) #[true, true, true, true, true, true, true, true, true, true, false] rfl rfl (one_of HT_.out (by kernel_rfl)) (by decide) (fun K hK => ?_)
        refine goes_ Try.func17 (by kernel_rfl) rfl #[.agg #[.int .i64 a0_0, .int .i64 a0_1, .int .i64 a0_2], .agg #[.slice Ao59 t174.length co59, .int .i64 t177]] (by rfl) rfl rfl X.M ?_
        with_reducible refine (spec_isCode.calls k2 a0_0 a0_1 a0_2 _ _ t174 t177 t178 _ ?side1 ?side2 A53.out).mono ?_
        (case side1 => exact X.C (Kd.R_reads' HO176.out).2.2)
        (case side2 => exact (Kd.R_reads' HO176.out).2.1)
        rintro e w60 ⟨rfl, hb⟩
        refine ⟨_, rfl, ?_⟩
        have n0_ := X.A (Kd.R_below (X.K HO_7) hb)
        have n1_ := X.A (Kd.R_below (X.K HO_163000) hb)
        have n2_ := X.A (Kd.R_below (X.K HO176) hb)
        have n3_ := X.A (X.BB BK156 hb)
        have n4_ := X.A (X.BB BK162 hb)
        have n5_ := X.A (below_step X.G hb)
        clear HO_7 HO_163000 HO176 BK156 BK162 HB
        have HO_7 := n0_
        have HO_163000 := n1_
        have HO176 := n2_
        have BK156 := n3_
        have BK162 := n4_
        have HB := n5_
        clear n0_ n1_ n2_ n3_ n4_ n5_
        (try clear hb)
        (try clear hb2)
        (try clear hk)
        (try clear hi)
        refine hK.out _ _ ⟨(blk_cell BK156.out 0).trans rfl, (blk_cell BK156.out 1).trans rfl, (blk_cell BK156.out 2).trans rfl, (blk_cell BK162.out 0).trans rfl, (blk_cell BK162.out 1).trans rfl⟩ (fun hHeld => ?_)
        clear hK K
        refine norm_ (a' := ?_) ?_ ?_
        rotate_left
        ·exact (show Act.put _ (some 51) _ = _ from X.Pu)
        refine pure_ (i := 10) (N := some 52) (v := ?_) (a' := ?_) #[true, true, true, true, true, true, true, true, true, true, true] rfl rfl (any_of HT_.out (by kernel_rfl)) (fun _ _ _ h => h) (Or.inl ⟨by rfl, ?_⟩) ?_ ?_
        rotate_left
        ·intro w'
         go_simp
         with_reducible rfl
        rotate_left
        ·exact X.Pu
        refine done_ (done_of HT_.out (by kernel_rfl)) ?_
        try go_wp2
        go_loopg [10, 11] k2 (fun kq v10 v11 w' => ∃ (x10_3 : List (S43)) (x11_3 : Int), v11 = .int .i64 x11_3 ∧ Aside0 (spec_BackVoyages.l1 kq l1 x7_2 x10_3 x11_3 a0_0 a0_1 a0_2 = some (r1, r2)) ∧ Aside0 (kq ≤ k2) ∧ Aside0 (Kd.R (Kd.int .i64) 3 w' w.heap.size (fun k_ => some k_ ≠ ((.slice Ao56 x163000_2.length co56) : Value).ownBlock) u7 x7_2) ∧ Aside0 (Kd.S k43 43 w' w.heap.size (fun k_ => some k_ ≠ (u7 : Value).ownBlock ∧ some k_ ≠ ((.slice Ao56 x163000_2.length co56) : Value).ownBlock) v10 x10_3) ∧ Aside0 (Kd.R (Kd.int .i64) 3 w' w.heap.size (fun k_ => some k_ ≠ (u7 : Value).ownBlock) (.slice Ao56 x163000_2.length co56) x163000_2) ∧ Aside0 (w'.heap[gb156]? = some (.cells #[.int .i64 a0_0, .int .i64 a0_1, .int .i64 a0_2] 29 (0, 0))) ∧ Aside0 (w'.heap[gb162]? = some (.cells #[(.slice Ao56 x163000_2.length co56), .int .i64 x163001_2] 41 (0, 0))) ∧ Aside0 (Below w.heap.size w w'))
        case atStart => exact ⟨(([] : List (S43))), (wrap64 ((l1.length : Int) - 1)), (by first | rfl | (simp; done) | (simp [*]; done)), H', ⟨Nat.le_refl _⟩, ⟨by (with_reducible repeat (first | apply Kd.R_alloc | apply Kd.R_drewN | apply Kd.R_drew)); exact Kd.R_mono HO_7.out (fun _ hk => hk.1)⟩, ⟨by first | exact Kd.S_nil _ _ _ _ _ | exact Kd.N_nil _ _ _ _ _ | exact Kd.V_nil _ _ _ _ _ | exact Kd.Q_nil _ _ _ _ _ | exact Kd.R_nil _ _ _ _ _⟩, ⟨by (with_reducible repeat (first | apply Kd.R_alloc | apply Kd.R_drewN | apply Kd.R_drew)); exact Kd.R_mono HO_163000.out (fun _ hk => hk.1)⟩, ⟨X.B BK156⟩, ⟨X.B BK162⟩, ⟨X.G⟩⟩
        case round =>
         clear H'
         try clear c1
         try clear p1
         try clear q1
         try clear hx1
         try clear c2
         try clear p2
         try clear c3
         try clear c4
         try clear c5
         try clear c6
         try clear p6
         try clear c11
         try clear c13
         try clear c14
         try clear c15
         try clear c16
         try clear p16
         try clear q16
         try clear hx16
         try clear c17
         try clear c19
         try clear c19b0
         try clear c20
         try clear c20b0
         try clear c21
         try clear c21b0
         try clear c23
         try clear c24
         try clear c27
         try clear c28
         try clear c30
         try clear c43
         try clear c44
         try clear c46
         try clear c54
         try clear c54b0
         try clear c54b1
         try clear hcz13_0
         try clear hcz13_1
         try clear hcz13_2
         try clear hcz18_0
         try clear hcz18_1
         try clear hcz29_0
         try clear hcz29_1
         try clear hcz31_0
         try clear hcz31_1
         try clear hcz31_2
         try clear hcz32_0
         try clear hcz32_1
         try clear hcz35_0
         try clear hcz35_1
         try clear hcz37_0
         try clear hcz37_1
         try clear hcz38_0
         try clear hcz38_1
         try clear hcz41_0
         try clear hcz41_1
         try clear hcz45_0
         try clear hcz45_1
         try clear hcz47_0
         try clear hcz47_1
         try clear hcz47_2
         try clear hcz48_0
         try clear hcz48_1
         try clear hcz7_0
         try clear hcz7_1
         try clear hcz7_2
         try clear hcz9_0
         try clear hcz9_1
         try clear hcz9_2
         try clear hfz13_0
         try clear hfz13_1
         try clear hfz13_2
         try clear hfz18_0
         try clear hfz18_1
         try clear hfz29_0
         try clear hfz29_1
         try clear hfz31_0
         try clear hfz31_1
         try clear hfz31_2
         try clear hfz32_0
         try clear hfz32_1
         try clear hfz35_0
         try clear hfz35_1
         try clear hfz37_0
         try clear hfz37_1
         try clear hfz38_0
         try clear hfz38_1
         try clear hfz41_0
         try clear hfz41_1
         try clear hfz45_0
         try clear hfz45_1
         try clear hfz47_0
         try clear hfz47_1
         try clear hfz47_2
         try clear hfz48_0
         try clear hfz48_1
         try clear hfz7_0
         try clear hfz7_1
         try clear hfz7_2
         try clear hfz9_0
         try clear hfz9_1
         try clear hfz9_2
         try clear hx163_0
         try clear hx163_1
         try clear p163
         try clear p2
         try clear q163
         obtain ⟨x10_3, x11_3, rfl, HA, HK3, HO_7, HO_10, HO_163000, BK156, BK162, HB⟩ := hrel
         cases gk with
         | zero => exact absurd HA.out (by simp [spec_BackVoyages.l1])
         | succ k3 =>
          have H := HA.out
          clear HA
          simp only [spec_BackVoyages.l1] at H
          by_cases c61 : x11_3 ≥ 0
          ·rw [if_pos c61] at H
           have c61b0 : decide (0 ≤ x11_3) = true := decide_eq_true c61
           clear c61
           by_cases c62 : 0 ≤ x11_3
           rotate_left
           ·rw [if_neg c62] at H
            exact absurd H (by simp)
           rw [if_pos c62] at H
           have c62b0 : decide (0 ≤ x11_3) = true := decide_eq_true c62
           clear c62
           by_cases c63 : x11_3 < (x7_2.length : Int)
           rotate_left
           ·rw [if_neg c63] at H
            exact absurd H (by simp)
           rw [if_pos c63] at H
           have c63b0 : decide (x11_3 < (x7_2.length : Int)) = true := decide_eq_true c63
           clear c63
           by_cases c64 : x11_3 < (l1.length : Int)
           rotate_left
           ·rw [if_neg c64] at H
            exact absurd H (by simp)
           rw [if_pos c64] at H
           have c64b0 : decide (x11_3 < (l1.length : Int)) = true := decide_eq_true c64
           clear c64
           replace H := Option.bind_eq_some_iff.mp H
           obtain ⟨t181, A650, H⟩ := H
           replace H : (if x10_3.length < 4398046511104 then (spec_BackVoyages.l1 k3 l1 x7_2 (x10_3 ++ [(⟨wrap64 ((wrap64 (a0_2 + 1)) - (rd x7_2 x11_3)), t181⟩ : S43)]) (wrap64 (x11_3 - 1)) a0_0 a0_1 a0_2) else (none)) = some (r1, r2) := H
           have A65 := X.A A650
           clear A650
           by_cases c66 : x10_3.length < 4398046511104
           rotate_left
           ·rw [if_neg c66] at H
            exact absurd H (by simp)
           rw [if_pos c66] at H
           have LMc66 := X.A c66
           clear c66
           obtain ⟨y184, hy184⟩ : ∃ y_ : List (S43), y_ = (x10_3 ++ [(⟨wrap64 ((wrap64 (a0_2 + 1)) - (rd x7_2 x11_3)), t181⟩ : S43)]) := ⟨_, rfl⟩
           replace H : (spec_BackVoyages.l1 k3 l1 x7_2 y184 (wrap64 (x11_3 - 1)) a0_0 a0_1 a0_2) = some (r1, r2) := by first | (rw [hy184]; with_reducible exact H) | (have H2_ := (Option.bind_some _ _).symm.trans H; rw [hy184]; with_reducible exact H2_) | (have H2_ := (Option.bind_some _ _).symm.trans H; with_reducible exact H2_) | with_reducible exact H | (rw [hy184]; exact H) | exact H
           have Ny184 := X.A hy184
           clear hy184
           have H' := X.A H
           clear H
           try go_wp2
           have n0_ := X.A (Kd.R_drew HO_7.out)
           have n1_ := X.A (Kd.S_drew HO_10.out)
           have n2_ := X.A (Kd.R_drew HO_163000.out)
           have n3_ := X.A (blk_drew BK156.out)
           have n4_ := X.A (blk_drew BK162.out)
           have n5_ := X.A (below_drew1 HB.out)
           clear HO_7 HO_10 HO_163000 BK156 BK162 HB
           have HO_7 := n0_
           have HO_10 := n1_
           have HO_163000 := n2_
           have BK156 := n3_
           have BK162 := n4_
           have HB := n5_
           clear n0_ n1_ n2_ n3_ n4_ n5_
           obtain ⟨Ao68, co68, eo68⟩ := Kd.R_slice HO_7.out
           (first | subst eo68 | (injection eo68 with f1_ f2_ f3_; have f4_ := f1_.symm; have f5_ := f3_.symm; clear f1_ f2_ f3_; subst f4_; subst f5_))
           have p179 : 0 ≤ (x11_3 : Int) := X.D
           have q179 : x11_3 < (x7_2.length : Int) := X.D
           obtain ⟨ad179, e179, hx179_0⟩ := Kd.at_int (Kd.R_reads' HO_7.out).2.2 x11_3 p179 q179
           cases e179
           replace p179 := eq_true p179
           replace q179 := eq_true q179
           have p180 : 0 ≤ (x11_3 : Int) := X.D
           have q180 : x11_3 < (l1.length : Int) := X.D
           obtain ⟨ad180, A180_1, c180_1, e180, hx180_0, hx180_1, hl180_1, hi180_1⟩ := at_T43 HR1.out x11_3 p180 q180
           have hw180_1 := hx180_1
           have hw180_0 := hx180_0
           cases e180
           replace hx180_0 := (HB.out.cell (World.block_lt_of_cell? w _ hx180_0)).trans hx180_0
           replace hx180_1 := (HB.out.cell (World.block_lt_of_cell? w _ hx180_1)).trans hx180_1
           have HR180_1 := X.A hi180_1
           have HC180_1 := X.A hl180_1
           clear hi180_1 hl180_1
           replace p180 := eq_true p180
           replace q180 := eq_true q180
           refine start_ (n := 19) (S := fun w' => w'.cell? ⟨gb156, 0, none⟩ = some (.int .i64 a0_0) ∧ w'.cell? ⟨gb156, 1, none⟩ = some (.int .i64 a0_1) ∧ w'.cell? ⟨gb156, 2, none⟩ = some (.int .i64 a0_2) ∧ w'.cell? (ad179.add (x11_3).toNat) = some (.int .i64 (rd x7_2 x11_3)) ∧ w'.cell? (ad180.add ((x11_3).toNat * 2)) = some (.int .i64 ((rd_T43 l1 x11_3).f0)) ∧ w'.cell? ⟨(ad180.add ((x11_3).toNat * 2)).block, (ad180.add ((x11_3).toNat * 2)).off + 1, none⟩ = some (.slice A180_1 ((rd_T43 l1 x11_3).f1).length c180_1)) (ds := [16, 17]) #[false, false, false, false, false, false, false, false, false, false, false, false, false, false, false, false, false, false, false] (by kernel_rfl) rfl rfl ⟨(blk_cell BK156.out 0).trans rfl, (blk_cell BK156.out 1).trans rfl, (blk_cell BK156.out 2).trans rfl, hx179_0, ((HB.out.cell (World.block_lt_of_cell? w _ hw180_0)).trans hw180_0), ((HB.out.cell (World.block_lt_of_cell? w _ hw180_1)).trans hw180_1)⟩ (fun hHeld => ?_); refine with_tabW spec_BackVoyages.tab19 spec_BackVoyages.bits19 (fun HT_ HW_ => ?_)
           generalize wr.drew = w67 at HO_7 HO_10 HO_163000 BK156 BK162 HB HR180_1 hx179_0 hx180_0 hx180_1 hHeld ⊢
           refine pure_ (i := 0) (N := some 60) (v := ?_) (a' := ?_) #[true, false, false, false, false, false, false, false, false, false, false, false, false, false, false, false, false, false, false] rfl rfl (any_of HT_.out (by kernel_rfl)) (fun _ _ _ h => h) (Or.inl ⟨by rfl, ?_⟩) ?_ ?_
           rotate_left
           ·intro w'
            go_simp
            with_reducible rfl
           rotate_left
           ·exact X.Pu
           refine pure_ (i := 1) (N := some 61) (v := ?_) (a' := ?_) #[true, true, false, false, false, false, false, false, false, false, false, false, false, false, false, false, false, false, false] rfl rfl (any_of HT_.out (by kernel_rfl)) (fun _ _ _ h => h) (Or.inl ⟨by rfl, ?_⟩) ?_ ?_
           rotate_left
           ·intro w'
            go_simp
            with_reducible rfl
           rotate_left
           ·exact X.Pu
           refine pure_ (i := 4) (N := some 64) (v := ?_) (a' := ?_) #[true, true, false, false, true, false, false, false, false, false, false, false, false, false, false, false, false, false, false] rfl rfl (any_of HT_.out (by kernel_rfl)) (fun _ _ _ h => h) (Or.inl ⟨by rfl, ?_⟩) ?_ ?_
           rotate_left
           ·intro w'
            go_simp
            with_reducible rfl
           rotate_left
           ·exact X.Pu
           refine pure_ (i := 5) (N := some 65) (v := ?_) (a' := ?_) #[true, true, false, false, true, true, false, false, false, false, false, false, false, false, false, false, false, false, false] rfl rfl (any_of HT_.out (by kernel_rfl)) (fun _ _ _ h => h) (Or.inl ⟨by rfl, ?_⟩) ?_ ?_
           rotate_left
           ·intro w'
            go_simp
            with_reducible rfl
           rotate_left
           ·exact X.Pu
           refine pure_ (i := 6) (N := some 66) (v := ?_) (a' := ?_) #[true, true, false, false, true, true, true, false, false, false, false, false, false, false, false, false, false, false, false] rfl rfl (any_of HT_.out (by kernel_rfl)) (fun _ _ _ h => h) (Or.inl ⟨by rfl, ?_⟩) ?_ ?_
           rotate_left
           ·intro w'
            go_simp
            with_reducible rfl
           rotate_left
           ·exact X.Pu
           refine pure_ (i := 9) (N := some 69) (v := ?_) (a' := ?_) #[true, true, false, false, true, true, true, false, false, true, false, false, false, false, false, false, false, false, false] rfl rfl (any_of HT_.out (by kernel_rfl)) (fun _ _ _ h => h) (Or.inl ⟨by rfl, ?_⟩) ?_ ?_
           rotate_left
           ·intro w'
            go_simp
            with_reducible rfl
           rotate_left
           ·exact X.Pu
           refine pure_ (i := 10) (N := some 70) (v := ?_) (a' := ?_) #[true, true, false, false, true, true, true, false, false, true, true, false, false, false, false, false, false, false, false] rfl rfl (any_of HT_.out (by kernel_rfl)) (fun _ _ _ h => h) (Or.inl ⟨by rfl, ?_⟩) ?_ ?_
           rotate_left
           ·intro w'
            go_simp
            with_reducible rfl
           rotate_left
           ·exact X.Pu
           refine pure_ (i := 11) (N := some 71) (v := ?_) (a' := ?_) #[true, true, false, false, true, true, true, false, false, true, true, true, false, false, false, false, false, false, false] rfl rfl (any_of HT_.out (by kernel_rfl)) (fun _ _ _ h => h) (Or.inl ⟨by rfl, ?_⟩) ?_ ?_
           rotate_left
           ·intro w'
            go_simp
            with_reducible rfl
           rotate_left
           ·exact X.Pu
           refine pure_ (i := 12) (N := some 72) (v := ?_) (a' := ?_) #[true, true, false, false, true, true, true, false, false, true, true, true, true, false, false, false, false, false, false] rfl rfl (any_of HT_.out (by kernel_rfl)) (fun _ _ _ h => h) (Or.inl ⟨by rfl, ?_⟩) ?_ ?_
           rotate_left
           ·intro w'
            go_simp
            with_reducible rfl
           rotate_left
           ·exact X.Pu
           refine take_ (i := 2) (N := some 62) (v := ?_) (a' := ?_) #[true, true, true, false, true, true, true, false, false, true, true, true, true, false, false, false, false, false, false] rfl rfl (take_ofW HT_.out HW_.out (by kernel_rfl)) (fun _ _ _ h => h) (Or.inl ⟨by rfl, ?_⟩) hHeld ?_ ?_
           rotate_left
           ·rintro w' ⟨s0, s1, s2, s3, s4, s5⟩
            go_simp
            with_reducible rfl
           rotate_left
           ·exact X.Pu
           refine pure_ (i := 3) (N := some 63) (v := ?_) (a' := ?_) #[true, true, true, true, true, true, true, false, false, true, true, true, true, false, false, false, false, false, false] rfl rfl (any_of HT_.out (by kernel_rfl)) (fun _ _ _ h => h) (Or.inl ⟨by rfl, ?_⟩) ?_ ?_
           rotate_left
           ·intro w'
            go_simp
            with_reducible rfl
           rotate_left
           ·exact X.Pu
           refine take_ (i := 7) (N := some 67) (v := ?_) (a' := ?_) #[true, true, true, true, true, true, true, true, false, true, true, true, true, false, false, false, false, false, false] rfl rfl (take_ofW HT_.out HW_.out (by kernel_rfl)) (fun _ _ _ h => h) (Or.inl ⟨by rfl, ?_⟩) hHeld ?_ ?_
           rotate_left
           ·rintro w' ⟨s0, s1, s2, s3, s4, s5⟩
            go_simp
            with_reducible rfl
           rotate_left
           ·exact X.Pu
           refine pure_ (i := 8) (N := some 68) (v := ?_) (a' := ?_) #[true, true, true, true, true, true, true, true, true, true, true, true, true, false, false, false, false, false, false] rfl rfl (any_of HT_.out (by kernel_rfl)) (fun _ _ _ h => h) (Or.inl ⟨by rfl, ?_⟩) ?_ ?_
           rotate_left
           ·intro w'
            go_simp
            with_reducible rfl
           rotate_left
           ·exact X.Pu
           refine take_ (i := 13) (N := some 73) (v := ?_) (a' := ?_) #[true, true, true, true, true, true, true, true, true, true, true, true, true, true, false, false, false, false, false] rfl rfl (take_ofW HT_.out HW_.out (by kernel_rfl)) (fun _ _ _ h => h) (Or.inl ⟨by rfl, ?_⟩) hHeld ?_ ?_
           rotate_left
           ·rintro w' ⟨s0, s1, s2, s3, s4, s5⟩
            go_simp
            with_reducible rfl
           rotate_left
           ·exact X.Pu
           refine one_ (i := 14) (N := some 74) #[true, true, true, true, true, true, true, true, true, true, true, true, true, true, true, false, false, false, false] rfl rfl (one_of HT_.out (by kernel_rfl)) (by decide) (fun K hK => ?_)
           refine goes_ Try.func18 (by kernel_rfl) rfl #[.slice A180_1 ((rd_T43 l1 x11_3).f1).length c180_1] (by rfl) rfl rfl X.M ?_
           with_reducible refine (spec_l1Own.calls _ _ ((rd_T43 l1 x11_3).f1) t181 _ ?side1 ?side2 A65.out).mono ?_
           (case side1 => exact X.C (Kd.C_below HR180_1.out HB.out))
           (case side2 => exact HC180_1.out)
           rintro e w69 ⟨v182, rfl, ho0, hb⟩
           have HS3_ := (hb.cell (World.block_lt_of_cell? _ _ (hHeld.2.2.2.1))).trans (hHeld.2.2.2.1)
           refine ⟨_, rfl, ?_⟩
           have n0_ := X.A (Kd.R_elder' (X.K HO_7) (Kd.R_base ho0) hb)
           have n1_ := X.A (Kd.S_elder' (X.L HO_10) (Kd.R_base ho0) hb)
           have n2_ := X.A (Kd.R_elder' (X.K HO_163000) (Kd.R_base ho0) hb)
           have n3_ := X.A (Kd.R_lower (Kd.R_new' (Kd.R_new' ho0 (Kd.R_lt (X.K HO_7))) (Kd.R_lt (X.K HO_163000))) (below_size X.G))
           have n4_ := X.A (X.BB BK156 hb)
           have n5_ := X.A (X.BB BK162 hb)
           have n6_ := X.A (below_step X.G hb)
           clear HO_7 HO_10 HO_163000 BK156 BK162 HB
           have HO_7 := n0_
           have HO_10 := n1_
           have HO_163000 := n2_
           have HO183 := n3_
           have BK156 := n4_
           have BK162 := n5_
           have HB := n6_
           clear n0_ n1_ n2_ n3_ n4_ n5_ n6_
           (try clear hb)
           (try clear hb2)
           (try clear hk)
           (try clear hi)
           (try clear ho0)
           obtain ⟨Ao70, co70, eo70⟩ := Kd.R_slice HO183.out
           (first | subst eo70 | (injection eo70 with f1_ f2_ f3_; have f4_ := f1_.symm; have f5_ := f3_.symm; clear f1_ f2_ f3_; subst f4_; subst f5_))
           refine hK.out _ _ ⟨(blk_cell BK156.out 0).trans rfl, (blk_cell BK156.out 1).trans rfl, (blk_cell BK156.out 2).trans rfl, HS3_, ((HB.out.cell (World.block_lt_of_cell? w _ hw180_0)).trans hw180_0), ((HB.out.cell (World.block_lt_of_cell? w _ hw180_1)).trans hw180_1)⟩ (fun hHeld => ?_)
           clear hK K
           refine norm_ (a' := ?_) ?_ ?_
           rotate_left
           ·exact (show Act.put _ (some 74) _ = _ from X.Pu)
           refine pure_ (i := 15) (N := some 75) (v := ?_) (a' := ?_) #[true, true, true, true, true, true, true, true, true, true, true, true, true, true, true, true, false, false, false] rfl rfl (any_of HT_.out (by kernel_rfl)) (fun _ _ _ h => h) (Or.inl ⟨by rfl, ?_⟩) ?_ ?_
           rotate_left
           ·intro w'
            go_simp
            with_reducible rfl
           rotate_left
           ·exact X.Pu
           refine last_ (i := 16) (N := some 76) #[true, true, true, true, true, true, true, true, true, true, true, true, true, true, true, true, true, false, false] rfl rfl (one_of HT_.out (by kernel_rfl)) (by decide) (fun K hK => ?_)
           refine value_ (w1 := ?_) (v := ?_) (by rfl) rfl ?_ ?_
           rotate_left 2
           ·go_simp
            constructor
            ·rfl
            ·rfl
           refine hK.out _ _ ?_
           clear hK K
           refine norm_ (a' := ?_) ?_ ?_
           rotate_left
           ·exact (show Act.put _ (some 76) _ = _ from X.Pu)
           refine last_ (i := 17) (N := some 77) #[true, true, true, true, true, true, true, true, true, true, true, true, true, true, true, true, true, true, false] rfl rfl (one_of HT_.out (by kernel_rfl)) (by decide) (fun K hK => ?_)
           refine Kd.S_append_step k43 (w0 := w) w.heap.size (by rfl) (.tmp 60) (.tmp 76) 26 43 (.agg #[(.int .i64 0), (.slice none 0 0)]) 32 rfl Try.underlying26 info43 rfl (by decide) (by omega) u10 x10_3 (⟨wrap64 ((wrap64 (a0_2 + 1)) - (rd x7_2 x11_3)), t181⟩ : S43) [.int .i64 (wrap64 ((wrap64 (a0_2 + 1)) - (rd x7_2 x11_3))), .slice Ao70 t181.length co70] (fun k_ => some k_ ≠ (.slice (some ad179) x7_2.length co68 : Value).ownBlock ∧ some k_ ≠ (.slice Ao56 x163000_2.length co56 : Value).ownBlock) (fun k_ => some k_ = (.slice Ao70 t181.length co70 : Value).ownBlock) rfl rfl ?aP (fun k_ hk_ => ((Kd.R_mono (ok' := fun k_ => ((fun k_ => some k_ ≠ (.slice (some ad179) x7_2.length co68 : Value).ownBlock ∧ some k_ ≠ (.slice Ao56 x163000_2.length co56 : Value).ownBlock)) k_ ∧ some k_ ≠ (u10 : Value).ownBlock) (Kd.R_apart' (HO183.out) (Kd.S_typed HO_10.out) (by decide)) (fun k_ hk => ⟨⟨hk.1.1.2, hk.1.2⟩, hk.2⟩))).1 k_ hk_.symm) ?aF ?aO ?aB ?aS ?aL ?_
           (case aP => exact k43_mkM _ _ _ (⟨wrap64 ((wrap64 (a0_2 + 1)) - (rd x7_2 x11_3)), t181⟩ : S43) (Kd.R_mono (Kd.R_tight rfl (Kd.R_mono (ok' := fun k_ => ((fun k_ => some k_ ≠ (.slice (some ad179) x7_2.length co68 : Value).ownBlock ∧ some k_ ≠ (.slice Ao56 x163000_2.length co56 : Value).ownBlock)) k_ ∧ some k_ ≠ (u10 : Value).ownBlock) (Kd.R_apart' (HO183.out) (Kd.S_typed HO_10.out) (by decide)) (fun k_ hk => ⟨⟨hk.1.1.2, hk.1.2⟩, hk.2⟩))) (fun _ h_ => h_)))
           (case aB => exact X.G)
           (case aF => exact (fun k_ hk => ⟨Kd.fresh' (Kd.R_lt (X.K HO_7)) k_ hk, Kd.fresh' (Kd.R_lt (X.K HO_163000)) k_ hk⟩))
           (case aO => exact (by (with_reducible repeat (first | apply Kd.S_alloc | apply Kd.S_drewN | apply Kd.S_drew)); exact Kd.S_mono HO_10.out (fun k_ hk => ⟨⟨hk.1.1, hk.1.2⟩, fun e_ => hk.2 e_⟩)))
           (case aS => exact (below_size X.G))
           (case aL => have := LMc66.out; omega)
           intro v185 w71 ho hb hg hat
           rw [← Ny184.out] at ho
           have n0_ := X.A (Kd.R_over' (X.K HO_7) (Kd.S_typed (X.L HO_10)) (by decide) hg)
           have n1_ := X.A (Kd.R_over' (X.K HO_163000) (Kd.S_typed (X.L HO_10)) (by decide) hg)
           have n2_ := X.A (blk_grown (g := gb156) (o := .cells #[.int .i64 a0_0, .int .i64 a0_1, .int .i64 a0_2] 29 (0, 0)) (X.B BK156) hg (Kd.S_ne HO_10.out BK156.out (by decide)))
           have n3_ := X.A (blk_grown (g := gb162) (o := .cells #[.slice Ao56 x163000_2.length co56, .int .i64 x163001_2] 41 (0, 0)) (X.B BK162) hg (Kd.S_ne HO_10.out BK162.out (by decide)))
           have n4_ := X.A (hb)
           have n5_ := X.A (ho)
           clear HO_7 HO_163000 BK156 BK162 HB HO_10 HO183
           have HO_7 := n0_
           have HO_163000 := n1_
           have BK156 := n2_
           have BK162 := n3_
           have HB := n4_
           have HO186 := n5_
           clear n0_ n1_ n2_ n3_ n4_ n5_ ho hb hg hat
           refine hK.out _ _ ?_
           clear hK K
           refine norm_ (a' := ?_) ?_ ?_
           rotate_left
           ·exact (show Act.put _ (some 77) _ = _ from X.Pu)
           refine pure_ (i := 18) (N := some 10) (v := ?_) (a' := ?_) #[true, true, true, true, true, true, true, true, true, true, true, true, true, true, true, true, true, true, true] rfl rfl (any_of HT_.out (by kernel_rfl)) (fun _ _ _ h => h) (Or.inl ⟨by rfl, ?_⟩) ?_ ?_
           rotate_left
           ·intro w'
            go_simp
            with_reducible rfl
           rotate_left
           ·exact X.Pu
           refine done_ (done_of HT_.out (by kernel_rfl)) ?_
           try go_wp2
           go_roundg k3
           case measure => have := HJ2.out; have := HK2.out; have := HK3.out; omega
           case rel => exact ⟨(y184), (wrap64 (x11_3 - 1)), (by first | rfl | (simp; done) | (simp [*]; done)), H', ⟨by have := HJ2.out; have := HK2.out; have := HK3.out; omega⟩, ⟨by (with_reducible repeat (first | apply Kd.R_alloc | apply Kd.R_drewN | apply Kd.R_drew)); exact Kd.R_mono HO_7.out (fun _ hk => hk.1)⟩, ⟨by (with_reducible repeat (first | apply Kd.S_alloc | apply Kd.S_drewN | apply Kd.S_drew)); exact HO186.out⟩, ⟨by (with_reducible repeat (first | apply Kd.R_alloc | apply Kd.R_drewN | apply Kd.R_drew)); exact Kd.R_mono HO_163000.out (fun _ hk => hk.1)⟩, ⟨X.B BK156⟩, ⟨X.B BK162⟩, ⟨X.G⟩⟩
          ·rw [if_neg c61] at H
           have c61b0 : decide (0 ≤ x11_3) = false := decide_eq_false c61
           clear c61
           simp only [Option.some.injEq, Prod.mk.injEq] at H
           obtain ⟨rfl, rfl⟩ := H
           go_wp2
           go_ret2
           exact ⟨_, by first | rfl | (simp [errW_none, errW_some] <;> rfl) | (simp [*, errW_none, errW_some] <;> rfl), by (with_reducible repeat (first | apply Kd.S_alloc | apply Kd.S_drewN | apply Kd.S_drew)); exact Kd.S_mono HO_10.out (fun _ hk => trivial), X.G⟩
       ·rw [if_neg c54] at H
        have c54b0 : (t173 == t178) = false := beq_eq_false_iff_ne.mpr c54
        have c54b1 : (t173 != t178) = true := bne_iff_ne.mpr c54
        simp only [Option.some.injEq, Prod.mk.injEq] at H
        obtain ⟨rfl, rfl⟩ := H
        try go_wp2
        have n0_ := X.A (Kd.R_drew HO_7.out)
        have n1_ := X.A (Kd.R_drew HO_163000.out)
        have n2_ := X.A (blk_drew BK156.out)
        have n3_ := X.A (blk_drew BK162.out)
        have n4_ := X.A (below_drew1 HB.out)
        clear HO_7 HO_163000 BK156 BK162 HB
        have HO_7 := n0_
        have HO_163000 := n1_
        have BK156 := n2_
        have BK162 := n3_
        have HB := n4_
        clear n0_ n1_ n2_ n3_ n4_
        obtain ⟨Ao73, co73, eo73⟩ := Kd.R_slice HO_163000.out
        (first | subst eo73 | (injection eo73 with f1_ f2_ f3_; have f4_ := f1_.symm; have f5_ := f3_.symm; clear f1_ f2_ f3_; subst f4_; subst f5_))
        refine start_ (n := 11) (S := fun w' => w'.cell? ⟨gb156, 0, none⟩ = some (.int .i64 a0_0) ∧ w'.cell? ⟨gb156, 1, none⟩ = some (.int .i64 a0_1) ∧ w'.cell? ⟨gb156, 2, none⟩ = some (.int .i64 a0_2) ∧ w'.cell? ⟨gb162, 0, none⟩ = some (.slice Ao73 x163000_2.length co73) ∧ w'.cell? ⟨gb162, 1, none⟩ = some (.int .i64 x163001_2)) (ds := []) #[false, false, false, false, false, false, false, false, false, false, false] (by kernel_rfl) rfl rfl ⟨(blk_cell BK156.out 0).trans rfl, (blk_cell BK156.out 1).trans rfl, (blk_cell BK156.out 2).trans rfl, (blk_cell BK162.out 0).trans rfl, (blk_cell BK162.out 1).trans rfl⟩ (fun hHeld => ?_); refine with_tabW spec_BackVoyages.tab13 spec_BackVoyages.bits13 (fun HT_ HW_ => ?_)
        generalize wr.drew = w72 at HO_7 HO_163000 BK156 BK162 HB hHeld ⊢
        refine pure_ (i := 5) (N := some 47) (v := ?_) (a' := ?_) #[false, false, false, false, false, true, false, false, false, false, false] rfl rfl (any_of HT_.out (by kernel_rfl)) (fun _ _ _ h => h) (Or.inl ⟨by rfl, ?_⟩) ?_ ?_
        rotate_left
        ·intro w'
         go_simp
         with_reducible rfl
        rotate_left
        ·exact X.Pu
        refine take_ (i := 0) (N := some 42) (v := ?_) (a' := ?_) #[true, false, false, false, false, true, false, false, false, false, false] rfl rfl (take_ofW HT_.out HW_.out (by kernel_rfl)) (fun _ _ _ h => h) (Or.inl ⟨by rfl, ?_⟩) hHeld ?_ ?_
        rotate_left
        ·rintro w' ⟨s0, s1, s2, s3, s4⟩
         go_simp
         with_reducible rfl
        rotate_left
        ·exact X.Pu
        refine take_ (i := 1) (N := some 43) (v := ?_) (a' := ?_) #[true, true, false, false, false, true, false, false, false, false, false] rfl rfl (take_ofW HT_.out HW_.out (by kernel_rfl)) (fun _ _ _ h => h) (Or.inl ⟨by rfl, ?_⟩) hHeld ?_ ?_
        rotate_left
        ·rintro w' ⟨s0, s1, s2, s3, s4⟩
         go_simp
         with_reducible rfl
        rotate_left
        ·exact X.Pu
        refine take_ (i := 3) (N := some 45) (v := ?_) (a' := ?_) #[true, true, false, true, false, true, false, false, false, false, false] rfl rfl (take_ofW HT_.out HW_.out (by kernel_rfl)) (fun _ _ _ h => h) (Or.inl ⟨by rfl, ?_⟩) hHeld ?_ ?_
        rotate_left
        ·rintro w' ⟨s0, s1, s2, s3, s4⟩
         go_simp
         with_reducible rfl
        rotate_left
        ·exact X.Pu
        refine take_ (i := 4) (N := some 46) (v := ?_) (a' := ?_) #[true, true, false, true, true, true, false, false, false, false, false] rfl rfl (take_ofW HT_.out HW_.out (by kernel_rfl)) (fun _ _ _ h => h) (Or.inl ⟨by rfl, ?_⟩) hHeld ?_ ?_
        rotate_left
        ·rintro w' ⟨s0, s1, s2, s3, s4⟩
         go_simp
         with_reducible rfl
        rotate_left
        ·exact X.Pu
        refine take_ (i := 6) (N := some 48) (v := ?_) (a' := ?_) #[true, true, false, true, true, true, true, false, false, false, false] rfl rfl (take_ofW HT_.out HW_.out (by kernel_rfl)) (fun _ _ _ h => h) (Or.inl ⟨by rfl, ?_⟩) hHeld ?_ ?_
        rotate_left
        ·rintro w' ⟨s0, s1, s2, s3, s4⟩
         go_simp
         with_reducible rfl
        rotate_left
        ·exact X.Pu
        refine pure_ (i := 7) (N := some 49) (v := ?_) (a' := ?_) #[true, true, false, true, true, true, true, true, false, false, false] rfl rfl (any_of HT_.out (by kernel_rfl)) (fun _ _ _ h => h) (Or.inl ⟨by rfl, ?_⟩) ?_ ?_
        rotate_left
        ·intro w'
         go_simp
         with_reducible rfl
        rotate_left
        ·exact X.Pu
        refine one_ (i := 2) (N := some 44) #[true, true, true, true, true, true, true, true, false, false, false] rfl rfl (one_of HT_.out (by kernel_rfl)) (by decide) (fun K hK => ?_)
        refine goes_ Try.func17 (by kernel_rfl) rfl #[.agg #[.int .i64 a0_0, .int .i64 a0_1, .int .i64 a0_2], .agg #[.slice Ao73 x163000_2.length co73, .int .i64 x163001_2]] (by rfl) rfl rfl X.M ?_
        with_reducible refine (spec_isCode.calls k2 a0_0 a0_1 a0_2 _ _ x163000_2 x163001_2 t173 _ ?side1 ?side2 A51.out).mono ?_
        (case side1 => exact X.C (Kd.R_reads' HO_163000.out).2.2)
        (case side2 => exact (Kd.R_reads' HO_163000.out).2.1)
        rintro e w74 ⟨rfl, hb⟩
        refine ⟨_, rfl, ?_⟩
        have n0_ := X.A (Kd.R_below (X.K HO_7) hb)
        have n1_ := X.A (Kd.R_below (X.K HO_163000) hb)
        have n2_ := X.A (X.BB BK156 hb)
        have n3_ := X.A (X.BB BK162 hb)
        have n4_ := X.A (below_step X.G hb)
        clear HO_7 HO_163000 BK156 BK162 HB
        have HO_7 := n0_
        have HO_163000 := n1_
        have BK156 := n2_
        have BK162 := n3_
        have HB := n4_
        clear n0_ n1_ n2_ n3_ n4_
        (try clear hb)
        (try clear hb2)
        (try clear hk)
        (try clear hi)
        refine hK.out _ _ ⟨(blk_cell BK156.out 0).trans rfl, (blk_cell BK156.out 1).trans rfl, (blk_cell BK156.out 2).trans rfl, (blk_cell BK162.out 0).trans rfl, (blk_cell BK162.out 1).trans rfl⟩ (fun hHeld => ?_)
        clear hK K
        refine norm_ (a' := ?_) ?_ ?_
        rotate_left
        ·exact (show Act.put _ (some 44) _ = _ from X.Pu)
        refine one_ (i := 8) (N := some 50) #[true, true, true, true, true, true, true, true, true, false, false] rfl rfl (one_of HT_.out (by kernel_rfl)) (by decide) (fun K hK => ?_)
        refine goes_ Try.func14 (by kernel_rfl) rfl #[.agg #[.int .i64 a0_0, .int .i64 a0_1, .int .i64 a0_2], .int .i64 (wrap64 (a0_2 + 1))] (by rfl) rfl rfl X.M ?_
        with_reducible refine (spec_isAll.calls k2 a0_0 a0_1 a0_2 (wrap64 (a0_2 + 1)) t174 t177 _ A52.out).mono ?_
        rintro e w75 ⟨v175, rfl, ho0, hb⟩
        refine ⟨_, rfl, ?_⟩
        have n0_ := X.A (Kd.R_elder' (X.K HO_7) (Kd.R_base ho0) hb)
        have n1_ := X.A (Kd.R_elder' (X.K HO_163000) (Kd.R_base ho0) hb)
        have n2_ := X.A (Kd.R_lower (Kd.R_new' (Kd.R_new' ho0 (Kd.R_lt (X.K HO_7))) (Kd.R_lt (X.K HO_163000))) (below_size X.G))
        have n3_ := X.A (X.BB BK156 hb)
        have n4_ := X.A (X.BB BK162 hb)
        have n5_ := X.A (below_step X.G hb)
        clear HO_7 HO_163000 BK156 BK162 HB
        have HO_7 := n0_
        have HO_163000 := n1_
        have HO176 := n2_
        have BK156 := n3_
        have BK162 := n4_
        have HB := n5_
        clear n0_ n1_ n2_ n3_ n4_ n5_
        (try clear hb)
        (try clear hb2)
        (try clear hk)
        (try clear hi)
        (try clear ho0)
        obtain ⟨Ao76, co76, eo76⟩ := Kd.R_slice HO176.out
        (first | subst eo76 | (injection eo76 with f1_ f2_ f3_; have f4_ := f1_.symm; have f5_ := f3_.symm; clear f1_ f2_ f3_; subst f4_; subst f5_))
        refine hK.out _ _ ⟨(blk_cell BK156.out 0).trans rfl, (blk_cell BK156.out 1).trans rfl, (blk_cell BK156.out 2).trans rfl, (blk_cell BK162.out 0).trans rfl, (blk_cell BK162.out 1).trans rfl⟩ (fun hHeld => ?_)
        clear hK K
        refine norm_ (a' := ?_) ?_ ?_
        rotate_left
        ·exact (show Act.put _ (some 50) _ = _ from X.Pu)
        refine one_ (i := 9) (N := some 51) #[true, true, true, true, true, true, true, true, true, true, false] rfl rfl (one_of HT_.out (by kernel_rfl)) (by decide) (fun K hK => ?_)
        refine goes_ Try.func17 (by kernel_rfl) rfl #[.agg #[.int .i64 a0_0, .int .i64 a0_1, .int .i64 a0_2], .agg #[.slice Ao76 t174.length co76, .int .i64 t177]] (by rfl) rfl rfl X.M ?_
        with_reducible refine (spec_isCode.calls k2 a0_0 a0_1 a0_2 _ _ t174 t177 t178 _ ?side1 ?side2 A53.out).mono ?_
        (case side1 => exact X.C (Kd.R_reads' HO176.out).2.2)
        (case side2 => exact (Kd.R_reads' HO176.out).2.1)
        rintro e w77 ⟨rfl, hb⟩
        refine ⟨_, rfl, ?_⟩
        have n0_ := X.A (Kd.R_below (X.K HO_7) hb)
        have n1_ := X.A (Kd.R_below (X.K HO_163000) hb)
        have n2_ := X.A (Kd.R_below (X.K HO176) hb)
        have n3_ := X.A (X.BB BK156 hb)
        have n4_ := X.A (X.BB BK162 hb)
        have n5_ := X.A (below_step X.G hb)
        clear HO_7 HO_163000 HO176 BK156 BK162 HB
        have HO_7 := n0_
        have HO_163000 := n1_
        have HO176 := n2_
        have BK156 := n3_
        have BK162 := n4_
        have HB := n5_
        clear n0_ n1_ n2_ n3_ n4_ n5_
        (try clear hb)
        (try clear hb2)
        (try clear hk)
        (try clear hi)
        refine hK.out _ _ ⟨(blk_cell BK156.out 0).trans rfl, (blk_cell BK156.out 1).trans rfl, (blk_cell BK156.out 2).trans rfl, (blk_cell BK162.out 0).trans rfl, (blk_cell BK162.out 1).trans rfl⟩ (fun hHeld => ?_)
        clear hK K
        refine norm_ (a' := ?_) ?_ ?_
        rotate_left
        ·exact (show Act.put _ (some 51) _ = _ from X.Pu)
        refine pure_ (i := 10) (N := some 52) (v := ?_) (a' := ?_) #[true, true, true, true, true, true, true, true, true, true, true] rfl rfl (any_of HT_.out (by kernel_rfl)) (fun _ _ _ h => h) (Or.inl ⟨by rfl, ?_⟩) ?_ ?_
        rotate_left
        ·intro w'
         go_simp
         with_reducible rfl
        rotate_left
        ·exact X.Pu
        refine done_ (done_of HT_.out (by kernel_rfl)) ?_
        try go_wp2
        go_ret2
        exact ⟨_, by first | rfl | (simp [errW_none, errW_some] <;> rfl) | (simp [*, errW_none, errW_some] <;> rfl), by first | exact Kd.S_nil _ _ _ _ _ | exact Kd.N_nil _ _ _ _ _ | exact Kd.V_nil _ _ _ _ _ | exact Kd.Q_nil _ _ _ _ _ | exact Kd.R_nil _ _ _ _ _, X.G⟩

end Go.Proofs.Ytldeaeeolibpjag.Q
