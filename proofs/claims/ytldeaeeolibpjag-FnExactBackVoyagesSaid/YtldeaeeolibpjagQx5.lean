-- by wip/xprint.py, a program of this session over the kit's print: not trusted, Lean checks it.
import Derived.Test.YtldeaeeolibpjagXShort
import Derived.Test.YtldeaeeolibpjagQx0
namespace Go.Proofs.Ytldeaeeolibpjag.Q
open Go.RowKit Go.Proofs.YtldeaeeolibpjagW.PrintWords Go.Proofs.YtldeaeeolibpjagW.PrintLast Go.Proofs.YtldeaeeolibpjagW.PrintMore
attribute [local go_sem] max2_int min2_int max_two min_two max_three min_three max_four min_four   -- for this text's walks alone
set_option linter.unusedVariables false
set_option linter.unusedSimpArgs false

/-! ### spec_isCode: function 17 -/
def spec_isCode.l0 : Nat → Int → List Int → Int → Int → Int → Int → Int → Option (Int)
 | 0, _, _, _, _, _, _, _ => none
 | k + 1, x5, x11, x12, x13, x154000, x154001, x154002 => if x13 < x12 then (if 0 ≤ x13 then (if x13 < (x11.length : Int) then (spec_isCode.l0 k (wrap64 ((wrap64 (x5 * (wrap64 (x154002 + 2)))) + (rd x11 x13))) x11 x12 (wrap64 (x13 + 1)) x154000 x154001 x154002) else (none)) else (none)) else (some x5)
def spec_isCode.f (k : Nat) (a0_0 : Int) (a0_1 : Int) (a0_2 : Int) (l1_0 : List Int) (a1_1 : Int) : Option (Int) := spec_isCode.l0 k a1_1 l1_0 (l1_0.length : Int) 0 a0_0 a0_1 a0_2
theorem spec_isCode.mono_l : ∀ k, (∀ y0 y1 y2 y3 y4 y5 y6, LeO (spec_isCode.l0 k y0 y1 y2 y3 y4 y5 y6) (spec_isCode.l0 (k + 1) y0 y1 y2 y3 y4 y5 y6))
 | 0 => fun _ _ _ _ _ _ _ r h => by simp [spec_isCode.l0] at h
 | k + 1 => by
  have ih0 := spec_isCode.mono_l k
  ·intro y0 y1 y2 y3 y4 y5 y6
   unfold spec_isCode.l0
   repeat' first
   | (with_reducible exact ih0 _ _ _ _ _ _ _)
   | (with_reducible exact LeO.refl _)
   | (with_reducible exact LeO.none _)
   | (with_reducible refine LeO.ite ?_ ?_)
   | (with_reducible refine LeO.bind ?_ (fun _ => ?_))
theorem spec_isCode.mono : ∀ a0 a1 a2 a3 a4 k, LeO (spec_isCode.f k a0 a1 a2 a3 a4) (spec_isCode.f (k + 1) a0 a1 a2 a3 a4) := by
 intro a0 a1 a2 a3 a4 k
 have ih0 := spec_isCode.mono_l k
 unfold spec_isCode.f
 repeat' first
   | (with_reducible exact ih0 _ _ _ _ _ _ _)
   | (with_reducible exact LeO.refl _)
   | (with_reducible exact LeO.none _)
   | (with_reducible refine LeO.ite ?_ ?_)
   | (with_reducible refine LeO.bind ?_ (fun _ => ?_))
set_option maxHeartbeats 8000000 in
set_option maxRecDepth 100000 in
theorem spec_isCode.calls (k : Nat) (a0_0 : Int) (a0_1 : Int) (a0_2 : Int) (A1_0 : Option Addr) (c1_0 : Nat) (l1_0 : List Int) (a1_1 : Int) (r : Int) (w : World) (hr1_0 : Kd.C (Kd.int .i64) w A1_0 l1_0.length l1_0) (hc1_0 : l1_0.length ≤ c1_0) (h : spec_isCode.f k a0_0 a0_1 a0_2 l1_0 a1_1 = some r) :
  Calls Try.prog 17 #[.agg #[.int .i64 a0_0, .int .i64 a0_1, .int .i64 a0_2], .agg #[.slice A1_0 l1_0.length c1_0, .int .i64 a1_1]] w fun e w' => e = .returned (.int .i64 r) ∧ Below w.heap.size w w' := by
 have hu29 := Try.underlying29
 have hu41 := Try.underlying41
 have HR1_0 := X.A hr1_0
 have HC1_0 := X.A hc1_0
 clear hr1_0 hc1_0
 have HB := X.A (Below.refl w.heap.size w)
 have H : (spec_isCode.l0 k a1_1 l1_0 (l1_0.length : Int) 0 a0_0 a0_1 a0_2) = some r := h
 clear h
 have H' := X.A H
 clear H
 go_enter Try.func17, Try.ntmps17
 go_wp2_with (first | ((with_reducible refine gate_dst (N := 2) rfl ?_); refine box_event ?hg (N := 2) ?hd (cs := #[.int .i64 a0_0, .int .i64 a0_1, .int .i64 a0_2]) (t := 29) ?hr ?_; (case hd => rfl); (case hg => rfl); (case hr => exact X.R); intro gb153 hg w3 hbox hb; have n0_ := X.A (below_step X.G hb); have n1_ := X.A (hbox); have n2_ := X.A ((by rw [hg]; exact (below_size X.G) : w.heap.size ≤ gb153)); have n3_ := X.A ((by rw [hg]; exact (below_size X.G) : w.heap.size ≤ gb153)); clear HB; have HB := n0_; have BK153 := n1_; have GW153 := n2_; have GE153 := n3_; clear n0_ n1_ n2_ n3_; clear hb hbox hg) | ((with_reducible refine gate_dst (N := 3) rfl ?_); refine box_event ?hg (N := 3) ?hd (cs := #[.slice A1_0 l1_0.length c1_0, .int .i64 a1_1]) (t := 41) ?hr ?_; (case hd => rfl); (case hg => rfl); (case hr => exact X.R); intro gb154 hg w4 hbox hb; have n0_ := X.A (X.BB BK153 hb); have n1_ := X.A (below_step X.G hb); have n2_ := X.A (hbox); have n3_ := X.A ((by rw [hg]; exact (below_size X.G) : w.heap.size ≤ gb154)); have n4_ := X.A ((by rw [hg]; exact (below_size X.G) : w.heap.size ≤ gb154)); have n5_ := X.A (X.NL hg BK153); have n6_ := X.A (X.NG hg BK153); clear BK153 HB; have BK153 := n0_; have HB := n1_; have BK154 := n2_; have GW154 := n3_; have GE154 := n4_; have NB153_154 := n5_; have NB154_153 := n6_; clear n0_ n1_ n2_ n3_ n4_ n5_ n6_ hb hbox hg; have hnb5 := NB154_153.out; have hnc5 := NB153_154.out; have hcz6_0 : w4.cell? ⟨gb154, 0, none⟩ = some (.slice A1_0 l1_0.length c1_0) := (blk_cell BK154.out 0).trans rfl; have hcz6_1 : w4.cell? ⟨gb154, 1, none⟩ = some (.int .i64 a1_1) := (blk_cell BK154.out 1).trans rfl; have hfz6_0 := blk_frozen BK154.out 0; have hfz6_1 := blk_frozen BK154.out 1))
 go_loopg [5, 13] k (fun kq v5 v13 w' => ∃ (x5_1 : Int) (x13_1 : Int), v5 = .int .i64 x5_1 ∧ v13 = .int .i64 x13_1 ∧ Aside0 (spec_isCode.l0 kq x5_1 l1_0 (l1_0.length : Int) x13_1 a0_0 a0_1 a0_2 = some r) ∧ Aside0 (kq ≤ k) ∧ Aside0 (w'.heap[gb153]? = some (.cells #[.int .i64 a0_0, .int .i64 a0_1, .int .i64 a0_2] 29 (0, 0))) ∧ Aside0 (w'.heap[gb154]? = some (.cells #[(.slice A1_0 l1_0.length c1_0), .int .i64 a1_1] 41 (0, 0))) ∧ Aside0 (Below w.heap.size w w'))
 case atStart => exact ⟨(a1_1), (0), (by first | rfl | (simp; done) | (simp [*]; done)), (by first | rfl | (simp; done) | (simp [*]; done)), H', ⟨Nat.le_refl _⟩, ⟨X.B BK153⟩, ⟨X.B BK154⟩, ⟨X.G⟩⟩
 case round =>
  clear H'
  try clear c1
  try clear p2
  try clear c5
  try clear hcz6_0
  try clear hcz6_1
  try clear hfz6_0
  try clear hfz6_1
  obtain ⟨x5_1, x13_1, rfl, rfl, HA, HK1, BK153, BK154, HB⟩ := hrel
  cases gk with
  | zero => exact absurd HA.out (by simp [spec_isCode.l0])
  | succ k1 =>
   have H := HA.out
   clear HA
   simp only [spec_isCode.l0] at H
   by_cases c7 : x13_1 < (l1_0.length : Int)
   ·rw [if_pos c7] at H
    have c7b0 : decide (x13_1 < (l1_0.length : Int)) = true := decide_eq_true c7
    clear c7
    by_cases c8 : 0 ≤ x13_1
    rotate_left
    ·rw [if_neg c8] at H
     exact absurd H (by simp)
    rw [if_pos c8] at H
    have c8b0 : decide (0 ≤ x13_1) = true := decide_eq_true c8
    clear c8
    by_cases c9 : x13_1 < (l1_0.length : Int)
    rotate_left
    ·rw [if_neg c9] at H
     exact absurd H (by simp)
    rw [if_pos c9] at H
    have c9b0 : decide (x13_1 < (l1_0.length : Int)) = true := decide_eq_true c9
    clear c9
    have H' := X.A H
    clear H
    have p155 : 0 ≤ (x13_1 : Int) := X.D
    have q155 : x13_1 < (l1_0.length : Int) := X.D
    obtain ⟨ad155, e155, hx155_0⟩ := Kd.at_int HR1_0.out x13_1 p155 q155
    cases e155
    replace hx155_0 := (HB.out.cell (World.block_lt_of_cell? w _ hx155_0)).trans hx155_0
    replace p155 := eq_true p155
    replace q155 := eq_true q155
    have hnb10 := NB153_154.out
    have hnc10 := NB154_153.out
    have hcz11_0 : wr.cell? ⟨gb153, 0, none⟩ = some (.int .i64 a0_0) := (blk_cell BK153.out 0).trans rfl
    have hcz11_1 : wr.cell? ⟨gb153, 1, none⟩ = some (.int .i64 a0_1) := (blk_cell BK153.out 1).trans rfl
    have hcz11_2 : wr.cell? ⟨gb153, 2, none⟩ = some (.int .i64 a0_2) := (blk_cell BK153.out 2).trans rfl
    have hfz11_0 := blk_frozen BK153.out 0
    have hfz11_1 := blk_frozen BK153.out 1
    have hfz11_2 := blk_frozen BK153.out 2
    go_wp2
    go_roundg k1
    case measure => have := HK1.out; omega
    case rel => exact ⟨(wrap64 ((wrap64 (x5_1 * (wrap64 (a0_2 + 2)))) + (rd l1_0 x13_1))), (wrap64 (x13_1 + 1)), (by first | rfl | (simp; done) | (simp [*]; done)), (by first | rfl | (simp; done) | (simp [*]; done)), H', ⟨by have := HK1.out; omega⟩, ⟨X.B BK153⟩, ⟨X.B BK154⟩, ⟨X.G⟩⟩
   ·rw [if_neg c7] at H
    have c7b0 : decide (x13_1 < (l1_0.length : Int)) = false := decide_eq_false c7
    clear c7
    obtain rfl := Option.some.inj H
    go_wp2
    go_ret
    exact ⟨by first | rfl | (simp [errW_none, errW_some] <;> rfl) | (simp [*, errW_none, errW_some] <;> rfl), X.G⟩

end Go.Proofs.Ytldeaeeolibpjag.Q
