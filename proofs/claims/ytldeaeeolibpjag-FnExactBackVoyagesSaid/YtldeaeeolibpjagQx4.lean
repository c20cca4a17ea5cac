-- by wip/xprint.py, a program of this session over the kit's print: not trusted, Lean checks it.
import Derived.Test.YtldeaeeolibpjagXShort
import Derived.Test.YtldeaeeolibpjagQx0
import Derived.Test.YtldeaeeolibpjagQx1
import Derived.Test.YtldeaeeolibpjagQx2
import Derived.Test.YtldeaeeolibpjagQx3
namespace Go.Proofs.Ytldeaeeolibpjag.Q
open Go.RowKit Go.Proofs.YtldeaeeolibpjagW.PrintWords Go.Proofs.YtldeaeeolibpjagW.PrintLast Go.Proofs.YtldeaeeolibpjagW.PrintMore
attribute [local go_sem] max2_int min2_int max_two min_two max_three min_three max_four min_four   -- for this text's walks alone
set_option linter.unusedVariables false
set_option linter.unusedSimpArgs false

/-! ### spec_isCan: function 15 -/
mutual
def spec_isCan.j0 : Nat → Bool → Int → Int → Int → List Int → Int → Int → List Int → Option (Bool)
 | 0, _, _, _, _, _, _, _, _ => none
 | k + 1, x41, x139000, x139001, x139002, x140000, x140001, x141000, x141001 => if x41 = true then (some false) else (spec_isCan.l0 k x141001 (x141001.length : Int) 0 x139000 x139001 x139002 x140000 x140001 x141000 x141001)
def spec_isCan.l0 : Nat → List Int → Int → Int → Int → Int → Int → List Int → Int → Int → List Int → Option (Bool)
 | 0, _, _, _, _, _, _, _, _, _, _ => none
 | k + 1, x43, x44, x45, x139000, x139001, x139002, x140000, x140001, x141000, x141001 => if x45 < x44 then (if 0 ≤ x45 then (if x45 < (x43.length : Int) then (if 0 ≤ (rd x43 x45) then (if (rd x43 x45) < (x140000.length : Int) then (if (rd x140000 (rd x43 x45)) = x140001 then (spec_isCan.l0 k x43 x44 (wrap64 (x45 + 1)) x139000 x139001 x139002 x140000 x140001 x141000 x141001) else (some false)) else (none)) else (none)) else (none)) else (none)) else ((spec_cuBits.f k x141001).bind fun t146 => ((spec_cuCalm.f k x139000 t146).bind fun t147 => (if t147 = true then ((spec_isSail.f k x140000 x140001 x141000 x141001).bind fun bt148 => ((spec_isCalm.f k x139000 x139001 x139002 bt148.1 bt148.2).bind fun t152 => (some t152))) else (some false))))
end
def spec_isCan.f (k : Nat) (a0_0 : Int) (a0_1 : Int) (a0_2 : Int) (l1_0 : List Int) (a1_1 : Int) (a2_0 : Int) (l2_1 : List Int) : Option (Bool) := (spec_l1In.f a2_0 0 (wrap64 (a0_2 + 1))).bind fun t141 => (if t141 = true then (if a2_0 = a1_1 then (spec_isCan.j0 k true a0_0 a0_1 a0_2 l1_0 a1_1 a2_0 l2_1) else ((spec_l1In.f (l2_1.length : Int) 1 a0_1).bind fun t142 => (if t142 = true then ((spec_l1Rising.f k l2_1 0 (wrap64 ((l1_0.length : Int) - 1))).bind fun t143 => (spec_isCan.j0 k (!t143) a0_0 a0_1 a0_2 l1_0 a1_1 a2_0 l2_1)) else (spec_isCan.j0 k true a0_0 a0_1 a0_2 l1_0 a1_1 a2_0 l2_1)))) else (spec_isCan.j0 k true a0_0 a0_1 a0_2 l1_0 a1_1 a2_0 l2_1))
theorem spec_isCan.mono_l : ∀ k, (∀ y0 y1 y2 y3 y4 y5 y6 y7, LeO (spec_isCan.j0 k y0 y1 y2 y3 y4 y5 y6 y7) (spec_isCan.j0 (k + 1) y0 y1 y2 y3 y4 y5 y6 y7)) ∧ (∀ y0 y1 y2 y3 y4 y5 y6 y7 y8 y9, LeO (spec_isCan.l0 k y0 y1 y2 y3 y4 y5 y6 y7 y8 y9) (spec_isCan.l0 (k + 1) y0 y1 y2 y3 y4 y5 y6 y7 y8 y9))
 | 0 => ⟨fun _ _ _ _ _ _ _ _ r h => by simp [spec_isCan.j0] at h, fun _ _ _ _ _ _ _ _ _ _ r h => by simp [spec_isCan.l0] at h⟩
 | k + 1 => by
  obtain ⟨ih0, ih1⟩ := spec_isCan.mono_l k
  refine ⟨?_, ?_⟩
  ·intro y0 y1 y2 y3 y4 y5 y6 y7
   unfold spec_isCan.j0
   repeat' first
   | (with_reducible exact ih0 _ _ _ _ _ _ _ _)
   | (with_reducible exact ih1 _ _ _ _ _ _ _ _ _ _)
   | (with_reducible exact spec_cuBits.mono _ _)
   | (with_reducible exact spec_cuCalm.mono _ _ _)
   | (with_reducible exact spec_isCalm.mono _ _ _ _ _ _)
   | (with_reducible exact spec_isSail.mono _ _ _ _ _)
   | (with_reducible exact spec_l1Rising.mono _ _ _ _)
   | (with_reducible exact LeO.refl _)
   | (with_reducible exact LeO.none _)
   | (with_reducible refine LeO.ite ?_ ?_)
   | (with_reducible refine LeO.bind ?_ (fun _ => ?_))
  ·intro y0 y1 y2 y3 y4 y5 y6 y7 y8 y9
   unfold spec_isCan.l0
   repeat' first
   | (with_reducible exact ih0 _ _ _ _ _ _ _ _)
   | (with_reducible exact ih1 _ _ _ _ _ _ _ _ _ _)
   | (with_reducible exact spec_cuBits.mono _ _)
   | (with_reducible exact spec_cuCalm.mono _ _ _)
   | (with_reducible exact spec_isCalm.mono _ _ _ _ _ _)
   | (with_reducible exact spec_isSail.mono _ _ _ _ _)
   | (with_reducible exact spec_l1Rising.mono _ _ _ _)
   | (with_reducible exact LeO.refl _)
   | (with_reducible exact LeO.none _)
   | (with_reducible refine LeO.ite ?_ ?_)
   | (with_reducible refine LeO.bind ?_ (fun _ => ?_))
theorem spec_isCan.mono : ∀ a0 a1 a2 a3 a4 a5 a6 k, LeO (spec_isCan.f k a0 a1 a2 a3 a4 a5 a6) (spec_isCan.f (k + 1) a0 a1 a2 a3 a4 a5 a6) := by
 intro a0 a1 a2 a3 a4 a5 a6 k
 obtain ⟨ih0, ih1⟩ := spec_isCan.mono_l k
 unfold spec_isCan.f
 repeat' first
   | (with_reducible exact ih0 _ _ _ _ _ _ _ _)
   | (with_reducible exact ih1 _ _ _ _ _ _ _ _ _ _)
   | (with_reducible exact spec_cuBits.mono _ _)
   | (with_reducible exact spec_cuCalm.mono _ _ _)
   | (with_reducible exact spec_isCalm.mono _ _ _ _ _ _)
   | (with_reducible exact spec_isSail.mono _ _ _ _ _)
   | (with_reducible exact spec_l1Rising.mono _ _ _ _)
   | (with_reducible exact LeO.refl _)
   | (with_reducible exact LeO.none _)
   | (with_reducible refine LeO.ite ?_ ?_)
   | (with_reducible refine LeO.bind ?_ (fun _ => ?_))
def spec_isCan.T6 : Bool × List (List Nat × List Nat) := (true, [([], []), ([0], [0]), ([], []), ([1, 2], [1, 2]), ([3], [3]), ([], []), ([5], [5]), ([4, 6], [4, 6])])
def spec_isCan.B6 : List Nat := [0, 1, 0, 7, 15, 0, 32, 127]
theorem spec_isCan.tab6 : rtab .any (opsOf Try.f15 6) = spec_isCan.T6 := by kernel_rfl
theorem spec_isCan.bits6 : waitsOk spec_isCan.T6.2 spec_isCan.B6 = true := by kernel_rfl
def spec_isCan.T9 : Bool × List (List Nat × List Nat) := (true, [([], []), ([0], [0]), ([], []), ([2], [2]), ([3], [3]), ([1, 4, 4], [1, 4]), ([5, 5], [5]), ([6], [6]), ([6], [6]), ([6], [6]), ([8, 9, 6, 6], [6, 8, 9]), ([7, 10, 10, 6], [6, 7, 10]), ([6, 11], [6, 11]), ([12, 11, 0, 1, 2, 3, 4, 5, 6, 7, 8, 9, 10, 11, 12], [12])])
def spec_isCan.B9 : List Nat := [0, 1, 0, 4, 12, 31, 63, 127, 127, 127, 895, 2047, 4095, 8191]
theorem spec_isCan.tab9 : rtab .any (opsOf Try.f15 9) = spec_isCan.T9 := by kernel_rfl
theorem spec_isCan.bits9 : waitsOk spec_isCan.T9.2 spec_isCan.B9 = true := by kernel_rfl
set_option maxHeartbeats 8000000 in
set_option maxRecDepth 100000 in
theorem spec_isCan.calls (k : Nat) (a0_0 : Int) (a0_1 : Int) (a0_2 : Int) (A1_0 : Option Addr) (c1_0 : Nat) (l1_0 : List Int) (a1_1 : Int) (a2_0 : Int) (A2_1 : Option Addr) (c2_1 : Nat) (l2_1 : List Int) (r : Bool) (w : World) (hr1_0 : Kd.C (Kd.int .i64) w A1_0 l1_0.length l1_0) (hc1_0 : l1_0.length ≤ c1_0) (hr2_1 : Kd.C (Kd.int .i64) w A2_1 l2_1.length l2_1) (hc2_1 : l2_1.length ≤ c2_1) (h : spec_isCan.f k a0_0 a0_1 a0_2 l1_0 a1_1 a2_0 l2_1 = some r) :
  Calls Try.prog 15 #[.agg #[.int .i64 a0_0, .int .i64 a0_1, .int .i64 a0_2], .agg #[.slice A1_0 l1_0.length c1_0, .int .i64 a1_1], .agg #[.int .i64 a2_0, .slice A2_1 l2_1.length c2_1]] w fun e w' => e = .returned (.bool r) ∧ Below w.heap.size w w' := by
 have hu29 := Try.underlying29
 have hu41 := Try.underlying41
 have hu43 := Try.underlying43
 have HR1_0 := X.A hr1_0
 have HC1_0 := X.A hc1_0
 clear hr1_0 hc1_0
 have HR2_1 := X.A hr2_1
 have HC2_1 := X.A hc2_1
 clear hr2_1 hc2_1
 have HB := X.A (Below.refl w.heap.size w)
 have H : ((spec_l1In.f a2_0 0 (wrap64 (a0_2 + 1))).bind fun t141 => (if t141 = true then (if a2_0 = a1_1 then (spec_isCan.j0 k true a0_0 a0_1 a0_2 l1_0 a1_1 a2_0 l2_1) else ((spec_l1In.f (l2_1.length : Int) 1 a0_1).bind fun t142 => (if t142 = true then ((spec_l1Rising.f k l2_1 0 (wrap64 ((l1_0.length : Int) - 1))).bind fun t143 => (spec_isCan.j0 k (!t143) a0_0 a0_1 a0_2 l1_0 a1_1 a2_0 l2_1)) else (spec_isCan.j0 k true a0_0 a0_1 a0_2 l1_0 a1_1 a2_0 l2_1)))) else (spec_isCan.j0 k true a0_0 a0_1 a0_2 l1_0 a1_1 a2_0 l2_1))) = some r := h
 clear h
 have HC4 := X.A H
 clear H
 go_enter Try.func15, Try.ntmps15
 go_upto_region 1 with (first | ((with_reducible refine gate_dst (N := 3) rfl ?_); (try (refine gate_guard (by rfl) ?_; dsimp only)); refine box_event ?hg (N := 3) ?hd (cs := #[.int .i64 a0_0, .int .i64 a0_1, .int .i64 a0_2]) (t := 29) ?hr ?_; (case hd => rfl); (case hg => rfl); (case hr => exact X.R); intro gb138 hg w5 hbox hb; have n0_ := X.A (below_step X.G hb); have n1_ := X.A (hbox); have n2_ := X.A ((by rw [hg]; exact (below_size X.G) : w.heap.size ≤ gb138)); have n3_ := X.A ((by rw [hg]; exact (below_size X.G) : w.heap.size ≤ gb138)); clear HB; have HB := n0_; have BK138 := n1_; have GW138 := n2_; have GE138 := n3_; clear n0_ n1_ n2_ n3_; clear hb hbox hg) | ((with_reducible refine gate_dst (N := 4) rfl ?_); (try (refine gate_guard (by rfl) ?_; dsimp only)); refine box_event ?hg (N := 4) ?hd (cs := #[.slice A1_0 l1_0.length c1_0, .int .i64 a1_1]) (t := 41) ?hr ?_; (case hd => rfl); (case hg => rfl); (case hr => exact X.R); intro gb139 hg w6 hbox hb; have n0_ := X.A (X.BB BK138 hb); have n1_ := X.A (below_step X.G hb); have n2_ := X.A (hbox); have n3_ := X.A ((by rw [hg]; exact (below_size X.G) : w.heap.size ≤ gb139)); have n4_ := X.A ((by rw [hg]; exact (below_size X.G) : w.heap.size ≤ gb139)); have n5_ := X.A (X.NL hg BK138); have n6_ := X.A (X.NG hg BK138); clear BK138 HB; have BK138 := n0_; have HB := n1_; have BK139 := n2_; have GW139 := n3_; have GE139 := n4_; have NB138_139 := n5_; have NB139_138 := n6_; clear n0_ n1_ n2_ n3_ n4_ n5_ n6_; clear hb hbox hg) | ((with_reducible refine gate_dst (N := 5) rfl ?_); (try (refine gate_guard (by rfl) ?_; dsimp only)); refine box_event ?hg (N := 5) ?hd (cs := #[.int .i64 a2_0, .slice A2_1 l2_1.length c2_1]) (t := 43) ?hr ?_; (case hd => rfl); (case hg => rfl); (case hr => exact X.R); intro gb140 hg w7 hbox hb; have n0_ := X.A (X.BB BK138 hb); have n1_ := X.A (X.BB BK139 hb); have n2_ := X.A (below_step X.G hb); have n3_ := X.A (hbox); have n4_ := X.A ((by rw [hg]; exact (below_size X.G) : w.heap.size ≤ gb140)); have n5_ := X.A ((by rw [hg]; exact (below_size X.G) : w.heap.size ≤ gb140)); have n6_ := X.A (X.NL hg BK138); have n7_ := X.A (X.NG hg BK138); have n8_ := X.A (X.NL hg BK139); have n9_ := X.A (X.NG hg BK139); clear BK138 BK139 HB; have BK138 := n0_; have BK139 := n1_; have HB := n2_; have BK140 := n3_; have GW140 := n4_; have GE140 := n5_; have NB138_140 := n6_; have NB140_138 := n7_; have NB139_140 := n8_; have NB140_139 := n9_; clear n0_ n1_ n2_ n3_ n4_ n5_ n6_ n7_ n8_ n9_; clear hb hbox hg))
 (try simp only [Act.put, List.setIfInBounds_toArray, List.set_cons_zero, List.set_cons_succ])
 go_cut [41] (fun v41 wc => ∃ (kq : Nat) (x41_3 : Bool), v41 = .bool x41_3 ∧ Aside0 (spec_isCan.j0 kq x41_3 a0_0 a0_1 a0_2 l1_0 a1_1 a2_0 l2_1 = some r) ∧ Aside0 (kq ≤ k) ∧ Aside0 (wc.heap[gb138]? = some (.cells #[.int .i64 a0_0, .int .i64 a0_1, .int .i64 a0_2] 29 (0, 0))) ∧ Aside0 (wc.heap[gb139]? = some (.cells #[(.slice A1_0 l1_0.length c1_0), .int .i64 a1_1] 41 (0, 0))) ∧ Aside0 (wc.heap[gb140]? = some (.cells #[.int .i64 a2_0, (.slice A2_1 l2_1.length c2_1)] 43 (0, 0))) ∧ Aside0 (Below w.heap.size w wc))
 case first =>
  have H := HC4.out
  clear HC4
  replace H := Option.bind_eq_some_iff.mp H
  obtain ⟨t141, A80, H⟩ := H
  replace H : (if t141 = true then (if a2_0 = a1_1 then (spec_isCan.j0 k true a0_0 a0_1 a0_2 l1_0 a1_1 a2_0 l2_1) else ((spec_l1In.f (l2_1.length : Int) 1 a0_1).bind fun t142 => (if t142 = true then ((spec_l1Rising.f k l2_1 0 (wrap64 ((l1_0.length : Int) - 1))).bind fun t143 => (spec_isCan.j0 k (!t143) a0_0 a0_1 a0_2 l1_0 a1_1 a2_0 l2_1)) else (spec_isCan.j0 k true a0_0 a0_1 a0_2 l1_0 a1_1 a2_0 l2_1)))) else (spec_isCan.j0 k true a0_0 a0_1 a0_2 l1_0 a1_1 a2_0 l2_1)) = some r := H
  have A8 := X.A A80
  clear A80
  by_cases c9 : t141 = true
  ·subst c9
   have H1 : (if a2_0 = a1_1 then (spec_isCan.j0 k true a0_0 a0_1 a0_2 l1_0 a1_1 a2_0 l2_1) else ((spec_l1In.f (l2_1.length : Int) 1 a0_1).bind fun t142 => (if t142 = true then ((spec_l1Rising.f k l2_1 0 (wrap64 ((l1_0.length : Int) - 1))).bind fun t143 => (spec_isCan.j0 k (!t143) a0_0 a0_1 a0_2 l1_0 a1_1 a2_0 l2_1)) else (spec_isCan.j0 k true a0_0 a0_1 a0_2 l1_0 a1_1 a2_0 l2_1)))) = some r := by rw [if_pos rfl] at H; exact H
   clear H
   have H := H1
   clear H1
   by_cases c10 : a2_0 = a1_1
   ·rw [if_pos c10] at H
    have c10b0 : (a2_0 == a1_1) = true := beq_iff_eq.mpr c10
    have c10b1 : (a2_0 != a1_1) = false := bne_eq_false_iff_eq.mpr c10
    clear c10
    (first | rw [c10b0] | rw [c10b1] | (simp only [i64_w, i32_w]; rw [c10b0]) | skip)
    have H' := X.A H
    clear H
    have hnb11 := NB140_138.out
    have hnc11 := NB138_140.out
    have hnb12 := NB140_139.out
    have hnc12 := NB139_140.out
    have hcz13_0 : w7.cell? ⟨gb140, 0, none⟩ = some (.int .i64 a2_0) := (blk_cell BK140.out 0).trans rfl
    have hcz13_1 : w7.cell? ⟨gb140, 1, none⟩ = some (.slice A2_1 l2_1.length c2_1) := (blk_cell BK140.out 1).trans rfl
    have hfz13_0 := blk_frozen BK140.out 0
    have hfz13_1 := blk_frozen BK140.out 1
    have hnb14 := NB138_139.out
    have hnc14 := NB139_138.out
    have hcz15_0 : w7.cell? ⟨gb138, 0, none⟩ = some (.int .i64 a0_0) := (blk_cell BK138.out 0).trans rfl
    have hcz15_1 : w7.cell? ⟨gb138, 1, none⟩ = some (.int .i64 a0_1) := (blk_cell BK138.out 1).trans rfl
    have hcz15_2 : w7.cell? ⟨gb138, 2, none⟩ = some (.int .i64 a0_2) := (blk_cell BK138.out 2).trans rfl
    have hfz15_0 := blk_frozen BK138.out 0
    have hfz15_1 := blk_frozen BK138.out 1
    have hfz15_2 := blk_frozen BK138.out 2
    go_wp2_with (first | ((with_reducible refine gate_callee (f := 31) rfl ?_); refine goesL_ (some 14) rfl rfl Try.func31 (by kernel_rfl) rfl #[.int .i64 a2_0, .int .i64 0, .int .i64 (wrap64 (a0_2 + 1))] rfl X.M ?_; (with_reducible refine (spec_l1In.calls a2_0 0 (wrap64 (a0_2 + 1)) true _ A8.out).mono ?_); rintro e w' ⟨rfl, ⟨nd, rfl⟩⟩; refine ⟨_, rfl, ?_⟩; have hcz16_0 : w7.cell? ⟨gb139, 0, none⟩ = some (.slice A1_0 l1_0.length c1_0) := (blk_cell BK139.out 0).trans rfl; have hcz16_1 : w7.cell? ⟨gb139, 1, none⟩ = some (.int .i64 a1_1) := (blk_cell BK139.out 1).trans rfl; have hfz16_0 := blk_frozen BK139.out 0; have hfz16_1 := blk_frozen BK139.out 1))
    go_meet
    case rel => exact ⟨_, (true), (by first | rfl | (simp; done) | (simp [*]; done)), H', ⟨by first | omega | exact Nat.le_refl _⟩, ⟨X.B BK138⟩, ⟨X.B BK139⟩, ⟨X.B BK140⟩, ⟨X.G⟩⟩
   ·rw [if_neg c10] at H
    have c10b0 : (a2_0 == a1_1) = false := beq_eq_false_iff_ne.mpr c10
    have c10b1 : (a2_0 != a1_1) = true := bne_iff_ne.mpr c10
    (first | rw [c10b0] | rw [c10b1] | (simp only [i64_w, i32_w]; rw [c10b0]) | skip)
    replace H := Option.bind_eq_some_iff.mp H
    obtain ⟨t142, A170, H⟩ := H
    replace H : (if t142 = true then ((spec_l1Rising.f k l2_1 0 (wrap64 ((l1_0.length : Int) - 1))).bind fun t143 => (spec_isCan.j0 k (!t143) a0_0 a0_1 a0_2 l1_0 a1_1 a2_0 l2_1)) else (spec_isCan.j0 k true a0_0 a0_1 a0_2 l1_0 a1_1 a2_0 l2_1)) = some r := H
    have A17 := X.A A170
    clear A170
    by_cases c18 : t142 = true
    ·subst c18
     have H1 : ((spec_l1Rising.f k l2_1 0 (wrap64 ((l1_0.length : Int) - 1))).bind fun t143 => (spec_isCan.j0 k (!t143) a0_0 a0_1 a0_2 l1_0 a1_1 a2_0 l2_1)) = some r := by rw [if_pos rfl] at H; exact H
     clear H
     have H := H1
     clear H1
     replace H := Option.bind_eq_some_iff.mp H
     obtain ⟨t143, A190, H⟩ := H
     replace H : (spec_isCan.j0 k (!t143) a0_0 a0_1 a0_2 l1_0 a1_1 a2_0 l2_1) = some r := H
     have A19 := X.A A190
     clear A190
     have H' := X.A H
     clear H
     have hnb20 := NB140_138.out
     have hnc20 := NB138_140.out
     have hnb21 := NB140_139.out
     have hnc21 := NB139_140.out
     have hcz22_0 : w7.cell? ⟨gb140, 0, none⟩ = some (.int .i64 a2_0) := (blk_cell BK140.out 0).trans rfl
     have hcz22_1 : w7.cell? ⟨gb140, 1, none⟩ = some (.slice A2_1 l2_1.length c2_1) := (blk_cell BK140.out 1).trans rfl
     have hfz22_0 := blk_frozen BK140.out 0
     have hfz22_1 := blk_frozen BK140.out 1
     have hnb23 := NB138_139.out
     have hnc23 := NB139_138.out
     have hcz24_0 : w7.cell? ⟨gb138, 0, none⟩ = some (.int .i64 a0_0) := (blk_cell BK138.out 0).trans rfl
     have hcz24_1 : w7.cell? ⟨gb138, 1, none⟩ = some (.int .i64 a0_1) := (blk_cell BK138.out 1).trans rfl
     have hcz24_2 : w7.cell? ⟨gb138, 2, none⟩ = some (.int .i64 a0_2) := (blk_cell BK138.out 2).trans rfl
     have hfz24_0 := blk_frozen BK138.out 0
     have hfz24_1 := blk_frozen BK138.out 1
     have hfz24_2 := blk_frozen BK138.out 2
     go_wp2_with (first | ((with_reducible refine gate_callee (f := 31) rfl ?_); refine goesL_ (some 14) rfl rfl Try.func31 (by kernel_rfl) rfl #[.int .i64 a2_0, .int .i64 0, .int .i64 (wrap64 (a0_2 + 1))] rfl X.M ?_; (with_reducible refine (spec_l1In.calls a2_0 0 (wrap64 (a0_2 + 1)) true _ A8.out).mono ?_); rintro e w' ⟨rfl, ⟨nd, rfl⟩⟩; refine ⟨_, rfl, ?_⟩; have hcz25_0 : w7.cell? ⟨gb139, 0, none⟩ = some (.slice A1_0 l1_0.length c1_0) := (blk_cell BK139.out 0).trans rfl; have hcz25_1 : w7.cell? ⟨gb139, 1, none⟩ = some (.int .i64 a1_1) := (blk_cell BK139.out 1).trans rfl; have hfz25_0 := blk_frozen BK139.out 0; have hfz25_1 := blk_frozen BK139.out 1) | (go_at_call 31; (with_reducible refine (spec_l1In.calls (l2_1.length : Int) 1 a0_1 true _ A17.out).mono ?_); rintro e w' ⟨rfl, ⟨nd, rfl⟩⟩) | (go_at_call 32; (with_reducible refine (spec_l1Rising.calls k _ _ l2_1 0 (wrap64 ((l1_0.length : Int) - 1)) t143 _ ?side1 ?side2 A19.out).mono ?_); (case side1 => exact X.C (Kd.C_below HR2_1.out X.G)); (case side2 => exact HC2_1.out); rintro e w' ⟨rfl, ⟨nd, rfl⟩⟩))
     go_meet
     case rel => exact ⟨_, (!t143), (by first | rfl | (simp; done) | (simp [*]; done)), H', ⟨by first | omega | exact Nat.le_refl _⟩, ⟨X.B BK138⟩, ⟨X.B BK139⟩, ⟨X.B BK140⟩, ⟨X.G⟩⟩
    ·replace c18 := Bool.eq_false_iff.mpr c18
     subst c18
     have H1 : (spec_isCan.j0 k true a0_0 a0_1 a0_2 l1_0 a1_1 a2_0 l2_1) = some r := by rw [if_neg (show ¬ (false = true) by decide)] at H; exact H
     clear H
     have H := H1
     clear H1
     have H' := X.A H
     clear H
     have hnb26 := NB140_138.out
     have hnc26 := NB138_140.out
     have hnb27 := NB140_139.out
     have hnc27 := NB139_140.out
     have hcz28_0 : w7.cell? ⟨gb140, 0, none⟩ = some (.int .i64 a2_0) := (blk_cell BK140.out 0).trans rfl
     have hcz28_1 : w7.cell? ⟨gb140, 1, none⟩ = some (.slice A2_1 l2_1.length c2_1) := (blk_cell BK140.out 1).trans rfl
     have hfz28_0 := blk_frozen BK140.out 0
     have hfz28_1 := blk_frozen BK140.out 1
     have hnb29 := NB138_139.out
     have hnc29 := NB139_138.out
     have hcz30_0 : w7.cell? ⟨gb138, 0, none⟩ = some (.int .i64 a0_0) := (blk_cell BK138.out 0).trans rfl
     have hcz30_1 : w7.cell? ⟨gb138, 1, none⟩ = some (.int .i64 a0_1) := (blk_cell BK138.out 1).trans rfl
     have hcz30_2 : w7.cell? ⟨gb138, 2, none⟩ = some (.int .i64 a0_2) := (blk_cell BK138.out 2).trans rfl
     have hfz30_0 := blk_frozen BK138.out 0
     have hfz30_1 := blk_frozen BK138.out 1
     have hfz30_2 := blk_frozen BK138.out 2
     go_wp2_with (first | ((with_reducible refine gate_callee (f := 31) rfl ?_); refine goesL_ (some 14) rfl rfl Try.func31 (by kernel_rfl) rfl #[.int .i64 a2_0, .int .i64 0, .int .i64 (wrap64 (a0_2 + 1))] rfl X.M ?_; (with_reducible refine (spec_l1In.calls a2_0 0 (wrap64 (a0_2 + 1)) true _ A8.out).mono ?_); rintro e w' ⟨rfl, ⟨nd, rfl⟩⟩; refine ⟨_, rfl, ?_⟩; have hcz31_0 : w7.cell? ⟨gb139, 0, none⟩ = some (.slice A1_0 l1_0.length c1_0) := (blk_cell BK139.out 0).trans rfl; have hcz31_1 : w7.cell? ⟨gb139, 1, none⟩ = some (.int .i64 a1_1) := (blk_cell BK139.out 1).trans rfl; have hfz31_0 := blk_frozen BK139.out 0; have hfz31_1 := blk_frozen BK139.out 1) | (go_at_call 31; (with_reducible refine (spec_l1In.calls (l2_1.length : Int) 1 a0_1 false _ A17.out).mono ?_); rintro e w' ⟨rfl, ⟨nd, rfl⟩⟩))
     go_meet
     case rel => exact ⟨_, (true), (by first | rfl | (simp; done) | (simp [*]; done)), H', ⟨by first | omega | exact Nat.le_refl _⟩, ⟨X.B BK138⟩, ⟨X.B BK139⟩, ⟨X.B BK140⟩, ⟨X.G⟩⟩
  ·replace c9 := Bool.eq_false_iff.mpr c9
   subst c9
   have H1 : (spec_isCan.j0 k true a0_0 a0_1 a0_2 l1_0 a1_1 a2_0 l2_1) = some r := by rw [if_neg (show ¬ (false = true) by decide)] at H; exact H
   clear H
   have H := H1
   clear H1
   have H' := X.A H
   clear H
   have hnb32 := NB140_138.out
   have hnc32 := NB138_140.out
   have hnb33 := NB140_139.out
   have hnc33 := NB139_140.out
   have hcz34_0 : w7.cell? ⟨gb140, 0, none⟩ = some (.int .i64 a2_0) := (blk_cell BK140.out 0).trans rfl
   have hcz34_1 : w7.cell? ⟨gb140, 1, none⟩ = some (.slice A2_1 l2_1.length c2_1) := (blk_cell BK140.out 1).trans rfl
   have hfz34_0 := blk_frozen BK140.out 0
   have hfz34_1 := blk_frozen BK140.out 1
   have hnb35 := NB138_139.out
   have hnc35 := NB139_138.out
   have hcz36_0 : w7.cell? ⟨gb138, 0, none⟩ = some (.int .i64 a0_0) := (blk_cell BK138.out 0).trans rfl
   have hcz36_1 : w7.cell? ⟨gb138, 1, none⟩ = some (.int .i64 a0_1) := (blk_cell BK138.out 1).trans rfl
   have hcz36_2 : w7.cell? ⟨gb138, 2, none⟩ = some (.int .i64 a0_2) := (blk_cell BK138.out 2).trans rfl
   have hfz36_0 := blk_frozen BK138.out 0
   have hfz36_1 := blk_frozen BK138.out 1
   have hfz36_2 := blk_frozen BK138.out 2
   go_wp2_with (first | ((with_reducible refine gate_callee (f := 31) rfl ?_); refine goesL_ (some 14) rfl rfl Try.func31 (by kernel_rfl) rfl #[.int .i64 a2_0, .int .i64 0, .int .i64 (wrap64 (a0_2 + 1))] rfl X.M ?_; (with_reducible refine (spec_l1In.calls a2_0 0 (wrap64 (a0_2 + 1)) false _ A8.out).mono ?_); rintro e w' ⟨rfl, ⟨nd, rfl⟩⟩; refine ⟨_, rfl, ?_⟩))
   go_meet
   case rel => exact ⟨_, (true), (by first | rfl | (simp; done) | (simp [*]; done)), H', ⟨by first | omega | exact Nat.le_refl _⟩, ⟨X.B BK138⟩, ⟨X.B BK139⟩, ⟨X.B BK140⟩, ⟨X.G⟩⟩
 case rest =>
  clear HC4
  try clear c1
  try clear c2
  try clear p2
  try clear c3
  try clear p6
  try clear c9
  try clear c10
  try clear c10b0
  try clear c10b1
  try clear c11
  try clear c12
  try clear c14
  try clear c15
  try clear c18
  try clear c20
  try clear c21
  try clear c23
  try clear c26
  try clear c27
  try clear c29
  try clear c31
  try clear c32
  try clear c33
  try clear c35
  try clear hcz13_0
  try clear hcz13_1
  try clear hcz15_0
  try clear hcz15_1
  try clear hcz15_2
  try clear hcz16_0
  try clear hcz16_1
  try clear hcz22_0
  try clear hcz22_1
  try clear hcz24_0
  try clear hcz24_1
  try clear hcz24_2
  try clear hcz25_0
  try clear hcz25_1
  try clear hcz28_0
  try clear hcz28_1
  try clear hcz30_0
  try clear hcz30_1
  try clear hcz30_2
  try clear hcz31_0
  try clear hcz31_1
  try clear hcz34_0
  try clear hcz34_1
  try clear hcz36_0
  try clear hcz36_1
  try clear hcz36_2
  try clear hfz13_0
  try clear hfz13_1
  try clear hfz15_0
  try clear hfz15_1
  try clear hfz15_2
  try clear hfz16_0
  try clear hfz16_1
  try clear hfz22_0
  try clear hfz22_1
  try clear hfz24_0
  try clear hfz24_1
  try clear hfz24_2
  try clear hfz25_0
  try clear hfz25_1
  try clear hfz28_0
  try clear hfz28_1
  try clear hfz30_0
  try clear hfz30_1
  try clear hfz30_2
  try clear hfz31_0
  try clear hfz31_1
  try clear hfz34_0
  try clear hfz34_1
  try clear hfz36_0
  try clear hfz36_1
  try clear hfz36_2
  obtain ⟨kq, x41_3, rfl, HA, HJ3, BK138, BK139, BK140, HB⟩ := hcut
  cases kq with
  | zero => exact absurd HA.out (by simp [spec_isCan.j0])
  | succ kj3 =>
   have H := HA.out
   clear HA
   simp only [spec_isCan.j0] at H
   by_cases c37 : x41_3 = true
   ·subst c37
    have H1 : (some false) = some r := by rw [if_pos rfl] at H; exact H
    clear H
    have H := H1
    clear H1
    obtain rfl := Option.some.inj H
    go_wp2
    go_ret
    exact ⟨by first | rfl | (simp [errW_none, errW_some] <;> rfl) | (simp [*, errW_none, errW_some] <;> rfl), X.G⟩
   ·replace c37 := Bool.eq_false_iff.mpr c37
    subst c37
    have H1 : (spec_isCan.l0 kj3 l2_1 (l2_1.length : Int) 0 a0_0 a0_1 a0_2 l1_0 a1_1 a2_0 l2_1) = some r := by rw [if_neg (show ¬ (false = true) by decide)] at H; exact H
    clear H
    have H := H1
    clear H1
    have H' := X.A H
    clear H
    have hnb38 := NB140_138.out
    have hnc38 := NB138_140.out
    have hnb39 := NB140_139.out
    have hnc39 := NB139_140.out
    have hcz40_0 : wc.cell? ⟨gb140, 0, none⟩ = some (.int .i64 a2_0) := (blk_cell BK140.out 0).trans rfl
    have hcz40_1 : wc.cell? ⟨gb140, 1, none⟩ = some (.slice A2_1 l2_1.length c2_1) := (blk_cell BK140.out 1).trans rfl
    have hfz40_0 := blk_frozen BK140.out 0
    have hfz40_1 := blk_frozen BK140.out 1
    go_wp2
    go_loopg [45] kj3 (fun kq v45 w' => ∃ (x45_2 : Int), v45 = .int .i64 x45_2 ∧ Aside0 (spec_isCan.l0 kq l2_1 (l2_1.length : Int) x45_2 a0_0 a0_1 a0_2 l1_0 a1_1 a2_0 l2_1 = some r) ∧ Aside0 (kq ≤ kj3) ∧ Aside0 (w'.heap[gb138]? = some (.cells #[.int .i64 a0_0, .int .i64 a0_1, .int .i64 a0_2] 29 (0, 0))) ∧ Aside0 (w'.heap[gb139]? = some (.cells #[(.slice A1_0 l1_0.length c1_0), .int .i64 a1_1] 41 (0, 0))) ∧ Aside0 (w'.heap[gb140]? = some (.cells #[.int .i64 a2_0, (.slice A2_1 l2_1.length c2_1)] 43 (0, 0))) ∧ Aside0 (Below w.heap.size w w'))
    case atStart => exact ⟨(0), (by first | rfl | (simp; done) | (simp [*]; done)), H', ⟨Nat.le_refl _⟩, ⟨X.B BK138⟩, ⟨X.B BK139⟩, ⟨X.B BK140⟩, ⟨X.G⟩⟩
    case round =>
     clear H'
     try clear c1
     try clear c2
     try clear p2
     try clear c3
     try clear p6
     try clear c9
     try clear c10
     try clear c10b0
     try clear c10b1
     try clear c11
     try clear c12
     try clear c14
     try clear c15
     try clear c18
     try clear c20
     try clear c21
     try clear c23
     try clear c26
     try clear c27
     try clear c29
     try clear c31
     try clear c32
     try clear c33
     try clear c35
     try clear c37
     try clear c38
     try clear c39
     try clear hcz13_0
     try clear hcz13_1
     try clear hcz15_0
     try clear hcz15_1
     try clear hcz15_2
     try clear hcz16_0
     try clear hcz16_1
     try clear hcz22_0
     try clear hcz22_1
     try clear hcz24_0
     try clear hcz24_1
     try clear hcz24_2
     try clear hcz25_0
     try clear hcz25_1
     try clear hcz28_0
     try clear hcz28_1
     try clear hcz30_0
     try clear hcz30_1
     try clear hcz30_2
     try clear hcz31_0
     try clear hcz31_1
     try clear hcz34_0
     try clear hcz34_1
     try clear hcz36_0
     try clear hcz36_1
     try clear hcz36_2
     try clear hcz40_0
     try clear hcz40_1
     try clear hfz13_0
     try clear hfz13_1
     try clear hfz15_0
     try clear hfz15_1
     try clear hfz15_2
     try clear hfz16_0
     try clear hfz16_1
     try clear hfz22_0
     try clear hfz22_1
     try clear hfz24_0
     try clear hfz24_1
     try clear hfz24_2
     try clear hfz25_0
     try clear hfz25_1
     try clear hfz28_0
     try clear hfz28_1
     try clear hfz30_0
     try clear hfz30_1
     try clear hfz30_2
     try clear hfz31_0
     try clear hfz31_1
     try clear hfz34_0
     try clear hfz34_1
     try clear hfz36_0
     try clear hfz36_1
     try clear hfz36_2
     try clear hfz40_0
     try clear hfz40_1
     try clear p2
     try clear p6
     obtain ⟨x45_2, rfl, HA, HK2, BK138, BK139, BK140, HB⟩ := hrel
     cases gk with
     | zero => exact absurd HA.out (by simp [spec_isCan.l0])
     | succ k2 =>
      have H := HA.out
      clear HA
      simp only [spec_isCan.l0] at H
      by_cases c41 : x45_2 < (l2_1.length : Int)
      ·rw [if_pos c41] at H
       have c41b0 : decide (x45_2 < (l2_1.length : Int)) = true := decide_eq_true c41
       clear c41
       by_cases c42 : 0 ≤ x45_2
       rotate_left
       ·rw [if_neg c42] at H
        exact absurd H (by simp)
       rw [if_pos c42] at H
       have c42b0 : decide (0 ≤ x45_2) = true := decide_eq_true c42
       clear c42
       by_cases c43 : x45_2 < (l2_1.length : Int)
       rotate_left
       ·rw [if_neg c43] at H
        exact absurd H (by simp)
       rw [if_pos c43] at H
       have c43b0 : decide (x45_2 < (l2_1.length : Int)) = true := decide_eq_true c43
       clear c43
       by_cases c44 : 0 ≤ (rd l2_1 x45_2)
       rotate_left
       ·rw [if_neg c44] at H
        exact absurd H (by simp)
       rw [if_pos c44] at H
       have c44b0 : decide (0 ≤ (rd l2_1 x45_2)) = true := decide_eq_true c44
       clear c44
       by_cases c45 : (rd l2_1 x45_2) < (l1_0.length : Int)
       rotate_left
       ·rw [if_neg c45] at H
        exact absurd H (by simp)
       rw [if_pos c45] at H
       have c45b0 : decide ((rd l2_1 x45_2) < (l1_0.length : Int)) = true := decide_eq_true c45
       clear c45
       by_cases c46 : (rd l1_0 (rd l2_1 x45_2)) = a1_1
       ·rw [if_pos c46] at H
        have c46b0 : ((rd l1_0 (rd l2_1 x45_2)) == a1_1) = true := beq_iff_eq.mpr c46
        have c46b1 : ((rd l1_0 (rd l2_1 x45_2)) != a1_1) = false := bne_eq_false_iff_eq.mpr c46
        clear c46
        have H' := X.A H
        clear H
        have p144 : 0 ≤ (x45_2 : Int) := X.D
        have q144 : x45_2 < (l2_1.length : Int) := X.D
        obtain ⟨ad144, e144, hx144_0⟩ := Kd.at_int HR2_1.out x45_2 p144 q144
        cases e144
        replace hx144_0 := (HB.out.cell (World.block_lt_of_cell? w _ hx144_0)).trans hx144_0
        replace p144 := eq_true p144
        replace q144 := eq_true q144
        try go_wp2
        have n0_ := X.A (blk_drew BK138.out)
        have n1_ := X.A (blk_drew BK139.out)
        have n2_ := X.A (blk_drew BK140.out)
        have n3_ := X.A (below_drew1 HB.out)
        clear BK138 BK139 BK140 HB
        have BK138 := n0_
        have BK139 := n1_
        have BK140 := n2_
        have HB := n3_
        clear n0_ n1_ n2_ n3_
        have p145 : 0 ≤ ((rd l2_1 x45_2) : Int) := X.D
        have q145 : (rd l2_1 x45_2) < (l1_0.length : Int) := X.D
        obtain ⟨ad145, e145, hx145_0⟩ := Kd.at_int HR1_0.out (rd l2_1 x45_2) p145 q145
        have hw145_0 := hx145_0
        cases e145
        replace hx145_0 := (HB.out.cell (World.block_lt_of_cell? w _ hx145_0)).trans hx145_0
        replace p145 := eq_true p145
        replace q145 := eq_true q145
        refine start_ (n := 8) (S := fun w' => w'.cell? ⟨gb139, 0, none⟩ = some (.slice (some ad145) l1_0.length c1_0) ∧ w'.cell? ⟨gb139, 1, none⟩ = some (.int .i64 a1_1) ∧ w'.cell? (ad145.add ((rd l2_1 x45_2)).toNat) = some (.int .i64 (rd l1_0 (rd l2_1 x45_2)))) (ds := []) #[false, false, false, false, false, false, false, false] (by kernel_rfl) rfl rfl ⟨(blk_cell BK139.out 0).trans rfl, (blk_cell BK139.out 1).trans rfl, ((HB.out.cell (World.block_lt_of_cell? w _ hw145_0)).trans hw145_0)⟩ (fun hHeld => ?_); refine with_tabW spec_isCan.tab6 spec_isCan.bits6 (fun HT_ HW_ => ?_)
        generalize wr.drew = w47 at BK138 BK139 BK140 HB hx145_0 hHeld ⊢
        refine pure_ (i := 0) (N := some 49) (v := ?_) (a' := ?_) #[true, false, false, false, false, false, false, false] rfl rfl (any_of HT_.out (by kernel_rfl)) (fun _ _ _ h => h) (Or.inl ⟨by rfl, ?_⟩) ?_ ?_
        rotate_left
        ·intro w'
         go_simp
         with_reducible rfl
        rotate_left
        ·exact X.Pu
        refine pure_ (i := 2) (N := some 51) (v := ?_) (a' := ?_) #[true, false, true, false, false, false, false, false] rfl rfl (any_of HT_.out (by kernel_rfl)) (fun _ _ _ h => h) (Or.inl ⟨by rfl, ?_⟩) ?_ ?_
        rotate_left
        ·intro w'
         go_simp
         with_reducible rfl
        rotate_left
        ·exact X.Pu
        refine pure_ (i := 5) (N := some 54) (v := ?_) (a' := ?_) #[true, false, true, false, false, true, false, false] rfl rfl (any_of HT_.out (by kernel_rfl)) (fun _ _ _ h => h) (Or.inl ⟨by rfl, ?_⟩) ?_ ?_
        rotate_left
        ·intro w'
         go_simp
         with_reducible rfl
        rotate_left
        ·exact X.Pu
        refine take_ (i := 1) (N := some 50) (v := ?_) (a' := ?_) #[true, true, true, false, false, true, false, false] rfl rfl (take_ofW HT_.out HW_.out (by kernel_rfl)) (fun _ _ _ h => h) (Or.inl ⟨by rfl, ?_⟩) hHeld ?_ ?_
        rotate_left
        ·rintro w' ⟨s0, s1, s2⟩
         go_simp
         with_reducible rfl
        rotate_left
        ·exact X.Pu
        refine pure_ (i := 3) (N := some 52) (v := ?_) (a' := ?_) #[true, true, true, true, false, true, false, false] rfl rfl (any_of HT_.out (by kernel_rfl)) (fun _ _ _ h => h) (Or.inl ⟨by rfl, ?_⟩) ?_ ?_
        rotate_left
        ·intro w'
         go_simp
         with_reducible rfl
        rotate_left
        ·exact X.Pu
        refine take_ (i := 4) (N := some 53) (v := ?_) (a' := ?_) #[true, true, true, true, true, true, false, false] rfl rfl (take_ofW HT_.out HW_.out (by kernel_rfl)) (fun _ _ _ h => h) (Or.inl ⟨by rfl, ?_⟩) hHeld ?_ ?_
        rotate_left
        ·rintro w' ⟨s0, s1, s2⟩
         go_simp
         with_reducible rfl
        rotate_left
        ·exact X.Pu
        refine take_ (i := 6) (N := some 55) (v := ?_) (a' := ?_) #[true, true, true, true, true, true, true, false] rfl rfl (take_ofW HT_.out HW_.out (by kernel_rfl)) (fun _ _ _ h => h) (Or.inl ⟨by rfl, ?_⟩) hHeld ?_ ?_
        rotate_left
        ·rintro w' ⟨s0, s1, s2⟩
         go_simp
         with_reducible rfl
        rotate_left
        ·exact X.Pu
        refine pure_ (i := 7) (N := some 56) (v := ?_) (a' := ?_) #[true, true, true, true, true, true, true, true] rfl rfl (any_of HT_.out (by kernel_rfl)) (fun _ _ _ h => h) (Or.inl ⟨by rfl, ?_⟩) ?_ ?_
        rotate_left
        ·intro w'
         go_simp
         with_reducible rfl
        rotate_left
        ·exact X.Pu
        refine done_ (done_of HT_.out (by kernel_rfl)) ?_
        try go_wp2
        go_roundg k2
        case measure => have := HJ3.out; have := HK2.out; omega
        case rel => exact ⟨(wrap64 (x45_2 + 1)), (by first | rfl | (simp; done) | (simp [*]; done)), H', ⟨by have := HJ3.out; have := HK2.out; omega⟩, ⟨X.B BK138⟩, ⟨X.B BK139⟩, ⟨X.B BK140⟩, ⟨X.G⟩⟩
       ·rw [if_neg c46] at H
        have c46b0 : ((rd l1_0 (rd l2_1 x45_2)) == a1_1) = false := beq_eq_false_iff_ne.mpr c46
        have c46b1 : ((rd l1_0 (rd l2_1 x45_2)) != a1_1) = true := bne_iff_ne.mpr c46
        obtain rfl := Option.some.inj H
        have p144 : 0 ≤ (x45_2 : Int) := X.D
        have q144 : x45_2 < (l2_1.length : Int) := X.D
        obtain ⟨ad144, e144, hx144_0⟩ := Kd.at_int HR2_1.out x45_2 p144 q144
        cases e144
        replace hx144_0 := (HB.out.cell (World.block_lt_of_cell? w _ hx144_0)).trans hx144_0
        replace p144 := eq_true p144
        replace q144 := eq_true q144
        try go_wp2
        have n0_ := X.A (blk_drew BK138.out)
        have n1_ := X.A (blk_drew BK139.out)
        have n2_ := X.A (blk_drew BK140.out)
        have n3_ := X.A (below_drew1 HB.out)
        clear BK138 BK139 BK140 HB
        have BK138 := n0_
        have BK139 := n1_
        have BK140 := n2_
        have HB := n3_
        clear n0_ n1_ n2_ n3_
        have p145 : 0 ≤ ((rd l2_1 x45_2) : Int) := X.D
        have q145 : (rd l2_1 x45_2) < (l1_0.length : Int) := X.D
        obtain ⟨ad145, e145, hx145_0⟩ := Kd.at_int HR1_0.out (rd l2_1 x45_2) p145 q145
        have hw145_0 := hx145_0
        cases e145
        replace hx145_0 := (HB.out.cell (World.block_lt_of_cell? w _ hx145_0)).trans hx145_0
        replace p145 := eq_true p145
        replace q145 := eq_true q145
        refine start_ (n := 8) (S := fun w' => w'.cell? ⟨gb139, 0, none⟩ = some (.slice (some ad145) l1_0.length c1_0) ∧ w'.cell? ⟨gb139, 1, none⟩ = some (.int .i64 a1_1) ∧ w'.cell? (ad145.add ((rd l2_1 x45_2)).toNat) = some (.int .i64 (rd l1_0 (rd l2_1 x45_2)))) (ds := []) #[false, false, false, false, false, false, false, false] (by kernel_rfl) rfl rfl ⟨(blk_cell BK139.out 0).trans rfl, (blk_cell BK139.out 1).trans rfl, ((HB.out.cell (World.block_lt_of_cell? w _ hw145_0)).trans hw145_0)⟩ (fun hHeld => ?_); refine with_tabW spec_isCan.tab6 spec_isCan.bits6 (fun HT_ HW_ => ?_)
        generalize wr.drew = w48 at BK138 BK139 BK140 HB hx145_0 hHeld ⊢
        refine pure_ (i := 0) (N := some 49) (v := ?_) (a' := ?_) #[true, false, false, false, false, false, false, false] rfl rfl (any_of HT_.out (by kernel_rfl)) (fun _ _ _ h => h) (Or.inl ⟨by rfl, ?_⟩) ?_ ?_
        rotate_left
        ·intro w'
         go_simp
         with_reducible rfl
        rotate_left
        ·exact X.Pu
        refine pure_ (i := 2) (N := some 51) (v := ?_) (a' := ?_) #[true, false, true, false, false, false, false, false] rfl rfl (any_of HT_.out (by kernel_rfl)) (fun _ _ _ h => h) (Or.inl ⟨by rfl, ?_⟩) ?_ ?_
        rotate_left
        ·intro w'
         go_simp
         with_reducible rfl
        rotate_left
        ·exact X.Pu
        refine pure_ (i := 5) (N := some 54) (v := ?_) (a' := ?_) #[true, false, true, false, false, true, false, false] rfl rfl (any_of HT_.out (by kernel_rfl)) (fun _ _ _ h => h) (Or.inl ⟨by rfl, ?_⟩) ?_ ?_
        rotate_left
        ·intro w'
         go_simp
         with_reducible rfl
        rotate_left
        ·exact X.Pu
        refine take_ (i := 1) (N := some 50) (v := ?_) (a' := ?_) #[true, true, true, false, false, true, false, false] rfl rfl (take_ofW HT_.out HW_.out (by kernel_rfl)) (fun _ _ _ h => h) (Or.inl ⟨by rfl, ?_⟩) hHeld ?_ ?_
        rotate_left
        ·rintro w' ⟨s0, s1, s2⟩
         go_simp
         with_reducible rfl
        rotate_left
        ·exact X.Pu
        refine pure_ (i := 3) (N := some 52) (v := ?_) (a' := ?_) #[true, true, true, true, false, true, false, false] rfl rfl (any_of HT_.out (by kernel_rfl)) (fun _ _ _ h => h) (Or.inl ⟨by rfl, ?_⟩) ?_ ?_
        rotate_left
        ·intro w'
         go_simp
         with_reducible rfl
        rotate_left
        ·exact X.Pu
        refine take_ (i := 4) (N := some 53) (v := ?_) (a' := ?_) #[true, true, true, true, true, true, false, false] rfl rfl (take_ofW HT_.out HW_.out (by kernel_rfl)) (fun _ _ _ h => h) (Or.inl ⟨by rfl, ?_⟩) hHeld ?_ ?_
        rotate_left
        ·rintro w' ⟨s0, s1, s2⟩
         go_simp
         with_reducible rfl
        rotate_left
        ·exact X.Pu
        refine take_ (i := 6) (N := some 55) (v := ?_) (a' := ?_) #[true, true, true, true, true, true, true, false] rfl rfl (take_ofW HT_.out HW_.out (by kernel_rfl)) (fun _ _ _ h => h) (Or.inl ⟨by rfl, ?_⟩) hHeld ?_ ?_
        rotate_left
        ·rintro w' ⟨s0, s1, s2⟩
         go_simp
         with_reducible rfl
        rotate_left
        ·exact X.Pu
        refine pure_ (i := 7) (N := some 56) (v := ?_) (a' := ?_) #[true, true, true, true, true, true, true, true] rfl rfl (any_of HT_.out (by kernel_rfl)) (fun _ _ _ h => h) (Or.inl ⟨by rfl, ?_⟩) ?_ ?_
        rotate_left
        ·intro w'
         go_simp
         with_reducible rfl
        rotate_left
        ·exact X.Pu
        refine done_ (done_of HT_.out (by kernel_rfl)) ?_
        try go_wp2
        go_ret
        exact ⟨by first | rfl | (simp [errW_none, errW_some] <;> rfl) | (simp [*, errW_none, errW_some] <;> rfl), X.G⟩
      ·rw [if_neg c41] at H
       have c41b0 : decide (x45_2 < (l2_1.length : Int)) = false := decide_eq_false c41
       clear c41
       replace H := Option.bind_eq_some_iff.mp H
       obtain ⟨t146, A490, H⟩ := H
       replace H : ((spec_cuCalm.f k2 a0_0 t146).bind fun t147 => (if t147 = true then ((spec_isSail.f k2 l1_0 a1_1 a2_0 l2_1).bind fun bt148 => ((spec_isCalm.f k2 a0_0 a0_1 a0_2 bt148.1 bt148.2).bind fun t152 => (some t152))) else (some false))) = some r := H
       have A49 := X.A A490
       clear A490
       replace H := Option.bind_eq_some_iff.mp H
       obtain ⟨t147, A500, H⟩ := H
       replace H : (if t147 = true then ((spec_isSail.f k2 l1_0 a1_1 a2_0 l2_1).bind fun bt148 => ((spec_isCalm.f k2 a0_0 a0_1 a0_2 bt148.1 bt148.2).bind fun t152 => (some t152))) else (some false)) = some r := H
       have A50 := X.A A500
       clear A500
       by_cases c51 : t147 = true
       ·subst c51
        have H1 : ((spec_isSail.f k2 l1_0 a1_1 a2_0 l2_1).bind fun bt148 => ((spec_isCalm.f k2 a0_0 a0_1 a0_2 bt148.1 bt148.2).bind fun t152 => (some t152))) = some r := by rw [if_pos rfl] at H; exact H
        clear H
        have H := H1
        clear H1
        replace H := Option.bind_eq_some_iff.mp H
        obtain ⟨⟨t148, t151⟩, A520, H⟩ := H
        replace H : ((spec_isCalm.f k2 a0_0 a0_1 a0_2 t148 t151).bind fun t152 => (some t152)) = some r := H
        have A52 := X.A A520
        clear A520
        replace H := Option.bind_eq_some_iff.mp H
        obtain ⟨t152, A530, H⟩ := H
        replace H : (some t152) = some r := H
        have A53 := X.A A530
        clear A530
        obtain rfl := Option.some.inj H
        try go_wp2
        have n0_ := X.A (blk_drew BK138.out)
        have n1_ := X.A (blk_drew BK139.out)
        have n2_ := X.A (blk_drew BK140.out)
        have n3_ := X.A (below_drew1 HB.out)
        clear BK138 BK139 BK140 HB
        have BK138 := n0_
        have BK139 := n1_
        have BK140 := n2_
        have HB := n3_
        clear n0_ n1_ n2_ n3_
        refine start_ (n := 14) (S := fun w' => w'.cell? ⟨gb138, 0, none⟩ = some (.int .i64 a0_0) ∧ w'.cell? ⟨gb138, 1, none⟩ = some (.int .i64 a0_1) ∧ w'.cell? ⟨gb138, 2, none⟩ = some (.int .i64 a0_2) ∧ w'.cell? ⟨gb140, 0, none⟩ = some (.int .i64 a2_0) ∧ w'.cell? ⟨gb140, 1, none⟩ = some (.slice A2_1 l2_1.length c2_1) ∧ w'.cell? ⟨gb139, 0, none⟩ = some (.slice A1_0 l1_0.length c1_0) ∧ w'.cell? ⟨gb139, 1, none⟩ = some (.int .i64 a1_1)) (ds := []) #[false, false, false, false, false, false, false, false, false, false, false, false, false, false] (by kernel_rfl) rfl rfl ⟨(blk_cell BK138.out 0).trans rfl, (blk_cell BK138.out 1).trans rfl, (blk_cell BK138.out 2).trans rfl, (blk_cell BK140.out 0).trans rfl, (blk_cell BK140.out 1).trans rfl, (blk_cell BK139.out 0).trans rfl, (blk_cell BK139.out 1).trans rfl⟩ (fun hHeld => ?_); refine with_tabW spec_isCan.tab9 spec_isCan.bits9 (fun HT_ HW_ => ?_)
        generalize wr.drew = w54 at BK138 BK139 BK140 HB hHeld ⊢
        refine pure_ (i := 0) (N := some 58) (v := ?_) (a' := ?_) #[true, false, false, false, false, false, false, false, false, false, false, false, false, false] rfl rfl (any_of HT_.out (by kernel_rfl)) (fun _ _ _ h => h) (Or.inl ⟨by rfl, ?_⟩) ?_ ?_
        rotate_left
        ·intro w'
         go_simp
         with_reducible rfl
        rotate_left
        ·exact X.Pu
        refine pure_ (i := 2) (N := some 60) (v := ?_) (a' := ?_) #[true, false, true, false, false, false, false, false, false, false, false, false, false, false] rfl rfl (any_of HT_.out (by kernel_rfl)) (fun _ _ _ h => h) (Or.inl ⟨by rfl, ?_⟩) ?_ ?_
        rotate_left
        ·intro w'
         go_simp
         with_reducible rfl
        rotate_left
        ·exact X.Pu
        refine take_ (i := 1) (N := some 59) (v := ?_) (a' := ?_) #[true, true, true, false, false, false, false, false, false, false, false, false, false, false] rfl rfl (take_ofW HT_.out HW_.out (by kernel_rfl)) (fun _ _ _ h => h) (Or.inl ⟨by rfl, ?_⟩) hHeld ?_ ?_
        rotate_left
        ·rintro w' ⟨s0, s1, s2, s3, s4, s5, s6⟩
         go_simp
         with_reducible rfl
        rotate_left
        ·exact X.Pu
        refine take_ (i := 3) (N := some 61) (v := ?_) (a' := ?_) #[true, true, true, true, false, false, false, false, false, false, false, false, false, false] rfl rfl (take_ofW HT_.out HW_.out (by kernel_rfl)) (fun _ _ _ h => h) (Or.inl ⟨by rfl, ?_⟩) hHeld ?_ ?_
        rotate_left
        ·rintro w' ⟨s0, s1, s2, s3, s4, s5, s6⟩
         go_simp
         with_reducible rfl
        rotate_left
        ·exact X.Pu
        refine one_ (i := 4) (N := some 62) #[true, true, true, true, true, false, false, false, false, false, false, false, false, false] rfl rfl (one_of HT_.out (by kernel_rfl)) (by decide) (fun K hK => ?_)
        refine goes_ Try.func34 (by kernel_rfl) rfl #[.slice A2_1 l2_1.length c2_1] (by rfl) rfl rfl X.M ?_
        with_reducible refine (spec_cuBits.calls k2 _ _ l2_1 t146 _ ?side1 ?side2 A49.out).mono ?_
        (case side1 => exact X.C (Kd.C_below HR2_1.out HB.out))
        (case side2 => exact HC2_1.out)
        rintro e w' ⟨rfl, ⟨nd, rfl⟩⟩
        refine ⟨_, rfl, ?_⟩
        refine hK.out _ _ ⟨(blk_cell BK138.out 0).trans rfl, (blk_cell BK138.out 1).trans rfl, (blk_cell BK138.out 2).trans rfl, (blk_cell BK140.out 0).trans rfl, (blk_cell BK140.out 1).trans rfl, (blk_cell BK139.out 0).trans rfl, (blk_cell BK139.out 1).trans rfl⟩ (fun hHeld => ?_)
        clear hK K
        refine norm_ (a' := ?_) ?_ ?_
        rotate_left
        ·exact (show Act.put _ (some 62) _ = _ from X.Pu)
        refine one_ (i := 5) (N := some 63) #[true, true, true, true, true, true, false, false, false, false, false, false, false, false] rfl rfl (one_of HT_.out (by kernel_rfl)) (by decide) (fun K hK => ?_)
        refine goes_ Try.func33 (by kernel_rfl) rfl #[.int .i64 a0_0, .int .i64 t146] (by rfl) rfl rfl X.M ?_
        with_reducible refine (spec_cuCalm.calls k2 a0_0 t146 true _ A50.out).mono ?_
        rintro e w' ⟨rfl, ⟨nd, rfl⟩⟩
        refine ⟨_, rfl, ?_⟩
        refine hK.out _ _ ⟨(blk_cell BK138.out 0).trans rfl, (blk_cell BK138.out 1).trans rfl, (blk_cell BK138.out 2).trans rfl, (blk_cell BK140.out 0).trans rfl, (blk_cell BK140.out 1).trans rfl, (blk_cell BK139.out 0).trans rfl, (blk_cell BK139.out 1).trans rfl⟩ (fun hHeld => ?_)
        clear hK K
        refine norm_ (a' := ?_) ?_ ?_
        rotate_left
        ·exact (show Act.put _ (some 63) _ = _ from X.Pu)
        refine pure_ (i := 6) (N := some 64) (v := ?_) (a' := ?_) #[true, true, true, true, true, true, true, false, false, false, false, false, false, false] rfl rfl (any_of HT_.out (by kernel_rfl)) (fun _ _ _ h => h) (Or.inl ⟨by rfl, ?_⟩) ?_ ?_
        rotate_left
        ·intro w'
         go_simp
         with_reducible rfl
        rotate_left
        ·exact X.Pu
        refine take_ (i := 7) (N := some 65) (v := ?_) (a' := ?_) #[true, true, true, true, true, true, true, true, false, false, false, false, false, false] rfl rfl (take_ofW HT_.out HW_.out (by kernel_rfl)) (fun _ _ _ h => h) (Or.inl ⟨by rfl, ?_⟩) hHeld ?_ ?_
        rotate_left
        ·rintro w' ⟨s0, s1, s2, s3, s4, s5, s6⟩
         go_simp
         with_reducible rfl
        rotate_left
        ·exact X.Pu
        refine take_ (i := 8) (N := some 66) (v := ?_) (a' := ?_) #[true, true, true, true, true, true, true, true, true, false, false, false, false, false] rfl rfl (take_ofW HT_.out HW_.out (by kernel_rfl)) (fun _ _ _ h => h) (Or.inl ⟨by rfl, ?_⟩) hHeld ?_ ?_
        rotate_left
        ·rintro w' ⟨s0, s1, s2, s3, s4, s5, s6⟩
         go_simp
         with_reducible rfl
        rotate_left
        ·exact X.Pu
        refine take_ (i := 9) (N := some 67) (v := ?_) (a' := ?_) #[true, true, true, true, true, true, true, true, true, true, false, false, false, false] rfl rfl (take_ofW HT_.out HW_.out (by kernel_rfl)) (fun _ _ _ h => h) (Or.inl ⟨by rfl, ?_⟩) hHeld ?_ ?_
        rotate_left
        ·rintro w' ⟨s0, s1, s2, s3, s4, s5, s6⟩
         go_simp
         with_reducible rfl
        rotate_left
        ·exact X.Pu
        refine one_ (i := 10) (N := some 68) #[true, true, true, true, true, true, true, true, true, true, true, false, false, false] rfl rfl (one_of HT_.out (by kernel_rfl)) (by decide) (fun K hK => ?_)
        refine goes_ Try.func16 (by kernel_rfl) rfl #[.agg #[.slice A1_0 l1_0.length c1_0, .int .i64 a1_1], .agg #[.int .i64 a2_0, .slice A2_1 l2_1.length c2_1]] (by rfl) rfl rfl X.M ?_
        with_reducible refine (spec_isSail.calls k2 _ _ l1_0 a1_1 a2_0 _ _ l2_1 t148 t151 _ ?side1 ?side2 ?side3 ?side4 A52.out).mono ?_
        (case side1 => exact X.C (Kd.C_below HR1_0.out X.G))
        (case side2 => exact HC1_0.out)
        (case side3 => exact X.C (Kd.C_below HR2_1.out X.G))
        (case side4 => exact HC2_1.out)
        rintro e w55 ⟨v149, rfl, ho0, hb⟩
        refine ⟨_, rfl, ?_⟩
        have n0_ := X.A (Kd.R_lower ho0 (below_size X.G))
        have n1_ := X.A (X.BB BK138 hb)
        have n2_ := X.A (X.BB BK139 hb)
        have n3_ := X.A (X.BB BK140 hb)
        have n4_ := X.A (below_step X.G hb)
        clear BK138 BK139 BK140 HB
        have HO150 := n0_
        have BK138 := n1_
        have BK139 := n2_
        have BK140 := n3_
        have HB := n4_
        clear n0_ n1_ n2_ n3_ n4_
        (try clear hb)
        (try clear hb2)
        (try clear hk)
        (try clear hi)
        (try clear ho0)
        obtain ⟨Ao56, co56, eo56⟩ := Kd.R_slice HO150.out
        (first | subst eo56 | (injection eo56 with f1_ f2_ f3_; have f4_ := f1_.symm; have f5_ := f3_.symm; clear f1_ f2_ f3_; subst f4_; subst f5_))
        refine hK.out _ _ ⟨(blk_cell BK138.out 0).trans rfl, (blk_cell BK138.out 1).trans rfl, (blk_cell BK138.out 2).trans rfl, (blk_cell BK140.out 0).trans rfl, (blk_cell BK140.out 1).trans rfl, (blk_cell BK139.out 0).trans rfl, (blk_cell BK139.out 1).trans rfl⟩ (fun hHeld => ?_)
        clear hK K
        refine norm_ (a' := ?_) ?_ ?_
        rotate_left
        ·exact (show Act.put _ (some 68) _ = _ from X.Pu)
        refine one_ (i := 11) (N := some 69) #[true, true, true, true, true, true, true, true, true, true, true, true, false, false] rfl rfl (one_of HT_.out (by kernel_rfl)) (by decide) (fun K hK => ?_)
        refine goes_ Try.func35 (by kernel_rfl) rfl #[.agg #[.int .i64 a0_0, .int .i64 a0_1, .int .i64 a0_2], .agg #[.slice Ao56 t148.length co56, .int .i64 t151]] (by rfl) rfl rfl X.M ?_
        with_reducible refine (spec_isCalm.calls k2 a0_0 a0_1 a0_2 _ _ t148 t151 t152 _ ?side1 ?side2 A53.out).mono ?_
        (case side1 => exact X.C (Kd.R_reads' HO150.out).2.2)
        (case side2 => exact (Kd.R_reads' HO150.out).2.1)
        rintro e w57 ⟨rfl, hb⟩
        refine ⟨_, rfl, ?_⟩
        have n0_ := X.A (Kd.R_below (X.K HO150) hb)
        have n1_ := X.A (X.BB BK138 hb)
        have n2_ := X.A (X.BB BK139 hb)
        have n3_ := X.A (X.BB BK140 hb)
        have n4_ := X.A (below_step X.G hb)
        clear HO150 BK138 BK139 BK140 HB
        have HO150 := n0_
        have BK138 := n1_
        have BK139 := n2_
        have BK140 := n3_
        have HB := n4_
        clear n0_ n1_ n2_ n3_ n4_
        (try clear hb)
        (try clear hb2)
        (try clear hk)
        (try clear hi)
        refine hK.out _ _ ⟨(blk_cell BK138.out 0).trans rfl, (blk_cell BK138.out 1).trans rfl, (blk_cell BK138.out 2).trans rfl, (blk_cell BK140.out 0).trans rfl, (blk_cell BK140.out 1).trans rfl, (blk_cell BK139.out 0).trans rfl, (blk_cell BK139.out 1).trans rfl⟩ (fun hHeld => ?_)
        clear hK K
        refine norm_ (a' := ?_) ?_ ?_
        rotate_left
        ·exact (show Act.put _ (some 69) _ = _ from X.Pu)
        refine pure_ (i := 12) (N := some 70) (v := ?_) (a' := ?_) #[true, true, true, true, true, true, true, true, true, true, true, true, true, false] rfl rfl (any_of HT_.out (by kernel_rfl)) (fun _ _ _ h => h) (Or.inl ⟨by rfl, ?_⟩) ?_ ?_
        rotate_left
        ·intro w'
         go_simp
         with_reducible rfl
        rotate_left
        ·exact X.Pu
        refine pure_ (i := 13) (N := some 6) (v := ?_) (a' := ?_) #[true, true, true, true, true, true, true, true, true, true, true, true, true, true] rfl rfl (any_of HT_.out (by kernel_rfl)) (fun _ _ _ h => h) (Or.inl ⟨by rfl, ?_⟩) ?_ ?_
        rotate_left
        ·intro w'
         go_simp
         with_reducible rfl
        rotate_left
        ·exact X.Pu
        refine done_ (done_of HT_.out (by kernel_rfl)) ?_
        try go_wp2
        go_ret
        exact ⟨by first | rfl | (simp [errW_none, errW_some] <;> rfl) | (simp [*, errW_none, errW_some] <;> rfl), X.G⟩
       ·replace c51 := Bool.eq_false_iff.mpr c51
        subst c51
        have H1 : (some false) = some r := by rw [if_neg (show ¬ (false = true) by decide)] at H; exact H
        clear H
        have H := H1
        clear H1
        obtain rfl := Option.some.inj H
        try go_wp2
        have n0_ := X.A (blk_drew BK138.out)
        have n1_ := X.A (blk_drew BK139.out)
        have n2_ := X.A (blk_drew BK140.out)
        have n3_ := X.A (below_drew1 HB.out)
        clear BK138 BK139 BK140 HB
        have BK138 := n0_
        have BK139 := n1_
        have BK140 := n2_
        have HB := n3_
        clear n0_ n1_ n2_ n3_
        refine start_ (n := 14) (S := fun w' => w'.cell? ⟨gb138, 0, none⟩ = some (.int .i64 a0_0) ∧ w'.cell? ⟨gb138, 1, none⟩ = some (.int .i64 a0_1) ∧ w'.cell? ⟨gb138, 2, none⟩ = some (.int .i64 a0_2) ∧ w'.cell? ⟨gb140, 0, none⟩ = some (.int .i64 a2_0) ∧ w'.cell? ⟨gb140, 1, none⟩ = some (.slice A2_1 l2_1.length c2_1)) (ds := []) #[false, false, false, false, false, false, false, false, false, false, false, false, false, false] (by kernel_rfl) rfl rfl ⟨(blk_cell BK138.out 0).trans rfl, (blk_cell BK138.out 1).trans rfl, (blk_cell BK138.out 2).trans rfl, (blk_cell BK140.out 0).trans rfl, (blk_cell BK140.out 1).trans rfl⟩ (fun hHeld => ?_); refine with_tabW spec_isCan.tab9 spec_isCan.bits9 (fun HT_ HW_ => ?_)
        generalize wr.drew = w58 at BK138 BK139 BK140 HB hHeld ⊢
        refine pure_ (i := 0) (N := some 58) (v := ?_) (a' := ?_) #[true, false, false, false, false, false, false, false, false, false, false, false, false, false] rfl rfl (any_of HT_.out (by kernel_rfl)) (fun _ _ _ h => h) (Or.inl ⟨by rfl, ?_⟩) ?_ ?_
        rotate_left
        ·intro w'
         go_simp
         with_reducible rfl
        rotate_left
        ·exact X.Pu
        refine pure_ (i := 2) (N := some 60) (v := ?_) (a' := ?_) #[true, false, true, false, false, false, false, false, false, false, false, false, false, false] rfl rfl (any_of HT_.out (by kernel_rfl)) (fun _ _ _ h => h) (Or.inl ⟨by rfl, ?_⟩) ?_ ?_
        rotate_left
        ·intro w'
         go_simp
         with_reducible rfl
        rotate_left
        ·exact X.Pu
        refine take_ (i := 1) (N := some 59) (v := ?_) (a' := ?_) #[true, true, true, false, false, false, false, false, false, false, false, false, false, false] rfl rfl (take_ofW HT_.out HW_.out (by kernel_rfl)) (fun _ _ _ h => h) (Or.inl ⟨by rfl, ?_⟩) hHeld ?_ ?_
        rotate_left
        ·rintro w' ⟨s0, s1, s2, s3, s4⟩
         go_simp
         with_reducible rfl
        rotate_left
        ·exact X.Pu
        refine take_ (i := 3) (N := some 61) (v := ?_) (a' := ?_) #[true, true, true, true, false, false, false, false, false, false, false, false, false, false] rfl rfl (take_ofW HT_.out HW_.out (by kernel_rfl)) (fun _ _ _ h => h) (Or.inl ⟨by rfl, ?_⟩) hHeld ?_ ?_
        rotate_left
        ·rintro w' ⟨s0, s1, s2, s3, s4⟩
         go_simp
         with_reducible rfl
        rotate_left
        ·exact X.Pu
        refine one_ (i := 4) (N := some 62) #[true, true, true, true, true, false, false, false, false, false, false, false, false, false] rfl rfl (one_of HT_.out (by kernel_rfl)) (by decide) (fun K hK => ?_)
        refine goes_ Try.func34 (by kernel_rfl) rfl #[.slice A2_1 l2_1.length c2_1] (by rfl) rfl rfl X.M ?_
        with_reducible refine (spec_cuBits.calls k2 _ _ l2_1 t146 _ ?side1 ?side2 A49.out).mono ?_
        (case side1 => exact X.C (Kd.C_below HR2_1.out HB.out))
        (case side2 => exact HC2_1.out)
        rintro e w' ⟨rfl, ⟨nd, rfl⟩⟩
        refine ⟨_, rfl, ?_⟩
        refine hK.out _ _ ⟨(blk_cell BK138.out 0).trans rfl, (blk_cell BK138.out 1).trans rfl, (blk_cell BK138.out 2).trans rfl, (blk_cell BK140.out 0).trans rfl, (blk_cell BK140.out 1).trans rfl⟩ (fun hHeld => ?_)
        clear hK K
        refine norm_ (a' := ?_) ?_ ?_
        rotate_left
        ·exact (show Act.put _ (some 62) _ = _ from X.Pu)
        refine one_ (i := 5) (N := some 63) #[true, true, true, true, true, true, false, false, false, false, false, false, false, false] rfl rfl (one_of HT_.out (by kernel_rfl)) (by decide) (fun K hK => ?_)
        refine goes_ Try.func33 (by kernel_rfl) rfl #[.int .i64 a0_0, .int .i64 t146] (by rfl) rfl rfl X.M ?_
        with_reducible refine (spec_cuCalm.calls k2 a0_0 t146 false _ A50.out).mono ?_
        rintro e w' ⟨rfl, ⟨nd, rfl⟩⟩
        refine ⟨_, rfl, ?_⟩
        refine hK.out _ _ ⟨(blk_cell BK138.out 0).trans rfl, (blk_cell BK138.out 1).trans rfl, (blk_cell BK138.out 2).trans rfl, (blk_cell BK140.out 0).trans rfl, (blk_cell BK140.out 1).trans rfl⟩ (fun hHeld => ?_)
        clear hK K
        refine norm_ (a' := ?_) ?_ ?_
        rotate_left
        ·exact (show Act.put _ (some 63) _ = _ from X.Pu)
        refine pure_ (i := 6) (N := some 64) (v := ?_) (a' := ?_) #[true, true, true, true, true, true, true, false, false, false, false, false, false, false] rfl rfl (any_of HT_.out (by kernel_rfl)) (fun _ _ _ h => h) (Or.inl ⟨by rfl, ?_⟩) ?_ ?_
        rotate_left
        ·intro w'
         go_simp
         with_reducible rfl
        rotate_left
        ·exact X.Pu
        refine pure_ (i := 7) (N := some 65) (v := undef) (a' := ?_) #[true, true, true, true, true, true, true, true, false, false, false, false, false, false] rfl rfl (any_of HT_.out (by kernel_rfl)) (fun _ _ _ h => h) (Or.inr ⟨by rfl, rfl⟩) ?_ ?_
        rotate_left
        ·exact X.Pu
        refine pure_ (i := 8) (N := some 66) (v := undef) (a' := ?_) #[true, true, true, true, true, true, true, true, true, false, false, false, false, false] rfl rfl (any_of HT_.out (by kernel_rfl)) (fun _ _ _ h => h) (Or.inr ⟨by rfl, rfl⟩) ?_ ?_
        rotate_left
        ·exact X.Pu
        refine pure_ (i := 9) (N := some 67) (v := undef) (a' := ?_) #[true, true, true, true, true, true, true, true, true, true, false, false, false, false] rfl rfl (any_of HT_.out (by kernel_rfl)) (fun _ _ _ h => h) (Or.inr ⟨by rfl, rfl⟩) ?_ ?_
        rotate_left
        ·exact X.Pu
        refine pure_ (i := 10) (N := some 68) (v := undef) (a' := ?_) #[true, true, true, true, true, true, true, true, true, true, true, false, false, false] rfl rfl (any_of HT_.out (by kernel_rfl)) (fun _ _ _ h => h) (Or.inr ⟨by rfl, rfl⟩) ?_ ?_
        rotate_left
        ·exact X.Pu
        refine pure_ (i := 11) (N := some 69) (v := undef) (a' := ?_) #[true, true, true, true, true, true, true, true, true, true, true, true, false, false] rfl rfl (any_of HT_.out (by kernel_rfl)) (fun _ _ _ h => h) (Or.inr ⟨by rfl, rfl⟩) ?_ ?_
        rotate_left
        ·exact X.Pu
        refine pure_ (i := 12) (N := some 70) (v := ?_) (a' := ?_) #[true, true, true, true, true, true, true, true, true, true, true, true, true, false] rfl rfl (any_of HT_.out (by kernel_rfl)) (fun _ _ _ h => h) (Or.inl ⟨by rfl, ?_⟩) ?_ ?_
        rotate_left
        ·intro w'
         go_simp
         with_reducible rfl
        rotate_left
        ·exact X.Pu
        refine pure_ (i := 13) (N := some 6) (v := ?_) (a' := ?_) #[true, true, true, true, true, true, true, true, true, true, true, true, true, true] rfl rfl (any_of HT_.out (by kernel_rfl)) (fun _ _ _ h => h) (Or.inl ⟨by rfl, ?_⟩) ?_ ?_
        rotate_left
        ·intro w'
         go_simp
         with_reducible rfl
        rotate_left
        ·exact X.Pu
        refine done_ (done_of HT_.out (by kernel_rfl)) ?_
        try go_wp2
        go_ret
        exact ⟨by first | rfl | (simp [errW_none, errW_some] <;> rfl) | (simp [*, errW_none, errW_some] <;> rfl), X.G⟩

end Go.Proofs.Ytldeaeeolibpjag.Q
