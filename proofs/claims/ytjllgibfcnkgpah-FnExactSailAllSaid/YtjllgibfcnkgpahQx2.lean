-- by wip/xprint.py, a program of this session over the kit's print: not trusted, Lean checks it.
import Derived.Test.YtjllgibfcnkgpahXShort
import Derived.Test.YtjllgibfcnkgpahQx0
import Derived.Test.YtjllgibfcnkgpahQx1
namespace Go.Proofs.Ytjllgibfcnkgpah.Q
open Go.RowKit Go.Proofs.YtjllgibfcnkgpahW.PrintWords Go.Proofs.YtjllgibfcnkgpahW.PrintLast Go.Proofs.YtjllgibfcnkgpahW.PrintMore
attribute [local go_sem] max2_int min2_int max_two min_two max_three min_three max_four min_four   -- for this text's walks alone
set_option linter.unusedVariables false
set_option linter.unusedSimpArgs false

/-! ### spec_isCalm: function 29 -/
mutual
def spec_isCalm.l0 : Nat → Int → Int → Int → Int → List Int → Int → Option (Bool)
 | 0, _, _, _, _, _, _ => none
 | k + 1, x5, x120000, x120001, x120002, x121000, x121001 => if x5 ≤ (wrap64 (x120002 + 1)) then (spec_isCalm.l1 k x5 0 x121000 (x121000.length : Int) 0 x120000 x120001 x120002 x121000 x121001) else (some true)
def spec_isCalm.l1 : Nat → Int → Int → List Int → Int → Int → Int → Int → Int → List Int → Int → Option (Bool)
 | 0, _, _, _, _, _, _, _, _, _, _ => none
 | k + 1, x5, x6, x17, x18, x19, x120000, x120001, x120002, x121000, x121001 => if x19 < x18 then (if 0 ≤ x19 then (if x19 < (x17.length : Int) then (if (rd x17 x19) = x5 then (spec_isCalm.l1 k x5 (Go.bits .or .i64 x6 (shl .i64 1 x19)) x17 x18 (wrap64 (x19 + 1)) x120000 x120001 x120002 x121000 x121001) else (spec_isCalm.l1 k x5 x6 x17 x18 (wrap64 (x19 + 1)) x120000 x120001 x120002 x121000 x121001)) else (none)) else (none)) else ((spec_cuCalm.f k x120000 x6).bind fun t122 => (if t122 = true then (spec_isCalm.l0 k (wrap64 (x5 + 1)) x120000 x120001 x120002 x121000 x121001) else (some false)))
end
def spec_isCalm.f (k : Nat) (a0_0 : Int) (a0_1 : Int) (a0_2 : Int) (l1_0 : List Int) (a1_1 : Int) : Option (Bool) := spec_isCalm.l0 k 0 a0_0 a0_1 a0_2 l1_0 a1_1
theorem spec_isCalm.mono_l : ∀ k, (∀ y0 y1 y2 y3 y4 y5, LeO (spec_isCalm.l0 k y0 y1 y2 y3 y4 y5) (spec_isCalm.l0 (k + 1) y0 y1 y2 y3 y4 y5)) ∧ (∀ y0 y1 y2 y3 y4 y5 y6 y7 y8 y9, LeO (spec_isCalm.l1 k y0 y1 y2 y3 y4 y5 y6 y7 y8 y9) (spec_isCalm.l1 (k + 1) y0 y1 y2 y3 y4 y5 y6 y7 y8 y9))
 | 0 => ⟨fun _ _ _ _ _ _ r h => by simp [spec_isCalm.l0] at h, fun _ _ _ _ _ _ _ _ _ _ r h => by simp [spec_isCalm.l1] at h⟩
 | k + 1 => by
  obtain ⟨ih0, ih1⟩ := spec_isCalm.mono_l k
  refine ⟨?_, ?_⟩
  ·intro y0 y1 y2 y3 y4 y5
   unfold spec_isCalm.l0
   repeat' first
   | (with_reducible exact ih0 _ _ _ _ _ _)
   | (with_reducible exact ih1 _ _ _ _ _ _ _ _ _ _)
   | (with_reducible exact spec_cuCalm.mono _ _ _)
   | (with_reducible exact LeO.refl _)
   | (with_reducible exact LeO.none _)
   | (with_reducible refine LeO.ite ?_ ?_)
   | (with_reducible refine LeO.bind ?_ (fun _ => ?_))
  ·intro y0 y1 y2 y3 y4 y5 y6 y7 y8 y9
   unfold spec_isCalm.l1
   repeat' first
   | (with_reducible exact ih0 _ _ _ _ _ _)
   | (with_reducible exact ih1 _ _ _ _ _ _ _ _ _ _)
   | (with_reducible exact spec_cuCalm.mono _ _ _)
   | (with_reducible exact LeO.refl _)
   | (with_reducible exact LeO.none _)
   | (with_reducible refine LeO.ite ?_ ?_)
   | (with_reducible refine LeO.bind ?_ (fun _ => ?_))
theorem spec_isCalm.mono : ∀ a0 a1 a2 a3 a4 k, LeO (spec_isCalm.f k a0 a1 a2 a3 a4) (spec_isCalm.f (k + 1) a0 a1 a2 a3 a4) := by
 intro a0 a1 a2 a3 a4 k
 obtain ⟨ih0, ih1⟩ := spec_isCalm.mono_l k
 unfold spec_isCalm.f
 repeat' first
   | (with_reducible exact ih0 _ _ _ _ _ _)
   | (with_reducible exact ih1 _ _ _ _ _ _ _ _ _ _)
   | (with_reducible exact spec_cuCalm.mono _ _ _)
   | (with_reducible exact LeO.refl _)
   | (with_reducible exact LeO.none _)
   | (with_reducible refine LeO.ite ?_ ?_)
   | (with_reducible refine LeO.bind ?_ (fun _ => ?_))
set_option maxHeartbeats 8000000 in
set_option maxRecDepth 100000 in
theorem spec_isCalm.calls (k : Nat) (a0_0 : Int) (a0_1 : Int) (a0_2 : Int) (A1_0 : Option Addr) (c1_0 : Nat) (l1_0 : List Int) (a1_1 : Int) (r : Bool) (w : World) (hr1_0 : Kd.C (Kd.int .i64) w A1_0 l1_0.length l1_0) (hc1_0 : l1_0.length ≤ c1_0) (h : spec_isCalm.f k a0_0 a0_1 a0_2 l1_0 a1_1 = some r) :
  Calls Try.prog 29 #[.agg #[.int .i64 a0_0, .int .i64 a0_1, .int .i64 a0_2], .agg #[.slice A1_0 l1_0.length c1_0, .int .i64 a1_1]] w fun e w' => e = .returned (.bool r) ∧ Below w.heap.size w w' := by
 have hu33 := Try.underlying33
 have hu30 := Try.underlying30
 have HR1_0 := X.A hr1_0
 have HC1_0 := X.A hc1_0
 clear hr1_0 hc1_0
 have HB := X.A (Below.refl w.heap.size w)
 have H : (spec_isCalm.l0 k 0 a0_0 a0_1 a0_2 l1_0 a1_1) = some r := h
 clear h
 have H' := X.A H
 clear H
 go_enter Try.func29, Try.ntmps29
 go_wp2_with (first | ((with_reducible refine gate_dst (N := 2) rfl ?_); refine box_event ?hg (N := 2) ?hd (cs := #[.int .i64 a0_0, .int .i64 a0_1, .int .i64 a0_2]) (t := 33) ?hr ?_; (case hd => rfl); (case hg => rfl); (case hr => exact X.R); intro gb119 hg w3 hbox hb; have n0_ := X.A (below_step X.G hb); have n1_ := X.A (hbox); have n2_ := X.A ((by rw [hg]; exact (below_size X.G) : w.heap.size ≤ gb119)); have n3_ := X.A ((by rw [hg]; exact (below_size X.G) : w.heap.size ≤ gb119)); clear HB; have HB := n0_; have BK119 := n1_; have GW119 := n2_; have GE119 := n3_; clear n0_ n1_ n2_ n3_; clear hb hbox hg) | ((with_reducible refine gate_dst (N := 3) rfl ?_); refine box_event ?hg (N := 3) ?hd (cs := #[.slice A1_0 l1_0.length c1_0, .int .i64 a1_1]) (t := 30) ?hr ?_; (case hd => rfl); (case hg => rfl); (case hr => exact X.R); intro gb120 hg w4 hbox hb; have n0_ := X.A (X.BB BK119 hb); have n1_ := X.A (below_step X.G hb); have n2_ := X.A (hbox); have n3_ := X.A ((by rw [hg]; exact (below_size X.G) : w.heap.size ≤ gb120)); have n4_ := X.A ((by rw [hg]; exact (below_size X.G) : w.heap.size ≤ gb120)); have n5_ := X.A (X.NL hg BK119); have n6_ := X.A (X.NG hg BK119); clear BK119 HB; have BK119 := n0_; have HB := n1_; have BK120 := n2_; have GW120 := n3_; have GE120 := n4_; have NB119_120 := n5_; have NB120_119 := n6_; clear n0_ n1_ n2_ n3_ n4_ n5_ n6_; clear hb hbox hg))
 go_loopg [5] k (fun kq v5 w' => ∃ (x5_1 : Int), v5 = .int .i64 x5_1 ∧ Aside0 (spec_isCalm.l0 kq x5_1 a0_0 a0_1 a0_2 l1_0 a1_1 = some r) ∧ Aside0 (kq ≤ k) ∧ Aside0 (w'.heap[gb119]? = some (.cells #[.int .i64 a0_0, .int .i64 a0_1, .int .i64 a0_2] 33 (0, 0))) ∧ Aside0 (w'.heap[gb120]? = some (.cells #[(.slice A1_0 l1_0.length c1_0), .int .i64 a1_1] 30 (0, 0))) ∧ Aside0 (Below w.heap.size w w'))
 case atStart => exact ⟨(0), (by first | rfl | (simp; done) | (simp [*]; done)), H', ⟨Nat.le_refl _⟩, ⟨X.B BK119⟩, ⟨X.B BK120⟩, ⟨X.G⟩⟩
 case round =>
  clear H'
  try clear c1
  try clear c2
  try clear p2
  obtain ⟨x5_1, rfl, HA, HK1, BK119, BK120, HB⟩ := hrel
  cases gk with
  | zero => exact absurd HA.out (by simp [spec_isCalm.l0])
  | succ k1 =>
   have H := HA.out
   clear HA
   simp only [spec_isCalm.l0] at H
   by_cases c5 : x5_1 ≤ (wrap64 (a0_2 + 1))
   ·rw [if_pos c5] at H
    have c5b0 : decide (x5_1 ≤ (wrap64 (a0_2 + 1))) = true := decide_eq_true c5
    clear c5
    have H' := X.A H
    clear H
    have hnb6 := NB119_120.out
    have hnc6 := NB120_119.out
    have hcz7_0 : wr.cell? ⟨gb119, 0, none⟩ = some (.int .i64 a0_0) := (blk_cell BK119.out 0).trans rfl
    have hcz7_1 : wr.cell? ⟨gb119, 1, none⟩ = some (.int .i64 a0_1) := (blk_cell BK119.out 1).trans rfl
    have hcz7_2 : wr.cell? ⟨gb119, 2, none⟩ = some (.int .i64 a0_2) := (blk_cell BK119.out 2).trans rfl
    have hfz7_0 := blk_frozen BK119.out 0
    have hfz7_1 := blk_frozen BK119.out 1
    have hfz7_2 := blk_frozen BK119.out 2
    have hcz8_0 : wr.cell? ⟨gb120, 0, none⟩ = some (.slice A1_0 l1_0.length c1_0) := (blk_cell BK120.out 0).trans rfl
    have hcz8_1 : wr.cell? ⟨gb120, 1, none⟩ = some (.int .i64 a1_1) := (blk_cell BK120.out 1).trans rfl
    have hfz8_0 := blk_frozen BK120.out 0
    have hfz8_1 := blk_frozen BK120.out 1
    go_wp2
    go_loopg [6, 19] k1 (fun kq v6 v19 w' => ∃ (x6_2 : Int) (x19_2 : Int), v6 = .int .i64 x6_2 ∧ v19 = .int .i64 x19_2 ∧ Aside0 (spec_isCalm.l1 kq x5_1 x6_2 l1_0 (l1_0.length : Int) x19_2 a0_0 a0_1 a0_2 l1_0 a1_1 = some r) ∧ Aside0 (kq ≤ k1) ∧ Aside0 (w'.heap[gb119]? = some (.cells #[.int .i64 a0_0, .int .i64 a0_1, .int .i64 a0_2] 33 (0, 0))) ∧ Aside0 (w'.heap[gb120]? = some (.cells #[(.slice A1_0 l1_0.length c1_0), .int .i64 a1_1] 30 (0, 0))) ∧ Aside0 (Below w.heap.size w w'))
    case atStart => exact ⟨(0), (0), (by first | rfl | (simp; done) | (simp [*]; done)), (by first | rfl | (simp; done) | (simp [*]; done)), H', ⟨Nat.le_refl _⟩, ⟨X.B BK119⟩, ⟨X.B BK120⟩, ⟨X.G⟩⟩
    case round =>
     clear H'
     try clear c1
     try clear c2
     try clear p2
     try clear c5
     try clear c5b0
     try clear c6
     try clear p6
     try clear hcz7_0
     try clear hcz7_1
     try clear hcz7_2
     try clear hcz8_0
     try clear hcz8_1
     try clear hfz7_0
     try clear hfz7_1
     try clear hfz7_2
     try clear hfz8_0
     try clear hfz8_1
     try clear p2
     obtain ⟨x6_2, x19_2, rfl, rfl, HA, HK2, BK119, BK120, HB⟩ := hrel
     cases gk with
     | zero => exact absurd HA.out (by simp [spec_isCalm.l1])
     | succ k2 =>
      have H := HA.out
      clear HA
      simp only [spec_isCalm.l1] at H
      by_cases c9 : x19_2 < (l1_0.length : Int)
      ·rw [if_pos c9] at H
       have c9b0 : decide (x19_2 < (l1_0.length : Int)) = true := decide_eq_true c9
       clear c9
       by_cases c10 : 0 ≤ x19_2
       rotate_left
       ·rw [if_neg c10] at H
        exact absurd H (by simp)
       rw [if_pos c10] at H
       have c10b0 : decide (0 ≤ x19_2) = true := decide_eq_true c10
       clear c10
       by_cases c11 : x19_2 < (l1_0.length : Int)
       rotate_left
       ·rw [if_neg c11] at H
        exact absurd H (by simp)
       rw [if_pos c11] at H
       have c11b0 : decide (x19_2 < (l1_0.length : Int)) = true := decide_eq_true c11
       clear c11
       by_cases c12 : (rd l1_0 x19_2) = x5_1
       ·rw [if_pos c12] at H
        have c12b0 : ((rd l1_0 x19_2) == x5_1) = true := beq_iff_eq.mpr c12
        have c12b1 : ((rd l1_0 x19_2) != x5_1) = false := bne_eq_false_iff_eq.mpr c12
        clear c12
        have c13b0 := eq_true (X.D : 0 ≤ x19_2)
        obtain ⟨ji14, hji14⟩ : ∃ j_ : Int, (shl .i64 1 x19_2) = j_ := ⟨_, rfl⟩
        replace H : (spec_isCalm.l1 k2 x5_1 (Go.bits .or .i64 x6_2 (ji14)) l1_0 (l1_0.length : Int) (wrap64 (x19_2 + 1)) a0_0 a0_1 a0_2 l1_0 a1_1) = some r := by first | (rw [hji14] at H; exact H) | (simp only [hji14] at H ⊢; exact H)
        have hji14_ : (IntKind.i64.wrap (1 * 2 ^ min x19_2.toNat 64)) = ji14 := hji14
        have hji14z : x19_2 ≤ 64 → (IntKind.i64.wrap (1 * 2 ^ x19_2.toNat)) = ji14 := shl_small hji14
        have hji14u : (IntKind.i64.wrap (2 ^ min x19_2.toNat 64)) = ji14 := by have h_ := hji14_; rw [Int.one_mul] at h_; exact h_
        have hji14v : x19_2 ≤ 64 → (IntKind.i64.wrap (2 ^ x19_2.toNat)) = ji14 := fun hle_ => by have h_ := hji14z hle_; rw [Int.one_mul] at h_; exact h_
        have hji14y : (wrap64 (1 * 2 ^ min x19_2.toNat 64)) = ji14 := (i64_w _).symm.trans hji14_
        have hji14x : x19_2 ≤ 64 → (wrap64 (1 * 2 ^ x19_2.toNat)) = ji14 := fun h_ => (i64_w _).symm.trans (hji14z h_)
        have H' := X.A H
        clear H
        have p121 : 0 ≤ (x19_2 : Int) := X.D
        have q121 : x19_2 < (l1_0.length : Int) := X.D
        obtain ⟨ad121, e121, hx121_0⟩ := Kd.at_int HR1_0.out x19_2 p121 q121
        cases e121
        replace hx121_0 := (HB.out.cell (World.block_lt_of_cell? w _ hx121_0)).trans hx121_0
        replace p121 := eq_true p121
        replace q121 := eq_true q121
        go_wp2
        go_roundg k2
        case measure => have := HK1.out; have := HK2.out; omega
        case rel => exact ⟨(Go.bits .or .i64 x6_2 (ji14)), (wrap64 (x19_2 + 1)), (by first | rfl | (simp; done) | (simp only [← hji14] <;> (first | rfl | simp)) | (simp [*]; done)), (by first | rfl | (simp; done) | (simp [*]; done)), H', ⟨by have := HK1.out; have := HK2.out; omega⟩, ⟨X.B BK119⟩, ⟨X.B BK120⟩, ⟨X.G⟩⟩
       ·rw [if_neg c12] at H
        have c12b0 : ((rd l1_0 x19_2) == x5_1) = false := beq_eq_false_iff_ne.mpr c12
        have c12b1 : ((rd l1_0 x19_2) != x5_1) = true := bne_iff_ne.mpr c12
        have H' := X.A H
        clear H
        have p121 : 0 ≤ (x19_2 : Int) := X.D
        have q121 : x19_2 < (l1_0.length : Int) := X.D
        obtain ⟨ad121, e121, hx121_0⟩ := Kd.at_int HR1_0.out x19_2 p121 q121
        cases e121
        replace hx121_0 := (HB.out.cell (World.block_lt_of_cell? w _ hx121_0)).trans hx121_0
        replace p121 := eq_true p121
        replace q121 := eq_true q121
        go_wp2
        go_roundg k2
        case measure => have := HK1.out; have := HK2.out; omega
        case rel => exact ⟨(x6_2), (wrap64 (x19_2 + 1)), (by first | rfl | (simp; done) | (simp [*]; done)), (by first | rfl | (simp; done) | (simp [*]; done)), H', ⟨by have := HK1.out; have := HK2.out; omega⟩, ⟨X.B BK119⟩, ⟨X.B BK120⟩, ⟨X.G⟩⟩
      ·rw [if_neg c9] at H
       have c9b0 : decide (x19_2 < (l1_0.length : Int)) = false := decide_eq_false c9
       clear c9
       replace H := Option.bind_eq_some_iff.mp H
       obtain ⟨t122, A150, H⟩ := H
       replace H : (if t122 = true then (spec_isCalm.l0 k2 (wrap64 (x5_1 + 1)) a0_0 a0_1 a0_2 l1_0 a1_1) else (some false)) = some r := H
       have A15 := X.A A150
       clear A150
       by_cases c16 : t122 = true
       ·subst c16
        have H1 : (spec_isCalm.l0 k2 (wrap64 (x5_1 + 1)) a0_0 a0_1 a0_2 l1_0 a1_1) = some r := by rw [if_pos rfl] at H; exact H
        clear H
        have H := H1
        clear H1
        have H' := X.A H
        clear H
        have hnb17 := NB119_120.out
        have hnc17 := NB120_119.out
        have hcz18_0 : wr.cell? ⟨gb119, 0, none⟩ = some (.int .i64 a0_0) := (blk_cell BK119.out 0).trans rfl
        have hcz18_1 : wr.cell? ⟨gb119, 1, none⟩ = some (.int .i64 a0_1) := (blk_cell BK119.out 1).trans rfl
        have hcz18_2 : wr.cell? ⟨gb119, 2, none⟩ = some (.int .i64 a0_2) := (blk_cell BK119.out 2).trans rfl
        have hfz18_0 := blk_frozen BK119.out 0
        have hfz18_1 := blk_frozen BK119.out 1
        have hfz18_2 := blk_frozen BK119.out 2
        go_wp2_with (first | ((with_reducible refine gate_callee (f := 40) rfl ?_); refine goesL_ (some 35) rfl rfl Try.func40 (by kernel_rfl) rfl #[.int .i64 a0_0, .int .i64 x6_2] rfl X.M ?_; (with_reducible refine (spec_cuCalm.calls k2 a0_0 x6_2 true _ A15.out).mono ?_); rintro e w' ⟨rfl, ⟨nd, rfl⟩⟩; refine ⟨_, rfl, ?_⟩))
        go_roundg k2
        case measure => have := HK1.out; have := HK2.out; omega
        case rel => exact ⟨(wrap64 (x5_1 + 1)), (by first | rfl | (simp; done) | (simp [*]; done)), H', ⟨by have := HK1.out; have := HK2.out; omega⟩, ⟨X.B BK119⟩, ⟨X.B BK120⟩, ⟨X.G⟩⟩
       ·replace c16 := Bool.eq_false_iff.mpr c16
        subst c16
        have H1 : (some false) = some r := by rw [if_neg (show ¬ (false = true) by decide)] at H; exact H
        clear H
        have H := H1
        clear H1
        obtain rfl := Option.some.inj H
        have hnb19 := NB119_120.out
        have hnc19 := NB120_119.out
        have hcz20_0 : wr.cell? ⟨gb119, 0, none⟩ = some (.int .i64 a0_0) := (blk_cell BK119.out 0).trans rfl
        have hcz20_1 : wr.cell? ⟨gb119, 1, none⟩ = some (.int .i64 a0_1) := (blk_cell BK119.out 1).trans rfl
        have hcz20_2 : wr.cell? ⟨gb119, 2, none⟩ = some (.int .i64 a0_2) := (blk_cell BK119.out 2).trans rfl
        have hfz20_0 := blk_frozen BK119.out 0
        have hfz20_1 := blk_frozen BK119.out 1
        have hfz20_2 := blk_frozen BK119.out 2
        go_wp2_with (first | ((with_reducible refine gate_callee (f := 40) rfl ?_); refine goesL_ (some 35) rfl rfl Try.func40 (by kernel_rfl) rfl #[.int .i64 a0_0, .int .i64 x6_2] rfl X.M ?_; (with_reducible refine (spec_cuCalm.calls k2 a0_0 x6_2 false _ A15.out).mono ?_); rintro e w' ⟨rfl, ⟨nd, rfl⟩⟩; refine ⟨_, rfl, ?_⟩))
        go_ret
        exact ⟨by first | rfl | (simp [errW_none, errW_some] <;> rfl) | (simp [*, errW_none, errW_some] <;> rfl), X.G⟩
   ·rw [if_neg c5] at H
    have c5b0 : decide (x5_1 ≤ (wrap64 (a0_2 + 1))) = false := decide_eq_false c5
    clear c5
    obtain rfl := Option.some.inj H
    have hnb21 := NB119_120.out
    have hnc21 := NB120_119.out
    have hcz22_0 : wr.cell? ⟨gb119, 0, none⟩ = some (.int .i64 a0_0) := (blk_cell BK119.out 0).trans rfl
    have hcz22_1 : wr.cell? ⟨gb119, 1, none⟩ = some (.int .i64 a0_1) := (blk_cell BK119.out 1).trans rfl
    have hcz22_2 : wr.cell? ⟨gb119, 2, none⟩ = some (.int .i64 a0_2) := (blk_cell BK119.out 2).trans rfl
    have hfz22_0 := blk_frozen BK119.out 0
    have hfz22_1 := blk_frozen BK119.out 1
    have hfz22_2 := blk_frozen BK119.out 2
    go_wp2
    go_ret
    exact ⟨by first | rfl | (simp [errW_none, errW_some] <;> rfl) | (simp [*, errW_none, errW_some] <;> rfl), X.G⟩

/-! ### spec_isAsked: function 18 -/
def spec_isAsked.f (k : Nat) (a0_0 : Int) (a0_1 : Int) (a0_2 : Int) (l1_0 : List Int) (a1_1 : Int) : Option (Bool) := (spec_isPlaces.f k a0_0 a0_1 a0_2 l1_0 a1_1).bind fun t125 => (if t125 = true then ((spec_isCalm.f k a0_0 a0_1 a0_2 l1_0 a1_1).bind fun t126 => (some t126)) else (some false))
theorem spec_isAsked.mono : ∀ a0 a1 a2 a3 a4 k, LeO (spec_isAsked.f k a0 a1 a2 a3 a4) (spec_isAsked.f (k + 1) a0 a1 a2 a3 a4) := by
 intro a0 a1 a2 a3 a4 k
 unfold spec_isAsked.f
 repeat' first
   | (with_reducible exact spec_isCalm.mono _ _ _ _ _ _)
   | (with_reducible exact spec_isPlaces.mono _ _ _ _ _ _)
   | (with_reducible exact LeO.refl _)
   | (with_reducible exact LeO.none _)
   | (with_reducible refine LeO.ite ?_ ?_)
   | (with_reducible refine LeO.bind ?_ (fun _ => ?_))
set_option maxHeartbeats 8000000 in
set_option maxRecDepth 100000 in
theorem spec_isAsked.calls (k : Nat) (a0_0 : Int) (a0_1 : Int) (a0_2 : Int) (A1_0 : Option Addr) (c1_0 : Nat) (l1_0 : List Int) (a1_1 : Int) (r : Bool) (w : World) (hr1_0 : Kd.C (Kd.int .i64) w A1_0 l1_0.length l1_0) (hc1_0 : l1_0.length ≤ c1_0) (h : spec_isAsked.f k a0_0 a0_1 a0_2 l1_0 a1_1 = some r) :
  Calls Try.prog 18 #[.agg #[.int .i64 a0_0, .int .i64 a0_1, .int .i64 a0_2], .agg #[.slice A1_0 l1_0.length c1_0, .int .i64 a1_1]] w fun e w' => e = .returned (.bool r) ∧ Below w.heap.size w w' := by
 have hu33 := Try.underlying33
 have hu30 := Try.underlying30
 have HR1_0 := X.A hr1_0
 have HC1_0 := X.A hc1_0
 clear hr1_0 hc1_0
 have HB := X.A (Below.refl w.heap.size w)
 have H : ((spec_isPlaces.f k a0_0 a0_1 a0_2 l1_0 a1_1).bind fun t125 => (if t125 = true then ((spec_isCalm.f k a0_0 a0_1 a0_2 l1_0 a1_1).bind fun t126 => (some t126)) else (some false))) = some r := h
 clear h
 replace H := Option.bind_eq_some_iff.mp H
 obtain ⟨t125, A30, H⟩ := H
 replace H : (if t125 = true then ((spec_isCalm.f k a0_0 a0_1 a0_2 l1_0 a1_1).bind fun t126 => (some t126)) else (some false)) = some r := H
 have A3 := X.A A30
 clear A30
 by_cases c4 : t125 = true
 ·subst c4
  have H1 : ((spec_isCalm.f k a0_0 a0_1 a0_2 l1_0 a1_1).bind fun t126 => (some t126)) = some r := by rw [if_pos rfl] at H; exact H
  clear H
  have H := H1
  clear H1
  replace H := Option.bind_eq_some_iff.mp H
  obtain ⟨t126, A50, H⟩ := H
  replace H : (some t126) = some r := H
  have A5 := X.A A50
  clear A50
  obtain rfl := Option.some.inj H
  go_enter Try.func18, Try.ntmps18
  go_wp2_with (first | ((with_reducible refine gate_dst (N := 2) rfl ?_); refine box_event ?hg (N := 2) ?hd (cs := #[.int .i64 a0_0, .int .i64 a0_1, .int .i64 a0_2]) (t := 33) ?hr ?_; (case hd => rfl); (case hg => rfl); (case hr => exact X.R); intro gb123 hg w6 hbox hb; have n0_ := X.A (below_step X.G hb); have n1_ := X.A (hbox); have n2_ := X.A ((by rw [hg]; exact (below_size X.G) : w.heap.size ≤ gb123)); have n3_ := X.A ((by rw [hg]; exact (below_size X.G) : w.heap.size ≤ gb123)); clear HB; have HB := n0_; have BK123 := n1_; have GW123 := n2_; have GE123 := n3_; clear n0_ n1_ n2_ n3_; clear hb hbox hg) | ((with_reducible refine gate_dst (N := 3) rfl ?_); refine box_event ?hg (N := 3) ?hd (cs := #[.slice A1_0 l1_0.length c1_0, .int .i64 a1_1]) (t := 30) ?hr ?_; (case hd => rfl); (case hg => rfl); (case hr => exact X.R); intro gb124 hg w7 hbox hb; have n0_ := X.A (X.BB BK123 hb); have n1_ := X.A (below_step X.G hb); have n2_ := X.A (hbox); have n3_ := X.A ((by rw [hg]; exact (below_size X.G) : w.heap.size ≤ gb124)); have n4_ := X.A ((by rw [hg]; exact (below_size X.G) : w.heap.size ≤ gb124)); have n5_ := X.A (X.NL hg BK123); have n6_ := X.A (X.NG hg BK123); clear BK123 HB; have BK123 := n0_; have HB := n1_; have BK124 := n2_; have GW124 := n3_; have GE124 := n4_; have NB123_124 := n5_; have NB124_123 := n6_; clear n0_ n1_ n2_ n3_ n4_ n5_ n6_ hb hbox hg; have hnb8 := NB123_124.out; have hnc8 := NB124_123.out; have hcz9_0 : w7.cell? ⟨gb123, 0, none⟩ = some (.int .i64 a0_0) := (blk_cell BK123.out 0).trans rfl; have hcz9_1 : w7.cell? ⟨gb123, 1, none⟩ = some (.int .i64 a0_1) := (blk_cell BK123.out 1).trans rfl; have hcz9_2 : w7.cell? ⟨gb123, 2, none⟩ = some (.int .i64 a0_2) := (blk_cell BK123.out 2).trans rfl; have hfz9_0 := blk_frozen BK123.out 0; have hfz9_1 := blk_frozen BK123.out 1; have hfz9_2 := blk_frozen BK123.out 2; have hcz10_0 : w7.cell? ⟨gb124, 0, none⟩ = some (.slice A1_0 l1_0.length c1_0) := (blk_cell BK124.out 0).trans rfl; have hcz10_1 : w7.cell? ⟨gb124, 1, none⟩ = some (.int .i64 a1_1) := (blk_cell BK124.out 1).trans rfl; have hfz10_0 := blk_frozen BK124.out 0; have hfz10_1 := blk_frozen BK124.out 1) | ((with_reducible refine gate_callee (f := 28) rfl ?_); refine goesL_ (some 7) rfl rfl Try.func28 (by kernel_rfl) rfl #[.agg #[.int .i64 a0_0, .int .i64 a0_1, .int .i64 a0_2], .agg #[.slice A1_0 l1_0.length c1_0, .int .i64 a1_1]] rfl X.M ?_; (with_reducible refine (spec_isPlaces.calls k a0_0 a0_1 a0_2 _ _ l1_0 a1_1 true _ ?side1 ?side2 A3.out).mono ?_); (case side1 => exact X.C (Kd.C_below HR1_0.out HB.out)); (case side2 => exact HC1_0.out); rintro e w11 ⟨rfl, hb⟩; refine ⟨_, rfl, ?_⟩; have n0_ := X.A (X.BB BK123 hb); have n1_ := X.A (X.BB BK124 hb); have n2_ := X.A (below_step X.G hb); clear BK123 BK124 HB; have BK123 := n0_; have BK124 := n1_; have HB := n2_; clear n0_ n1_ n2_; (try clear hb); (try clear hb2); (try clear hk); (try clear hi); have hcz12_0 : w11.cell? ⟨gb123, 0, none⟩ = some (.int .i64 a0_0) := (blk_cell BK123.out 0).trans rfl; have hcz12_1 : w11.cell? ⟨gb123, 1, none⟩ = some (.int .i64 a0_1) := (blk_cell BK123.out 1).trans rfl; have hcz12_2 : w11.cell? ⟨gb123, 2, none⟩ = some (.int .i64 a0_2) := (blk_cell BK123.out 2).trans rfl; have hfz12_0 := blk_frozen BK123.out 0; have hfz12_1 := blk_frozen BK123.out 1; have hfz12_2 := blk_frozen BK123.out 2; have hcz13_0 : w11.cell? ⟨gb124, 0, none⟩ = some (.slice A1_0 l1_0.length c1_0) := (blk_cell BK124.out 0).trans rfl; have hcz13_1 : w11.cell? ⟨gb124, 1, none⟩ = some (.int .i64 a1_1) := (blk_cell BK124.out 1).trans rfl; have hfz13_0 := blk_frozen BK124.out 0; have hfz13_1 := blk_frozen BK124.out 1) | (go_at_call 29; (with_reducible refine (spec_isCalm.calls k a0_0 a0_1 a0_2 _ _ l1_0 a1_1 t126 _ ?side1 ?side2 A5.out).mono ?_); (case side1 => exact X.C (Kd.C_below HR1_0.out HB.out)); (case side2 => exact HC1_0.out); rintro e w14 ⟨rfl, hb⟩; have n0_ := X.A (X.BB BK123 hb); have n1_ := X.A (X.BB BK124 hb); have n2_ := X.A (below_step X.G hb); clear BK123 BK124 HB; have BK123 := n0_; have BK124 := n1_; have HB := n2_; clear n0_ n1_ n2_; (try clear hb); (try clear hb2); (try clear hk); (try clear hi)))
  go_ret
  exact ⟨by first | rfl | (simp [errW_none, errW_some] <;> rfl) | (simp [*, errW_none, errW_some] <;> rfl), X.G⟩
 ·replace c4 := Bool.eq_false_iff.mpr c4
  subst c4
  have H1 : (some false) = some r := by rw [if_neg (show ¬ (false = true) by decide)] at H; exact H
  clear H
  have H := H1
  clear H1
  obtain rfl := Option.some.inj H
  go_enter Try.func18, Try.ntmps18
  go_wp2_with (first | ((with_reducible refine gate_dst (N := 2) rfl ?_); refine box_event ?hg (N := 2) ?hd (cs := #[.int .i64 a0_0, .int .i64 a0_1, .int .i64 a0_2]) (t := 33) ?hr ?_; (case hd => rfl); (case hg => rfl); (case hr => exact X.R); intro gb123 hg w15 hbox hb; have n0_ := X.A (below_step X.G hb); have n1_ := X.A (hbox); have n2_ := X.A ((by rw [hg]; exact (below_size X.G) : w.heap.size ≤ gb123)); have n3_ := X.A ((by rw [hg]; exact (below_size X.G) : w.heap.size ≤ gb123)); clear HB; have HB := n0_; have BK123 := n1_; have GW123 := n2_; have GE123 := n3_; clear n0_ n1_ n2_ n3_; clear hb hbox hg) | ((with_reducible refine gate_dst (N := 3) rfl ?_); refine box_event ?hg (N := 3) ?hd (cs := #[.slice A1_0 l1_0.length c1_0, .int .i64 a1_1]) (t := 30) ?hr ?_; (case hd => rfl); (case hg => rfl); (case hr => exact X.R); intro gb124 hg w16 hbox hb; have n0_ := X.A (X.BB BK123 hb); have n1_ := X.A (below_step X.G hb); have n2_ := X.A (hbox); have n3_ := X.A ((by rw [hg]; exact (below_size X.G) : w.heap.size ≤ gb124)); have n4_ := X.A ((by rw [hg]; exact (below_size X.G) : w.heap.size ≤ gb124)); have n5_ := X.A (X.NL hg BK123); have n6_ := X.A (X.NG hg BK123); clear BK123 HB; have BK123 := n0_; have HB := n1_; have BK124 := n2_; have GW124 := n3_; have GE124 := n4_; have NB123_124 := n5_; have NB124_123 := n6_; clear n0_ n1_ n2_ n3_ n4_ n5_ n6_ hb hbox hg; have hnb17 := NB123_124.out; have hnc17 := NB124_123.out; have hcz18_0 : w16.cell? ⟨gb123, 0, none⟩ = some (.int .i64 a0_0) := (blk_cell BK123.out 0).trans rfl; have hcz18_1 : w16.cell? ⟨gb123, 1, none⟩ = some (.int .i64 a0_1) := (blk_cell BK123.out 1).trans rfl; have hcz18_2 : w16.cell? ⟨gb123, 2, none⟩ = some (.int .i64 a0_2) := (blk_cell BK123.out 2).trans rfl; have hfz18_0 := blk_frozen BK123.out 0; have hfz18_1 := blk_frozen BK123.out 1; have hfz18_2 := blk_frozen BK123.out 2; have hcz19_0 : w16.cell? ⟨gb124, 0, none⟩ = some (.slice A1_0 l1_0.length c1_0) := (blk_cell BK124.out 0).trans rfl; have hcz19_1 : w16.cell? ⟨gb124, 1, none⟩ = some (.int .i64 a1_1) := (blk_cell BK124.out 1).trans rfl; have hfz19_0 := blk_frozen BK124.out 0; have hfz19_1 := blk_frozen BK124.out 1) | ((with_reducible refine gate_callee (f := 28) rfl ?_); refine goesL_ (some 7) rfl rfl Try.func28 (by kernel_rfl) rfl #[.agg #[.int .i64 a0_0, .int .i64 a0_1, .int .i64 a0_2], .agg #[.slice A1_0 l1_0.length c1_0, .int .i64 a1_1]] rfl X.M ?_; (with_reducible refine (spec_isPlaces.calls k a0_0 a0_1 a0_2 _ _ l1_0 a1_1 false _ ?side1 ?side2 A3.out).mono ?_); (case side1 => exact X.C (Kd.C_below HR1_0.out HB.out)); (case side2 => exact HC1_0.out); rintro e w20 ⟨rfl, hb⟩; refine ⟨_, rfl, ?_⟩; have n0_ := X.A (X.BB BK123 hb); have n1_ := X.A (X.BB BK124 hb); have n2_ := X.A (below_step X.G hb); clear BK123 BK124 HB; have BK123 := n0_; have BK124 := n1_; have HB := n2_; clear n0_ n1_ n2_; (try clear hb); (try clear hb2); (try clear hk); (try clear hi)))
  go_ret
  exact ⟨by first | rfl | (simp [errW_none, errW_some] <;> rfl) | (simp [*, errW_none, errW_some] <;> rfl), X.G⟩

/-! ### spec_l1Own: function 30 -/
def spec_l1Own.f (l0 : List Int) : Option (List Int) := (some (([] : List Int) : List Int)).bind fun y127 => (if y127.length + l0.length < 17592186044416 then (some (y127 ++ l0)) else (none))
set_option maxHeartbeats 8000000 in
set_option maxRecDepth 100000 in
theorem spec_l1Own.calls (A0 : Option Addr) (c0 : Nat) (l0 : List Int) (r : List Int) (w : World) (hr0 : Kd.C (Kd.int .i64) w A0 l0.length l0) (hc0 : l0.length ≤ c0) (h : spec_l1Own.f l0 = some r) :
  Calls Try.prog 30 #[.slice A0 l0.length c0] w fun e w' => ∃ v0_ : Value, e = .returned (v0_) ∧ Kd.R (Kd.int .i64) 3 w' w.heap.size (fun _ => True) v0_ r ∧ Below w.heap.size w w' := by
 have HR0 := X.A hr0
 have HC0 := X.A hc0
 clear hr0 hc0
 have HB := X.A (Below.refl w.heap.size w)
 have H : ((some (([] : List Int) : List Int)).bind fun y127 => (if y127.length + l0.length < 17592186044416 then (some (y127 ++ l0)) else (none))) = some r := h
 clear h
 obtain ⟨y127, hy127⟩ : ∃ y_ : List Int, y_ = (([] : List Int)) := ⟨_, rfl⟩
 replace H : (if y127.length + l0.length < 17592186044416 then (some (y127 ++ l0)) else (none)) = some r := by first | (rw [hy127]; with_reducible exact H) | (have H2_ := (Option.bind_some _ _).symm.trans H; rw [hy127]; with_reducible exact H2_) | (have H2_ := (Option.bind_some _ _).symm.trans H; with_reducible exact H2_) | with_reducible exact H | (rw [hy127]; exact H) | exact H
 have Ny127 := X.A hy127
 clear hy127
 by_cases c2 : y127.length + l0.length < 17592186044416
 ·rw [if_pos c2] at H
  have LMc2 := X.A c2
  clear c2
  obtain ⟨y130, hy130⟩ : ∃ y_ : List Int, y_ = (y127 ++ l0) := ⟨_, rfl⟩
  replace H : (some y130) = some r := by first | (rw [hy130]; with_reducible exact H) | (have H2_ := (Option.bind_some _ _).symm.trans H; rw [hy130]; with_reducible exact H2_) | (have H2_ := (Option.bind_some _ _).symm.trans H; with_reducible exact H2_) | with_reducible exact H | (rw [hy130]; exact H) | exact H
  have Ny130 := X.A hy130
  clear hy130
  obtain rfl := Option.some.inj H
  go_enter Try.func30, Try.ntmps30
  go_wp2_with (first | ((with_reducible refine gate_dst (N := 3) rfl ?_); refine Kd.R_lit (Kd.int .i64) _ 3 ?hg (N := 3) ?hd (xs := ([] : List Int)) (inner := []) (ok := fun _ => True) (okp := fun _ => True) ?hr ?hp (fun _ hk => hk) trivial (Below.refl _ _) (Nat.le_refl _) (by simp) ?_; (case hd => rfl); (case hg => rfl); (case hr => exact X.R); (case hp => exact (Reps.none _ _)); intro v128 w3 ho4 hb hg_ hnew_; clear hg_ hnew_; (first | rw [← Ny127.out] at ho4 | (simp only [Int.reduceToNat] at ho4; rw [← Ny127.out] at ho4)); have n0_ := X.A (Kd.R_lower ho4 (below_size X.G)); have n1_ := X.A (below_step X.G hb); clear HB; have HO129 := n0_; have HB := n1_; clear n0_ n1_; clear hb ho4) | ((with_reducible refine gate_builtin (b := .append) (xs := #[.tmp 3, .tmp 4]) rfl ?_); at_builtin; refine Kd.R_append_rows (Kd.int .i64) (w0 := w) w.heap.size rfl (.tmp 3) (.tmp 4) 24 3 (.int .i64 0) 8 rfl Try.underlying24 info3 rfl (by decide) (by omega) v128 y127 l0 _ _ _ (fun _ => True) (fun _ => False) rfl rfl ?aO ?aR (fun _ _ h => h) (fun _ h => h.elim) ?aF ?aB ?aS ?aL ?_; (case aR => exact X.C (Kd.C_below HR0.out HB.out)); (case aB => exact X.G); (case aF => exact (fun _ _ => trivial)); (case aO => exact (X.K HO129)); (case aS => exact (below_size X.G)); (case aL => have := LMc2.out; omega); intro v131 w5 ho hb hg hat; rw [← Ny130.out] at ho; have n0_ := X.A (hb); have n1_ := X.A (ho); clear HB HO129; have HB := n0_; have HO132 := n1_; clear n0_ n1_; clear ho hb hg hat))
  go_ret
  exact ⟨_, by first | rfl | (simp [errW_none, errW_some] <;> rfl) | (simp [*, errW_none, errW_some] <;> rfl), by (with_reducible repeat (first | apply Kd.R_alloc | apply Kd.R_drewN | apply Kd.R_drew)); exact HO132.out, X.G⟩
 ·rw [if_neg c2] at H
  exact absurd H (by simp)

/-! ### spec_isSail: function 32 -/
def spec_isSail.l0 : Nat → List Int → Int → Int → Int → List Int → List Int → Int → Option (List Int × Int)
 | 0, _, _, _, _, _, _, _ => none
 | k + 1, x15, x16, x17, x135000, x135001, x140000, x140001 => if x17 < x16 then (if 0 ≤ x17 then (if x17 < (x15.length : Int) then (if 0 ≤ (rd x15 x17) then (if (rd x15 x17) < (x140000.length : Int) then (spec_isSail.l0 k x15 x16 (wrap64 (x17 + 1)) x135000 x135001 (x140000.set ((rd x15 x17) : Int).toNat x135000) x140001) else (none)) else (none)) else (none)) else (none)) else (some (x140000, x140001))
def spec_isSail.f (k : Nat) (l0_0 : List Int) (a0_1 : Int) (a1_0 : Int) (l1_1 : List Int) : Option (List Int × Int) := (spec_l1Own.f l0_0).bind fun t136 => (spec_isSail.l0 k l1_1 (l1_1.length : Int) 0 a1_0 l1_1 t136 a1_0)
theorem spec_isSail.mono_l : ∀ k, (∀ y0 y1 y2 y3 y4 y5 y6, LeO (spec_isSail.l0 k y0 y1 y2 y3 y4 y5 y6) (spec_isSail.l0 (k + 1) y0 y1 y2 y3 y4 y5 y6))
 | 0 => fun _ _ _ _ _ _ _ r h => by simp [spec_isSail.l0] at h
 | k + 1 => by
  have ih0 := spec_isSail.mono_l k
  ·intro y0 y1 y2 y3 y4 y5 y6
   unfold spec_isSail.l0
   repeat' first
   | (with_reducible exact ih0 _ _ _ _ _ _ _)
   | (with_reducible exact LeO.refl _)
   | (with_reducible exact LeO.none _)
   | (with_reducible refine LeO.ite ?_ ?_)
   | (with_reducible refine LeO.bind ?_ (fun _ => ?_))
theorem spec_isSail.mono : ∀ a0 a1 a2 a3 k, LeO (spec_isSail.f k a0 a1 a2 a3) (spec_isSail.f (k + 1) a0 a1 a2 a3) := by
 intro a0 a1 a2 a3 k
 have ih0 := spec_isSail.mono_l k
 unfold spec_isSail.f
 repeat' first
   | (with_reducible exact ih0 _ _ _ _ _ _ _)
   | (with_reducible exact LeO.refl _)
   | (with_reducible exact LeO.none _)
   | (with_reducible refine LeO.ite ?_ ?_)
   | (with_reducible refine LeO.bind ?_ (fun _ => ?_))
def spec_isSail.T1 : Bool × List (List Nat × List Nat) := (true, [([], []), ([0], [0]), ([1], [1]), ([], []), ([3], [3]), ([2, 4], [2, 4]), ([], []), ([6, 5, 2, 0, 1, 2, 3, 4, 5, 6], [5, 6])])
def spec_isSail.B1 : List Nat := [0, 1, 3, 0, 8, 31, 0, 127]
theorem spec_isSail.tab1 : rtab .any (opsOf Try.f32 1) = spec_isSail.T1 := by kernel_rfl
theorem spec_isSail.bits1 : waitsOk spec_isSail.T1.2 spec_isSail.B1 = true := by kernel_rfl
set_option maxHeartbeats 8000000 in
set_option maxRecDepth 100000 in
theorem spec_isSail.calls (k : Nat) (A0_0 : Option Addr) (c0_0 : Nat) (l0_0 : List Int) (a0_1 : Int) (a1_0 : Int) (A1_1 : Option Addr) (c1_1 : Nat) (l1_1 : List Int) (r1 : List Int) (r2 : Int) (w : World) (hr0_0 : Kd.C (Kd.int .i64) w A0_0 l0_0.length l0_0) (hc0_0 : l0_0.length ≤ c0_0) (hr1_1 : Kd.C (Kd.int .i64) w A1_1 l1_1.length l1_1) (hc1_1 : l1_1.length ≤ c1_1) (h : spec_isSail.f k l0_0 a0_1 a1_0 l1_1 = some (r1, r2)) :
  Calls Try.prog 32 #[.agg #[.slice A0_0 l0_0.length c0_0, .int .i64 a0_1], .agg #[.int .i64 a1_0, .slice A1_1 l1_1.length c1_1]] w fun e w' => ∃ v0_ : Value, e = .returned (.agg #[v0_, .int .i64 r2]) ∧ Kd.R (Kd.int .i64) 3 w' w.heap.size (fun _ => True) v0_ r1 ∧ Below w.heap.size w w' := by
 have hu30 := Try.underlying30
 have hu51 := Try.underlying51
 have HR0_0 := X.A hr0_0
 have HC0_0 := X.A hc0_0
 clear hr0_0 hc0_0
 have HR1_1 := X.A hr1_1
 have HC1_1 := X.A hc1_1
 clear hr1_1 hc1_1
 have HB := X.A (Below.refl w.heap.size w)
 have H : ((spec_l1Own.f l0_0).bind fun t136 => (spec_isSail.l0 k l1_1 (l1_1.length : Int) 0 a1_0 l1_1 t136 a1_0)) = some (r1, r2) := h
 clear h
 replace H := Option.bind_eq_some_iff.mp H
 obtain ⟨t136, A30, H⟩ := H
 replace H : (spec_isSail.l0 k l1_1 (l1_1.length : Int) 0 a1_0 l1_1 t136 a1_0) = some (r1, r2) := H
 have A3 := X.A A30
 clear A30
 have H' := X.A H
 clear H
 go_enter Try.func32, Try.ntmps32
 try go_wp2_with (first | ((with_reducible refine gate_dst (N := 2) rfl ?_); refine box_event ?hg (N := 2) ?hd (cs := #[.slice A0_0 l0_0.length c0_0, .int .i64 a0_1]) (t := 30) ?hr ?_; (case hd => rfl); (case hg => rfl); (case hr => exact X.R); intro gb133 hg w4 hbox hb; have n0_ := X.A (below_step X.G hb); have n1_ := X.A (hbox); have n2_ := X.A ((by rw [hg]; exact (below_size X.G) : w.heap.size ≤ gb133)); have n3_ := X.A ((by rw [hg]; exact (below_size X.G) : w.heap.size ≤ gb133)); clear HB; have HB := n0_; have BK133 := n1_; have GW133 := n2_; have GE133 := n3_; clear n0_ n1_ n2_ n3_; clear hb hbox hg) | ((with_reducible refine gate_dst (N := 3) rfl ?_); refine box_event ?hg (N := 3) ?hd (cs := #[.int .i64 a1_0, .slice A1_1 l1_1.length c1_1]) (t := 51) ?hr ?_; (case hd => rfl); (case hg => rfl); (case hr => exact X.R); intro gb134 hg w5 hbox hb; have n0_ := X.A (X.BB BK133 hb); have n1_ := X.A (below_step X.G hb); have n2_ := X.A (hbox); have n3_ := X.A ((by rw [hg]; exact (below_size X.G) : w.heap.size ≤ gb134)); have n4_ := X.A ((by rw [hg]; exact (below_size X.G) : w.heap.size ≤ gb134)); have n5_ := X.A (X.NL hg BK133); have n6_ := X.A (X.NG hg BK133); clear BK133 HB; have BK133 := n0_; have HB := n1_; have BK134 := n2_; have GW134 := n3_; have GE134 := n4_; have NB133_134 := n5_; have NB134_133 := n6_; clear n0_ n1_ n2_ n3_ n4_ n5_ n6_; clear hb hbox hg) | ((with_reducible refine gate_dst (N := 4) rfl ?_); refine box_event ?hg (N := 4) ?hd (cs := #[.slice none 0 0, .int .i64 0]) (t := 30) ?hr ?_; (case hd => rfl); (case hg => rfl); (case hr => exact X.R); intro gb135 hg w6 hbox hb; have n0_ := X.A (X.BB BK133 hb); have n1_ := X.A (X.BB BK134 hb); have n2_ := X.A (below_step X.G hb); have n3_ := X.A (hbox); have n4_ := X.A ((by rw [hg]; exact (below_size X.G) : w.heap.size ≤ gb135)); have n5_ := X.A ((by rw [hg]; exact (below_size X.G) : w.heap.size ≤ gb135)); have n6_ := X.A (X.NL hg BK133); have n7_ := X.A (X.NG hg BK133); have n8_ := X.A (X.NL hg BK134); have n9_ := X.A (X.NG hg BK134); clear BK133 BK134 HB; have BK133 := n0_; have BK134 := n1_; have HB := n2_; have BK135 := n3_; have GW135 := n4_; have GE135 := n5_; have NB133_135 := n6_; have NB135_133 := n7_; have NB134_135 := n8_; have NB135_134 := n9_; clear n0_ n1_ n2_ n3_ n4_ n5_ n6_ n7_ n8_ n9_; clear hb hbox hg))
 have n0_ := X.A (blk_drew BK133.out)
 have n1_ := X.A (blk_drew BK134.out)
 have n2_ := X.A (blk_drew BK135.out)
 have n3_ := X.A (below_drew1 HB.out)
 clear BK133 BK134 BK135 HB
 have BK133 := n0_
 have BK134 := n1_
 have BK135 := n2_
 have HB := n3_
 clear n0_ n1_ n2_ n3_
 refine start_ (n := 8) (S := fun w' => w'.cell? ⟨gb133, 0, none⟩ = some (.slice A0_0 l0_0.length c0_0) ∧ w'.cell? ⟨gb133, 1, none⟩ = some (.int .i64 a0_1) ∧ w'.cell? ⟨gb134, 0, none⟩ = some (.int .i64 a1_0) ∧ w'.cell? ⟨gb134, 1, none⟩ = some (.slice A1_1 l1_1.length c1_1)) (ds := []) #[false, false, false, false, false, false, false, false] (by kernel_rfl) rfl rfl ⟨(blk_cell BK133.out 0).trans rfl, (blk_cell BK133.out 1).trans rfl, (blk_cell BK134.out 0).trans rfl, (blk_cell BK134.out 1).trans rfl⟩ (fun hHeld => ?_); refine with_tabW spec_isSail.tab1 spec_isSail.bits1 (fun HT_ HW_ => ?_)
 generalize w6.drew = w7 at BK133 BK134 BK135 HB hHeld ⊢
 refine pure_ (i := 0) (N := some 8) (v := ?_) (a' := ?_) #[true, false, false, false, false, false, false, false] rfl rfl (any_of HT_.out (by kernel_rfl)) (fun _ _ _ h => h) (Or.inl ⟨by rfl, ?_⟩) ?_ ?_
 rotate_left
 ·intro w'
  go_simp
  with_reducible rfl
 rotate_left
 ·exact X.Pu
 refine pure_ (i := 3) (N := some 11) (v := ?_) (a' := ?_) #[true, false, false, true, false, false, false, false] rfl rfl (any_of HT_.out (by kernel_rfl)) (fun _ _ _ h => h) (Or.inl ⟨by rfl, ?_⟩) ?_ ?_
 rotate_left
 ·intro w'
  go_simp
  with_reducible rfl
 rotate_left
 ·exact X.Pu
 refine take_ (i := 1) (N := some 9) (v := ?_) (a' := ?_) #[true, true, false, true, false, false, false, false] rfl rfl (take_ofW HT_.out HW_.out (by kernel_rfl)) (fun _ _ _ h => h) (Or.inl ⟨by rfl, ?_⟩) hHeld ?_ ?_
 rotate_left
 ·rintro w' ⟨s0, s1, s2, s3⟩
  go_simp
  with_reducible rfl
 rotate_left
 ·exact X.Pu
 refine take_ (i := 4) (N := some 12) (v := ?_) (a' := ?_) #[true, true, false, true, true, false, false, false] rfl rfl (take_ofW HT_.out HW_.out (by kernel_rfl)) (fun _ _ _ h => h) (Or.inl ⟨by rfl, ?_⟩) hHeld ?_ ?_
 rotate_left
 ·rintro w' ⟨s0, s1, s2, s3⟩
  go_simp
  with_reducible rfl
 rotate_left
 ·exact X.Pu
 refine join_ (σ := Value × Nat) 1 #[true, true, true, true, true, true, true, false] (fun s_ => [(10, s_.1), (5, .pointer (some ⟨s_.2, 0, none⟩)), (13, .agg #[s_.1, .int .i64 a1_0])]) (fun s_ w' => (w'.cell? ⟨gb133, 0, none⟩ = some (.slice A0_0 l0_0.length c0_0) ∧ w'.cell? ⟨gb133, 1, none⟩ = some (.int .i64 a0_1) ∧ w'.cell? ⟨gb134, 0, none⟩ = some (.int .i64 a1_0) ∧ w'.cell? ⟨gb134, 1, none⟩ = some (.slice A1_1 l1_1.length c1_1)) ∧ (Kd.R (Kd.int .i64) 3 w' w.heap.size (fun _ => True) s_.1 t136) ∧ (w'.heap[gb133]? = some (.cells #[.slice A0_0 l0_0.length c0_0, .int .i64 a0_1] 30 (0, 0))) ∧ (w'.heap[gb134]? = some (.cells #[.int .i64 a1_0, .slice A1_1 l1_1.length c1_1] 51 (0, 0))) ∧ (w'.heap[gb135]? = some (.cells #[.slice none 0 0, .int .i64 0] 30 (0, 0))) ∧ (w'.heap[s_.2]? = some (.cells #[.slice none 0 0, .int .i64 0] 30 (0, 0))) ∧ (w.heap.size ≤ s_.2) ∧ (w.heap.size ≤ s_.2) ∧ (gb133 ≠ s_.2) ∧ (s_.2 ≠ gb133) ∧ (gb134 ≠ s_.2) ∧ (s_.2 ≠ gb134) ∧ (gb135 ≠ s_.2) ∧ (s_.2 ≠ gb135) ∧ (Below w.heap.size w w')) ?_ ?_
 rotate_left
 ·intro hCont
  refine two_ (i := 2) (j := 6) (Ni := some 10) (Nj := some 5) #[true, true, true, true, true, false, false, false] #[true, true, false, true, true, false, true, false] rfl rfl rfl rfl (two_of HT_.out (by kernel_rfl)) (by decide) (by decide) (fun K hK => ?_) (fun K hK => ?_)
  ·skip
   refine goes_ Try.func30 (by kernel_rfl) rfl #[.slice A0_0 l0_0.length c0_0] (by rfl) rfl rfl X.M ?_
   with_reducible refine (spec_l1Own.calls _ _ l0_0 t136 _ ?side1 ?side2 A3.out).mono ?_
   (case side1 => exact X.C (Kd.C_below HR0_0.out HB.out))
   (case side2 => exact HC0_0.out)
   rintro e w8 ⟨v137, rfl, ho0, hb⟩
   refine ⟨_, rfl, ?_⟩
   have n0_ := X.A (Kd.R_lower ho0 (below_size X.G))
   have n1_ := X.A (X.BB BK133 hb)
   have n2_ := X.A (X.BB BK134 hb)
   have n3_ := X.A (X.BB BK135 hb)
   have n4_ := X.A (below_step X.G hb)
   clear BK133 BK134 BK135 HB
   have HO138 := n0_
   have BK133 := n1_
   have BK134 := n2_
   have BK135 := n3_
   have HB := n4_
   clear n0_ n1_ n2_ n3_ n4_
   (try clear hb)
   (try clear hb2)
   (try clear hk)
   (try clear hi)
   (try clear ho0)
   obtain ⟨Ao9, co9, eo9⟩ := Kd.R_slice HO138.out
   (first | subst eo9 | (injection eo9 with f1_ f2_ f3_; have f4_ := f1_.symm; have f5_ := f3_.symm; clear f1_ f2_ f3_; subst f4_; subst f5_))
   refine hK.out _ _ ⟨(blk_cell BK133.out 0).trans rfl, (blk_cell BK133.out 1).trans rfl, (blk_cell BK134.out 0).trans rfl, (blk_cell BK134.out 1).trans rfl⟩ (fun hHeld => ?_)
   clear hK K
   refine norm_ (a' := ?_) ?_ ?_
   rotate_left
   ·exact (show Act.put _ (some 10) _ = _ from X.Pu)
   refine pure_ (i := 5) (N := some 13) (v := ?_) (a' := ?_) #[true, true, true, true, true, true, false, false] rfl rfl (any_of HT_.out (by kernel_rfl)) (fun _ _ _ h => h) (Or.inl ⟨by rfl, ?_⟩) ?_ ?_
   rotate_left
   ·intro w'
    go_simp
    with_reducible rfl
   rotate_left
   ·exact X.Pu
   refine one_ (i := 6) (N := some 5) #[true, true, true, true, true, true, true, false] rfl rfl (one_of HT_.out (by kernel_rfl)) (by decide) (fun K hK => ?_)
   refine box_step ?hg (N := 5) ?hd (cs := #[.slice none 0 0, .int .i64 0]) (t := 30) ?hr ?_; (case hd => rfl); (case hg => rfl); (case hr => exact X.R)
   intro gb139 hg w10 hbox hb
   have n0_ := X.A (Kd.R_below (X.K HO138) hb)
   have n1_ := X.A (X.BB BK133 hb)
   have n2_ := X.A (X.BB BK134 hb)
   have n3_ := X.A (X.BB BK135 hb)
   have n4_ := X.A (below_step X.G hb)
   have n5_ := X.A (hbox)
   have n6_ := X.A ((by rw [hg]; exact (below_size X.G) : w.heap.size ≤ gb139))
   have n7_ := X.A ((by rw [hg]; exact (below_size X.G) : w.heap.size ≤ gb139))
   have n8_ := X.A (X.NL hg BK133)
   have n9_ := X.A (X.NG hg BK133)
   have n10_ := X.A (X.NL hg BK134)
   have n11_ := X.A (X.NG hg BK134)
   have n12_ := X.A (X.NL hg BK135)
   have n13_ := X.A (X.NG hg BK135)
   clear HO138 BK133 BK134 BK135 HB
   have HO138 := n0_
   have BK133 := n1_
   have BK134 := n2_
   have BK135 := n3_
   have HB := n4_
   have BK139 := n5_
   have GW139 := n6_
   have GE139 := n7_
   have NB133_139 := n8_
   have NB139_133 := n9_
   have NB134_139 := n10_
   have NB139_134 := n11_
   have NB135_139 := n12_
   have NB139_135 := n13_
   clear n0_ n1_ n2_ n3_ n4_ n5_ n6_ n7_ n8_ n9_ n10_ n11_ n12_ n13_ hb hbox hg
   refine hK.out _ _ ⟨(blk_cell BK133.out 0).trans rfl, (blk_cell BK133.out 1).trans rfl, (blk_cell BK134.out 0).trans rfl, (blk_cell BK134.out 1).trans rfl⟩ (fun hHeld => ?_)
   clear hK K
   refine norm_ (a' := ?_) ?_ ?_
   rotate_left
   ·exact (show Act.put _ (some 5) _ = _ from X.Pu)
   exact norm_ (by simp only [putAll, Act.put, List.setIfInBounds_toArray, List.set_cons_zero, List.set_cons_succ]) (hCont (.slice Ao9 t136.length co9, gb139) _ ⟨hHeld, (X.K HO138), (X.B BK133), (X.B BK134), (X.B BK135), (X.B BK139), GW139.out, GE139.out, NB133_139.out, NB139_133.out, NB134_139.out, NB139_134.out, NB135_139.out, NB139_135.out, X.G⟩)
  ·skip
   refine box_step ?hg (N := 5) ?hd (cs := #[.slice none 0 0, .int .i64 0]) (t := 30) ?hr ?_; (case hd => rfl); (case hg => rfl); (case hr => exact X.R)
   intro gb139 hg w8 hbox hb
   have n0_ := X.A (X.BB BK133 hb)
   have n1_ := X.A (X.BB BK134 hb)
   have n2_ := X.A (X.BB BK135 hb)
   have n3_ := X.A (below_step X.G hb)
   have n4_ := X.A (hbox)
   have n5_ := X.A ((by rw [hg]; exact (below_size X.G) : w.heap.size ≤ gb139))
   have n6_ := X.A ((by rw [hg]; exact (below_size X.G) : w.heap.size ≤ gb139))
   have n7_ := X.A (X.NL hg BK133)
   have n8_ := X.A (X.NG hg BK133)
   have n9_ := X.A (X.NL hg BK134)
   have n10_ := X.A (X.NG hg BK134)
   have n11_ := X.A (X.NL hg BK135)
   have n12_ := X.A (X.NG hg BK135)
   clear BK133 BK134 BK135 HB
   have BK133 := n0_
   have BK134 := n1_
   have BK135 := n2_
   have HB := n3_
   have BK139 := n4_
   have GW139 := n5_
   have GE139 := n6_
   have NB133_139 := n7_
   have NB139_133 := n8_
   have NB134_139 := n9_
   have NB139_134 := n10_
   have NB135_139 := n11_
   have NB139_135 := n12_
   clear n0_ n1_ n2_ n3_ n4_ n5_ n6_ n7_ n8_ n9_ n10_ n11_ n12_ hb hbox hg
   refine hK.out _ _ ⟨(blk_cell BK133.out 0).trans rfl, (blk_cell BK133.out 1).trans rfl, (blk_cell BK134.out 0).trans rfl, (blk_cell BK134.out 1).trans rfl⟩ (fun hHeld => ?_)
   clear hK K
   refine norm_ (a' := ?_) ?_ ?_
   rotate_left
   ·exact (show Act.put _ (some 5) _ = _ from X.Pu)
   refine one_ (i := 2) (N := some 10) #[true, true, true, true, true, false, true, false] rfl rfl (one_of HT_.out (by kernel_rfl)) (by decide) (fun K hK => ?_)
   refine goes_ Try.func30 (by kernel_rfl) rfl #[.slice A0_0 l0_0.length c0_0] (by rfl) rfl rfl X.M ?_
   with_reducible refine (spec_l1Own.calls _ _ l0_0 t136 _ ?side1 ?side2 A3.out).mono ?_
   (case side1 => exact X.C (Kd.C_below HR0_0.out HB.out))
   (case side2 => exact HC0_0.out)
   rintro e w9 ⟨v137, rfl, ho0, hb⟩
   refine ⟨_, rfl, ?_⟩
   have n0_ := X.A (Kd.R_lower ho0 (below_size X.G))
   have n1_ := X.A (X.BB BK133 hb)
   have n2_ := X.A (X.BB BK134 hb)
   have n3_ := X.A (X.BB BK135 hb)
   have n4_ := X.A (X.BB BK139 hb)
   have n5_ := X.A (below_step X.G hb)
   clear BK133 BK134 BK135 BK139 HB
   have HO138 := n0_
   have BK133 := n1_
   have BK134 := n2_
   have BK135 := n3_
   have BK139 := n4_
   have HB := n5_
   clear n0_ n1_ n2_ n3_ n4_ n5_
   (try clear hb)
   (try clear hb2)
   (try clear hk)
   (try clear hi)
   (try clear ho0)
   obtain ⟨Ao10, co10, eo10⟩ := Kd.R_slice HO138.out
   (first | subst eo10 | (injection eo10 with f1_ f2_ f3_; have f4_ := f1_.symm; have f5_ := f3_.symm; clear f1_ f2_ f3_; subst f4_; subst f5_))
   refine hK.out _ _ ⟨(blk_cell BK133.out 0).trans rfl, (blk_cell BK133.out 1).trans rfl, (blk_cell BK134.out 0).trans rfl, (blk_cell BK134.out 1).trans rfl⟩ (fun hHeld => ?_)
   clear hK K
   refine norm_ (a' := ?_) ?_ ?_
   rotate_left
   ·exact (show Act.put _ (some 10) _ = _ from X.Pu)
   refine pure_ (i := 5) (N := some 13) (v := ?_) (a' := ?_) #[true, true, true, true, true, true, true, false] rfl rfl (any_of HT_.out (by kernel_rfl)) (fun _ _ _ h => h) (Or.inl ⟨by rfl, ?_⟩) ?_ ?_
   rotate_left
   ·intro w'
    go_simp
    with_reducible rfl
   rotate_left
   ·exact X.Pu
   exact norm_ (by simp only [putAll, Act.put, List.setIfInBounds_toArray, List.set_cons_zero, List.set_cons_succ]) (hCont (.slice Ao10 t136.length co10, gb139) _ ⟨hHeld, (X.K HO138), (X.B BK133), (X.B BK134), (X.B BK135), (X.B BK139), GW139.out, GE139.out, NB133_139.out, NB139_133.out, NB134_139.out, NB139_134.out, NB135_139.out, NB139_135.out, X.G⟩)
 rintro ⟨v137, gb139⟩ w11 ⟨hS_, h0_, h1_, h2_, h3_, h4_, h5_, h6_, h7_, h8_, h9_, h10_, h11_, h12_, h13_⟩
 have n0_ : Aside0 (Kd.R (Kd.int .i64) 3 w11 w.heap.size (fun _ => True) v137 t136) := ⟨h0_⟩
 have n1_ : Aside0 (w11.heap[gb133]? = some (.cells #[.slice A0_0 l0_0.length c0_0, .int .i64 a0_1] 30 (0, 0))) := ⟨h1_⟩
 have n2_ : Aside0 (w11.heap[gb134]? = some (.cells #[.int .i64 a1_0, .slice A1_1 l1_1.length c1_1] 51 (0, 0))) := ⟨h2_⟩
 have n3_ : Aside0 (w11.heap[gb135]? = some (.cells #[.slice none 0 0, .int .i64 0] 30 (0, 0))) := ⟨h3_⟩
 have n4_ : Aside0 (w11.heap[gb139]? = some (.cells #[.slice none 0 0, .int .i64 0] 30 (0, 0))) := ⟨h4_⟩
 have n5_ : Aside0 (w.heap.size ≤ gb139) := ⟨h5_⟩
 have n6_ : Aside0 (w.heap.size ≤ gb139) := ⟨h6_⟩
 have n7_ : Aside0 (gb133 ≠ gb139) := ⟨h7_⟩
 have n8_ : Aside0 (gb139 ≠ gb133) := ⟨h8_⟩
 have n9_ : Aside0 (gb134 ≠ gb139) := ⟨h9_⟩
 have n10_ : Aside0 (gb139 ≠ gb134) := ⟨h10_⟩
 have n11_ : Aside0 (gb135 ≠ gb139) := ⟨h11_⟩
 have n12_ : Aside0 (gb139 ≠ gb135) := ⟨h12_⟩
 have n13_ : Aside0 (Below w.heap.size w w11) := ⟨h13_⟩
 clear BK133 BK134 BK135 HB h0_ h1_ h2_ h3_ h4_ h5_ h6_ h7_ h8_ h9_ h10_ h11_ h12_ h13_
 have HO138 := n0_
 have BK133 := n1_
 have BK134 := n2_
 have BK135 := n3_
 have BK139 := n4_
 have GW139 := n5_
 have GE139 := n6_
 have NB133_139 := n7_
 have NB139_133 := n8_
 have NB134_139 := n9_
 have NB139_134 := n10_
 have NB135_139 := n11_
 have NB139_135 := n12_
 have HB := n13_
 clear n0_ n1_ n2_ n3_ n4_ n5_ n6_ n7_ n8_ n9_ n10_ n11_ n12_ n13_
 have hHeld : w11.cell? ⟨gb133, 0, none⟩ = some (.slice A0_0 l0_0.length c0_0) ∧ w11.cell? ⟨gb133, 1, none⟩ = some (.int .i64 a0_1) ∧ w11.cell? ⟨gb134, 0, none⟩ = some (.int .i64 a1_0) ∧ w11.cell? ⟨gb134, 1, none⟩ = some (.slice A1_1 l1_1.length c1_1) := hS_
 obtain ⟨Ao12, co12, eo12⟩ := Kd.R_slice HO138.out
 (first | subst eo12 | (injection eo12 with f1_ f2_ f3_; have f4_ := f1_.symm; have f5_ := f3_.symm; clear f1_ f2_ f3_; subst f4_; subst f5_))
 refine norm_ (a' := ?_) ?_ ?_
 rotate_left
 ·simp only [putAll, Act.put, List.setIfInBounds_toArray, List.set_cons_zero, List.set_cons_succ]
  rfl
 refine one_ (i := 7) (N := none) #[true, true, true, true, true, true, true, true] rfl rfl (one_of HT_.out (by kernel_rfl)) (by decide) (fun K hK => ?_)
 have hs13 : w11.cell? ⟨gb139, 0, none⟩ = some (.slice none 0 0) := (blk_cell BK139.out 0).trans rfl
 have hfs13 := blk_frozen BK139.out 0
 have hns13_0 := NB133_139.out
 have hns13_1 := NB134_139.out
 have hns13_2 := NB135_139.out
 have hms13_0 := NB139_133.out
 have hms13_1 := NB139_134.out
 have hms13_2 := NB139_135.out
 have hs14 : w11.cell? ⟨gb139, 1, none⟩ = some (.int .i64 0) := (blk_cell BK139.out 1).trans rfl
 have hfs14 := blk_frozen BK139.out 1
 have hns14_0 := NB133_139.out
 have hns14_1 := NB134_139.out
 have hns14_2 := NB135_139.out
 have hms14_0 := NB139_133.out
 have hms14_1 := NB139_134.out
 have hms14_2 := NB139_135.out
 refine skip_ (w1 := ?_) (by rfl) rfl ?_ ?_
 rotate_left
 ·go_simp
  rfl
 refine hK.out _ _ ⟨((cell_far (p := ⟨gb139, _, none⟩) NB133_139.out _).trans (((cell_far (p := ⟨gb139, _, none⟩) NB133_139.out _).trans (hHeld.1)))), ((cell_far (p := ⟨gb139, _, none⟩) NB133_139.out _).trans (((cell_far (p := ⟨gb139, _, none⟩) NB133_139.out _).trans (hHeld.2.1)))), ((cell_far (p := ⟨gb139, _, none⟩) NB134_139.out _).trans (((cell_far (p := ⟨gb139, _, none⟩) NB134_139.out _).trans (hHeld.2.2.1)))), ((cell_far (p := ⟨gb139, _, none⟩) NB134_139.out _).trans (((cell_far (p := ⟨gb139, _, none⟩) NB134_139.out _).trans (hHeld.2.2.2))))⟩ (fun hHeld => ?_)
 clear hK K
 refine done_ (done_of HT_.out (by kernel_rfl)) ?_
 have hnb15 := NB134_133.out
 have hnc15 := NB133_134.out
 have hnb16 := NB134_135.out
 have hnc16 := NB135_134.out
 have hnb17 := NB134_139.out
 have hnc17 := NB139_134.out
 have hcz18_0 : w11.cell? ⟨gb134, 0, none⟩ = some (.int .i64 a1_0) := (blk_cell BK134.out 0).trans rfl
 have hcz18_1 : w11.cell? ⟨gb134, 1, none⟩ = some (.slice A1_1 l1_1.length c1_1) := (blk_cell BK134.out 1).trans rfl
 have hfz18_0 := blk_frozen BK134.out 0
 have hfz18_1 := blk_frozen BK134.out 1
 try go_wp2
 go_loopg [17] k (fun kq v17 w' => ∃ (x17_1 : Int) (x140000_1 : List Int) (u140000 : Value), v17 = .int .i64 x17_1 ∧ Aside0 (spec_isSail.l0 kq l1_1 (l1_1.length : Int) x17_1 a1_0 l1_1 x140000_1 a1_0 = some (r1, r2)) ∧ Aside0 (kq ≤ k) ∧ Aside0 (Kd.R (Kd.int .i64) 3 w' w.heap.size (fun _ => True) u140000 x140000_1) ∧ Aside0 (w'.heap[gb133]? = some (.cells #[(.slice A0_0 l0_0.length c0_0), .int .i64 a0_1] 30 (0, 0))) ∧ Aside0 (w'.heap[gb134]? = some (.cells #[.int .i64 a1_0, (.slice A1_1 l1_1.length c1_1)] 51 (0, 0))) ∧ Aside0 (w'.heap[gb135]? = some (.cells #[(.slice none 0 0), .int .i64 0] 30 (0, 0))) ∧ Aside0 (w'.heap[gb139]? = some (.cells #[u140000, .int .i64 a1_0] 30 (0, 0))) ∧ Aside0 (Below w.heap.size w w'))
 case atStart => exact ⟨(0), (t136), (.slice Ao12 t136.length co12), (by first | rfl | (simp; done) | (simp [*]; done)), H', ⟨Nat.le_refl _⟩, ⟨by (with_reducible repeat (first | apply Kd.R_alloc | apply Kd.R_drewN | apply Kd.R_drew)); exact Kd.R_mono (Kd.R_far (p := ⟨gb139, 1, none⟩) (Kd.R_far (p := ⟨gb139, 0, none⟩) (Kd.R_types HO138.out BK139.out (by decide)) (fun _ hk => hk.2) (.slice Ao12 t136.length co12)) (fun _ hk => hk.2) (.int .i64 a1_0)) (fun _ hk => trivial)⟩, ⟨by (with_reducible repeat (first | refine blk_drewN ?_ _ | refine blk_drew ?_ | refine blk_alloc ?_ _)); refine blk_far ?_ NB133_139.out _; (with_reducible repeat (first | refine blk_drewN ?_ _ | refine blk_drew ?_ | refine blk_alloc ?_ _)); refine blk_far ?_ NB133_139.out _; (with_reducible repeat (first | refine blk_drewN ?_ _ | refine blk_drew ?_ | refine blk_alloc ?_ _)); exact BK133.out⟩, ⟨by (with_reducible repeat (first | refine blk_drewN ?_ _ | refine blk_drew ?_ | refine blk_alloc ?_ _)); refine blk_far ?_ NB134_139.out _; (with_reducible repeat (first | refine blk_drewN ?_ _ | refine blk_drew ?_ | refine blk_alloc ?_ _)); refine blk_far ?_ NB134_139.out _; (with_reducible repeat (first | refine blk_drewN ?_ _ | refine blk_drew ?_ | refine blk_alloc ?_ _)); exact BK134.out⟩, ⟨by (with_reducible repeat (first | refine blk_drewN ?_ _ | refine blk_drew ?_ | refine blk_alloc ?_ _)); refine blk_far ?_ NB135_139.out _; (with_reducible repeat (first | refine blk_drewN ?_ _ | refine blk_drew ?_ | refine blk_alloc ?_ _)); refine blk_far ?_ NB135_139.out _; (with_reducible repeat (first | refine blk_drewN ?_ _ | refine blk_drew ?_ | refine blk_alloc ?_ _)); exact BK135.out⟩, ⟨by (with_reducible repeat (first | refine blk_drewN ?_ _ | refine blk_drew ?_ | refine blk_alloc ?_ _)); refine blk_put (cs := #[.slice Ao12 t136.length co12, .int .i64 0]) ?_ 1 _ rfl; (with_reducible repeat (first | refine blk_drewN ?_ _ | refine blk_drew ?_ | refine blk_alloc ?_ _)); refine blk_put (cs := #[.slice none 0 0, .int .i64 0]) ?_ 0 _ rfl; (with_reducible repeat (first | refine blk_drewN ?_ _ | refine blk_drew ?_ | refine blk_alloc ?_ _)); exact BK139.out⟩, ⟨X.G⟩⟩
 case round =>
  clear H'
  try clear c1
  try clear p2
  try clear c3
  try clear c15
  try clear c16
  try clear c17
  try clear hcz18_0
  try clear hcz18_1
  try clear hfz18_0
  try clear hfz18_1
  obtain ⟨x17_1, x140000_1, u140000, rfl, HA, HK1, HO_140000, BK133, BK134, BK135, BK139, HB⟩ := hrel
  cases gk with
  | zero => exact absurd HA.out (by simp [spec_isSail.l0])
  | succ k1 =>
   have H := HA.out
   clear HA
   simp only [spec_isSail.l0] at H
   by_cases c19 : x17_1 < (l1_1.length : Int)
   ·rw [if_pos c19] at H
    have c19b0 : decide (x17_1 < (l1_1.length : Int)) = true := decide_eq_true c19
    clear c19
    by_cases c20 : 0 ≤ x17_1
    rotate_left
    ·rw [if_neg c20] at H
     exact absurd H (by simp)
    rw [if_pos c20] at H
    have c20b0 : decide (0 ≤ x17_1) = true := decide_eq_true c20
    clear c20
    by_cases c21 : x17_1 < (l1_1.length : Int)
    rotate_left
    ·rw [if_neg c21] at H
     exact absurd H (by simp)
    rw [if_pos c21] at H
    have c21b0 : decide (x17_1 < (l1_1.length : Int)) = true := decide_eq_true c21
    clear c21
    by_cases c22 : 0 ≤ (rd l1_1 x17_1)
    rotate_left
    ·rw [if_neg c22] at H
     exact absurd H (by simp)
    rw [if_pos c22] at H
    have c22b0 : decide (0 ≤ (rd l1_1 x17_1)) = true := decide_eq_true c22
    clear c22
    by_cases c23 : (rd l1_1 x17_1) < (x140000_1.length : Int)
    rotate_left
    ·rw [if_neg c23] at H
     exact absurd H (by simp)
    rw [if_pos c23] at H
    have c23b0 : decide ((rd l1_1 x17_1) < (x140000_1.length : Int)) = true := decide_eq_true c23
    clear c23
    obtain ⟨y141, hy141⟩ : ∃ y_ : List Int, y_ = (x140000_1.set ((rd l1_1 x17_1) : Int).toNat a1_0) := ⟨_, rfl⟩
    replace H : (spec_isSail.l0 k1 l1_1 (l1_1.length : Int) (wrap64 (x17_1 + 1)) a1_0 l1_1 y141 a1_0) = some (r1, r2) := by first | (rw [hy141]; with_reducible exact H) | (have H2_ := (Option.bind_some _ _).symm.trans H; rw [hy141]; with_reducible exact H2_) | (have H2_ := (Option.bind_some _ _).symm.trans H; with_reducible exact H2_) | with_reducible exact H | (rw [hy141]; exact H) | exact H
    have Ny141 := X.A hy141
    clear hy141
    have H' := X.A H
    clear H
    have p140 : 0 ≤ (x17_1 : Int) := X.D
    have q140 : x17_1 < (l1_1.length : Int) := X.D
    obtain ⟨ad140, e140, hx140_0⟩ := Kd.at_int HR1_1.out x17_1 p140 q140
    cases e140
    replace hx140_0 := (HB.out.cell (World.block_lt_of_cell? w _ hx140_0)).trans hx140_0
    replace p140 := eq_true p140
    replace q140 := eq_true q140
    have hnb25 := NB139_133.out
    have hnc25 := NB133_139.out
    have hnb26 := NB139_134.out
    have hnc26 := NB134_139.out
    have hnb27 := NB139_135.out
    have hnc27 := NB135_139.out
    have hcz28_0 : wr.cell? ⟨gb139, 0, none⟩ = some (u140000) := (blk_cell BK139.out 0).trans rfl
    have hcz28_1 : wr.cell? ⟨gb139, 1, none⟩ = some (.int .i64 a1_0) := (blk_cell BK139.out 1).trans rfl
    have hfz28_0 := blk_frozen BK139.out 0
    have hfz28_1 := blk_frozen BK139.out 1
    have hnb29 := NB134_133.out
    have hnc29 := NB133_134.out
    have hnb30 := NB134_135.out
    have hnc30 := NB135_134.out
    have hcz31_0 : wr.cell? ⟨gb134, 0, none⟩ = some (.int .i64 a1_0) := (blk_cell BK134.out 0).trans rfl
    have hcz31_1 : wr.cell? ⟨gb134, 1, none⟩ = some (.slice (some ad140) l1_1.length c1_1) := (blk_cell BK134.out 1).trans rfl
    have hfz31_0 := blk_frozen BK134.out 0
    have hfz31_1 := blk_frozen BK134.out 1
    have p24 : 0 ≤ ((rd l1_1 x17_1) : Int) := X.D
    have q24 : ((rd l1_1 x17_1) : Int) < ((x140000_1.length : Int) : Int) := X.D
    obtain ⟨go24, co24, eo24, gb24, gl24, cl24, HG24⟩ := Kd.R_form HO_140000.out (by omega)
    (first | cases eo24 | (injection eo24 with ea_ en_ ec_; (first | subst ea_ | (injection ea_ with ea_; subst ea_)); subst ec_; clear en_))
    have GB24 := X.A gb24
    have GG24 := X.A HG24
    clear gb24 gl24 HG24
    obtain ⟨hx24_0, hf24_0⟩ := Kd.R_celln 0 HO_140000.out ((rd l1_1 x17_1) : Int) p24 q24
    replace p24 := eq_true p24
    replace q24 := eq_true q24
    have HP32 := Kd.R_putg HO_140000.out ((rd l1_1 x17_1) : Int) a1_0
    go_wp2_with (first | ((with_reducible refine gate_store (t := 3) (p := 26) rfl ?_); refine store_event (t := 3) (p := 26) (v := ?vo_w33) (w1 := (wr.setCell ⟨go24, ((rd l1_1 x17_1) : Int).toNat, none⟩ (.int .i64 a1_0))) ?hg ?ho ?hn ?hr ?_; (case ho => rfl); (case hg => rfl); (case hn => rfl); (case hr => exact X.R); intro w33 hw; have hg : wr.grownBy w33 (some go24) := (by rw [hw]; exact HP32.2); have hp_ : Kd.R (Kd.int .i64) 3 w33 w.heap.size (fun _ => True) (.slice (some ⟨go24, 0, none⟩) x140000_1.length co24) y141 := (by rw [hw, Ny141.out]; exact HP32.1); clear HP32; have n0_ := X.A (hp_); have n1_ := X.A (blk_grown (g := gb133) (o := .cells #[.slice A0_0 l0_0.length c0_0, .int .i64 a0_1] 30 (0, 0)) (X.B BK133) hg (Kd.R_ne HO_140000.out BK133.out (by decide))); have n2_ := X.A (blk_grown (g := gb134) (o := .cells #[.int .i64 a1_0, .slice (some ad140) l1_1.length c1_1] 51 (0, 0)) (X.B BK134) hg (Kd.R_ne HO_140000.out BK134.out (by decide))); have n3_ := X.A (blk_grown (g := gb135) (o := .cells #[.slice none 0 0, .int .i64 0] 30 (0, 0)) (X.B BK135) hg (Kd.R_ne HO_140000.out BK135.out (by decide))); have n4_ := X.A (blk_grown (g := gb139) (o := .cells #[.slice (some ⟨go24, 0, none⟩) x140000_1.length co24, .int .i64 a1_0] 30 (0, 0)) (X.B BK139) hg (Kd.R_ne HO_140000.out BK139.out (by decide))); have n5_ := X.A ((by rw [hw]; exact below_set (HB.out) GB24.out : Below w.heap.size w w33)); clear HO_140000 BK133 BK134 BK135 BK139 HB; have HO_140000 := n0_; have BK133 := n1_; have BK134 := n2_; have BK135 := n3_; have BK139 := n4_; have HB := n5_; clear n0_ n1_ n2_ n3_ n4_ n5_; clear hg hw hp_))
    go_roundg k1
    case measure => have := HK1.out; omega
    case rel => exact ⟨(wrap64 (x17_1 + 1)), (y141), (.slice (some ⟨go24, 0, none⟩) x140000_1.length co24), (by first | rfl | (simp; done) | (simp [*]; done)), H', ⟨by have := HK1.out; omega⟩, ⟨by (with_reducible repeat (first | apply Kd.R_alloc | apply Kd.R_drewN | apply Kd.R_drew)); exact HO_140000.out⟩, ⟨X.B BK133⟩, ⟨X.B BK134⟩, ⟨X.B BK135⟩, ⟨X.B BK139⟩, ⟨X.G⟩⟩
   ·rw [if_neg c19] at H
    have c19b0 : decide (x17_1 < (l1_1.length : Int)) = false := decide_eq_false c19
    clear c19
    simp only [Option.some.injEq, Prod.mk.injEq] at H
    obtain ⟨rfl, rfl⟩ := H
    have hnb34 := NB139_133.out
    have hnc34 := NB133_139.out
    have hnb35 := NB139_134.out
    have hnc35 := NB134_139.out
    have hnb36 := NB139_135.out
    have hnc36 := NB135_139.out
    have hcz37_0 : wr.cell? ⟨gb139, 0, none⟩ = some (u140000) := (blk_cell BK139.out 0).trans rfl
    have hcz37_1 : wr.cell? ⟨gb139, 1, none⟩ = some (.int .i64 a1_0) := (blk_cell BK139.out 1).trans rfl
    have hfz37_0 := blk_frozen BK139.out 0
    have hfz37_1 := blk_frozen BK139.out 1
    obtain ⟨Ao38, co38, eo38⟩ := Kd.R_slice HO_140000.out
    subst eo38
    have hnb39 := NB135_133.out
    have hnc39 := NB133_135.out
    have hnb40 := NB135_134.out
    have hnc40 := NB134_135.out
    have hcz41_0 : wr.cell? ⟨gb135, 0, none⟩ = some (.slice none 0 0) := (blk_cell BK135.out 0).trans rfl
    have hcz41_1 : wr.cell? ⟨gb135, 1, none⟩ = some (.int .i64 0) := (blk_cell BK135.out 1).trans rfl
    have hfz41_0 := blk_frozen BK135.out 0
    have hfz41_1 := blk_frozen BK135.out 1
    go_wp2
    refine bodyPost_ret (results_cell_row rfl _ _ gb135 30 #[.slice Ao38 x140000_1.length co38, .int .i64 a1_0] (0, 0) _ rfl (by (with_reducible repeat (first | refine blk_drewN ?_ _ | refine blk_drew ?_ | refine blk_alloc ?_ _)); refine blk_put (cs := #[.slice Ao38 x140000_1.length co38, .int .i64 0]) ?_ 1 _ rfl; (with_reducible repeat (first | refine blk_drewN ?_ _ | refine blk_drew ?_ | refine blk_alloc ?_ _)); refine blk_put (cs := #[.slice none 0 0, .int .i64 0]) ?_ 0 _ rfl; (with_reducible repeat (first | refine blk_drewN ?_ _ | refine blk_drew ?_ | refine blk_alloc ?_ _)); exact BK135.out) Try.underlying30 rfl (by kernel_rfl)) rfl ?_
    exact ⟨_, by first | rfl | (simp [errW_none, errW_some] <;> rfl) | (simp [*, errW_none, errW_some] <;> rfl), by (with_reducible repeat (first | apply Kd.R_alloc | apply Kd.R_drewN | apply Kd.R_drew)); exact Kd.R_mono (Kd.R_far (p := ⟨gb135, 1, none⟩) (Kd.R_far (p := ⟨gb135, 0, none⟩) (Kd.R_types HO_140000.out BK135.out (by decide)) (fun _ hk => hk.2) (.slice Ao38 x140000_1.length co38)) (fun _ hk => hk.2) (.int .i64 a1_0)) (fun _ hk => trivial), X.G⟩

end Go.Proofs.Ytjllgibfcnkgpah.Q
