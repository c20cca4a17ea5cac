-- by wip/xprint.py, a program of this session over the kit's print: not trusted, Lean checks it.
import Derived.Test.YtldeaeeolibpjaaXShort
import Derived.Test.YtldeaeeolibpjaaQx0
import Derived.Test.YtldeaeeolibpjaaQx1
namespace Go.Proofs.Ytldeaeeolibpjaa.Q
open Go.RowKit Go.Proofs.YtldeaeeolibpjaaW.PrintWords Go.Proofs.YtldeaeeolibpjaaW.PrintLast Go.Proofs.YtldeaeeolibpjaaW.PrintMore
attribute [local go_sem] max2_int min2_int max_two min_two max_three min_three max_four min_four   -- for this text's walks alone
set_option linter.unusedVariables false
set_option linter.unusedSimpArgs false

/-! ### spec_isCalm: function 25 -/
mutual
def spec_isCalm.l0 : Nat → Int → Int → Int → Int → List Int → Int → Option (Bool)
 | 0, _, _, _, _, _, _ => none
 | k + 1, x5, x116000, x116001, x116002, x117000, x117001 => if x5 ≤ (wrap64 (x116002 + 1)) then (spec_isCalm.l1 k x5 0 x117000 (x117000.length : Int) 0 x116000 x116001 x116002 x117000 x117001) else (some true)
def spec_isCalm.l1 : Nat → Int → Int → List Int → Int → Int → Int → Int → Int → List Int → Int → Option (Bool)
 | 0, _, _, _, _, _, _, _, _, _, _ => none
 | k + 1, x5, x6, x17, x18, x19, x116000, x116001, x116002, x117000, x117001 => if x19 < x18 then (if 0 ≤ x19 then (if x19 < (x17.length : Int) then (if (rd x17 x19) = x5 then (spec_isCalm.l1 k x5 (Go.bits .or .i64 x6 (shl .i64 1 x19)) x17 x18 (wrap64 (x19 + 1)) x116000 x116001 x116002 x117000 x117001) else (spec_isCalm.l1 k x5 x6 x17 x18 (wrap64 (x19 + 1)) x116000 x116001 x116002 x117000 x117001)) else (none)) else (none)) else ((spec_cuCalm.f k x116000 x6).bind fun t118 => (if t118 = true then (spec_isCalm.l0 k (wrap64 (x5 + 1)) x116000 x116001 x116002 x117000 x117001) else (some false)))
end
def spec_isCalm.f (k : Nat) (a0_0 : Int) (a0_1 : Int) (a0_2 : Int) (l1_0 : List Int) (a1_1 : Int) : Option (Bool) := spec_isCalm.l0 k 0 a0_0 a0_1 a0_2 l1_0 a1_1
theorem spec_isCalm.mono_l : ∀ k, (∀ y0 y1 y2 y3 y4 y5, LeO (spec_isCalm.l0 k y0 y1 y2 y3 y4 y5) (spec_isCalm.l0 (k + 1) y0 y1 y2 y3 y4 y5)) ∧ (∀ y0 y1 y2 y3 y4 y5 y6 y7 y8 y9, LeO (spec_isCalm.l1 k y0 y1 y2 y3 y4 y5 y6 y7 y8 y9) (spec_isCalm.l1 (k + 1) y0 y1 y2 y3 y4 y5 y6 y7 y8 y9))
 | 0 => ⟨fun _ _ _ _ _ _ r h => by simp [spec_isCalm.l0] at h, fun _ _ _ _ _ _ _ _ _ _ r h => by simp [spec_isCalm.l1] at h⟩
 | k + 1 => by
  obtain ⟨ih0, ih1⟩ := spec_isCalm.mono_l k
  refine ⟨?_, ?_⟩
  ·intro y0 y1 y2 y3 y4 y5
   unfold spec_isCalm.l0
   repeat' first
   | (with_reducible exact ih0 _ _ _ _ _ _)
   | (with_reducible exact ih1 _ _ _ _ _ _ _ _ _ _)
   | (with_reducible exact spec_cuCalm.mono _ _ _)
   | (with_reducible exact LeO.refl _)
   | (with_reducible exact LeO.none _)
   | (with_reducible refine LeO.ite ?_ ?_)
   | (with_reducible refine LeO.bind ?_ (fun _ => ?_))
  ·intro y0 y1 y2 y3 y4 y5 y6 y7 y8 y9
   unfold spec_isCalm.l1
   repeat' first
   | (with_reducible exact ih0 _ _ _ _ _ _)
   | (with_reducible exact ih1 _ _ _ _ _ _ _ _ _ _)
   | (with_reducible exact spec_cuCalm.mono _ _ _)
   | (with_reducible exact LeO.refl _)
   | (with_reducible exact LeO.none _)
   | (with_reducible refine LeO.ite ?_ ?_)
   | (with_reducible refine LeO.bind ?_ (fun _ => ?_))
theorem spec_isCalm.mono : ∀ a0 a1 a2 a3 a4 k, LeO (spec_isCalm.f k a0 a1 a2 a3 a4) (spec_isCalm.f (k + 1) a0 a1 a2 a3 a4) := by
 intro a0 a1 a2 a3 a4 k
 obtain ⟨ih0, ih1⟩ := spec_isCalm.mono_l k
 unfold spec_isCalm.f
 repeat' first
   | (with_reducible exact ih0 _ _ _ _ _ _)
   | (with_reducible exact ih1 _ _ _ _ _ _ _ _ _ _)
   | (with_reducible exact spec_cuCalm.mono _ _ _)
   | (with_reducible exact LeO.refl _)
   | (with_reducible exact LeO.none _)
   | (with_reducible refine LeO.ite ?_ ?_)
   | (with_reducible refine LeO.bind ?_ (fun _ => ?_))
set_option maxHeartbeats 8000000 in
set_option maxRecDepth 100000 in
theorem spec_isCalm.calls (k : Nat) (a0_0 : Int) (a0_1 : Int) (a0_2 : Int) (A1_0 : Option Addr) (c1_0 : Nat) (l1_0 : List Int) (a1_1 : Int) (r : Bool) (w : World) (hr1_0 : Kd.C (Kd.int .i64) w A1_0 l1_0.length l1_0) (hc1_0 : l1_0.length ≤ c1_0) (h : spec_isCalm.f k a0_0 a0_1 a0_2 l1_0 a1_1 = some r) :
  Calls Try.prog 25 #[.agg #[.int .i64 a0_0, .int .i64 a0_1, .int .i64 a0_2], .agg #[.slice A1_0 l1_0.length c1_0, .int .i64 a1_1]] w fun e w' => e = .returned (.bool r) ∧ Below w.heap.size w w' := by
 have hu31 := Try.underlying31
 have hu33 := Try.underlying33
 have HR1_0 := X.A hr1_0
 have HC1_0 := X.A hc1_0
 clear hr1_0 hc1_0
 have HB := X.A (Below.refl w.heap.size w)
 have H : (spec_isCalm.l0 k 0 a0_0 a0_1 a0_2 l1_0 a1_1) = some r := h
 clear h
 have H' := X.A H
 clear H
 go_enter Try.func25, Try.ntmps25
 go_wp2_with (first | ((with_reducible refine gate_dst (N := 2) rfl ?_); refine box_event ?hg (N := 2) ?hd (cs := #[.int .i64 a0_0, .int .i64 a0_1, .int .i64 a0_2]) (t := 31) ?hr ?_; (case hd => rfl); (case hg => rfl); (case hr => exact X.R); intro gb115 hg w3 hbox hb; have n0_ := X.A (below_step X.G hb); have n1_ := X.A (hbox); have n2_ := X.A ((by rw [hg]; exact (below_size X.G) : w.heap.size ≤ gb115)); have n3_ := X.A ((by rw [hg]; exact (below_size X.G) : w.heap.size ≤ gb115)); clear HB; have HB := n0_; have BK115 := n1_; have GW115 := n2_; have GE115 := n3_; clear n0_ n1_ n2_ n3_; clear hb hbox hg) | ((with_reducible refine gate_dst (N := 3) rfl ?_); refine box_event ?hg (N := 3) ?hd (cs := #[.slice A1_0 l1_0.length c1_0, .int .i64 a1_1]) (t := 33) ?hr ?_; (case hd => rfl); (case hg => rfl); (case hr => exact X.R); intro gb116 hg w4 hbox hb; have n0_ := X.A (X.BB BK115 hb); have n1_ := X.A (below_step X.G hb); have n2_ := X.A (hbox); have n3_ := X.A ((by rw [hg]; exact (below_size X.G) : w.heap.size ≤ gb116)); have n4_ := X.A ((by rw [hg]; exact (below_size X.G) : w.heap.size ≤ gb116)); have n5_ := X.A (X.NL hg BK115); have n6_ := X.A (X.NG hg BK115); clear BK115 HB; have BK115 := n0_; have HB := n1_; have BK116 := n2_; have GW116 := n3_; have GE116 := n4_; have NB115_116 := n5_; have NB116_115 := n6_; clear n0_ n1_ n2_ n3_ n4_ n5_ n6_; clear hb hbox hg))
 go_loopg [5] k (fun kq v5 w' => ∃ (x5_1 : Int), v5 = .int .i64 x5_1 ∧ Aside0 (spec_isCalm.l0 kq x5_1 a0_0 a0_1 a0_2 l1_0 a1_1 = some r) ∧ Aside0 (kq ≤ k) ∧ Aside0 (w'.heap[gb115]? = some (.cells #[.int .i64 a0_0, .int .i64 a0_1, .int .i64 a0_2] 31 (0, 0))) ∧ Aside0 (w'.heap[gb116]? = some (.cells #[(.slice A1_0 l1_0.length c1_0), .int .i64 a1_1] 33 (0, 0))) ∧ Aside0 (Below w.heap.size w w'))
 case atStart => exact ⟨(0), (by first | rfl | (simp; done) | (simp [*]; done)), H', ⟨Nat.le_refl _⟩, ⟨X.B BK115⟩, ⟨X.B BK116⟩, ⟨X.G⟩⟩
 case round =>
  clear H'
  try clear c1
  try clear c2
  try clear p2
  obtain ⟨x5_1, rfl, HA, HK1, BK115, BK116, HB⟩ := hrel
  cases gk with
  | zero => exact absurd HA.out (by simp [spec_isCalm.l0])
  | succ k1 =>
   have H := HA.out
   clear HA
   simp only [spec_isCalm.l0] at H
   by_cases c5 : x5_1 ≤ (wrap64 (a0_2 + 1))
   ·rw [if_pos c5] at H
    have c5b0 : decide (x5_1 ≤ (wrap64 (a0_2 + 1))) = true := decide_eq_true c5
    clear c5
    have H' := X.A H
    clear H
    have hnb6 := NB115_116.out
    have hnc6 := NB116_115.out
    have hcz7_0 : wr.cell? ⟨gb115, 0, none⟩ = some (.int .i64 a0_0) := (blk_cell BK115.out 0).trans rfl
    have hcz7_1 : wr.cell? ⟨gb115, 1, none⟩ = some (.int .i64 a0_1) := (blk_cell BK115.out 1).trans rfl
    have hcz7_2 : wr.cell? ⟨gb115, 2, none⟩ = some (.int .i64 a0_2) := (blk_cell BK115.out 2).trans rfl
    have hfz7_0 := blk_frozen BK115.out 0
    have hfz7_1 := blk_frozen BK115.out 1
    have hfz7_2 := blk_frozen BK115.out 2
    have hcz8_0 : wr.cell? ⟨gb116, 0, none⟩ = some (.slice A1_0 l1_0.length c1_0) := (blk_cell BK116.out 0).trans rfl
    have hcz8_1 : wr.cell? ⟨gb116, 1, none⟩ = some (.int .i64 a1_1) := (blk_cell BK116.out 1).trans rfl
    have hfz8_0 := blk_frozen BK116.out 0
    have hfz8_1 := blk_frozen BK116.out 1
    go_wp2
    go_loopg [6, 19] k1 (fun kq v6 v19 w' => ∃ (x6_2 : Int) (x19_2 : Int), v6 = .int .i64 x6_2 ∧ v19 = .int .i64 x19_2 ∧ Aside0 (spec_isCalm.l1 kq x5_1 x6_2 l1_0 (l1_0.length : Int) x19_2 a0_0 a0_1 a0_2 l1_0 a1_1 = some r) ∧ Aside0 (kq ≤ k1) ∧ Aside0 (w'.heap[gb115]? = some (.cells #[.int .i64 a0_0, .int .i64 a0_1, .int .i64 a0_2] 31 (0, 0))) ∧ Aside0 (w'.heap[gb116]? = some (.cells #[(.slice A1_0 l1_0.length c1_0), .int .i64 a1_1] 33 (0, 0))) ∧ Aside0 (Below w.heap.size w w'))
    case atStart => exact ⟨(0), (0), (by first | rfl | (simp; done) | (simp [*]; done)), (by first | rfl | (simp; done) | (simp [*]; done)), H', ⟨Nat.le_refl _⟩, ⟨X.B BK115⟩, ⟨X.B BK116⟩, ⟨X.G⟩⟩
    case round =>
     clear H'
     try clear c1
     try clear c2
     try clear p2
     try clear c5
     try clear c5b0
     try clear c6
     try clear p6
     try clear hcz7_0
     try clear hcz7_1
     try clear hcz7_2
     try clear hcz8_0
     try clear hcz8_1
     try clear hfz7_0
     try clear hfz7_1
     try clear hfz7_2
     try clear hfz8_0
     try clear hfz8_1
     try clear p2
     obtain ⟨x6_2, x19_2, rfl, rfl, HA, HK2, BK115, BK116, HB⟩ := hrel
     cases gk with
     | zero => exact absurd HA.out (by simp [spec_isCalm.l1])
     | succ k2 =>
      have H := HA.out
      clear HA
      simp only [spec_isCalm.l1] at H
      by_cases c9 : x19_2 < (l1_0.length : Int)
      ·rw [if_pos c9] at H
       have c9b0 : decide (x19_2 < (l1_0.length : Int)) = true := decide_eq_true c9
       clear c9
       by_cases c10 : 0 ≤ x19_2
       rotate_left
       ·rw [if_neg c10] at H
        exact absurd H (by simp)
       rw [if_pos c10] at H
       have c10b0 : decide (0 ≤ x19_2) = true := decide_eq_true c10
       clear c10
       by_cases c11 : x19_2 < (l1_0.length : Int)
       rotate_left
       ·rw [if_neg c11] at H
        exact absurd H (by simp)
       rw [if_pos c11] at H
       have c11b0 : decide (x19_2 < (l1_0.length : Int)) = true := decide_eq_true c11
       clear c11
       by_cases c12 : (rd l1_0 x19_2) = x5_1
       ·rw [if_pos c12] at H
        have c12b0 : ((rd l1_0 x19_2) == x5_1) = true := beq_iff_eq.mpr c12
        have c12b1 : ((rd l1_0 x19_2) != x5_1) = false := bne_eq_false_iff_eq.mpr c12
        clear c12
        have c13b0 := eq_true (X.D : 0 ≤ x19_2)
        obtain ⟨ji14, hji14⟩ : ∃ j_ : Int, (shl .i64 1 x19_2) = j_ := ⟨_, rfl⟩
        replace H : (spec_isCalm.l1 k2 x5_1 (Go.bits .or .i64 x6_2 (ji14)) l1_0 (l1_0.length : Int) (wrap64 (x19_2 + 1)) a0_0 a0_1 a0_2 l1_0 a1_1) = some r := by first | (rw [hji14] at H; exact H) | (simp only [hji14] at H ⊢; exact H)
        have hji14_ : (IntKind.i64.wrap (1 * 2 ^ min x19_2.toNat 64)) = ji14 := hji14
        have hji14z : x19_2 ≤ 64 → (IntKind.i64.wrap (1 * 2 ^ x19_2.toNat)) = ji14 := shl_small hji14
        have hji14u : (IntKind.i64.wrap (2 ^ min x19_2.toNat 64)) = ji14 := by have h_ := hji14_; rw [Int.one_mul] at h_; exact h_
        have hji14v : x19_2 ≤ 64 → (IntKind.i64.wrap (2 ^ x19_2.toNat)) = ji14 := fun hle_ => by have h_ := hji14z hle_; rw [Int.one_mul] at h_; exact h_
        have hji14y : (wrap64 (1 * 2 ^ min x19_2.toNat 64)) = ji14 := (i64_w _).symm.trans hji14_
        have hji14x : x19_2 ≤ 64 → (wrap64 (1 * 2 ^ x19_2.toNat)) = ji14 := fun h_ => (i64_w _).symm.trans (hji14z h_)
        have H' := X.A H
        clear H
        have p117 : 0 ≤ (x19_2 : Int) := X.D
        have q117 : x19_2 < (l1_0.length : Int) := X.D
        obtain ⟨ad117, e117, hx117_0⟩ := Kd.at_int HR1_0.out x19_2 p117 q117
        cases e117
        replace hx117_0 := (HB.out.cell (World.block_lt_of_cell? w _ hx117_0)).trans hx117_0
        replace p117 := eq_true p117
        replace q117 := eq_true q117
        go_wp2
        go_roundg k2
        case measure => have := HK1.out; have := HK2.out; omega
        case rel => exact ⟨(Go.bits .or .i64 x6_2 (ji14)), (wrap64 (x19_2 + 1)), (by first | rfl | (simp; done) | (simp only [← hji14] <;> (first | rfl | simp)) | (simp [*]; done)), (by first | rfl | (simp; done) | (simp [*]; done)), H', ⟨by have := HK1.out; have := HK2.out; omega⟩, ⟨X.B BK115⟩, ⟨X.B BK116⟩, ⟨X.G⟩⟩
       ·rw [if_neg c12] at H
        have c12b0 : ((rd l1_0 x19_2) == x5_1) = false := beq_eq_false_iff_ne.mpr c12
        have c12b1 : ((rd l1_0 x19_2) != x5_1) = true := bne_iff_ne.mpr c12
        have H' := X.A H
        clear H
        have p117 : 0 ≤ (x19_2 : Int) := X.D
        have q117 : x19_2 < (l1_0.length : Int) := X.D
        obtain ⟨ad117, e117, hx117_0⟩ := Kd.at_int HR1_0.out x19_2 p117 q117
        cases e117
        replace hx117_0 := (HB.out.cell (World.block_lt_of_cell? w _ hx117_0)).trans hx117_0
        replace p117 := eq_true p117
        replace q117 := eq_true q117
        go_wp2
        go_roundg k2
        case measure => have := HK1.out; have := HK2.out; omega
        case rel => exact ⟨(x6_2), (wrap64 (x19_2 + 1)), (by first | rfl | (simp; done) | (simp [*]; done)), (by first | rfl | (simp; done) | (simp [*]; done)), H', ⟨by have := HK1.out; have := HK2.out; omega⟩, ⟨X.B BK115⟩, ⟨X.B BK116⟩, ⟨X.G⟩⟩
      ·rw [if_neg c9] at H
       have c9b0 : decide (x19_2 < (l1_0.length : Int)) = false := decide_eq_false c9
       clear c9
       replace H := Option.bind_eq_some_iff.mp H
       obtain ⟨t118, A150, H⟩ := H
       replace H : (if t118 = true then (spec_isCalm.l0 k2 (wrap64 (x5_1 + 1)) a0_0 a0_1 a0_2 l1_0 a1_1) else (some false)) = some r := H
       have A15 := X.A A150
       clear A150
       by_cases c16 : t118 = true
       ·subst c16
        have H1 : (spec_isCalm.l0 k2 (wrap64 (x5_1 + 1)) a0_0 a0_1 a0_2 l1_0 a1_1) = some r := by rw [if_pos rfl] at H; exact H
        clear H
        have H := H1
        clear H1
        have H' := X.A H
        clear H
        have hnb17 := NB115_116.out
        have hnc17 := NB116_115.out
        have hcz18_0 : wr.cell? ⟨gb115, 0, none⟩ = some (.int .i64 a0_0) := (blk_cell BK115.out 0).trans rfl
        have hcz18_1 : wr.cell? ⟨gb115, 1, none⟩ = some (.int .i64 a0_1) := (blk_cell BK115.out 1).trans rfl
        have hcz18_2 : wr.cell? ⟨gb115, 2, none⟩ = some (.int .i64 a0_2) := (blk_cell BK115.out 2).trans rfl
        have hfz18_0 := blk_frozen BK115.out 0
        have hfz18_1 := blk_frozen BK115.out 1
        have hfz18_2 := blk_frozen BK115.out 2
        go_wp2_with (first | ((with_reducible refine gate_callee (f := 39) rfl ?_); refine goesL_ (some 35) rfl rfl Try.func39 (by kernel_rfl) rfl #[.int .i64 a0_0, .int .i64 x6_2] rfl X.M ?_; (with_reducible refine (spec_cuCalm.calls k2 a0_0 x6_2 true _ A15.out).mono ?_); rintro e w' ⟨rfl, ⟨nd, rfl⟩⟩; refine ⟨_, rfl, ?_⟩))
        go_roundg k2
        case measure => have := HK1.out; have := HK2.out; omega
        case rel => exact ⟨(wrap64 (x5_1 + 1)), (by first | rfl | (simp; done) | (simp [*]; done)), H', ⟨by have := HK1.out; have := HK2.out; omega⟩, ⟨X.B BK115⟩, ⟨X.B BK116⟩, ⟨X.G⟩⟩
       ·replace c16 := Bool.eq_false_iff.mpr c16
        subst c16
        have H1 : (some false) = some r := by rw [if_neg (show ¬ (false = true) by decide)] at H; exact H
        clear H
        have H := H1
        clear H1
        obtain rfl := Option.some.inj H
        have hnb19 := NB115_116.out
        have hnc19 := NB116_115.out
        have hcz20_0 : wr.cell? ⟨gb115, 0, none⟩ = some (.int .i64 a0_0) := (blk_cell BK115.out 0).trans rfl
        have hcz20_1 : wr.cell? ⟨gb115, 1, none⟩ = some (.int .i64 a0_1) := (blk_cell BK115.out 1).trans rfl
        have hcz20_2 : wr.cell? ⟨gb115, 2, none⟩ = some (.int .i64 a0_2) := (blk_cell BK115.out 2).trans rfl
        have hfz20_0 := blk_frozen BK115.out 0
        have hfz20_1 := blk_frozen BK115.out 1
        have hfz20_2 := blk_frozen BK115.out 2
        go_wp2_with (first | ((with_reducible refine gate_callee (f := 39) rfl ?_); refine goesL_ (some 35) rfl rfl Try.func39 (by kernel_rfl) rfl #[.int .i64 a0_0, .int .i64 x6_2] rfl X.M ?_; (with_reducible refine (spec_cuCalm.calls k2 a0_0 x6_2 false _ A15.out).mono ?_); rintro e w' ⟨rfl, ⟨nd, rfl⟩⟩; refine ⟨_, rfl, ?_⟩))
        go_ret
        exact ⟨by first | rfl | (simp [errW_none, errW_some] <;> rfl) | (simp [*, errW_none, errW_some] <;> rfl), X.G⟩
   ·rw [if_neg c5] at H
    have c5b0 : decide (x5_1 ≤ (wrap64 (a0_2 + 1))) = false := decide_eq_false c5
    clear c5
    obtain rfl := Option.some.inj H
    have hnb21 := NB115_116.out
    have hnc21 := NB116_115.out
    have hcz22_0 : wr.cell? ⟨gb115, 0, none⟩ = some (.int .i64 a0_0) := (blk_cell BK115.out 0).trans rfl
    have hcz22_1 : wr.cell? ⟨gb115, 1, none⟩ = some (.int .i64 a0_1) := (blk_cell BK115.out 1).trans rfl
    have hcz22_2 : wr.cell? ⟨gb115, 2, none⟩ = some (.int .i64 a0_2) := (blk_cell BK115.out 2).trans rfl
    have hfz22_0 := blk_frozen BK115.out 0
    have hfz22_1 := blk_frozen BK115.out 1
    have hfz22_2 := blk_frozen BK115.out 2
    go_wp2
    go_ret
    exact ⟨by first | rfl | (simp [errW_none, errW_some] <;> rfl) | (simp [*, errW_none, errW_some] <;> rfl), X.G⟩

/-! ### spec_isAsked: function 15 -/
def spec_isAsked.f (k : Nat) (a0_0 : Int) (a0_1 : Int) (a0_2 : Int) (l1_0 : List Int) (a1_1 : Int) : Option (Bool) := (spec_isPlaces.f k a0_0 a0_1 a0_2 l1_0 a1_1).bind fun t121 => (if t121 = true then ((spec_isCalm.f k a0_0 a0_1 a0_2 l1_0 a1_1).bind fun t122 => (some t122)) else (some false))
theorem spec_isAsked.mono : ∀ a0 a1 a2 a3 a4 k, LeO (spec_isAsked.f k a0 a1 a2 a3 a4) (spec_isAsked.f (k + 1) a0 a1 a2 a3 a4) := by
 intro a0 a1 a2 a3 a4 k
 unfold spec_isAsked.f
 repeat' first
   | (with_reducible exact spec_isCalm.mono _ _ _ _ _ _)
   | (with_reducible exact spec_isPlaces.mono _ _ _ _ _ _)
   | (with_reducible exact LeO.refl _)
   | (with_reducible exact LeO.none _)
   | (with_reducible refine LeO.ite ?_ ?_)
   | (with_reducible refine LeO.bind ?_ (fun _ => ?_))
set_option maxHeartbeats 8000000 in
set_option maxRecDepth 100000 in
theorem spec_isAsked.calls (k : Nat) (a0_0 : Int) (a0_1 : Int) (a0_2 : Int) (A1_0 : Option Addr) (c1_0 : Nat) (l1_0 : List Int) (a1_1 : Int) (r : Bool) (w : World) (hr1_0 : Kd.C (Kd.int .i64) w A1_0 l1_0.length l1_0) (hc1_0 : l1_0.length ≤ c1_0) (h : spec_isAsked.f k a0_0 a0_1 a0_2 l1_0 a1_1 = some r) :
  Calls Try.prog 15 #[.agg #[.int .i64 a0_0, .int .i64 a0_1, .int .i64 a0_2], .agg #[.slice A1_0 l1_0.length c1_0, .int .i64 a1_1]] w fun e w' => e = .returned (.bool r) ∧ Below w.heap.size w w' := by
 have hu31 := Try.underlying31
 have hu33 := Try.underlying33
 have HR1_0 := X.A hr1_0
 have HC1_0 := X.A hc1_0
 clear hr1_0 hc1_0
 have HB := X.A (Below.refl w.heap.size w)
 have H : ((spec_isPlaces.f k a0_0 a0_1 a0_2 l1_0 a1_1).bind fun t121 => (if t121 = true then ((spec_isCalm.f k a0_0 a0_1 a0_2 l1_0 a1_1).bind fun t122 => (some t122)) else (some false))) = some r := h
 clear h
 replace H := Option.bind_eq_some_iff.mp H
 obtain ⟨t121, A30, H⟩ := H
 replace H : (if t121 = true then ((spec_isCalm.f k a0_0 a0_1 a0_2 l1_0 a1_1).bind fun t122 => (some t122)) else (some false)) = some r := H
 have A3 := X.A A30
 clear A30
 by_cases c4 : t121 = true
 ·subst c4
  have H1 : ((spec_isCalm.f k a0_0 a0_1 a0_2 l1_0 a1_1).bind fun t122 => (some t122)) = some r := by rw [if_pos rfl] at H; exact H
  clear H
  have H := H1
  clear H1
  replace H := Option.bind_eq_some_iff.mp H
  obtain ⟨t122, A50, H⟩ := H
  replace H : (some t122) = some r := H
  have A5 := X.A A50
  clear A50
  obtain rfl := Option.some.inj H
  go_enter Try.func15, Try.ntmps15
  go_wp2_with (first | ((with_reducible refine gate_dst (N := 2) rfl ?_); refine box_event ?hg (N := 2) ?hd (cs := #[.int .i64 a0_0, .int .i64 a0_1, .int .i64 a0_2]) (t := 31) ?hr ?_; (case hd => rfl); (case hg => rfl); (case hr => exact X.R); intro gb119 hg w6 hbox hb; have n0_ := X.A (below_step X.G hb); have n1_ := X.A (hbox); have n2_ := X.A ((by rw [hg]; exact (below_size X.G) : w.heap.size ≤ gb119)); have n3_ := X.A ((by rw [hg]; exact (below_size X.G) : w.heap.size ≤ gb119)); clear HB; have HB := n0_; have BK119 := n1_; have GW119 := n2_; have GE119 := n3_; clear n0_ n1_ n2_ n3_; clear hb hbox hg) | ((with_reducible refine gate_dst (N := 3) rfl ?_); refine box_event ?hg (N := 3) ?hd (cs := #[.slice A1_0 l1_0.length c1_0, .int .i64 a1_1]) (t := 33) ?hr ?_; (case hd => rfl); (case hg => rfl); (case hr => exact X.R); intro gb120 hg w7 hbox hb; have n0_ := X.A (X.BB BK119 hb); have n1_ := X.A (below_step X.G hb); have n2_ := X.A (hbox); have n3_ := X.A ((by rw [hg]; exact (below_size X.G) : w.heap.size ≤ gb120)); have n4_ := X.A ((by rw [hg]; exact (below_size X.G) : w.heap.size ≤ gb120)); have n5_ := X.A (X.NL hg BK119); have n6_ := X.A (X.NG hg BK119); clear BK119 HB; have BK119 := n0_; have HB := n1_; have BK120 := n2_; have GW120 := n3_; have GE120 := n4_; have NB119_120 := n5_; have NB120_119 := n6_; clear n0_ n1_ n2_ n3_ n4_ n5_ n6_ hb hbox hg; have hnb8 := NB119_120.out; have hnc8 := NB120_119.out; have hcz9_0 : w7.cell? ⟨gb119, 0, none⟩ = some (.int .i64 a0_0) := (blk_cell BK119.out 0).trans rfl; have hcz9_1 : w7.cell? ⟨gb119, 1, none⟩ = some (.int .i64 a0_1) := (blk_cell BK119.out 1).trans rfl; have hcz9_2 : w7.cell? ⟨gb119, 2, none⟩ = some (.int .i64 a0_2) := (blk_cell BK119.out 2).trans rfl; have hfz9_0 := blk_frozen BK119.out 0; have hfz9_1 := blk_frozen BK119.out 1; have hfz9_2 := blk_frozen BK119.out 2; have hcz10_0 : w7.cell? ⟨gb120, 0, none⟩ = some (.slice A1_0 l1_0.length c1_0) := (blk_cell BK120.out 0).trans rfl; have hcz10_1 : w7.cell? ⟨gb120, 1, none⟩ = some (.int .i64 a1_1) := (blk_cell BK120.out 1).trans rfl; have hfz10_0 := blk_frozen BK120.out 0; have hfz10_1 := blk_frozen BK120.out 1) | ((with_reducible refine gate_callee (f := 24) rfl ?_); refine goesL_ (some 7) rfl rfl Try.func24 (by kernel_rfl) rfl #[.agg #[.int .i64 a0_0, .int .i64 a0_1, .int .i64 a0_2], .agg #[.slice A1_0 l1_0.length c1_0, .int .i64 a1_1]] rfl X.M ?_; (with_reducible refine (spec_isPlaces.calls k a0_0 a0_1 a0_2 _ _ l1_0 a1_1 true _ ?side1 ?side2 A3.out).mono ?_); (case side1 => exact X.C (Kd.C_below HR1_0.out HB.out)); (case side2 => exact HC1_0.out); rintro e w11 ⟨rfl, hb⟩; refine ⟨_, rfl, ?_⟩; have n0_ := X.A (X.BB BK119 hb); have n1_ := X.A (X.BB BK120 hb); have n2_ := X.A (below_step X.G hb); clear BK119 BK120 HB; have BK119 := n0_; have BK120 := n1_; have HB := n2_; clear n0_ n1_ n2_; (try clear hb); (try clear hb2); (try clear hk); (try clear hi); have hcz12_0 : w11.cell? ⟨gb119, 0, none⟩ = some (.int .i64 a0_0) := (blk_cell BK119.out 0).trans rfl; have hcz12_1 : w11.cell? ⟨gb119, 1, none⟩ = some (.int .i64 a0_1) := (blk_cell BK119.out 1).trans rfl; have hcz12_2 : w11.cell? ⟨gb119, 2, none⟩ = some (.int .i64 a0_2) := (blk_cell BK119.out 2).trans rfl; have hfz12_0 := blk_frozen BK119.out 0; have hfz12_1 := blk_frozen BK119.out 1; have hfz12_2 := blk_frozen BK119.out 2; have hcz13_0 : w11.cell? ⟨gb120, 0, none⟩ = some (.slice A1_0 l1_0.length c1_0) := (blk_cell BK120.out 0).trans rfl; have hcz13_1 : w11.cell? ⟨gb120, 1, none⟩ = some (.int .i64 a1_1) := (blk_cell BK120.out 1).trans rfl; have hfz13_0 := blk_frozen BK120.out 0; have hfz13_1 := blk_frozen BK120.out 1) | (go_at_call 25; (with_reducible refine (spec_isCalm.calls k a0_0 a0_1 a0_2 _ _ l1_0 a1_1 t122 _ ?side1 ?side2 A5.out).mono ?_); (case side1 => exact X.C (Kd.C_below HR1_0.out HB.out)); (case side2 => exact HC1_0.out); rintro e w14 ⟨rfl, hb⟩; have n0_ := X.A (X.BB BK119 hb); have n1_ := X.A (X.BB BK120 hb); have n2_ := X.A (below_step X.G hb); clear BK119 BK120 HB; have BK119 := n0_; have BK120 := n1_; have HB := n2_; clear n0_ n1_ n2_; (try clear hb); (try clear hb2); (try clear hk); (try clear hi)))
  go_ret
  exact ⟨by first | rfl | (simp [errW_none, errW_some] <;> rfl) | (simp [*, errW_none, errW_some] <;> rfl), X.G⟩
 ·replace c4 := Bool.eq_false_iff.mpr c4
  subst c4
  have H1 : (some false) = some r := by rw [if_neg (show ¬ (false = true) by decide)] at H; exact H
  clear H
  have H := H1
  clear H1
  obtain rfl := Option.some.inj H
  go_enter Try.func15, Try.ntmps15
  go_wp2_with (first | ((with_reducible refine gate_dst (N := 2) rfl ?_); refine box_event ?hg (N := 2) ?hd (cs := #[.int .i64 a0_0, .int .i64 a0_1, .int .i64 a0_2]) (t := 31) ?hr ?_; (case hd => rfl); (case hg => rfl); (case hr => exact X.R); intro gb119 hg w15 hbox hb; have n0_ := X.A (below_step X.G hb); have n1_ := X.A (hbox); have n2_ := X.A ((by rw [hg]; exact (below_size X.G) : w.heap.size ≤ gb119)); have n3_ := X.A ((by rw [hg]; exact (below_size X.G) : w.heap.size ≤ gb119)); clear HB; have HB := n0_; have BK119 := n1_; have GW119 := n2_; have GE119 := n3_; clear n0_ n1_ n2_ n3_; clear hb hbox hg) | ((with_reducible refine gate_dst (N := 3) rfl ?_); refine box_event ?hg (N := 3) ?hd (cs := #[.slice A1_0 l1_0.length c1_0, .int .i64 a1_1]) (t := 33) ?hr ?_; (case hd => rfl); (case hg => rfl); (case hr => exact X.R); intro gb120 hg w16 hbox hb; have n0_ := X.A (X.BB BK119 hb); have n1_ := X.A (below_step X.G hb); have n2_ := X.A (hbox); have n3_ := X.A ((by rw [hg]; exact (below_size X.G) : w.heap.size ≤ gb120)); have n4_ := X.A ((by rw [hg]; exact (below_size X.G) : w.heap.size ≤ gb120)); have n5_ := X.A (X.NL hg BK119); have n6_ := X.A (X.NG hg BK119); clear BK119 HB; have BK119 := n0_; have HB := n1_; have BK120 := n2_; have GW120 := n3_; have GE120 := n4_; have NB119_120 := n5_; have NB120_119 := n6_; clear n0_ n1_ n2_ n3_ n4_ n5_ n6_ hb hbox hg; have hnb17 := NB119_120.out; have hnc17 := NB120_119.out; have hcz18_0 : w16.cell? ⟨gb119, 0, none⟩ = some (.int .i64 a0_0) := (blk_cell BK119.out 0).trans rfl; have hcz18_1 : w16.cell? ⟨gb119, 1, none⟩ = some (.int .i64 a0_1) := (blk_cell BK119.out 1).trans rfl; have hcz18_2 : w16.cell? ⟨gb119, 2, none⟩ = some (.int .i64 a0_2) := (blk_cell BK119.out 2).trans rfl; have hfz18_0 := blk_frozen BK119.out 0; have hfz18_1 := blk_frozen BK119.out 1; have hfz18_2 := blk_frozen BK119.out 2; have hcz19_0 : w16.cell? ⟨gb120, 0, none⟩ = some (.slice A1_0 l1_0.length c1_0) := (blk_cell BK120.out 0).trans rfl; have hcz19_1 : w16.cell? ⟨gb120, 1, none⟩ = some (.int .i64 a1_1) := (blk_cell BK120.out 1).trans rfl; have hfz19_0 := blk_frozen BK120.out 0; have hfz19_1 := blk_frozen BK120.out 1) | ((with_reducible refine gate_callee (f := 24) rfl ?_); refine goesL_ (some 7) rfl rfl Try.func24 (by kernel_rfl) rfl #[.agg #[.int .i64 a0_0, .int .i64 a0_1, .int .i64 a0_2], .agg #[.slice A1_0 l1_0.length c1_0, .int .i64 a1_1]] rfl X.M ?_; (with_reducible refine (spec_isPlaces.calls k a0_0 a0_1 a0_2 _ _ l1_0 a1_1 false _ ?side1 ?side2 A3.out).mono ?_); (case side1 => exact X.C (Kd.C_below HR1_0.out HB.out)); (case side2 => exact HC1_0.out); rintro e w20 ⟨rfl, hb⟩; refine ⟨_, rfl, ?_⟩; have n0_ := X.A (X.BB BK119 hb); have n1_ := X.A (X.BB BK120 hb); have n2_ := X.A (below_step X.G hb); clear BK119 BK120 HB; have BK119 := n0_; have BK120 := n1_; have HB := n2_; clear n0_ n1_ n2_; (try clear hb); (try clear hb2); (try clear hk); (try clear hi)))
  go_ret
  exact ⟨by first | rfl | (simp [errW_none, errW_some] <;> rfl) | (simp [*, errW_none, errW_some] <;> rfl), X.G⟩

/-! ### spec_l1Own: function 40 -/
def spec_l1Own.f (l0 : List Int) : Option (List Int) := (some (([] : List Int) : List Int)).bind fun y123 => (if y123.length + l0.length < 17592186044416 then (some (y123 ++ l0)) else (none))
set_option maxHeartbeats 8000000 in
set_option maxRecDepth 100000 in
theorem spec_l1Own.calls (A0 : Option Addr) (c0 : Nat) (l0 : List Int) (r : List Int) (w : World) (hr0 : Kd.C (Kd.int .i64) w A0 l0.length l0) (hc0 : l0.length ≤ c0) (h : spec_l1Own.f l0 = some r) :
  Calls Try.prog 40 #[.slice A0 l0.length c0] w fun e w' => ∃ v0_ : Value, e = .returned (v0_) ∧ Kd.R (Kd.int .i64) 3 w' w.heap.size (fun _ => True) v0_ r ∧ Below w.heap.size w w' := by
 have HR0 := X.A hr0
 have HC0 := X.A hc0
 clear hr0 hc0
 have HB := X.A (Below.refl w.heap.size w)
 have H : ((some (([] : List Int) : List Int)).bind fun y123 => (if y123.length + l0.length < 17592186044416 then (some (y123 ++ l0)) else (none))) = some r := h
 clear h
 obtain ⟨y123, hy123⟩ : ∃ y_ : List Int, y_ = (([] : List Int)) := ⟨_, rfl⟩
 replace H : (if y123.length + l0.length < 17592186044416 then (some (y123 ++ l0)) else (none)) = some r := by first | (rw [hy123]; with_reducible exact H) | (have H2_ := (Option.bind_some _ _).symm.trans H; rw [hy123]; with_reducible exact H2_) | (have H2_ := (Option.bind_some _ _).symm.trans H; with_reducible exact H2_) | with_reducible exact H | (rw [hy123]; exact H) | exact H
 have Ny123 := X.A hy123
 clear hy123
 by_cases c2 : y123.length + l0.length < 17592186044416
 ·rw [if_pos c2] at H
  have LMc2 := X.A c2
  clear c2
  obtain ⟨y126, hy126⟩ : ∃ y_ : List Int, y_ = (y123 ++ l0) := ⟨_, rfl⟩
  replace H : (some y126) = some r := by first | (rw [hy126]; with_reducible exact H) | (have H2_ := (Option.bind_some _ _).symm.trans H; rw [hy126]; with_reducible exact H2_) | (have H2_ := (Option.bind_some _ _).symm.trans H; with_reducible exact H2_) | with_reducible exact H | (rw [hy126]; exact H) | exact H
  have Ny126 := X.A hy126
  clear hy126
  obtain rfl := Option.some.inj H
  go_enter Try.func40, Try.ntmps40
  go_wp2_with (first | ((with_reducible refine gate_dst (N := 3) rfl ?_); refine Kd.R_lit (Kd.int .i64) _ 3 ?hg (N := 3) ?hd (xs := ([] : List Int)) (inner := []) (ok := fun _ => True) (okp := fun _ => True) ?hr ?hp (fun _ hk => hk) trivial (Below.refl _ _) (Nat.le_refl _) (by simp) ?_; (case hd => rfl); (case hg => rfl); (case hr => exact X.R); (case hp => exact (Reps.none _ _)); intro v124 w3 ho4 hb hg_ hnew_; clear hg_ hnew_; (first | rw [← Ny123.out] at ho4 | (simp only [Int.reduceToNat] at ho4; rw [← Ny123.out] at ho4)); have n0_ := X.A (Kd.R_lower ho4 (below_size X.G)); have n1_ := X.A (below_step X.G hb); clear HB; have HO125 := n0_; have HB := n1_; clear n0_ n1_; clear hb ho4) | ((with_reducible refine gate_builtin (b := .append) (xs := #[.tmp 3, .tmp 4]) rfl ?_); at_builtin; refine Kd.R_append_rows (Kd.int .i64) (w0 := w) w.heap.size rfl (.tmp 3) (.tmp 4) 24 3 (.int .i64 0) 8 rfl Try.underlying24 info3 rfl (by decide) (by omega) v124 y123 l0 _ _ _ (fun _ => True) (fun _ => False) rfl rfl ?aO ?aR (fun _ _ h => h) (fun _ h => h.elim) ?aF ?aB ?aS ?aL ?_; (case aR => exact X.C (Kd.C_below HR0.out HB.out)); (case aB => exact X.G); (case aF => exact (fun _ _ => trivial)); (case aO => exact (X.K HO125)); (case aS => exact (below_size X.G)); (case aL => have := LMc2.out; omega); intro v127 w5 ho hb hg hat; rw [← Ny126.out] at ho; have n0_ := X.A (hb); have n1_ := X.A (ho); clear HB HO125; have HB := n0_; have HO128 := n1_; clear n0_ n1_; clear ho hb hg hat))
  go_ret
  exact ⟨_, by first | rfl | (simp [errW_none, errW_some] <;> rfl) | (simp [*, errW_none, errW_some] <;> rfl), by (with_reducible repeat (first | apply Kd.R_alloc | apply Kd.R_drewN | apply Kd.R_drew)); exact HO128.out, X.G⟩
 ·rw [if_neg c2] at H
  exact absurd H (by simp)

end Go.Proofs.Ytldeaeeolibpjaa.Q
