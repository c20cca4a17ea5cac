-- by wip/xprint.py, a program of this session over the kit's print: not trusted, Lean checks it.
import Derived.Test.YtldeaeeolibpjagXShort
import Derived.Test.YtldeaeeolibpjagQx0
import Derived.Test.YtldeaeeolibpjagQx8
namespace Go.Proofs.Ytldeaeeolibpjag.Q
open Go.RowKit Go.Proofs.YtldeaeeolibpjagW.PrintWords Go.Proofs.YtldeaeeolibpjagW.PrintLast Go.Proofs.YtldeaeeolibpjagW.PrintMore
attribute [local go_sem] max2_int min2_int max_two min_two max_three min_three max_four min_four   -- for this text's walks alone
set_option linter.unusedVariables false
set_option linter.unusedSimpArgs false

/-! ### impl_Places_behind: function 39 -/
def impl_Places_behind.l0 : Nat → Int → List Int → Int → Int → List Int → Int → Option (List Int × Int)
 | 0, _, _, _, _, _, _ => none
 | k + 1, x1, x15, x16, x17, x221000, x221001 => if x17 < x16 then (if 0 ≤ x17 then (if x17 < (x15.length : Int) then (if 0 ≤ (rd x15 x17) then (if (rd x15 x17) < (x221000.length : Int) then (impl_Places_behind.l0 k x1 x15 x16 (wrap64 (x17 + 1)) (x221000.set ((rd x15 x17) : Int).toNat x1) x221001) else (none)) else (none)) else (none)) else (none)) else (some (x221000, x221001))
def impl_Places_behind.f (k : Nat) (l0_0 : List Int) (a0_1 : Int) (a1 : Int) (l2 : List Int) : Option (List Int × Int) := (slices_Clone_int_int.f l0_0).bind fun t217 => (impl_Places_behind.l0 k a1 l2 (l2.length : Int) 0 t217 a1)
theorem impl_Places_behind.mono_l : ∀ k, (∀ y0 y1 y2 y3 y4 y5, LeO (impl_Places_behind.l0 k y0 y1 y2 y3 y4 y5) (impl_Places_behind.l0 (k + 1) y0 y1 y2 y3 y4 y5))
 | 0 => fun _ _ _ _ _ _ r h => by simp [impl_Places_behind.l0] at h
 | k + 1 => by
  have ih0 := impl_Places_behind.mono_l k
  ·intro y0 y1 y2 y3 y4 y5
   unfold impl_Places_behind.l0
   repeat' first
   | (with_reducible exact ih0 _ _ _ _ _ _)
   | (with_reducible exact LeO.refl _)
   | (with_reducible exact LeO.none _)
   | (with_reducible refine LeO.ite ?_ ?_)
   | (with_reducible refine LeO.bind ?_ (fun _ => ?_))
theorem impl_Places_behind.mono : ∀ a0 a1 a2 a3 k, LeO (impl_Places_behind.f k a0 a1 a2 a3) (impl_Places_behind.f (k + 1) a0 a1 a2 a3) := by
 intro a0 a1 a2 a3 k
 have ih0 := impl_Places_behind.mono_l k
 unfold impl_Places_behind.f
 repeat' first
   | (with_reducible exact ih0 _ _ _ _ _ _)
   | (with_reducible exact LeO.refl _)
   | (with_reducible exact LeO.none _)
   | (with_reducible refine LeO.ite ?_ ?_)
   | (with_reducible refine LeO.bind ?_ (fun _ => ?_))
set_option maxHeartbeats 8000000 in
set_option maxRecDepth 100000 in
theorem impl_Places_behind.calls (k : Nat) (A0_0 : Option Addr) (c0_0 : Nat) (l0_0 : List Int) (a0_1 : Int) (a1 : Int) (A2 : Option Addr) (c2 : Nat) (l2 : List Int) (r1 : List Int) (r2 : Int) (w : World) (hr0_0 : Kd.C (Kd.int .i64) w A0_0 l0_0.length l0_0) (hc0_0 : l0_0.length ≤ c0_0) (hr2 : Kd.C (Kd.int .i64) w A2 l2.length l2) (hc2 : l2.length ≤ c2) (h : impl_Places_behind.f k l0_0 a0_1 a1 l2 = some (r1, r2)) :
  Calls Try.prog 39 #[.agg #[.slice A0_0 l0_0.length c0_0, .int .i64 a0_1], .int .i64 a1, .slice A2 l2.length c2] w fun e w' => ∃ v0_ : Value, e = .returned (.agg #[v0_, .int .i64 r2]) ∧ Kd.R (Kd.int .i64) 3 w' w.heap.size (fun _ => True) v0_ r1 ∧ Below w.heap.size w w' := by
 have hu41 := Try.underlying41
 have HR0_0 := X.A hr0_0
 have HC0_0 := X.A hc0_0
 clear hr0_0 hc0_0
 have HR2 := X.A hr2
 have HC2 := X.A hc2
 clear hr2 hc2
 have HB := X.A (Below.refl w.heap.size w)
 have H : ((slices_Clone_int_int.f l0_0).bind fun t217 => (impl_Places_behind.l0 k a1 l2 (l2.length : Int) 0 t217 a1)) = some (r1, r2) := h
 clear h
 replace H := Option.bind_eq_some_iff.mp H
 obtain ⟨t217, A40, H⟩ := H
 replace H : (impl_Places_behind.l0 k a1 l2 (l2.length : Int) 0 t217 a1) = some (r1, r2) := H
 have A4 := X.A A40
 clear A40
 have H' := X.A H
 clear H
 go_enter Try.func39, Try.ntmps39
 go_wp2_with (first | ((with_reducible refine gate_dst (N := 3) rfl ?_); refine box_event ?hg (N := 3) ?hd (cs := #[.slice A0_0 l0_0.length c0_0, .int .i64 a0_1]) (t := 41) ?hr ?_; (case hd => rfl); (case hg => rfl); (case hr => exact X.R); intro gb215 hg w5 hbox hb; have n0_ := X.A (below_step X.G hb); have n1_ := X.A (hbox); have n2_ := X.A ((by rw [hg]; exact (below_size X.G) : w.heap.size ≤ gb215)); have n3_ := X.A ((by rw [hg]; exact (below_size X.G) : w.heap.size ≤ gb215)); clear HB; have HB := n0_; have BK215 := n1_; have GW215 := n2_; have GE215 := n3_; clear n0_ n1_ n2_ n3_; clear hb hbox hg) | ((with_reducible refine gate_dst (N := 6) rfl ?_); refine box_event ?hg (N := 6) ?hd (cs := #[.slice none 0 0, .int .i64 0]) (t := 41) ?hr ?_; (case hd => rfl); (case hg => rfl); (case hr => exact X.R); intro gb216 hg w6 hbox hb; have n0_ := X.A (X.BB BK215 hb); have n1_ := X.A (below_step X.G hb); have n2_ := X.A (hbox); have n3_ := X.A ((by rw [hg]; exact (below_size X.G) : w.heap.size ≤ gb216)); have n4_ := X.A ((by rw [hg]; exact (below_size X.G) : w.heap.size ≤ gb216)); have n5_ := X.A (X.NL hg BK215); have n6_ := X.A (X.NG hg BK215); clear BK215 HB; have BK215 := n0_; have HB := n1_; have BK216 := n2_; have GW216 := n3_; have GE216 := n4_; have NB215_216 := n5_; have NB216_215 := n6_; clear n0_ n1_ n2_ n3_ n4_ n5_ n6_ hb hbox hg; have hnb7 := NB215_216.out; have hnc7 := NB216_215.out; have hcz8_0 : w6.cell? ⟨gb215, 0, none⟩ = some (.slice A0_0 l0_0.length c0_0) := (blk_cell BK215.out 0).trans rfl; have hcz8_1 : w6.cell? ⟨gb215, 1, none⟩ = some (.int .i64 a0_1) := (blk_cell BK215.out 1).trans rfl; have hfz8_0 := blk_frozen BK215.out 0; have hfz8_1 := blk_frozen BK215.out 1) | ((with_reducible refine gate_callee (f := 25) rfl ?_); refine goesL_ (some 12) rfl rfl Try.func25 (by kernel_rfl) rfl #[.slice A0_0 l0_0.length c0_0] rfl X.M ?_; (with_reducible refine (slices_Clone_int_int.calls _ _ l0_0 t217 _ ?side1 ?side2 A4.out).mono ?_); (case side1 => exact X.C (Kd.C_below HR0_0.out HB.out)); (case side2 => exact HC0_0.out); rintro e w9 ⟨v218, rfl, ho0, hb⟩; refine ⟨_, rfl, ?_⟩; have n0_ := X.A (Kd.R_lower ho0 (below_size X.G)); have n1_ := X.A (X.BB BK215 hb); have n2_ := X.A (X.BB BK216 hb); have n3_ := X.A (below_step X.G hb); clear BK215 BK216 HB; have HO219 := n0_; have BK215 := n1_; have BK216 := n2_; have HB := n3_; clear n0_ n1_ n2_ n3_; (try clear hb); (try clear hb2); (try clear hk); (try clear hi); (try clear ho0); obtain ⟨Ao10, co10, eo10⟩ := Kd.R_slice HO219.out; subst eo10) | ((with_reducible refine gate_dst (N := 7) rfl ?_); refine box_event ?hg (N := 7) ?hd (cs := #[.slice none 0 0, .int .i64 0]) (t := 41) ?hr ?_; (case hd => rfl); (case hg => rfl); (case hr => exact X.R); intro gb220 hg w11 hbox hb; have n0_ := X.A (Kd.R_below (X.K HO219) hb); have n1_ := X.A (X.BB BK215 hb); have n2_ := X.A (X.BB BK216 hb); have n3_ := X.A (below_step X.G hb); have n4_ := X.A (hbox); have n5_ := X.A ((by rw [hg]; exact (below_size X.G) : w.heap.size ≤ gb220)); have n6_ := X.A ((by rw [hg]; exact (below_size X.G) : w.heap.size ≤ gb220)); have n7_ := X.A (X.NL hg BK215); have n8_ := X.A (X.NG hg BK215); have n9_ := X.A (X.NL hg BK216); have n10_ := X.A (X.NG hg BK216); clear HO219 BK215 BK216 HB; have HO219 := n0_; have BK215 := n1_; have BK216 := n2_; have HB := n3_; have BK220 := n4_; have GW220 := n5_; have GE220 := n6_; have NB215_220 := n7_; have NB220_215 := n8_; have NB216_220 := n9_; have NB220_216 := n10_; clear n0_ n1_ n2_ n3_ n4_ n5_ n6_ n7_ n8_ n9_ n10_ hb hbox hg; have hnb12 := NB220_215.out; have hnc12 := NB215_220.out; have hnb13 := NB220_216.out; have hnc13 := NB216_220.out; have hcz14_0 : w11.cell? ⟨gb220, 0, none⟩ = some (.slice none 0 0) := (blk_cell BK220.out 0).trans rfl; have hcz14_1 : w11.cell? ⟨gb220, 1, none⟩ = some (.int .i64 0) := (blk_cell BK220.out 1).trans rfl; have hfz14_0 := blk_frozen BK220.out 0; have hfz14_1 := blk_frozen BK220.out 1))
 go_loopg [17] k (fun kq v17 w' => ∃ (x17_1 : Int) (x221000_1 : List Int) (u221000 : Value), v17 = .int .i64 x17_1 ∧ Aside0 (impl_Places_behind.l0 kq a1 l2 (l2.length : Int) x17_1 x221000_1 a1 = some (r1, r2)) ∧ Aside0 (kq ≤ k) ∧ Aside0 (Kd.R (Kd.int .i64) 3 w' w.heap.size (fun _ => True) u221000 x221000_1) ∧ Aside0 (w'.heap[gb215]? = some (.cells #[(.slice A0_0 l0_0.length c0_0), .int .i64 a0_1] 41 (0, 0))) ∧ Aside0 (w'.heap[gb216]? = some (.cells #[(.slice none 0 0), .int .i64 0] 41 (0, 0))) ∧ Aside0 (w'.heap[gb220]? = some (.cells #[u221000, .int .i64 a1] 41 (0, 0))) ∧ Aside0 (Below w.heap.size w w'))
 case atStart => exact ⟨(0), (t217), (.slice Ao10 t217.length co10), (by first | rfl | (simp; done) | (simp [*]; done)), H', ⟨Nat.le_refl _⟩, ⟨by (with_reducible repeat (first | apply Kd.R_alloc | apply Kd.R_drewN | apply Kd.R_drew)); exact Kd.R_mono (Kd.R_far (p := ⟨gb220, 1, none⟩) (Kd.R_far (p := ⟨gb220, 0, none⟩) (Kd.R_types HO219.out BK220.out (by decide)) (fun _ hk => hk.2) (.slice Ao10 t217.length co10)) (fun _ hk => hk.2) (.int .i64 a1)) (fun _ hk => trivial)⟩, ⟨by (with_reducible repeat (first | refine blk_drewN ?_ _ | refine blk_drew ?_ | refine blk_alloc ?_ _)); refine blk_far ?_ NB215_220.out _; (with_reducible repeat (first | refine blk_drewN ?_ _ | refine blk_drew ?_ | refine blk_alloc ?_ _)); refine blk_far ?_ NB215_220.out _; (with_reducible repeat (first | refine blk_drewN ?_ _ | refine blk_drew ?_ | refine blk_alloc ?_ _)); exact BK215.out⟩, ⟨by (with_reducible repeat (first | refine blk_drewN ?_ _ | refine blk_drew ?_ | refine blk_alloc ?_ _)); refine blk_far ?_ NB216_220.out _; (with_reducible repeat (first | refine blk_drewN ?_ _ | refine blk_drew ?_ | refine blk_alloc ?_ _)); refine blk_far ?_ NB216_220.out _; (with_reducible repeat (first | refine blk_drewN ?_ _ | refine blk_drew ?_ | refine blk_alloc ?_ _)); exact BK216.out⟩, ⟨by (with_reducible repeat (first | refine blk_drewN ?_ _ | refine blk_drew ?_ | refine blk_alloc ?_ _)); refine blk_put (cs := #[.slice Ao10 t217.length co10, .int .i64 0]) ?_ 1 _ rfl; (with_reducible repeat (first | refine blk_drewN ?_ _ | refine blk_drew ?_ | refine blk_alloc ?_ _)); refine blk_put (cs := #[.slice none 0 0, .int .i64 0]) ?_ 0 _ rfl; (with_reducible repeat (first | refine blk_drewN ?_ _ | refine blk_drew ?_ | refine blk_alloc ?_ _)); exact BK220.out⟩, ⟨X.G⟩⟩
 case round =>
  clear H'
  try clear c1
  try clear c2
  try clear p2
  try clear c3
  try clear c7
  try clear c12
  try clear c13
  try clear hcz14_0
  try clear hcz14_1
  try clear hcz8_0
  try clear hcz8_1
  try clear hfz14_0
  try clear hfz14_1
  try clear hfz8_0
  try clear hfz8_1
  obtain ⟨x17_1, x221000_1, u221000, rfl, HA, HK1, HO_221000, BK215, BK216, BK220, HB⟩ := hrel
  cases gk with
  | zero => exact absurd HA.out (by simp [impl_Places_behind.l0])
  | succ k1 =>
   have H := HA.out
   clear HA
   simp only [impl_Places_behind.l0] at H
   by_cases c15 : x17_1 < (l2.length : Int)
   ·rw [if_pos c15] at H
    have c15b0 : decide (x17_1 < (l2.length : Int)) = true := decide_eq_true c15
    clear c15
    by_cases c16 : 0 ≤ x17_1
    rotate_left
    ·rw [if_neg c16] at H
     exact absurd H (by simp)
    rw [if_pos c16] at H
    have c16b0 : decide (0 ≤ x17_1) = true := decide_eq_true c16
    clear c16
    by_cases c17 : x17_1 < (l2.length : Int)
    rotate_left
    ·rw [if_neg c17] at H
     exact absurd H (by simp)
    rw [if_pos c17] at H
    have c17b0 : decide (x17_1 < (l2.length : Int)) = true := decide_eq_true c17
    clear c17
    by_cases c18 : 0 ≤ (rd l2 x17_1)
    rotate_left
    ·rw [if_neg c18] at H
     exact absurd H (by simp)
    rw [if_pos c18] at H
    have c18b0 : decide (0 ≤ (rd l2 x17_1)) = true := decide_eq_true c18
    clear c18
    by_cases c19 : (rd l2 x17_1) < (x221000_1.length : Int)
    rotate_left
    ·rw [if_neg c19] at H
     exact absurd H (by simp)
    rw [if_pos c19] at H
    have c19b0 : decide ((rd l2 x17_1) < (x221000_1.length : Int)) = true := decide_eq_true c19
    clear c19
    obtain ⟨y222, hy222⟩ : ∃ y_ : List Int, y_ = (x221000_1.set ((rd l2 x17_1) : Int).toNat a1) := ⟨_, rfl⟩
    replace H : (impl_Places_behind.l0 k1 a1 l2 (l2.length : Int) (wrap64 (x17_1 + 1)) y222 a1) = some (r1, r2) := by first | (rw [hy222]; with_reducible exact H) | (have H2_ := (Option.bind_some _ _).symm.trans H; rw [hy222]; with_reducible exact H2_) | (have H2_ := (Option.bind_some _ _).symm.trans H; with_reducible exact H2_) | with_reducible exact H | (rw [hy222]; exact H) | exact H
    have Ny222 := X.A hy222
    clear hy222
    have H' := X.A H
    clear H
    have p221 : 0 ≤ (x17_1 : Int) := X.D
    have q221 : x17_1 < (l2.length : Int) := X.D
    obtain ⟨ad221, e221, hx221_0⟩ := Kd.at_int HR2.out x17_1 p221 q221
    cases e221
    replace hx221_0 := (HB.out.cell (World.block_lt_of_cell? w _ hx221_0)).trans hx221_0
    replace p221 := eq_true p221
    replace q221 := eq_true q221
    have hnb21 := NB220_215.out
    have hnc21 := NB215_220.out
    have hnb22 := NB220_216.out
    have hnc22 := NB216_220.out
    have hcz23_0 : wr.cell? ⟨gb220, 0, none⟩ = some (u221000) := (blk_cell BK220.out 0).trans rfl
    have hcz23_1 : wr.cell? ⟨gb220, 1, none⟩ = some (.int .i64 a1) := (blk_cell BK220.out 1).trans rfl
    have hfz23_0 := blk_frozen BK220.out 0
    have hfz23_1 := blk_frozen BK220.out 1
    have p20 : 0 ≤ ((rd l2 x17_1) : Int) := X.D
    have q20 : ((rd l2 x17_1) : Int) < ((x221000_1.length : Int) : Int) := X.D
    obtain ⟨go20, co20, eo20, gb20, gl20, cl20, HG20⟩ := Kd.R_form HO_221000.out (by omega)
    (first | cases eo20 | (injection eo20 with ea_ en_ ec_; (first | subst ea_ | (injection ea_ with ea_; subst ea_)); subst ec_; clear en_))
    have GB20 := X.A gb20
    have GG20 := X.A HG20
    clear gb20 gl20 HG20
    obtain ⟨hx20_0, hf20_0⟩ := Kd.R_celln 0 HO_221000.out ((rd l2 x17_1) : Int) p20 q20
    replace p20 := eq_true p20
    replace q20 := eq_true q20
    have HP24 := Kd.R_putg HO_221000.out ((rd l2 x17_1) : Int) a1
    go_wp2_with (first | ((with_reducible refine gate_store (t := 3) (p := 25) rfl ?_); refine store_event (t := 3) (p := 25) (v := ?vo_w25) (w1 := (wr.setCell ⟨go20, ((rd l2 x17_1) : Int).toNat, none⟩ (.int .i64 a1))) ?hg ?ho ?hn ?hr ?_; (case ho => rfl); (case hg => rfl); (case hn => rfl); (case hr => exact X.R); intro w25 hw; have hg : wr.grownBy w25 (some go20) := (by rw [hw]; exact HP24.2); have hp_ : Kd.R (Kd.int .i64) 3 w25 w.heap.size (fun _ => True) (.slice (some ⟨go20, 0, none⟩) x221000_1.length co20) y222 := (by rw [hw, Ny222.out]; exact HP24.1); clear HP24; have n0_ := X.A (hp_); have n1_ := X.A (blk_grown (g := gb215) (o := .cells #[.slice A0_0 l0_0.length c0_0, .int .i64 a0_1] 41 (0, 0)) (X.B BK215) hg (Kd.R_ne HO_221000.out BK215.out (by decide))); have n2_ := X.A (blk_grown (g := gb216) (o := .cells #[.slice none 0 0, .int .i64 0] 41 (0, 0)) (X.B BK216) hg (Kd.R_ne HO_221000.out BK216.out (by decide))); have n3_ := X.A (blk_grown (g := gb220) (o := .cells #[.slice (some ⟨go20, 0, none⟩) x221000_1.length co20, .int .i64 a1] 41 (0, 0)) (X.B BK220) hg (Kd.R_ne HO_221000.out BK220.out (by decide))); have n4_ := X.A ((by rw [hw]; exact below_set (HB.out) GB20.out : Below w.heap.size w w25)); clear HO_221000 BK215 BK216 BK220 HB; have HO_221000 := n0_; have BK215 := n1_; have BK216 := n2_; have BK220 := n3_; have HB := n4_; clear n0_ n1_ n2_ n3_ n4_; clear hg hw hp_))
    go_roundg k1
    case measure => have := HK1.out; omega
    case rel => exact ⟨(wrap64 (x17_1 + 1)), (y222), (.slice (some ⟨go20, 0, none⟩) x221000_1.length co20), (by first | rfl | (simp; done) | (simp [*]; done)), H', ⟨by have := HK1.out; omega⟩, ⟨by (with_reducible repeat (first | apply Kd.R_alloc | apply Kd.R_drewN | apply Kd.R_drew)); exact HO_221000.out⟩, ⟨X.B BK215⟩, ⟨X.B BK216⟩, ⟨X.B BK220⟩, ⟨X.G⟩⟩
   ·rw [if_neg c15] at H
    have c15b0 : decide (x17_1 < (l2.length : Int)) = false := decide_eq_false c15
    clear c15
    simp only [Option.some.injEq, Prod.mk.injEq] at H
    obtain ⟨rfl, rfl⟩ := H
    have hnb26 := NB220_215.out
    have hnc26 := NB215_220.out
    have hnb27 := NB220_216.out
    have hnc27 := NB216_220.out
    have hcz28_0 : wr.cell? ⟨gb220, 0, none⟩ = some (u221000) := (blk_cell BK220.out 0).trans rfl
    have hcz28_1 : wr.cell? ⟨gb220, 1, none⟩ = some (.int .i64 a1) := (blk_cell BK220.out 1).trans rfl
    have hfz28_0 := blk_frozen BK220.out 0
    have hfz28_1 := blk_frozen BK220.out 1
    obtain ⟨Ao29, co29, eo29⟩ := Kd.R_slice HO_221000.out
    subst eo29
    have hnb30 := NB216_215.out
    have hnc30 := NB215_216.out
    have hcz31_0 : wr.cell? ⟨gb216, 0, none⟩ = some (.slice none 0 0) := (blk_cell BK216.out 0).trans rfl
    have hcz31_1 : wr.cell? ⟨gb216, 1, none⟩ = some (.int .i64 0) := (blk_cell BK216.out 1).trans rfl
    have hfz31_0 := blk_frozen BK216.out 0
    have hfz31_1 := blk_frozen BK216.out 1
    go_wp2
    refine bodyPost_ret (results_cell_row rfl _ _ gb216 41 #[.slice Ao29 x221000_1.length co29, .int .i64 a1] (0, 0) _ rfl (by (with_reducible repeat (first | refine blk_drewN ?_ _ | refine blk_drew ?_ | refine blk_alloc ?_ _)); refine blk_put (cs := #[.slice Ao29 x221000_1.length co29, .int .i64 0]) ?_ 1 _ rfl; (with_reducible repeat (first | refine blk_drewN ?_ _ | refine blk_drew ?_ | refine blk_alloc ?_ _)); refine blk_put (cs := #[.slice none 0 0, .int .i64 0]) ?_ 0 _ rfl; (with_reducible repeat (first | refine blk_drewN ?_ _ | refine blk_drew ?_ | refine blk_alloc ?_ _)); exact BK216.out) Try.underlying41 rfl (by kernel_rfl)) rfl ?_
    exact ⟨_, by first | rfl | (simp [errW_none, errW_some] <;> rfl) | (simp [*, errW_none, errW_some] <;> rfl), by (with_reducible repeat (first | apply Kd.R_alloc | apply Kd.R_drewN | apply Kd.R_drew)); exact Kd.R_mono (Kd.R_far (p := ⟨gb216, 1, none⟩) (Kd.R_far (p := ⟨gb216, 0, none⟩) (Kd.R_types HO_221000.out BK216.out (by decide)) (fun _ hk => hk.2) (.slice Ao29 x221000_1.length co29)) (fun _ hk => hk.2) (.int .i64 a1)) (fun _ hk => trivial), X.G⟩

/-! ### impl_Isles_people: function 41 -/
def impl_Isles_people.f (a0_0 : Int) (a0_1 : Int) (a0_2 : Int) : Option (Int) := some (wrap64 (2 * a0_0))
set_option maxHeartbeats 8000000 in
set_option maxRecDepth 100000 in
theorem impl_Isles_people.calls (a0_0 : Int) (a0_1 : Int) (a0_2 : Int) (r : Int) (w : World) (h : impl_Isles_people.f a0_0 a0_1 a0_2 = some r) :
  Calls Try.prog 41 #[.agg #[.int .i64 a0_0, .int .i64 a0_1, .int .i64 a0_2]] w fun e w' => e = .returned (.int .i64 r) ∧ Below w.heap.size w w' := by
 have hu29 := Try.underlying29
 have HB := X.A (Below.refl w.heap.size w)
 have H : (some (wrap64 (2 * a0_0))) = some r := h
 clear h
 obtain rfl := Option.some.inj H
 go_enter Try.func41, Try.ntmps41
 go_wp2_with (first | ((with_reducible refine gate_dst (N := 1) rfl ?_); refine box_event ?hg (N := 1) ?hd (cs := #[.int .i64 a0_0, .int .i64 a0_1, .int .i64 a0_2]) (t := 29) ?hr ?_; (case hd => rfl); (case hg => rfl); (case hr => exact X.R); intro gb223 hg w2 hbox hb; have n0_ := X.A (below_step X.G hb); have n1_ := X.A (hbox); have n2_ := X.A ((by rw [hg]; exact (below_size X.G) : w.heap.size ≤ gb223)); have n3_ := X.A ((by rw [hg]; exact (below_size X.G) : w.heap.size ≤ gb223)); clear HB; have HB := n0_; have BK223 := n1_; have GW223 := n2_; have GE223 := n3_; clear n0_ n1_ n2_ n3_ hb hbox hg; have hcz3_0 : w2.cell? ⟨gb223, 0, none⟩ = some (.int .i64 a0_0) := (blk_cell BK223.out 0).trans rfl; have hcz3_1 : w2.cell? ⟨gb223, 1, none⟩ = some (.int .i64 a0_1) := (blk_cell BK223.out 1).trans rfl; have hcz3_2 : w2.cell? ⟨gb223, 2, none⟩ = some (.int .i64 a0_2) := (blk_cell BK223.out 2).trans rfl; have hfz3_0 := blk_frozen BK223.out 0; have hfz3_1 := blk_frozen BK223.out 1; have hfz3_2 := blk_frozen BK223.out 2))
 go_ret
 exact ⟨by first | rfl | (simp [errW_none, errW_some] <;> rfl) | (simp [*, errW_none, errW_some] <;> rfl), X.G⟩

end Go.Proofs.Ytldeaeeolibpjag.Q
