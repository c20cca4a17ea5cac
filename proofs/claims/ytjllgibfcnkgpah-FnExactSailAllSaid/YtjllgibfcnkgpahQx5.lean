-- by wip/xprint.py, a program of this session over the kit's print: not trusted, Lean checks it.
import Derived.Test.YtjllgibfcnkgpahXShort
import Derived.Test.YtjllgibfcnkgpahQx0
import Derived.Test.YtjllgibfcnkgpahQx2
import Derived.Test.YtjllgibfcnkgpahQx4
namespace Go.Proofs.Ytjllgibfcnkgpah.Q
open Go.RowKit Go.Proofs.YtjllgibfcnkgpahW.PrintWords Go.Proofs.YtjllgibfcnkgpahW.PrintLast Go.Proofs.YtjllgibfcnkgpahW.PrintMore
attribute [local go_sem] max2_int min2_int max_two min_two max_three min_three max_four min_four   -- for this text's walks alone
set_option linter.unusedVariables false
set_option linter.unusedSimpArgs false

/-! ### spec_isPlay: function 19 -/
def spec_isPlay.l0 : Nat → List (S51) → List (S51) → Int → Int → Int → Int → Int → List Int → Int → Option (List Int × Int × Int)
 | 0, _, _, _, _, _, _, _, _, _ => none
 | k + 1, x2, x16, x17, x18, x162000, x162001, x162002, x163000, x163001 => if x18 < x17 then (if 0 ≤ x18 then (if x18 < (x16.length : Int) then ((spec_isCan.f k x162000 x162001 x162002 x163000 x163001 ((rd_T51 x16 x18).f0) ((rd_T51 x16 x18).f1)).bind fun t169 => (if t169 = true then ((spec_isSail.f k x163000 x163001 ((rd_T51 x16 x18).f0) ((rd_T51 x16 x18).f1)).bind fun bt170 => (spec_isPlay.l0 k x2 x16 x17 (wrap64 (x18 + 1)) x162000 x162001 x162002 bt170.1 bt170.2)) else (some (x163000, x163001, x18)))) else (none)) else (none)) else (some (x163000, x163001, (x2.length : Int)))
def spec_isPlay.f (k : Nat) (a0_0 : Int) (a0_1 : Int) (a0_2 : Int) (l1_0 : List Int) (a1_1 : Int) (l2 : List (S51)) : Option (List Int × Int × Int) := (spec_l1Own.f l1_0).bind fun t164 => (spec_isPlay.l0 k l2 l2 (l2.length : Int) 0 a0_0 a0_1 a0_2 t164 a1_1)
theorem spec_isPlay.mono_l : ∀ k, (∀ y0 y1 y2 y3 y4 y5 y6 y7 y8, LeO (spec_isPlay.l0 k y0 y1 y2 y3 y4 y5 y6 y7 y8) (spec_isPlay.l0 (k + 1) y0 y1 y2 y3 y4 y5 y6 y7 y8))
 | 0 => fun _ _ _ _ _ _ _ _ _ r h => by simp [spec_isPlay.l0] at h
 | k + 1 => by
  have ih0 := spec_isPlay.mono_l k
  ·intro y0 y1 y2 y3 y4 y5 y6 y7 y8
   unfold spec_isPlay.l0
   repeat' first
   | (with_reducible exact ih0 _ _ _ _ _ _ _ _ _)
   | (with_reducible exact spec_isCan.mono _ _ _ _ _ _ _ _)
   | (with_reducible exact spec_isSail.mono _ _ _ _ _)
   | (with_reducible exact LeO.refl _)
   | (with_reducible exact LeO.none _)
   | (with_reducible refine LeO.ite ?_ ?_)
   | (with_reducible refine LeO.bind ?_ (fun _ => ?_))
theorem spec_isPlay.mono : ∀ a0 a1 a2 a3 a4 a5 k, LeO (spec_isPlay.f k a0 a1 a2 a3 a4 a5) (spec_isPlay.f (k + 1) a0 a1 a2 a3 a4 a5) := by
 intro a0 a1 a2 a3 a4 a5 k
 have ih0 := spec_isPlay.mono_l k
 unfold spec_isPlay.f
 repeat' first
   | (with_reducible exact ih0 _ _ _ _ _ _ _ _ _)
   | (with_reducible exact spec_isCan.mono _ _ _ _ _ _ _ _)
   | (with_reducible exact spec_isSail.mono _ _ _ _ _)
   | (with_reducible exact LeO.refl _)
   | (with_reducible exact LeO.none _)
   | (with_reducible refine LeO.ite ?_ ?_)
   | (with_reducible refine LeO.bind ?_ (fun _ => ?_))
set_option maxHeartbeats 8000000 in
set_option maxRecDepth 100000 in
theorem spec_isPlay.calls (k : Nat) (a0_0 : Int) (a0_1 : Int) (a0_2 : Int) (A1_0 : Option Addr) (c1_0 : Nat) (l1_0 : List Int) (a1_1 : Int) (A2 : Option Addr) (c2 : Nat) (l2 : List (S51)) (r1 : List Int) (r2 : Int) (r3 : Int) (w : World) (hr1_0 : Kd.C (Kd.int .i64) w A1_0 l1_0.length l1_0) (hc1_0 : l1_0.length ≤ c1_0) (hr2 : Kd.C k51 w A2 l2.length l2) (hc2 : l2.length ≤ c2) (h : spec_isPlay.f k a0_0 a0_1 a0_2 l1_0 a1_1 l2 = some (r1, r2, r3)) :
  Calls Try.prog 19 #[.agg #[.int .i64 a0_0, .int .i64 a0_1, .int .i64 a0_2], .agg #[.slice A1_0 l1_0.length c1_0, .int .i64 a1_1], .slice A2 l2.length c2] w fun e w' => ∃ v0_ : Value, e = .returned (.tuple #[.agg #[v0_, .int .i64 r2], .int .i64 r3]) ∧ Kd.R (Kd.int .i64) 3 w' w.heap.size (fun _ => True) v0_ r1 ∧ Below w.heap.size w w' := by
 have hu33 := Try.underlying33
 have hu30 := Try.underlying30
 have hu51 := Try.underlying51
 have HR1_0 := X.A hr1_0
 have HC1_0 := X.A hc1_0
 clear hr1_0 hc1_0
 have HR2 := X.A hr2
 have HC2 := X.A hc2
 clear hr2 hc2
 have HB := X.A (Below.refl w.heap.size w)
 have H : ((spec_l1Own.f l1_0).bind fun t164 => (spec_isPlay.l0 k l2 l2 (l2.length : Int) 0 a0_0 a0_1 a0_2 t164 a1_1)) = some (r1, r2, r3) := h
 clear h
 replace H := Option.bind_eq_some_iff.mp H
 obtain ⟨t164, A40, H⟩ := H
 replace H : (spec_isPlay.l0 k l2 l2 (l2.length : Int) 0 a0_0 a0_1 a0_2 t164 a1_1) = some (r1, r2, r3) := H
 have A4 := X.A A40
 clear A40
 have H' := X.A H
 clear H
 go_enter Try.func19, Try.ntmps19
 try go_wp2_with (first | ((with_reducible refine gate_dst (N := 3) rfl ?_); refine box_event ?hg (N := 3) ?hd (cs := #[.int .i64 a0_0, .int .i64 a0_1, .int .i64 a0_2]) (t := 33) ?hr ?_; (case hd => rfl); (case hg => rfl); (case hr => exact X.R); intro gb161 hg w5 hbox hb; have n0_ := X.A (below_step X.G hb); have n1_ := X.A (hbox); have n2_ := X.A ((by rw [hg]; exact (below_size X.G) : w.heap.size ≤ gb161)); have n3_ := X.A ((by rw [hg]; exact (below_size X.G) : w.heap.size ≤ gb161)); clear HB; have HB := n0_; have BK161 := n1_; have GW161 := n2_; have GE161 := n3_; clear n0_ n1_ n2_ n3_; clear hb hbox hg) | ((with_reducible refine gate_dst (N := 4) rfl ?_); refine box_event ?hg (N := 4) ?hd (cs := #[.slice A1_0 l1_0.length c1_0, .int .i64 a1_1]) (t := 30) ?hr ?_; (case hd => rfl); (case hg => rfl); (case hr => exact X.R); intro gb162 hg w6 hbox hb; have n0_ := X.A (X.BB BK161 hb); have n1_ := X.A (below_step X.G hb); have n2_ := X.A (hbox); have n3_ := X.A ((by rw [hg]; exact (below_size X.G) : w.heap.size ≤ gb162)); have n4_ := X.A ((by rw [hg]; exact (below_size X.G) : w.heap.size ≤ gb162)); have n5_ := X.A (X.NL hg BK161); have n6_ := X.A (X.NG hg BK161); clear BK161 HB; have BK161 := n0_; have HB := n1_; have BK162 := n2_; have GW162 := n3_; have GE162 := n4_; have NB161_162 := n5_; have NB162_161 := n6_; clear n0_ n1_ n2_ n3_ n4_ n5_ n6_; clear hb hbox hg) | ((with_reducible refine gate_dst (N := 6) rfl ?_); refine box_event ?hg (N := 6) ?hd (cs := #[.slice none 0 0, .int .i64 0]) (t := 30) ?hr ?_; (case hd => rfl); (case hg => rfl); (case hr => exact X.R); intro gb163 hg w7 hbox hb; have n0_ := X.A (X.BB BK161 hb); have n1_ := X.A (X.BB BK162 hb); have n2_ := X.A (below_step X.G hb); have n3_ := X.A (hbox); have n4_ := X.A ((by rw [hg]; exact (below_size X.G) : w.heap.size ≤ gb163)); have n5_ := X.A ((by rw [hg]; exact (below_size X.G) : w.heap.size ≤ gb163)); have n6_ := X.A (X.NL hg BK161); have n7_ := X.A (X.NG hg BK161); have n8_ := X.A (X.NL hg BK162); have n9_ := X.A (X.NG hg BK162); clear BK161 BK162 HB; have BK161 := n0_; have BK162 := n1_; have HB := n2_; have BK163 := n3_; have GW163 := n4_; have GE163 := n5_; have NB161_163 := n6_; have NB163_161 := n7_; have NB162_163 := n8_; have NB163_162 := n9_; clear n0_ n1_ n2_ n3_ n4_ n5_ n6_ n7_ n8_ n9_; clear hb hbox hg))
 have n0_ := X.A (blk_drew BK161.out)
 have n1_ := X.A (blk_drew BK162.out)
 have n2_ := X.A (blk_drew BK163.out)
 have n3_ := X.A (below_drew1 HB.out)
 clear BK161 BK162 BK163 HB
 have BK161 := n0_
 have BK162 := n1_
 have BK163 := n2_
 have HB := n3_
 clear n0_ n1_ n2_ n3_
 refine start_ (n := 7) (S := fun w' => w'.cell? ⟨gb162, 0, none⟩ = some (.slice A1_0 l1_0.length c1_0) ∧ w'.cell? ⟨gb162, 1, none⟩ = some (.int .i64 a1_1)) (ds := [6]) #[false, false, false, false, false, false, false] (by kernel_rfl) rfl rfl ⟨(blk_cell BK162.out 0).trans rfl, (blk_cell BK162.out 1).trans rfl⟩ (fun hHeld => ?_)
 generalize w7.drew = w8 at BK161 BK162 BK163 HB hHeld ⊢
 refine pure_ (i := 0) (N := some 10) (v := ?_) (a' := ?_) #[true, false, false, false, false, false, false] rfl rfl (by kernel_rfl) (fun _ _ _ h => h) (Or.inl ⟨by rfl, ?_⟩) ?_ ?_
 rotate_left
 ·intro w'
  go_simp
  with_reducible rfl
 rotate_left
 ·exact X.Pu
 refine pure_ (i := 3) (N := some 13) (v := ?_) (a' := ?_) #[true, false, false, true, false, false, false] rfl rfl (by kernel_rfl) (fun _ _ _ h => h) (Or.inl ⟨by rfl, ?_⟩) ?_ ?_
 rotate_left
 ·intro w'
  go_simp
  with_reducible rfl
 rotate_left
 ·exact X.Pu
 refine take_ (i := 1) (N := some 11) (v := ?_) (a' := ?_) #[true, true, false, true, false, false, false] rfl rfl (by kernel_rfl) (fun _ _ _ h => h) (Or.inl ⟨by rfl, ?_⟩) hHeld ?_ ?_
 rotate_left
 ·rintro w' ⟨s0, s1⟩
  go_simp
  with_reducible rfl
 rotate_left
 ·exact X.Pu
 refine take_ (i := 4) (N := some 14) (v := ?_) (a' := ?_) #[true, true, false, true, true, false, false] rfl rfl (by kernel_rfl) (fun _ _ _ h => h) (Or.inl ⟨by rfl, ?_⟩) hHeld ?_ ?_
 rotate_left
 ·rintro w' ⟨s0, s1⟩
  go_simp
  with_reducible rfl
 rotate_left
 ·exact X.Pu
 refine one_ (i := 2) (N := some 12) #[true, true, true, true, true, false, false] rfl rfl (by kernel_rfl) (by decide) (fun K hK => ?_)
 refine goes_ Try.func30 (by kernel_rfl) rfl #[.slice A1_0 l1_0.length c1_0] (by rfl) rfl rfl X.M ?_
 with_reducible refine (spec_l1Own.calls _ _ l1_0 t164 _ ?side1 ?side2 A4.out).mono ?_
 (case side1 => exact X.C (Kd.C_below HR1_0.out HB.out))
 (case side2 => exact HC1_0.out)
 rintro e w9 ⟨v165, rfl, ho0, hb⟩
 refine ⟨_, rfl, ?_⟩
 have n0_ := X.A (Kd.R_lower ho0 (below_size X.G))
 have n1_ := X.A (X.BB BK161 hb)
 have n2_ := X.A (X.BB BK162 hb)
 have n3_ := X.A (X.BB BK163 hb)
 have n4_ := X.A (below_step X.G hb)
 clear BK161 BK162 BK163 HB
 have HO166 := n0_
 have BK161 := n1_
 have BK162 := n2_
 have BK163 := n3_
 have HB := n4_
 clear n0_ n1_ n2_ n3_ n4_
 (try clear hb)
 (try clear hb2)
 (try clear hk)
 (try clear hi)
 (try clear ho0)
 obtain ⟨Ao10, co10, eo10⟩ := Kd.R_slice HO166.out
 (first | subst eo10 | (injection eo10 with f1_ f2_ f3_; have f4_ := f1_.symm; have f5_ := f3_.symm; clear f1_ f2_ f3_; subst f4_; subst f5_))
 refine hK.out _ _ ⟨(blk_cell BK162.out 0).trans rfl, (blk_cell BK162.out 1).trans rfl⟩ (fun hHeld => ?_)
 clear hK K
 refine norm_ (a' := ?_) ?_ ?_
 rotate_left
 ·exact (show Act.put _ (some 12) _ = _ from X.Pu)
 refine pure_ (i := 5) (N := some 15) (v := ?_) (a' := ?_) #[true, true, true, true, true, true, false] rfl rfl (by kernel_rfl) (fun _ _ _ h => h) (Or.inl ⟨by rfl, ?_⟩) ?_ ?_
 rotate_left
 ·intro w'
  go_simp
  with_reducible rfl
 rotate_left
 ·exact X.Pu
 refine last_ (i := 6) (N := none) #[true, true, true, true, true, true, true] rfl rfl (by kernel_rfl) (by decide) (fun K hK => ?_)
 have hs11 : w9.cell? ⟨gb162, 0, none⟩ = some (.slice A1_0 l1_0.length c1_0) := (blk_cell BK162.out 0).trans rfl
 have hfs11 := blk_frozen BK162.out 0
 have hns11_0 := NB161_162.out
 have hns11_2 := NB163_162.out
 have hms11_0 := NB162_161.out
 have hms11_2 := NB162_163.out
 have hs12 : w9.cell? ⟨gb162, 1, none⟩ = some (.int .i64 a1_1) := (blk_cell BK162.out 1).trans rfl
 have hfs12 := blk_frozen BK162.out 1
 have hns12_0 := NB161_162.out
 have hns12_2 := NB163_162.out
 have hms12_0 := NB162_161.out
 have hms12_2 := NB162_163.out
 refine skip_ (w1 := ?_) (by rfl) rfl ?_ ?_
 rotate_left
 ·go_simp
  rfl
 refine hK.out _ _ ?_
 clear hK K
 refine done_ (by kernel_rfl) ?_
 try go_wp2
 go_loopg [18] k (fun kq v18 w' => ∃ (x18_1 : Int) (x163000_1 : List Int) (x163001_1 : Int) (x164001_1 : Int) (u163000 : Value), v18 = .int .i64 x18_1 ∧ Aside0 (spec_isPlay.l0 kq l2 l2 (l2.length : Int) x18_1 a0_0 a0_1 a0_2 x163000_1 x163001_1 = some (r1, r2, r3)) ∧ Aside0 (kq ≤ k) ∧ Aside0 (Kd.R (Kd.int .i64) 3 w' w.heap.size (fun _ => True) u163000 x163000_1) ∧ Aside0 (w'.heap[gb161]? = some (.cells #[.int .i64 a0_0, .int .i64 a0_1, .int .i64 a0_2] 33 (0, 0))) ∧ Aside0 (w'.heap[gb162]? = some (.cells #[u163000, .int .i64 x163001_1] 30 (0, 0))) ∧ Aside0 (w'.heap[gb163]? = some (.cells #[(.slice none 0 0), .int .i64 x164001_1] 30 (0, 0))) ∧ Aside0 (Below w.heap.size w w'))
 case atStart => exact ⟨(0), (t164), (a1_1), (0), (.slice Ao10 t164.length co10), (by first | rfl | (simp; done) | (simp [*]; done)), H', ⟨Nat.le_refl _⟩, ⟨by (with_reducible repeat (first | apply Kd.R_alloc | apply Kd.R_drewN | apply Kd.R_drew)); exact Kd.R_mono (Kd.R_far (p := ⟨gb162, 1, none⟩) (Kd.R_far (p := ⟨gb162, 0, none⟩) (Kd.R_types HO166.out BK162.out (by decide)) (fun _ hk => hk.2) (.slice Ao10 t164.length co10)) (fun _ hk => hk.2) (.int .i64 a1_1)) (fun _ hk => trivial)⟩, ⟨by (with_reducible repeat (first | refine blk_drewN ?_ _ | refine blk_drew ?_ | refine blk_alloc ?_ _)); refine blk_far ?_ NB161_162.out _; (with_reducible repeat (first | refine blk_drewN ?_ _ | refine blk_drew ?_ | refine blk_alloc ?_ _)); refine blk_far ?_ NB161_162.out _; (with_reducible repeat (first | refine blk_drewN ?_ _ | refine blk_drew ?_ | refine blk_alloc ?_ _)); exact BK161.out⟩, ⟨by (with_reducible repeat (first | refine blk_drewN ?_ _ | refine blk_drew ?_ | refine blk_alloc ?_ _)); refine blk_put (cs := #[.slice Ao10 t164.length co10, .int .i64 a1_1]) ?_ 1 _ rfl; (with_reducible repeat (first | refine blk_drewN ?_ _ | refine blk_drew ?_ | refine blk_alloc ?_ _)); refine blk_put (cs := #[.slice A1_0 l1_0.length c1_0, .int .i64 a1_1]) ?_ 0 _ rfl; (with_reducible repeat (first | refine blk_drewN ?_ _ | refine blk_drew ?_ | refine blk_alloc ?_ _)); exact BK162.out⟩, ⟨by (with_reducible repeat (first | refine blk_drewN ?_ _ | refine blk_drew ?_ | refine blk_alloc ?_ _)); refine blk_far ?_ NB163_162.out _; (with_reducible repeat (first | refine blk_drewN ?_ _ | refine blk_drew ?_ | refine blk_alloc ?_ _)); refine blk_far ?_ NB163_162.out _; (with_reducible repeat (first | refine blk_drewN ?_ _ | refine blk_drew ?_ | refine blk_alloc ?_ _)); exact BK163.out⟩, ⟨X.G⟩⟩
 case round =>
  clear H'
  try clear c1
  try clear c2
  try clear p2
  try clear c3
  obtain ⟨x18_1, x163000_1, x163001_1, x164001_1, u163000, rfl, HA, HK1, HO_163000, BK161, BK162, BK163, HB⟩ := hrel
  cases gk with
  | zero => exact absurd HA.out (by simp [spec_isPlay.l0])
  | succ k1 =>
   have H := HA.out
   clear HA
   simp only [spec_isPlay.l0] at H
   by_cases c13 : x18_1 < (l2.length : Int)
   ·rw [if_pos c13] at H
    have c13b0 : decide (x18_1 < (l2.length : Int)) = true := decide_eq_true c13
    clear c13
    by_cases c14 : 0 ≤ x18_1
    rotate_left
    ·rw [if_neg c14] at H
     exact absurd H (by simp)
    rw [if_pos c14] at H
    have c14b0 : decide (0 ≤ x18_1) = true := decide_eq_true c14
    clear c14
    by_cases c15 : x18_1 < (l2.length : Int)
    rotate_left
    ·rw [if_neg c15] at H
     exact absurd H (by simp)
    rw [if_pos c15] at H
    have c15b0 : decide (x18_1 < (l2.length : Int)) = true := decide_eq_true c15
    clear c15
    replace H := Option.bind_eq_some_iff.mp H
    obtain ⟨t169, A160, H⟩ := H
    replace H : (if t169 = true then ((spec_isSail.f k1 x163000_1 x163001_1 ((rd_T51 l2 x18_1).f0) ((rd_T51 l2 x18_1).f1)).bind fun bt170 => (spec_isPlay.l0 k1 l2 l2 (l2.length : Int) (wrap64 (x18_1 + 1)) a0_0 a0_1 a0_2 bt170.1 bt170.2)) else (some (x163000_1, x163001_1, x18_1))) = some (r1, r2, r3) := H
    have A16 := X.A A160
    clear A160
    by_cases c17 : t169 = true
    ·subst c17
     have H1 : ((spec_isSail.f k1 x163000_1 x163001_1 ((rd_T51 l2 x18_1).f0) ((rd_T51 l2 x18_1).f1)).bind fun bt170 => (spec_isPlay.l0 k1 l2 l2 (l2.length : Int) (wrap64 (x18_1 + 1)) a0_0 a0_1 a0_2 bt170.1 bt170.2)) = some (r1, r2, r3) := by rw [if_pos rfl] at H; exact H
     clear H
     have H := H1
     clear H1
     replace H := Option.bind_eq_some_iff.mp H
     obtain ⟨⟨t170, t173⟩, A180, H⟩ := H
     replace H : (spec_isPlay.l0 k1 l2 l2 (l2.length : Int) (wrap64 (x18_1 + 1)) a0_0 a0_1 a0_2 t170 t173) = some (r1, r2, r3) := H
     have A18 := X.A A180
     clear A180
     have H' := X.A H
     clear H
     have p167 : 0 ≤ (x18_1 : Int) := X.D
     have q167 : x18_1 < (l2.length : Int) := X.D
     obtain ⟨ad167, A167_1, c167_1, e167, hx167_0, hx167_1, hl167_1, hi167_1⟩ := at_T51 HR2.out x18_1 p167 q167
     cases e167
     replace hx167_0 := (HB.out.cell (World.block_lt_of_cell? w _ hx167_0)).trans hx167_0
     replace hx167_1 := (HB.out.cell (World.block_lt_of_cell? w _ hx167_1)).trans hx167_1
     have HR167_1 := X.A hi167_1
     have HC167_1 := X.A hl167_1
     clear hi167_1 hl167_1
     replace p167 := eq_true p167
     replace q167 := eq_true q167
     go_wp2_with (first | ((with_reducible refine gate_dst (N := 9) rfl ?_); refine box_event ?hg (N := 9) ?hd (cs := #[.int .i64 0, .slice none 0 0]) (t := 51) ?hr ?_; (case hd => rfl); (case hg => rfl); (case hr => exact X.R); intro gb168 hg w19 hbox hb; have n0_ := X.A (Kd.R_below (X.K HO_163000) hb); have n1_ := X.A (X.BB BK161 hb); have n2_ := X.A (X.BB BK162 hb); have n3_ := X.A (X.BB BK163 hb); have n4_ := X.A (below_step X.G hb); have n5_ := X.A (hbox); have n6_ := X.A ((by rw [hg]; exact (below_size X.G) : w.heap.size ≤ gb168)); have n7_ := X.A ((by rw [hg]; exact (below_size X.G) : w.heap.size ≤ gb168)); have n8_ := X.A (X.NL hg BK161); have n9_ := X.A (X.NG hg BK161); have n10_ := X.A (X.NL hg BK162); have n11_ := X.A (X.NG hg BK162); have n12_ := X.A (X.NL hg BK163); have n13_ := X.A (X.NG hg BK163); clear HO_163000 BK161 BK162 BK163 HB; have HO_163000 := n0_; have BK161 := n1_; have BK162 := n2_; have BK163 := n3_; have HB := n4_; have BK168 := n5_; have GW168 := n6_; have GE168 := n7_; have NB161_168 := n8_; have NB168_161 := n9_; have NB162_168 := n10_; have NB168_162 := n11_; have NB163_168 := n12_; have NB168_163 := n13_; clear n0_ n1_ n2_ n3_ n4_ n5_ n6_ n7_ n8_ n9_ n10_ n11_ n12_ n13_ hb hbox hg; have hnb20 := NB168_161.out; have hnc20 := NB161_168.out; have hnb21 := NB168_162.out; have hnc21 := NB162_168.out; have hnb22 := NB168_163.out; have hnc22 := NB163_168.out; have hcz23_0 : w19.cell? ⟨gb168, 0, none⟩ = some (.int .i64 0) := (blk_cell BK168.out 0).trans rfl; have hcz23_1 : w19.cell? ⟨gb168, 1, none⟩ = some (.slice none 0 0) := (blk_cell BK168.out 1).trans rfl; have hfz23_0 := blk_frozen BK168.out 0; have hfz23_1 := blk_frozen BK168.out 1; have hnb24 := NB161_162.out; have hnc24 := NB162_161.out; have hnb25 := NB161_163.out; have hnc25 := NB163_161.out; have hcz26_0 : w19.cell? ⟨gb161, 0, none⟩ = some (.int .i64 a0_0) := (blk_cell BK161.out 0).trans rfl; have hcz26_1 : w19.cell? ⟨gb161, 1, none⟩ = some (.int .i64 a0_1) := (blk_cell BK161.out 1).trans rfl; have hcz26_2 : w19.cell? ⟨gb161, 2, none⟩ = some (.int .i64 a0_2) := (blk_cell BK161.out 2).trans rfl; have hfz26_0 := blk_frozen BK161.out 0; have hfz26_1 := blk_frozen BK161.out 1; have hfz26_2 := blk_frozen BK161.out 2; have hnb27 := NB162_163.out; have hnc27 := NB163_162.out; have hcz28_0 : w19.cell? ⟨gb162, 0, none⟩ = some (u163000) := (blk_cell BK162.out 0).trans rfl; have hcz28_1 : w19.cell? ⟨gb162, 1, none⟩ = some (.int .i64 x163001_1) := (blk_cell BK162.out 1).trans rfl; have hfz28_0 := blk_frozen BK162.out 0; have hfz28_1 := blk_frozen BK162.out 1; obtain ⟨Ao29, co29, eo29⟩ := Kd.R_slice HO_163000.out; subst eo29) | ((with_reducible refine gate_callee (f := 31) rfl ?_); refine goesL_ (some 26) rfl rfl Try.func31 (by kernel_rfl) rfl #[.agg #[.int .i64 a0_0, .int .i64 a0_1, .int .i64 a0_2], .agg #[.slice Ao29 x163000_1.length co29, .int .i64 x163001_1], .agg #[.int .i64 ((rd_T51 l2 x18_1).f0), .slice A167_1 ((rd_T51 l2 x18_1).f1).length c167_1]] rfl X.M ?_; (with_reducible refine (spec_isCan.calls k1 a0_0 a0_1 a0_2 _ _ x163000_1 x163001_1 ((rd_T51 l2 x18_1).f0) _ _ ((rd_T51 l2 x18_1).f1) true _ ?side1 ?side2 ?side3 ?side4 A16.out).mono ?_); (case side1 => refine (Kd.R_reads' (e := 3) (base := w.heap.size) (ok := fun k_ => True) (n := x163000_1.length) (c := co29) ?_).2.2; exact (by (with_reducible repeat (first | apply Kd.R_alloc | apply Kd.R_drewN | apply Kd.R_drew)); exact (Kd.R_mono (Kd.R_far (p := ⟨gb168, 1, none⟩) (Kd.R_far (p := ⟨gb168, 0, none⟩) (Kd.R_types HO_163000.out BK168.out (by decide)) (fun _ hk => hk.2) (.int .i64 ((rd_T51 l2 x18_1).f0))) (fun _ hk => hk.2) (.slice A167_1 ((rd_T51 l2 x18_1).f1).length c167_1)) (fun _ h_ => h_.1)))); (case side2 => exact (Kd.R_reads' HO_163000.out).2.1); (case side3 => exact Kd.C_below HR167_1.out X.G); (case side4 => exact HC167_1.out); rintro e w30 ⟨rfl, hb⟩; refine ⟨_, rfl, ?_⟩; have n0_ := X.A (Kd.R_below (by (with_reducible repeat (first | apply Kd.R_alloc | apply Kd.R_drewN | apply Kd.R_drew)); exact (Kd.R_mono (Kd.R_far (p := ⟨gb168, 1, none⟩) (Kd.R_far (p := ⟨gb168, 0, none⟩) (Kd.R_types HO_163000.out BK168.out (by decide)) (fun _ hk => hk.2) (.int .i64 ((rd_T51 l2 x18_1).f0))) (fun _ hk => hk.2) (.slice A167_1 ((rd_T51 l2 x18_1).f1).length c167_1)) (fun _ h_ => h_.1))) hb); have n1_ := X.A (blk_below (g := gb161) (o := .cells #[.int .i64 a0_0, .int .i64 a0_1, .int .i64 a0_2] 33 (0, 0)) (by (with_reducible repeat (first | refine blk_drewN ?_ _ | refine blk_drew ?_ | refine blk_alloc ?_ _)); refine blk_far ?_ NB161_168.out _; (with_reducible repeat (first | refine blk_drewN ?_ _ | refine blk_drew ?_ | refine blk_alloc ?_ _)); refine blk_far ?_ NB161_168.out _; (with_reducible repeat (first | refine blk_drewN ?_ _ | refine blk_drew ?_ | refine blk_alloc ?_ _)); exact BK161.out) hb); have n2_ := X.A (blk_below (g := gb162) (o := .cells #[.slice Ao29 x163000_1.length co29, .int .i64 x163001_1] 30 (0, 0)) (by (with_reducible repeat (first | refine blk_drewN ?_ _ | refine blk_drew ?_ | refine blk_alloc ?_ _)); refine blk_far ?_ NB162_168.out _; (with_reducible repeat (first | refine blk_drewN ?_ _ | refine blk_drew ?_ | refine blk_alloc ?_ _)); refine blk_far ?_ NB162_168.out _; (with_reducible repeat (first | refine blk_drewN ?_ _ | refine blk_drew ?_ | refine blk_alloc ?_ _)); exact BK162.out) hb); have n3_ := X.A (blk_below (g := gb163) (o := .cells #[.slice none 0 0, .int .i64 x164001_1] 30 (0, 0)) (by (with_reducible repeat (first | refine blk_drewN ?_ _ | refine blk_drew ?_ | refine blk_alloc ?_ _)); refine blk_far ?_ NB163_168.out _; (with_reducible repeat (first | refine blk_drewN ?_ _ | refine blk_drew ?_ | refine blk_alloc ?_ _)); refine blk_far ?_ NB163_168.out _; (with_reducible repeat (first | refine blk_drewN ?_ _ | refine blk_drew ?_ | refine blk_alloc ?_ _)); exact BK163.out) hb); have n4_ := X.A (blk_below (g := gb168) (o := .cells #[.int .i64 ((rd_T51 l2 x18_1).f0), .slice A167_1 ((rd_T51 l2 x18_1).f1).length c167_1] 51 (0, 0)) (by (with_reducible repeat (first | refine blk_drewN ?_ _ | refine blk_drew ?_ | refine blk_alloc ?_ _)); refine blk_put (cs := #[.int .i64 ((rd_T51 l2 x18_1).f0), .slice none 0 0]) ?_ 1 _ rfl; (with_reducible repeat (first | refine blk_drewN ?_ _ | refine blk_drew ?_ | refine blk_alloc ?_ _)); refine blk_put (cs := #[.int .i64 0, .slice none 0 0]) ?_ 0 _ rfl; (with_reducible repeat (first | refine blk_drewN ?_ _ | refine blk_drew ?_ | refine blk_alloc ?_ _)); exact BK168.out) hb); have n5_ := X.A (below_step X.G hb); clear HO_163000 BK161 BK162 BK163 BK168 HB; have HO_163000 := n0_; have BK161 := n1_; have BK162 := n2_; have BK163 := n3_; have BK168 := n4_; have HB := n5_; clear n0_ n1_ n2_ n3_ n4_ n5_; (try clear hb); (try clear hb2); (try clear hk); (try clear hi); have hcz31_0 : w30.cell? ⟨gb162, 0, none⟩ = some (.slice Ao29 x163000_1.length co29) := (blk_cell BK162.out 0).trans rfl; have hcz31_1 : w30.cell? ⟨gb162, 1, none⟩ = some (.int .i64 x163001_1) := (blk_cell BK162.out 1).trans rfl; have hfz31_0 := blk_frozen BK162.out 0; have hfz31_1 := blk_frozen BK162.out 1; have hcz32_0 : w30.cell? ⟨gb168, 0, none⟩ = some (.int .i64 ((rd_T51 l2 x18_1).f0)) := (blk_cell BK168.out 0).trans rfl; have hcz32_1 : w30.cell? ⟨gb168, 1, none⟩ = some (.slice A167_1 ((rd_T51 l2 x18_1).f1).length c167_1) := (blk_cell BK168.out 1).trans rfl; have hfz32_0 := blk_frozen BK168.out 0; have hfz32_1 := blk_frozen BK168.out 1) | ((with_reducible refine gate_callee (f := 32) rfl ?_); refine goesL_ (some 32) rfl rfl Try.func32 (by kernel_rfl) rfl #[.agg #[.slice Ao29 x163000_1.length co29, .int .i64 x163001_1], .agg #[.int .i64 ((rd_T51 l2 x18_1).f0), .slice A167_1 ((rd_T51 l2 x18_1).f1).length c167_1]] rfl X.M ?_; (with_reducible refine (spec_isSail.calls k1 _ _ x163000_1 x163001_1 ((rd_T51 l2 x18_1).f0) _ _ ((rd_T51 l2 x18_1).f1) t170 t173 _ ?side1 ?side2 ?side3 ?side4 A18.out).mono ?_); (case side1 => exact X.C (Kd.R_reads' HO_163000.out).2.2); (case side2 => exact (Kd.R_reads' HO_163000.out).2.1); (case side3 => exact X.C (Kd.C_below HR167_1.out HB.out)); (case side4 => exact HC167_1.out); rintro e w33 ⟨v171, rfl, ho0, hb⟩; refine ⟨_, rfl, ?_⟩; have n0_ := X.A (Kd.R_elder' (X.K HO_163000) (Kd.R_base ho0) hb); have n1_ := X.A (Kd.R_lower (Kd.R_new' ho0 (Kd.R_lt (X.K HO_163000))) (below_size X.G)); have n2_ := X.A (X.BB BK161 hb); have n3_ := X.A (X.BB BK162 hb); have n4_ := X.A (X.BB BK163 hb); have n5_ := X.A (blk_below (g := gb168) (o := .cells #[.int .i64 ((rd_T51 l2 x18_1).f0), .slice A167_1 ((rd_T51 l2 x18_1).f1).length c167_1] 51 (0, 0)) (X.B BK168) hb); have n6_ := X.A (below_step X.G hb); clear HO_163000 BK161 BK162 BK163 BK168 HB; have HO_163000 := n0_; have HO172 := n1_; have BK161 := n2_; have BK162 := n3_; have BK163 := n4_; have BK168 := n5_; have HB := n6_; clear n0_ n1_ n2_ n3_ n4_ n5_ n6_; (try clear hb); (try clear hb2); (try clear hk); (try clear hi); (try clear ho0); obtain ⟨Ao34, co34, eo34⟩ := Kd.R_slice HO172.out; subst eo34; have hcz35_0 : w33.cell? ⟨gb162, 0, none⟩ = some (.slice Ao29 x163000_1.length co29) := (blk_cell BK162.out 0).trans rfl; have hcz35_1 : w33.cell? ⟨gb162, 1, none⟩ = some (.int .i64 x163001_1) := (blk_cell BK162.out 1).trans rfl; have hfz35_0 := blk_frozen BK162.out 0; have hfz35_1 := blk_frozen BK162.out 1))
     go_roundg k1
     case measure => have := HK1.out; omega
     case rel => exact ⟨(wrap64 (x18_1 + 1)), (t170), (t173), (x164001_1), (.slice Ao34 t170.length co34), (by first | rfl | (simp; done) | (simp [*]; done)), H', ⟨by have := HK1.out; omega⟩, ⟨by (with_reducible repeat (first | apply Kd.R_alloc | apply Kd.R_drewN | apply Kd.R_drew)); exact Kd.R_mono (Kd.R_far (p := ⟨gb162, 1, none⟩) (Kd.R_far (p := ⟨gb162, 0, none⟩) (Kd.R_types HO172.out BK162.out (by decide)) (fun _ hk => hk.2) (.slice Ao34 t170.length co34)) (fun _ hk => hk.2) (.int .i64 t173)) (fun _ hk => trivial)⟩, ⟨by (with_reducible repeat (first | refine blk_drewN ?_ _ | refine blk_drew ?_ | refine blk_alloc ?_ _)); refine blk_far ?_ NB161_162.out _; (with_reducible repeat (first | refine blk_drewN ?_ _ | refine blk_drew ?_ | refine blk_alloc ?_ _)); refine blk_far ?_ NB161_162.out _; (with_reducible repeat (first | refine blk_drewN ?_ _ | refine blk_drew ?_ | refine blk_alloc ?_ _)); exact BK161.out⟩, ⟨by (with_reducible repeat (first | refine blk_drewN ?_ _ | refine blk_drew ?_ | refine blk_alloc ?_ _)); refine blk_put (cs := #[.slice Ao34 t170.length co34, .int .i64 x163001_1]) ?_ 1 _ rfl; (with_reducible repeat (first | refine blk_drewN ?_ _ | refine blk_drew ?_ | refine blk_alloc ?_ _)); refine blk_put (cs := #[.slice Ao29 x163000_1.length co29, .int .i64 x163001_1]) ?_ 0 _ rfl; (with_reducible repeat (first | refine blk_drewN ?_ _ | refine blk_drew ?_ | refine blk_alloc ?_ _)); exact BK162.out⟩, ⟨by (with_reducible repeat (first | refine blk_drewN ?_ _ | refine blk_drew ?_ | refine blk_alloc ?_ _)); refine blk_far ?_ NB163_162.out _; (with_reducible repeat (first | refine blk_drewN ?_ _ | refine blk_drew ?_ | refine blk_alloc ?_ _)); refine blk_far ?_ NB163_162.out _; (with_reducible repeat (first | refine blk_drewN ?_ _ | refine blk_drew ?_ | refine blk_alloc ?_ _)); exact BK163.out⟩, ⟨X.G⟩⟩
    ·replace c17 := Bool.eq_false_iff.mpr c17
     subst c17
     have H1 : (some (x163000_1, x163001_1, x18_1)) = some (r1, r2, r3) := by rw [if_neg (show ¬ (false = true) by decide)] at H; exact H
     clear H
     have H := H1
     clear H1
     simp only [Option.some.injEq, Prod.mk.injEq] at H
     obtain ⟨rfl, rfl, rfl⟩ := H
     have p167 : 0 ≤ (x18_1 : Int) := X.D
     have q167 : x18_1 < (l2.length : Int) := X.D
     obtain ⟨ad167, A167_1, c167_1, e167, hx167_0, hx167_1, hl167_1, hi167_1⟩ := at_T51 HR2.out x18_1 p167 q167
     cases e167
     replace hx167_0 := (HB.out.cell (World.block_lt_of_cell? w _ hx167_0)).trans hx167_0
     replace hx167_1 := (HB.out.cell (World.block_lt_of_cell? w _ hx167_1)).trans hx167_1
     have HR167_1 := X.A hi167_1
     have HC167_1 := X.A hl167_1
     clear hi167_1 hl167_1
     replace p167 := eq_true p167
     replace q167 := eq_true q167
     go_wp2_with (first | ((with_reducible refine gate_dst (N := 9) rfl ?_); refine box_event ?hg (N := 9) ?hd (cs := #[.int .i64 0, .slice none 0 0]) (t := 51) ?hr ?_; (case hd => rfl); (case hg => rfl); (case hr => exact X.R); intro gb168 hg w36 hbox hb; have n0_ := X.A (Kd.R_below (X.K HO_163000) hb); have n1_ := X.A (X.BB BK161 hb); have n2_ := X.A (X.BB BK162 hb); have n3_ := X.A (X.BB BK163 hb); have n4_ := X.A (below_step X.G hb); have n5_ := X.A (hbox); have n6_ := X.A ((by rw [hg]; exact (below_size X.G) : w.heap.size ≤ gb168)); have n7_ := X.A ((by rw [hg]; exact (below_size X.G) : w.heap.size ≤ gb168)); have n8_ := X.A (X.NL hg BK161); have n9_ := X.A (X.NG hg BK161); have n10_ := X.A (X.NL hg BK162); have n11_ := X.A (X.NG hg BK162); have n12_ := X.A (X.NL hg BK163); have n13_ := X.A (X.NG hg BK163); clear HO_163000 BK161 BK162 BK163 HB; have HO_163000 := n0_; have BK161 := n1_; have BK162 := n2_; have BK163 := n3_; have HB := n4_; have BK168 := n5_; have GW168 := n6_; have GE168 := n7_; have NB161_168 := n8_; have NB168_161 := n9_; have NB162_168 := n10_; have NB168_162 := n11_; have NB163_168 := n12_; have NB168_163 := n13_; clear n0_ n1_ n2_ n3_ n4_ n5_ n6_ n7_ n8_ n9_ n10_ n11_ n12_ n13_ hb hbox hg; have hnb37 := NB168_161.out; have hnc37 := NB161_168.out; have hnb38 := NB168_162.out; have hnc38 := NB162_168.out; have hnb39 := NB168_163.out; have hnc39 := NB163_168.out; have hcz40_0 : w36.cell? ⟨gb168, 0, none⟩ = some (.int .i64 0) := (blk_cell BK168.out 0).trans rfl; have hcz40_1 : w36.cell? ⟨gb168, 1, none⟩ = some (.slice none 0 0) := (blk_cell BK168.out 1).trans rfl; have hfz40_0 := blk_frozen BK168.out 0; have hfz40_1 := blk_frozen BK168.out 1; have hnb41 := NB161_162.out; have hnc41 := NB162_161.out; have hnb42 := NB161_163.out; have hnc42 := NB163_161.out; have hcz43_0 : w36.cell? ⟨gb161, 0, none⟩ = some (.int .i64 a0_0) := (blk_cell BK161.out 0).trans rfl; have hcz43_1 : w36.cell? ⟨gb161, 1, none⟩ = some (.int .i64 a0_1) := (blk_cell BK161.out 1).trans rfl; have hcz43_2 : w36.cell? ⟨gb161, 2, none⟩ = some (.int .i64 a0_2) := (blk_cell BK161.out 2).trans rfl; have hfz43_0 := blk_frozen BK161.out 0; have hfz43_1 := blk_frozen BK161.out 1; have hfz43_2 := blk_frozen BK161.out 2; have hnb44 := NB162_163.out; have hnc44 := NB163_162.out; have hcz45_0 : w36.cell? ⟨gb162, 0, none⟩ = some (u163000) := (blk_cell BK162.out 0).trans rfl; have hcz45_1 : w36.cell? ⟨gb162, 1, none⟩ = some (.int .i64 x163001_1) := (blk_cell BK162.out 1).trans rfl; have hfz45_0 := blk_frozen BK162.out 0; have hfz45_1 := blk_frozen BK162.out 1; obtain ⟨Ao46, co46, eo46⟩ := Kd.R_slice HO_163000.out; subst eo46) | ((with_reducible refine gate_callee (f := 31) rfl ?_); refine goesL_ (some 26) rfl rfl Try.func31 (by kernel_rfl) rfl #[.agg #[.int .i64 a0_0, .int .i64 a0_1, .int .i64 a0_2], .agg #[.slice Ao46 x163000_1.length co46, .int .i64 x163001_1], .agg #[.int .i64 ((rd_T51 l2 x18_1).f0), .slice A167_1 ((rd_T51 l2 x18_1).f1).length c167_1]] rfl X.M ?_; (with_reducible refine (spec_isCan.calls k1 a0_0 a0_1 a0_2 _ _ x163000_1 x163001_1 ((rd_T51 l2 x18_1).f0) _ _ ((rd_T51 l2 x18_1).f1) false _ ?side1 ?side2 ?side3 ?side4 A16.out).mono ?_); (case side1 => refine (Kd.R_reads' (e := 3) (base := w.heap.size) (ok := fun k_ => True) (n := x163000_1.length) (c := co46) ?_).2.2; exact (by (with_reducible repeat (first | apply Kd.R_alloc | apply Kd.R_drewN | apply Kd.R_drew)); exact (Kd.R_mono (Kd.R_far (p := ⟨gb168, 1, none⟩) (Kd.R_far (p := ⟨gb168, 0, none⟩) (Kd.R_types HO_163000.out BK168.out (by decide)) (fun _ hk => hk.2) (.int .i64 ((rd_T51 l2 x18_1).f0))) (fun _ hk => hk.2) (.slice A167_1 ((rd_T51 l2 x18_1).f1).length c167_1)) (fun _ h_ => h_.1)))); (case side2 => exact (Kd.R_reads' HO_163000.out).2.1); (case side3 => exact Kd.C_below HR167_1.out X.G); (case side4 => exact HC167_1.out); rintro e w47 ⟨rfl, hb⟩; refine ⟨_, rfl, ?_⟩; have n0_ := X.A (Kd.R_below (by (with_reducible repeat (first | apply Kd.R_alloc | apply Kd.R_drewN | apply Kd.R_drew)); exact (Kd.R_mono (Kd.R_far (p := ⟨gb168, 1, none⟩) (Kd.R_far (p := ⟨gb168, 0, none⟩) (Kd.R_types HO_163000.out BK168.out (by decide)) (fun _ hk => hk.2) (.int .i64 ((rd_T51 l2 x18_1).f0))) (fun _ hk => hk.2) (.slice A167_1 ((rd_T51 l2 x18_1).f1).length c167_1)) (fun _ h_ => h_.1))) hb); have n1_ := X.A (blk_below (g := gb161) (o := .cells #[.int .i64 a0_0, .int .i64 a0_1, .int .i64 a0_2] 33 (0, 0)) (by (with_reducible repeat (first | refine blk_drewN ?_ _ | refine blk_drew ?_ | refine blk_alloc ?_ _)); refine blk_far ?_ NB161_168.out _; (with_reducible repeat (first | refine blk_drewN ?_ _ | refine blk_drew ?_ | refine blk_alloc ?_ _)); refine blk_far ?_ NB161_168.out _; (with_reducible repeat (first | refine blk_drewN ?_ _ | refine blk_drew ?_ | refine blk_alloc ?_ _)); exact BK161.out) hb); have n2_ := X.A (blk_below (g := gb162) (o := .cells #[.slice Ao46 x163000_1.length co46, .int .i64 x163001_1] 30 (0, 0)) (by (with_reducible repeat (first | refine blk_drewN ?_ _ | refine blk_drew ?_ | refine blk_alloc ?_ _)); refine blk_far ?_ NB162_168.out _; (with_reducible repeat (first | refine blk_drewN ?_ _ | refine blk_drew ?_ | refine blk_alloc ?_ _)); refine blk_far ?_ NB162_168.out _; (with_reducible repeat (first | refine blk_drewN ?_ _ | refine blk_drew ?_ | refine blk_alloc ?_ _)); exact BK162.out) hb); have n3_ := X.A (blk_below (g := gb163) (o := .cells #[.slice none 0 0, .int .i64 x164001_1] 30 (0, 0)) (by (with_reducible repeat (first | refine blk_drewN ?_ _ | refine blk_drew ?_ | refine blk_alloc ?_ _)); refine blk_far ?_ NB163_168.out _; (with_reducible repeat (first | refine blk_drewN ?_ _ | refine blk_drew ?_ | refine blk_alloc ?_ _)); refine blk_far ?_ NB163_168.out _; (with_reducible repeat (first | refine blk_drewN ?_ _ | refine blk_drew ?_ | refine blk_alloc ?_ _)); exact BK163.out) hb); have n4_ := X.A (blk_below (g := gb168) (o := .cells #[.int .i64 ((rd_T51 l2 x18_1).f0), .slice A167_1 ((rd_T51 l2 x18_1).f1).length c167_1] 51 (0, 0)) (by (with_reducible repeat (first | refine blk_drewN ?_ _ | refine blk_drew ?_ | refine blk_alloc ?_ _)); refine blk_put (cs := #[.int .i64 ((rd_T51 l2 x18_1).f0), .slice none 0 0]) ?_ 1 _ rfl; (with_reducible repeat (first | refine blk_drewN ?_ _ | refine blk_drew ?_ | refine blk_alloc ?_ _)); refine blk_put (cs := #[.int .i64 0, .slice none 0 0]) ?_ 0 _ rfl; (with_reducible repeat (first | refine blk_drewN ?_ _ | refine blk_drew ?_ | refine blk_alloc ?_ _)); exact BK168.out) hb); have n5_ := X.A (below_step X.G hb); clear HO_163000 BK161 BK162 BK163 BK168 HB; have HO_163000 := n0_; have BK161 := n1_; have BK162 := n2_; have BK163 := n3_; have BK168 := n4_; have HB := n5_; clear n0_ n1_ n2_ n3_ n4_ n5_; (try clear hb); (try clear hb2); (try clear hk); (try clear hi); have hcz48_0 : w47.cell? ⟨gb162, 0, none⟩ = some (.slice Ao46 x163000_1.length co46) := (blk_cell BK162.out 0).trans rfl; have hcz48_1 : w47.cell? ⟨gb162, 1, none⟩ = some (.int .i64 x163001_1) := (blk_cell BK162.out 1).trans rfl; have hfz48_0 := blk_frozen BK162.out 0; have hfz48_1 := blk_frozen BK162.out 1; have hcz49_0 : w47.cell? ⟨gb163, 0, none⟩ = some (.slice none 0 0) := (blk_cell BK163.out 0).trans rfl; have hcz49_1 : w47.cell? ⟨gb163, 1, none⟩ = some (.int .i64 x164001_1) := (blk_cell BK163.out 1).trans rfl; have hfz49_0 := blk_frozen BK163.out 0; have hfz49_1 := blk_frozen BK163.out 1))
     refine bodyPost_ret (results_ct rfl _ _ gb163 30 #[.slice Ao46 x163000_1.length co46, .int .i64 x163001_1] (0, 0) _ rfl (by (with_reducible repeat (first | refine blk_drewN ?_ _ | refine blk_drew ?_ | refine blk_alloc ?_ _)); refine blk_put (cs := #[.slice Ao46 x163000_1.length co46, .int .i64 x164001_1]) ?_ 1 _ rfl; (with_reducible repeat (first | refine blk_drewN ?_ _ | refine blk_drew ?_ | refine blk_alloc ?_ _)); refine blk_put (cs := #[.slice none 0 0, .int .i64 x164001_1]) ?_ 0 _ rfl; (with_reducible repeat (first | refine blk_drewN ?_ _ | refine blk_drew ?_ | refine blk_alloc ?_ _)); exact BK163.out) Try.underlying30 rfl (by kernel_rfl)) rfl ?_
     exact ⟨_, by first | rfl | (simp [errW_none, errW_some] <;> rfl) | (simp [*, errW_none, errW_some] <;> rfl), by (with_reducible repeat (first | apply Kd.R_alloc | apply Kd.R_drewN | apply Kd.R_drew)); exact Kd.R_mono (Kd.R_far (p := ⟨gb163, 1, none⟩) (Kd.R_far (p := ⟨gb163, 0, none⟩) (Kd.R_types HO_163000.out BK163.out (by decide)) (fun _ hk => hk.2) (.slice Ao46 x163000_1.length co46)) (fun _ hk => hk.2) (.int .i64 x163001_1)) (fun _ hk => trivial), X.G⟩
   ·rw [if_neg c13] at H
    have c13b0 : decide (x18_1 < (l2.length : Int)) = false := decide_eq_false c13
    clear c13
    simp only [Option.some.injEq, Prod.mk.injEq] at H
    obtain ⟨rfl, rfl, rfl⟩ := H
    have hnb50 := NB162_161.out
    have hnc50 := NB161_162.out
    have hnb51 := NB162_163.out
    have hnc51 := NB163_162.out
    have hcz52_0 : wr.cell? ⟨gb162, 0, none⟩ = some (u163000) := (blk_cell BK162.out 0).trans rfl
    have hcz52_1 : wr.cell? ⟨gb162, 1, none⟩ = some (.int .i64 x163001_1) := (blk_cell BK162.out 1).trans rfl
    have hfz52_0 := blk_frozen BK162.out 0
    have hfz52_1 := blk_frozen BK162.out 1
    obtain ⟨Ao53, co53, eo53⟩ := Kd.R_slice HO_163000.out
    subst eo53
    have hnb54 := NB163_161.out
    have hnc54 := NB161_163.out
    have hcz55_0 : wr.cell? ⟨gb163, 0, none⟩ = some (.slice none 0 0) := (blk_cell BK163.out 0).trans rfl
    have hcz55_1 : wr.cell? ⟨gb163, 1, none⟩ = some (.int .i64 x164001_1) := (blk_cell BK163.out 1).trans rfl
    have hfz55_0 := blk_frozen BK163.out 0
    have hfz55_1 := blk_frozen BK163.out 1
    go_wp2
    refine bodyPost_ret (results_ct rfl _ _ gb163 30 #[.slice Ao53 x163000_1.length co53, .int .i64 x163001_1] (0, 0) _ rfl (by (with_reducible repeat (first | refine blk_drewN ?_ _ | refine blk_drew ?_ | refine blk_alloc ?_ _)); refine blk_put (cs := #[.slice Ao53 x163000_1.length co53, .int .i64 x164001_1]) ?_ 1 _ rfl; (with_reducible repeat (first | refine blk_drewN ?_ _ | refine blk_drew ?_ | refine blk_alloc ?_ _)); refine blk_put (cs := #[.slice none 0 0, .int .i64 x164001_1]) ?_ 0 _ rfl; (with_reducible repeat (first | refine blk_drewN ?_ _ | refine blk_drew ?_ | refine blk_alloc ?_ _)); exact BK163.out) Try.underlying30 rfl (by kernel_rfl)) rfl ?_
    exact ⟨_, by first | rfl | (simp [errW_none, errW_some] <;> rfl) | (simp [*, errW_none, errW_some] <;> rfl), by (with_reducible repeat (first | apply Kd.R_alloc | apply Kd.R_drewN | apply Kd.R_drew)); exact Kd.R_mono (Kd.R_far (p := ⟨gb163, 1, none⟩) (Kd.R_far (p := ⟨gb163, 0, none⟩) (Kd.R_types HO_163000.out BK163.out (by decide)) (fun _ hk => hk.2) (.slice Ao53 x163000_1.length co53)) (fun _ hk => hk.2) (.int .i64 x163001_1)) (fun _ hk => trivial), X.G⟩

/-! ### spec_SailAll: function 6 -/
def spec_SailAll.j0 : Nat → List (S51) → Bool → Int → Int → Int → List Int → Int → Option (List Int × Int × Bool)
 | 0, _, _, _, _, _, _, _ => none
 | k + 1, x2, x18, x175000, x175001, x175002, x176000, x176001 => if x18 = true then (some (([] : List Int), 0, false)) else ((spec_isPlay.f k x175000 x175001 x175002 x176000 x176001 x2).bind fun bt178 => (if bt178.2.2 < (x2.length : Int) then (some (([] : List Int), 0, false)) else (some (bt178.1, bt178.2.1, true))))
def spec_SailAll.f (k : Nat) (a0_0 : Int) (a0_1 : Int) (a0_2 : Int) (l1_0 : List Int) (a1_1 : Int) (l2 : List (S51)) : Option (List Int × Int × Bool) := (spec_isAsked.f k a0_0 a0_1 a0_2 l1_0 a1_1).bind fun t177 => (if t177 = true then (spec_SailAll.j0 k l2 (decide ((l2.length : Int) > 40)) a0_0 a0_1 a0_2 l1_0 a1_1) else (spec_SailAll.j0 k l2 true a0_0 a0_1 a0_2 l1_0 a1_1))
theorem spec_SailAll.mono_l : ∀ k, (∀ y0 y1 y2 y3 y4 y5 y6, LeO (spec_SailAll.j0 k y0 y1 y2 y3 y4 y5 y6) (spec_SailAll.j0 (k + 1) y0 y1 y2 y3 y4 y5 y6))
 | 0 => fun _ _ _ _ _ _ _ r h => by simp [spec_SailAll.j0] at h
 | k + 1 => by
  have ih0 := spec_SailAll.mono_l k
  ·intro y0 y1 y2 y3 y4 y5 y6
   unfold spec_SailAll.j0
   repeat' first
   | (with_reducible exact ih0 _ _ _ _ _ _ _)
   | (with_reducible exact spec_isAsked.mono _ _ _ _ _ _)
   | (with_reducible exact spec_isPlay.mono _ _ _ _ _ _ _)
   | (with_reducible exact LeO.refl _)
   | (with_reducible exact LeO.none _)
   | (with_reducible refine LeO.ite ?_ ?_)
   | (with_reducible refine LeO.bind ?_ (fun _ => ?_))
theorem spec_SailAll.mono : ∀ a0 a1 a2 a3 a4 a5 k, LeO (spec_SailAll.f k a0 a1 a2 a3 a4 a5) (spec_SailAll.f (k + 1) a0 a1 a2 a3 a4 a5) := by
 intro a0 a1 a2 a3 a4 a5 k
 have ih0 := spec_SailAll.mono_l k
 unfold spec_SailAll.f
 repeat' first
   | (with_reducible exact ih0 _ _ _ _ _ _ _)
   | (with_reducible exact spec_isAsked.mono _ _ _ _ _ _)
   | (with_reducible exact spec_isPlay.mono _ _ _ _ _ _ _)
   | (with_reducible exact LeO.refl _)
   | (with_reducible exact LeO.none _)
   | (with_reducible refine LeO.ite ?_ ?_)
   | (with_reducible refine LeO.bind ?_ (fun _ => ?_))
set_option maxHeartbeats 8000000 in
set_option maxRecDepth 100000 in
theorem spec_SailAll.calls (k : Nat) (a0_0 : Int) (a0_1 : Int) (a0_2 : Int) (A1_0 : Option Addr) (c1_0 : Nat) (l1_0 : List Int) (a1_1 : Int) (A2 : Option Addr) (c2 : Nat) (l2 : List (S51)) (r1 : List Int) (r2 : Int) (r3 : Bool) (w : World) (hr1_0 : Kd.C (Kd.int .i64) w A1_0 l1_0.length l1_0) (hc1_0 : l1_0.length ≤ c1_0) (hr2 : Kd.C k51 w A2 l2.length l2) (hc2 : l2.length ≤ c2) (h : spec_SailAll.f k a0_0 a0_1 a0_2 l1_0 a1_1 l2 = some (r1, r2, r3)) :
  Calls Try.prog 6 #[.agg #[.int .i64 a0_0, .int .i64 a0_1, .int .i64 a0_2], .agg #[.slice A1_0 l1_0.length c1_0, .int .i64 a1_1], .slice A2 l2.length c2] w fun e w' => ∃ v0_ : Value, e = .returned (.tuple #[.agg #[v0_, .int .i64 r2], .bool r3]) ∧ Kd.R (Kd.int .i64) 3 w' w.heap.size (fun _ => True) v0_ r1 ∧ Below w.heap.size w w' := by
 have hu33 := Try.underlying33
 have hu30 := Try.underlying30
 have HR1_0 := X.A hr1_0
 have HC1_0 := X.A hc1_0
 clear hr1_0 hc1_0
 have HR2 := X.A hr2
 have HC2 := X.A hc2
 clear hr2 hc2
 have HB := X.A (Below.refl w.heap.size w)
 have H : ((spec_isAsked.f k a0_0 a0_1 a0_2 l1_0 a1_1).bind fun t177 => (if t177 = true then (spec_SailAll.j0 k l2 (decide ((l2.length : Int) > 40)) a0_0 a0_1 a0_2 l1_0 a1_1) else (spec_SailAll.j0 k l2 true a0_0 a0_1 a0_2 l1_0 a1_1))) = some (r1, r2, r3) := h
 clear h
 have HC4 := X.A H
 clear H
 go_enter Try.func6, Try.ntmps6
 go_upto_region 1 with (first | ((with_reducible refine gate_dst (N := 3) rfl ?_); (try (refine gate_guard (by rfl) ?_; dsimp only)); refine box_event ?hg (N := 3) ?hd (cs := #[.int .i64 a0_0, .int .i64 a0_1, .int .i64 a0_2]) (t := 33) ?hr ?_; (case hd => rfl); (case hg => rfl); (case hr => exact X.R); intro gb174 hg w5 hbox hb; have n0_ := X.A (below_step X.G hb); have n1_ := X.A (hbox); have n2_ := X.A ((by rw [hg]; exact (below_size X.G) : w.heap.size ≤ gb174)); have n3_ := X.A ((by rw [hg]; exact (below_size X.G) : w.heap.size ≤ gb174)); clear HB; have HB := n0_; have BK174 := n1_; have GW174 := n2_; have GE174 := n3_; clear n0_ n1_ n2_ n3_; clear hb hbox hg) | ((with_reducible refine gate_dst (N := 4) rfl ?_); (try (refine gate_guard (by rfl) ?_; dsimp only)); refine box_event ?hg (N := 4) ?hd (cs := #[.slice A1_0 l1_0.length c1_0, .int .i64 a1_1]) (t := 30) ?hr ?_; (case hd => rfl); (case hg => rfl); (case hr => exact X.R); intro gb175 hg w6 hbox hb; have n0_ := X.A (X.BB BK174 hb); have n1_ := X.A (below_step X.G hb); have n2_ := X.A (hbox); have n3_ := X.A ((by rw [hg]; exact (below_size X.G) : w.heap.size ≤ gb175)); have n4_ := X.A ((by rw [hg]; exact (below_size X.G) : w.heap.size ≤ gb175)); have n5_ := X.A (X.NL hg BK174); have n6_ := X.A (X.NG hg BK174); clear BK174 HB; have BK174 := n0_; have HB := n1_; have BK175 := n2_; have GW175 := n3_; have GE175 := n4_; have NB174_175 := n5_; have NB175_174 := n6_; clear n0_ n1_ n2_ n3_ n4_ n5_ n6_; clear hb hbox hg) | ((with_reducible refine gate_dst (N := 6) rfl ?_); (try (refine gate_guard (by rfl) ?_; dsimp only)); refine box_event ?hg (N := 6) ?hd (cs := #[.slice none 0 0, .int .i64 0]) (t := 30) ?hr ?_; (case hd => rfl); (case hg => rfl); (case hr => exact X.R); intro gb176 hg w7 hbox hb; have n0_ := X.A (X.BB BK174 hb); have n1_ := X.A (X.BB BK175 hb); have n2_ := X.A (below_step X.G hb); have n3_ := X.A (hbox); have n4_ := X.A ((by rw [hg]; exact (below_size X.G) : w.heap.size ≤ gb176)); have n5_ := X.A ((by rw [hg]; exact (below_size X.G) : w.heap.size ≤ gb176)); have n6_ := X.A (X.NL hg BK174); have n7_ := X.A (X.NG hg BK174); have n8_ := X.A (X.NL hg BK175); have n9_ := X.A (X.NG hg BK175); clear BK174 BK175 HB; have BK174 := n0_; have BK175 := n1_; have HB := n2_; have BK176 := n3_; have GW176 := n4_; have GE176 := n5_; have NB174_176 := n6_; have NB176_174 := n7_; have NB175_176 := n8_; have NB176_175 := n9_; clear n0_ n1_ n2_ n3_ n4_ n5_ n6_ n7_ n8_ n9_; clear hb hbox hg))
 (try simp only [Act.put, List.setIfInBounds_toArray, List.set_cons_zero, List.set_cons_succ])
 go_cut [18] (fun v18 wc => ∃ (kq : Nat) (x18_3 : Bool), v18 = .bool x18_3 ∧ Aside0 (spec_SailAll.j0 kq l2 x18_3 a0_0 a0_1 a0_2 l1_0 a1_1 = some (r1, r2, r3)) ∧ Aside0 (kq ≤ k) ∧ Aside0 (wc.heap[gb174]? = some (.cells #[.int .i64 a0_0, .int .i64 a0_1, .int .i64 a0_2] 33 (0, 0))) ∧ Aside0 (wc.heap[gb175]? = some (.cells #[(.slice A1_0 l1_0.length c1_0), .int .i64 a1_1] 30 (0, 0))) ∧ Aside0 (wc.heap[gb176]? = some (.cells #[(.slice none 0 0), .int .i64 0] 30 (0, 0))) ∧ Aside0 (Below w.heap.size w wc))
 case first =>
  have H := HC4.out
  clear HC4
  replace H := Option.bind_eq_some_iff.mp H
  obtain ⟨t177, A80, H⟩ := H
  replace H : (if t177 = true then (spec_SailAll.j0 k l2 (decide ((l2.length : Int) > 40)) a0_0 a0_1 a0_2 l1_0 a1_1) else (spec_SailAll.j0 k l2 true a0_0 a0_1 a0_2 l1_0 a1_1)) = some (r1, r2, r3) := H
  have A8 := X.A A80
  clear A80
  by_cases c9 : t177 = true
  ·subst c9
   have H1 : (spec_SailAll.j0 k l2 (decide ((l2.length : Int) > 40)) a0_0 a0_1 a0_2 l1_0 a1_1) = some (r1, r2, r3) := by rw [if_pos rfl] at H; exact H
   clear H
   have H := H1
   clear H1
   have H' := X.A H
   clear H
   have hnb10 := NB174_175.out
   have hnc10 := NB175_174.out
   have hnb11 := NB174_176.out
   have hnc11 := NB176_174.out
   have hcz12_0 : w7.cell? ⟨gb174, 0, none⟩ = some (.int .i64 a0_0) := (blk_cell BK174.out 0).trans rfl
   have hcz12_1 : w7.cell? ⟨gb174, 1, none⟩ = some (.int .i64 a0_1) := (blk_cell BK174.out 1).trans rfl
   have hcz12_2 : w7.cell? ⟨gb174, 2, none⟩ = some (.int .i64 a0_2) := (blk_cell BK174.out 2).trans rfl
   have hfz12_0 := blk_frozen BK174.out 0
   have hfz12_1 := blk_frozen BK174.out 1
   have hfz12_2 := blk_frozen BK174.out 2
   have hnb13 := NB175_176.out
   have hnc13 := NB176_175.out
   have hcz14_0 : w7.cell? ⟨gb175, 0, none⟩ = some (.slice A1_0 l1_0.length c1_0) := (blk_cell BK175.out 0).trans rfl
   have hcz14_1 : w7.cell? ⟨gb175, 1, none⟩ = some (.int .i64 a1_1) := (blk_cell BK175.out 1).trans rfl
   have hfz14_0 := blk_frozen BK175.out 0
   have hfz14_1 := blk_frozen BK175.out 1
   go_wp2_with (first | ((with_reducible refine gate_callee (f := 18) rfl ?_); refine goesL_ (some 12) rfl rfl Try.func18 (by kernel_rfl) rfl #[.agg #[.int .i64 a0_0, .int .i64 a0_1, .int .i64 a0_2], .agg #[.slice A1_0 l1_0.length c1_0, .int .i64 a1_1]] rfl X.M ?_; (with_reducible refine (spec_isAsked.calls k a0_0 a0_1 a0_2 _ _ l1_0 a1_1 true _ ?side1 ?side2 A8.out).mono ?_); (case side1 => exact X.C (Kd.C_below HR1_0.out HB.out)); (case side2 => exact HC1_0.out); rintro e w15 ⟨rfl, hb⟩; refine ⟨_, rfl, ?_⟩; have n0_ := X.A (X.BB BK174 hb); have n1_ := X.A (X.BB BK175 hb); have n2_ := X.A (X.BB BK176 hb); have n3_ := X.A (below_step X.G hb); clear BK174 BK175 BK176 HB; have BK174 := n0_; have BK175 := n1_; have BK176 := n2_; have HB := n3_; clear n0_ n1_ n2_ n3_; (try clear hb); (try clear hb2); (try clear hk); (try clear hi)))
   go_meet
   case rel => exact ⟨_, (decide ((l2.length : Int) > 40)), (by first | rfl | (simp; done) | (simp [*]; done)), H', ⟨by first | omega | exact Nat.le_refl _⟩, ⟨X.B BK174⟩, ⟨X.B BK175⟩, ⟨X.B BK176⟩, ⟨X.G⟩⟩
  ·replace c9 := Bool.eq_false_iff.mpr c9
   subst c9
   have H1 : (spec_SailAll.j0 k l2 true a0_0 a0_1 a0_2 l1_0 a1_1) = some (r1, r2, r3) := by rw [if_neg (show ¬ (false = true) by decide)] at H; exact H
   clear H
   have H := H1
   clear H1
   have H' := X.A H
   clear H
   have hnb16 := NB174_175.out
   have hnc16 := NB175_174.out
   have hnb17 := NB174_176.out
   have hnc17 := NB176_174.out
   have hcz18_0 : w7.cell? ⟨gb174, 0, none⟩ = some (.int .i64 a0_0) := (blk_cell BK174.out 0).trans rfl
   have hcz18_1 : w7.cell? ⟨gb174, 1, none⟩ = some (.int .i64 a0_1) := (blk_cell BK174.out 1).trans rfl
   have hcz18_2 : w7.cell? ⟨gb174, 2, none⟩ = some (.int .i64 a0_2) := (blk_cell BK174.out 2).trans rfl
   have hfz18_0 := blk_frozen BK174.out 0
   have hfz18_1 := blk_frozen BK174.out 1
   have hfz18_2 := blk_frozen BK174.out 2
   have hnb19 := NB175_176.out
   have hnc19 := NB176_175.out
   have hcz20_0 : w7.cell? ⟨gb175, 0, none⟩ = some (.slice A1_0 l1_0.length c1_0) := (blk_cell BK175.out 0).trans rfl
   have hcz20_1 : w7.cell? ⟨gb175, 1, none⟩ = some (.int .i64 a1_1) := (blk_cell BK175.out 1).trans rfl
   have hfz20_0 := blk_frozen BK175.out 0
   have hfz20_1 := blk_frozen BK175.out 1
   go_wp2_with (first | ((with_reducible refine gate_callee (f := 18) rfl ?_); refine goesL_ (some 12) rfl rfl Try.func18 (by kernel_rfl) rfl #[.agg #[.int .i64 a0_0, .int .i64 a0_1, .int .i64 a0_2], .agg #[.slice A1_0 l1_0.length c1_0, .int .i64 a1_1]] rfl X.M ?_; (with_reducible refine (spec_isAsked.calls k a0_0 a0_1 a0_2 _ _ l1_0 a1_1 false _ ?side1 ?side2 A8.out).mono ?_); (case side1 => exact X.C (Kd.C_below HR1_0.out HB.out)); (case side2 => exact HC1_0.out); rintro e w21 ⟨rfl, hb⟩; refine ⟨_, rfl, ?_⟩; have n0_ := X.A (X.BB BK174 hb); have n1_ := X.A (X.BB BK175 hb); have n2_ := X.A (X.BB BK176 hb); have n3_ := X.A (below_step X.G hb); clear BK174 BK175 BK176 HB; have BK174 := n0_; have BK175 := n1_; have BK176 := n2_; have HB := n3_; clear n0_ n1_ n2_ n3_; (try clear hb); (try clear hb2); (try clear hk); (try clear hi)))
   go_meet
   case rel => exact ⟨_, (true), (by first | rfl | (simp; done) | (simp [*]; done)), H', ⟨by first | omega | exact Nat.le_refl _⟩, ⟨X.B BK174⟩, ⟨X.B BK175⟩, ⟨X.B BK176⟩, ⟨X.G⟩⟩
 case rest =>
  clear HC4
  try clear c1
  try clear c2
  try clear p2
  try clear c6
  try clear c9
  try clear c10
  try clear c11
  try clear c13
  try clear c16
  try clear c17
  try clear c18
  try clear c19
  try clear hcz12_0
  try clear hcz12_1
  try clear hcz12_2
  try clear hcz14_0
  try clear hcz14_1
  try clear hcz18_0
  try clear hcz18_1
  try clear hcz18_2
  try clear hcz20_0
  try clear hcz20_1
  try clear hfz12_0
  try clear hfz12_1
  try clear hfz12_2
  try clear hfz14_0
  try clear hfz14_1
  try clear hfz18_0
  try clear hfz18_1
  try clear hfz18_2
  try clear hfz20_0
  try clear hfz20_1
  obtain ⟨kq, x18_3, rfl, HA, HJ3, BK174, BK175, BK176, HB⟩ := hcut
  cases kq with
  | zero => exact absurd HA.out (by simp [spec_SailAll.j0])
  | succ kj3 =>
   have H := HA.out
   clear HA
   simp only [spec_SailAll.j0] at H
   by_cases c22 : x18_3 = true
   ·subst c22
    have H1 : (some (([] : List Int), 0, false)) = some (r1, r2, r3) := by rw [if_pos rfl] at H; exact H
    clear H
    have H := H1
    clear H1
    simp only [Option.some.injEq, Prod.mk.injEq] at H
    obtain ⟨rfl, rfl, rfl⟩ := H
    have hnb23 := NB176_174.out
    have hnc23 := NB174_176.out
    have hnb24 := NB176_175.out
    have hnc24 := NB175_176.out
    have hcz25_0 : wc.cell? ⟨gb176, 0, none⟩ = some (.slice none 0 0) := (blk_cell BK176.out 0).trans rfl
    have hcz25_1 : wc.cell? ⟨gb176, 1, none⟩ = some (.int .i64 0) := (blk_cell BK176.out 1).trans rfl
    have hfz25_0 := blk_frozen BK176.out 0
    have hfz25_1 := blk_frozen BK176.out 1
    go_wp2
    refine bodyPost_ret (results_ct rfl _ _ gb176 30 #[.slice none 0 0, .int .i64 0] (0, 0) _ rfl (by (with_reducible repeat (first | refine blk_drewN ?_ _ | refine blk_drew ?_ | refine blk_alloc ?_ _)); refine blk_put (cs := #[.slice none 0 0, .int .i64 0]) ?_ 1 _ rfl; (with_reducible repeat (first | refine blk_drewN ?_ _ | refine blk_drew ?_ | refine blk_alloc ?_ _)); refine blk_put (cs := #[.slice none 0 0, .int .i64 0]) ?_ 0 _ rfl; (with_reducible repeat (first | refine blk_drewN ?_ _ | refine blk_drew ?_ | refine blk_alloc ?_ _)); exact BK176.out) Try.underlying30 rfl (by kernel_rfl)) rfl ?_
    exact ⟨_, by first | rfl | (simp [errW_none, errW_some] <;> rfl) | (simp [*, errW_none, errW_some] <;> rfl), by first | exact Kd.R_nil _ _ _ _ _ | exact Kd.N_nil _ _ _ _ _ | exact Kd.V_nil _ _ _ _ _ | exact Kd.Q_nil _ _ _ _ _ | exact Kd.S_nil _ _ _ _ _, X.G⟩
   ·replace c22 := Bool.eq_false_iff.mpr c22
    subst c22
    have H1 : ((spec_isPlay.f kj3 a0_0 a0_1 a0_2 l1_0 a1_1 l2).bind fun bt178 => (if bt178.2.2 < (l2.length : Int) then (some (([] : List Int), 0, false)) else (some (bt178.1, bt178.2.1, true)))) = some (r1, r2, r3) := by rw [if_neg (show ¬ (false = true) by decide)] at H; exact H
    clear H
    have H := H1
    clear H1
    replace H := Option.bind_eq_some_iff.mp H
    obtain ⟨⟨t178, t181, t182⟩, A260, H⟩ := H
    replace H : (if t182 < (l2.length : Int) then (some (([] : List Int), 0, false)) else (some (t178, t181, true))) = some (r1, r2, r3) := H
    have A26 := X.A A260
    clear A260
    by_cases c27 : t182 < (l2.length : Int)
    ·rw [if_pos c27] at H
     have c27b0 : decide (t182 < (l2.length : Int)) = true := decide_eq_true c27
     clear c27
     simp only [Option.some.injEq, Prod.mk.injEq] at H
     obtain ⟨rfl, rfl, rfl⟩ := H
     have hnb28 := NB174_175.out
     have hnc28 := NB175_174.out
     have hnb29 := NB174_176.out
     have hnc29 := NB176_174.out
     have hcz30_0 : wc.cell? ⟨gb174, 0, none⟩ = some (.int .i64 a0_0) := (blk_cell BK174.out 0).trans rfl
     have hcz30_1 : wc.cell? ⟨gb174, 1, none⟩ = some (.int .i64 a0_1) := (blk_cell BK174.out 1).trans rfl
     have hcz30_2 : wc.cell? ⟨gb174, 2, none⟩ = some (.int .i64 a0_2) := (blk_cell BK174.out 2).trans rfl
     have hfz30_0 := blk_frozen BK174.out 0
     have hfz30_1 := blk_frozen BK174.out 1
     have hfz30_2 := blk_frozen BK174.out 2
     have hnb31 := NB175_176.out
     have hnc31 := NB176_175.out
     have hcz32_0 : wc.cell? ⟨gb175, 0, none⟩ = some (.slice A1_0 l1_0.length c1_0) := (blk_cell BK175.out 0).trans rfl
     have hcz32_1 : wc.cell? ⟨gb175, 1, none⟩ = some (.int .i64 a1_1) := (blk_cell BK175.out 1).trans rfl
     have hfz32_0 := blk_frozen BK175.out 0
     have hfz32_1 := blk_frozen BK175.out 1
     go_wp2_with (first | ((with_reducible refine gate_callee (f := 19) rfl ?_); refine goesL_ (some 24) rfl rfl Try.func19 (by kernel_rfl) rfl #[.agg #[.int .i64 a0_0, .int .i64 a0_1, .int .i64 a0_2], .agg #[.slice A1_0 l1_0.length c1_0, .int .i64 a1_1], .slice A2 l2.length c2] rfl X.M ?_; (with_reducible refine (spec_isPlay.calls kj3 a0_0 a0_1 a0_2 _ _ l1_0 a1_1 _ _ l2 t178 t181 t182 _ ?side1 ?side2 ?side3 ?side4 A26.out).mono ?_); (case side1 => exact X.C (Kd.C_below HR1_0.out HB.out)); (case side2 => exact HC1_0.out); (case side3 => exact X.C (Kd.C_below HR2.out HB.out)); (case side4 => exact HC2.out); rintro e w33 ⟨v179, rfl, ho0, hb⟩; refine ⟨_, rfl, ?_⟩; have n0_ := X.A (Kd.R_lower ho0 (below_size X.G)); have n1_ := X.A (X.BB BK174 hb); have n2_ := X.A (X.BB BK175 hb); have n3_ := X.A (X.BB BK176 hb); have n4_ := X.A (below_step X.G hb); clear BK174 BK175 BK176 HB; have HO180 := n0_; have BK174 := n1_; have BK175 := n2_; have BK176 := n3_; have HB := n4_; clear n0_ n1_ n2_ n3_ n4_; (try clear hb); (try clear hb2); (try clear hk); (try clear hi); (try clear ho0)) | ((with_reducible refine gate_dst (N := 8) rfl ?_); (try (refine gate_guard (by rfl) ?_; dsimp only)); refine box_event ?hg (N := 8) ?hd (cs := #[.slice none 0 0, .int .i64 0]) (t := 30) ?hr ?_; (case hd => rfl); (case hg => rfl); (case hr => exact X.R); intro gb183 hg w34 hbox hb; have n0_ := X.A (Kd.R_below (X.K HO180) hb); have n1_ := X.A (X.BB BK174 hb); have n2_ := X.A (X.BB BK175 hb); have n3_ := X.A (X.BB BK176 hb); have n4_ := X.A (below_step X.G hb); have n5_ := X.A (hbox); have n6_ := X.A ((by rw [hg]; exact (below_size X.G) : w.heap.size ≤ gb183)); have n7_ := X.A ((by rw [hg]; exact (below_size X.G) : w.heap.size ≤ gb183)); have n8_ := X.A (X.NL hg BK174); have n9_ := X.A (X.NG hg BK174); have n10_ := X.A (X.NL hg BK175); have n11_ := X.A (X.NG hg BK175); have n12_ := X.A (X.NL hg BK176); have n13_ := X.A (X.NG hg BK176); clear HO180 BK174 BK175 BK176 HB; have HO180 := n0_; have BK174 := n1_; have BK175 := n2_; have BK176 := n3_; have HB := n4_; have BK183 := n5_; have GW183 := n6_; have GE183 := n7_; have NB174_183 := n8_; have NB183_174 := n9_; have NB175_183 := n10_; have NB183_175 := n11_; have NB176_183 := n12_; have NB183_176 := n13_; clear n0_ n1_ n2_ n3_ n4_ n5_ n6_ n7_ n8_ n9_ n10_ n11_ n12_ n13_ hb hbox hg; obtain ⟨Ao35, co35, eo35⟩ := Kd.R_slice HO180.out; subst eo35; have hnb36 := NB183_174.out; have hnc36 := NB174_183.out; have hnb37 := NB183_175.out; have hnc37 := NB175_183.out; have hnb38 := NB183_176.out; have hnc38 := NB176_183.out; have hcz39_0 : w34.cell? ⟨gb183, 0, none⟩ = some (.slice none 0 0) := (blk_cell BK183.out 0).trans rfl; have hcz39_1 : w34.cell? ⟨gb183, 1, none⟩ = some (.int .i64 0) := (blk_cell BK183.out 1).trans rfl; have hfz39_0 := blk_frozen BK183.out 0; have hfz39_1 := blk_frozen BK183.out 1; have hcz40_0 : w34.cell? ⟨gb176, 0, none⟩ = some (.slice none 0 0) := (blk_cell BK176.out 0).trans rfl; have hcz40_1 : w34.cell? ⟨gb176, 1, none⟩ = some (.int .i64 0) := (blk_cell BK176.out 1).trans rfl; have hfz40_0 := blk_frozen BK176.out 0; have hfz40_1 := blk_frozen BK176.out 1))
     refine bodyPost_ret (results_ct rfl _ _ gb176 30 #[.slice none 0 0, .int .i64 0] (0, 0) _ rfl (by (with_reducible repeat (first | refine blk_drewN ?_ _ | refine blk_drew ?_ | refine blk_alloc ?_ _)); refine blk_put (cs := #[.slice none 0 0, .int .i64 0]) ?_ 1 _ rfl; (with_reducible repeat (first | refine blk_drewN ?_ _ | refine blk_drew ?_ | refine blk_alloc ?_ _)); refine blk_put (cs := #[.slice none 0 0, .int .i64 0]) ?_ 0 _ rfl; (with_reducible repeat (first | refine blk_drewN ?_ _ | refine blk_drew ?_ | refine blk_alloc ?_ _)); refine blk_far ?_ NB176_183.out _; (with_reducible repeat (first | refine blk_drewN ?_ _ | refine blk_drew ?_ | refine blk_alloc ?_ _)); refine blk_far ?_ NB176_183.out _; (with_reducible repeat (first | refine blk_drewN ?_ _ | refine blk_drew ?_ | refine blk_alloc ?_ _)); exact BK176.out) Try.underlying30 rfl (by kernel_rfl)) rfl ?_
     exact ⟨_, by first | rfl | (simp [errW_none, errW_some] <;> rfl) | (simp [*, errW_none, errW_some] <;> rfl), by first | exact Kd.R_nil _ _ _ _ _ | exact Kd.N_nil _ _ _ _ _ | exact Kd.V_nil _ _ _ _ _ | exact Kd.Q_nil _ _ _ _ _ | exact Kd.S_nil _ _ _ _ _, X.G⟩
    ·rw [if_neg c27] at H
     have c27b0 : decide (t182 < (l2.length : Int)) = false := decide_eq_false c27
     clear c27
     simp only [Option.some.injEq, Prod.mk.injEq] at H
     obtain ⟨rfl, rfl, rfl⟩ := H
     have hnb41 := NB174_175.out
     have hnc41 := NB175_174.out
     have hnb42 := NB174_176.out
     have hnc42 := NB176_174.out
     have hcz43_0 : wc.cell? ⟨gb174, 0, none⟩ = some (.int .i64 a0_0) := (blk_cell BK174.out 0).trans rfl
     have hcz43_1 : wc.cell? ⟨gb174, 1, none⟩ = some (.int .i64 a0_1) := (blk_cell BK174.out 1).trans rfl
     have hcz43_2 : wc.cell? ⟨gb174, 2, none⟩ = some (.int .i64 a0_2) := (blk_cell BK174.out 2).trans rfl
     have hfz43_0 := blk_frozen BK174.out 0
     have hfz43_1 := blk_frozen BK174.out 1
     have hfz43_2 := blk_frozen BK174.out 2
     have hnb44 := NB175_176.out
     have hnc44 := NB176_175.out
     have hcz45_0 : wc.cell? ⟨gb175, 0, none⟩ = some (.slice A1_0 l1_0.length c1_0) := (blk_cell BK175.out 0).trans rfl
     have hcz45_1 : wc.cell? ⟨gb175, 1, none⟩ = some (.int .i64 a1_1) := (blk_cell BK175.out 1).trans rfl
     have hfz45_0 := blk_frozen BK175.out 0
     have hfz45_1 := blk_frozen BK175.out 1
     go_wp2_with (first | ((with_reducible refine gate_callee (f := 19) rfl ?_); refine goesL_ (some 24) rfl rfl Try.func19 (by kernel_rfl) rfl #[.agg #[.int .i64 a0_0, .int .i64 a0_1, .int .i64 a0_2], .agg #[.slice A1_0 l1_0.length c1_0, .int .i64 a1_1], .slice A2 l2.length c2] rfl X.M ?_; (with_reducible refine (spec_isPlay.calls kj3 a0_0 a0_1 a0_2 _ _ l1_0 a1_1 _ _ l2 t178 t181 t182 _ ?side1 ?side2 ?side3 ?side4 A26.out).mono ?_); (case side1 => exact X.C (Kd.C_below HR1_0.out HB.out)); (case side2 => exact HC1_0.out); (case side3 => exact X.C (Kd.C_below HR2.out HB.out)); (case side4 => exact HC2.out); rintro e w46 ⟨v179, rfl, ho0, hb⟩; refine ⟨_, rfl, ?_⟩; have n0_ := X.A (Kd.R_lower ho0 (below_size X.G)); have n1_ := X.A (X.BB BK174 hb); have n2_ := X.A (X.BB BK175 hb); have n3_ := X.A (X.BB BK176 hb); have n4_ := X.A (below_step X.G hb); clear BK174 BK175 BK176 HB; have HO180 := n0_; have BK174 := n1_; have BK175 := n2_; have BK176 := n3_; have HB := n4_; clear n0_ n1_ n2_ n3_ n4_; (try clear hb); (try clear hb2); (try clear hk); (try clear hi); (try clear ho0)) | ((with_reducible refine gate_dst (N := 8) rfl ?_); (try (refine gate_guard (by rfl) ?_; dsimp only)); refine box_event ?hg (N := 8) ?hd (cs := #[.slice none 0 0, .int .i64 0]) (t := 30) ?hr ?_; (case hd => rfl); (case hg => rfl); (case hr => exact X.R); intro gb183 hg w47 hbox hb; have n0_ := X.A (Kd.R_below (X.K HO180) hb); have n1_ := X.A (X.BB BK174 hb); have n2_ := X.A (X.BB BK175 hb); have n3_ := X.A (X.BB BK176 hb); have n4_ := X.A (below_step X.G hb); have n5_ := X.A (hbox); have n6_ := X.A ((by rw [hg]; exact (below_size X.G) : w.heap.size ≤ gb183)); have n7_ := X.A ((by rw [hg]; exact (below_size X.G) : w.heap.size ≤ gb183)); have n8_ := X.A (X.NL hg BK174); have n9_ := X.A (X.NG hg BK174); have n10_ := X.A (X.NL hg BK175); have n11_ := X.A (X.NG hg BK175); have n12_ := X.A (X.NL hg BK176); have n13_ := X.A (X.NG hg BK176); clear HO180 BK174 BK175 BK176 HB; have HO180 := n0_; have BK174 := n1_; have BK175 := n2_; have BK176 := n3_; have HB := n4_; have BK183 := n5_; have GW183 := n6_; have GE183 := n7_; have NB174_183 := n8_; have NB183_174 := n9_; have NB175_183 := n10_; have NB183_175 := n11_; have NB176_183 := n12_; have NB183_176 := n13_; clear n0_ n1_ n2_ n3_ n4_ n5_ n6_ n7_ n8_ n9_ n10_ n11_ n12_ n13_ hb hbox hg; obtain ⟨Ao48, co48, eo48⟩ := Kd.R_slice HO180.out; subst eo48; have hnb49 := NB183_174.out; have hnc49 := NB174_183.out; have hnb50 := NB183_175.out; have hnc50 := NB175_183.out; have hnb51 := NB183_176.out; have hnc51 := NB176_183.out; have hcz52_0 : w47.cell? ⟨gb183, 0, none⟩ = some (.slice none 0 0) := (blk_cell BK183.out 0).trans rfl; have hcz52_1 : w47.cell? ⟨gb183, 1, none⟩ = some (.int .i64 0) := (blk_cell BK183.out 1).trans rfl; have hfz52_0 := blk_frozen BK183.out 0; have hfz52_1 := blk_frozen BK183.out 1; have hcz53_0 : w47.cell? ⟨gb176, 0, none⟩ = some (.slice none 0 0) := (blk_cell BK176.out 0).trans rfl; have hcz53_1 : w47.cell? ⟨gb176, 1, none⟩ = some (.int .i64 0) := (blk_cell BK176.out 1).trans rfl; have hfz53_0 := blk_frozen BK176.out 0; have hfz53_1 := blk_frozen BK176.out 1))
     refine bodyPost_ret (results_ct rfl _ _ gb176 30 #[.slice Ao48 t178.length co48, .int .i64 t181] (0, 0) _ rfl (by (with_reducible repeat (first | refine blk_drewN ?_ _ | refine blk_drew ?_ | refine blk_alloc ?_ _)); refine blk_put (cs := #[.slice Ao48 t178.length co48, .int .i64 0]) ?_ 1 _ rfl; (with_reducible repeat (first | refine blk_drewN ?_ _ | refine blk_drew ?_ | refine blk_alloc ?_ _)); refine blk_put (cs := #[.slice none 0 0, .int .i64 0]) ?_ 0 _ rfl; (with_reducible repeat (first | refine blk_drewN ?_ _ | refine blk_drew ?_ | refine blk_alloc ?_ _)); refine blk_far ?_ NB176_183.out _; (with_reducible repeat (first | refine blk_drewN ?_ _ | refine blk_drew ?_ | refine blk_alloc ?_ _)); refine blk_far ?_ NB176_183.out _; (with_reducible repeat (first | refine blk_drewN ?_ _ | refine blk_drew ?_ | refine blk_alloc ?_ _)); exact BK176.out) Try.underlying30 rfl (by kernel_rfl)) rfl ?_
     exact ⟨_, by first | rfl | (simp [errW_none, errW_some] <;> rfl) | (simp [*, errW_none, errW_some] <;> rfl), by (with_reducible repeat (first | apply Kd.R_alloc | apply Kd.R_drewN | apply Kd.R_drew)); exact Kd.R_mono (Kd.R_far (p := ⟨gb176, 1, none⟩) (Kd.R_far (p := ⟨gb176, 0, none⟩) (Kd.R_far (p := ⟨gb183, 1, none⟩) (Kd.R_far (p := ⟨gb183, 0, none⟩) (Kd.R_types (Kd.R_types HO180.out BK183.out (by decide)) BK176.out (by decide)) (fun _ hk => hk.1.2) (.slice Ao48 t178.length co48)) (fun _ hk => hk.1.2) (.int .i64 t181)) (fun _ hk => hk.2) (.slice Ao48 t178.length co48)) (fun _ hk => hk.2) (.int .i64 t181)) (fun _ hk => trivial), X.G⟩

/-! ### laws_toIsles: function 7 -/
def laws_toIsles.f (a0_0 : Int) (a0_1 : Int) (a0_2 : Int) : Option (Int × Int × Int) := some (a0_0, a0_1, a0_2)
set_option maxHeartbeats 8000000 in
set_option maxRecDepth 100000 in
theorem laws_toIsles.calls (a0_0 : Int) (a0_1 : Int) (a0_2 : Int) (r1 : Int) (r2 : Int) (r3 : Int) (w : World) (h : laws_toIsles.f a0_0 a0_1 a0_2 = some (r1, r2, r3)) :
  Calls Try.prog 7 #[.agg #[.int .i64 a0_0, .int .i64 a0_1, .int .i64 a0_2]] w fun e w' => e = .returned (.agg #[.int .i64 r1, .int .i64 r2, .int .i64 r3]) ∧ Below w.heap.size w w' := by
 have hu23 := Try.underlying23
 have hu33 := Try.underlying33
 have HB := X.A (Below.refl w.heap.size w)
 have H : (some (a0_0, a0_1, a0_2)) = some (r1, r2, r3) := h
 clear h
 simp only [Option.some.injEq, Prod.mk.injEq] at H
 obtain ⟨rfl, rfl, rfl⟩ := H
 go_enter Try.func7, Try.ntmps7
 go_wp2_with (first | ((with_reducible refine gate_dst (N := 1) rfl ?_); refine box_event ?hg (N := 1) ?hd (cs := #[.int .i64 a0_0, .int .i64 a0_1, .int .i64 a0_2]) (t := 23) ?hr ?_; (case hd => rfl); (case hg => rfl); (case hr => exact X.R); intro gb184 hg w2 hbox hb; have n0_ := X.A (below_step X.G hb); have n1_ := X.A (hbox); have n2_ := X.A ((by rw [hg]; exact (below_size X.G) : w.heap.size ≤ gb184)); have n3_ := X.A ((by rw [hg]; exact (below_size X.G) : w.heap.size ≤ gb184)); clear HB; have HB := n0_; have BK184 := n1_; have GW184 := n2_; have GE184 := n3_; clear n0_ n1_ n2_ n3_; clear hb hbox hg) | ((with_reducible refine gate_dst (N := 2) rfl ?_); refine box_event ?hg (N := 2) ?hd (cs := #[.int .i64 0, .int .i64 0, .int .i64 0]) (t := 33) ?hr ?_; (case hd => rfl); (case hg => rfl); (case hr => exact X.R); intro gb185 hg w3 hbox hb; have n0_ := X.A (X.BB BK184 hb); have n1_ := X.A (below_step X.G hb); have n2_ := X.A (hbox); have n3_ := X.A ((by rw [hg]; exact (below_size X.G) : w.heap.size ≤ gb185)); have n4_ := X.A ((by rw [hg]; exact (below_size X.G) : w.heap.size ≤ gb185)); have n5_ := X.A (X.NL hg BK184); have n6_ := X.A (X.NG hg BK184); clear BK184 HB; have BK184 := n0_; have HB := n1_; have BK185 := n2_; have GW185 := n3_; have GE185 := n4_; have NB184_185 := n5_; have NB185_184 := n6_; clear n0_ n1_ n2_ n3_ n4_ n5_ n6_; clear hb hbox hg) | ((with_reducible refine gate_dst (N := 3) rfl ?_); refine box_event ?hg (N := 3) ?hd (cs := #[.int .i64 0, .int .i64 0, .int .i64 0]) (t := 33) ?hr ?_; (case hd => rfl); (case hg => rfl); (case hr => exact X.R); intro gb186 hg w4 hbox hb; have n0_ := X.A (X.BB BK184 hb); have n1_ := X.A (X.BB BK185 hb); have n2_ := X.A (below_step X.G hb); have n3_ := X.A (hbox); have n4_ := X.A ((by rw [hg]; exact (below_size X.G) : w.heap.size ≤ gb186)); have n5_ := X.A ((by rw [hg]; exact (below_size X.G) : w.heap.size ≤ gb186)); have n6_ := X.A (X.NL hg BK184); have n7_ := X.A (X.NG hg BK184); have n8_ := X.A (X.NL hg BK185); have n9_ := X.A (X.NG hg BK185); clear BK184 BK185 HB; have BK184 := n0_; have BK185 := n1_; have HB := n2_; have BK186 := n3_; have GW186 := n4_; have GE186 := n5_; have NB184_186 := n6_; have NB186_184 := n7_; have NB185_186 := n8_; have NB186_185 := n9_; clear n0_ n1_ n2_ n3_ n4_ n5_ n6_ n7_ n8_ n9_ hb hbox hg; have hnb5 := NB184_185.out; have hnc5 := NB185_184.out; have hnb6 := NB184_186.out; have hnc6 := NB186_184.out; have hcz7_0 : w4.cell? ⟨gb184, 0, none⟩ = some (.int .i64 a0_0) := (blk_cell BK184.out 0).trans rfl; have hcz7_1 : w4.cell? ⟨gb184, 1, none⟩ = some (.int .i64 a0_1) := (blk_cell BK184.out 1).trans rfl; have hcz7_2 : w4.cell? ⟨gb184, 2, none⟩ = some (.int .i64 a0_2) := (blk_cell BK184.out 2).trans rfl; have hfz7_0 := blk_frozen BK184.out 0; have hfz7_1 := blk_frozen BK184.out 1; have hfz7_2 := blk_frozen BK184.out 2; have hnb8 := NB186_185.out; have hnc8 := NB185_186.out; have hcz9_0 : w4.cell? ⟨gb186, 0, none⟩ = some (.int .i64 0) := (blk_cell BK186.out 0).trans rfl; have hcz9_1 : w4.cell? ⟨gb186, 1, none⟩ = some (.int .i64 0) := (blk_cell BK186.out 1).trans rfl; have hcz9_2 : w4.cell? ⟨gb186, 2, none⟩ = some (.int .i64 0) := (blk_cell BK186.out 2).trans rfl; have hfz9_0 := blk_frozen BK186.out 0; have hfz9_1 := blk_frozen BK186.out 1; have hfz9_2 := blk_frozen BK186.out 2; have hcz10_0 : w4.cell? ⟨gb185, 0, none⟩ = some (.int .i64 0) := (blk_cell BK185.out 0).trans rfl; have hcz10_1 : w4.cell? ⟨gb185, 1, none⟩ = some (.int .i64 0) := (blk_cell BK185.out 1).trans rfl; have hcz10_2 : w4.cell? ⟨gb185, 2, none⟩ = some (.int .i64 0) := (blk_cell BK185.out 2).trans rfl; have hfz10_0 := blk_frozen BK185.out 0; have hfz10_1 := blk_frozen BK185.out 1; have hfz10_2 := blk_frozen BK185.out 2))
 refine bodyPost_ret (results_cell_row rfl _ _ gb185 33 #[.int .i64 a0_0, .int .i64 a0_1, .int .i64 a0_2] (0, 0) _ rfl (by (with_reducible repeat (first | refine blk_drewN ?_ _ | refine blk_drew ?_ | refine blk_alloc ?_ _)); refine blk_put (cs := #[.int .i64 a0_0, .int .i64 a0_1, .int .i64 0]) ?_ 2 _ rfl; (with_reducible repeat (first | refine blk_drewN ?_ _ | refine blk_drew ?_ | refine blk_alloc ?_ _)); refine blk_put (cs := #[.int .i64 a0_0, .int .i64 0, .int .i64 0]) ?_ 1 _ rfl; (with_reducible repeat (first | refine blk_drewN ?_ _ | refine blk_drew ?_ | refine blk_alloc ?_ _)); refine blk_put (cs := #[.int .i64 0, .int .i64 0, .int .i64 0]) ?_ 0 _ rfl; (with_reducible repeat (first | refine blk_drewN ?_ _ | refine blk_drew ?_ | refine blk_alloc ?_ _)); refine blk_far ?_ NB185_186.out _; (with_reducible repeat (first | refine blk_drewN ?_ _ | refine blk_drew ?_ | refine blk_alloc ?_ _)); refine blk_far ?_ NB185_186.out _; (with_reducible repeat (first | refine blk_drewN ?_ _ | refine blk_drew ?_ | refine blk_alloc ?_ _)); refine blk_far ?_ NB185_186.out _; (with_reducible repeat (first | refine blk_drewN ?_ _ | refine blk_drew ?_ | refine blk_alloc ?_ _)); exact BK185.out) Try.underlying33 rfl (by kernel_rfl)) rfl ?_
 exact ⟨by first | rfl | (simp [errW_none, errW_some] <;> rfl) | (simp [*, errW_none, errW_some] <;> rfl), X.G⟩

/-! ### laws_toIntS: function 20 -/
def laws_toIntS.l0 : Nat → List Int → List Int → Int → Option (List Int)
 | 0, _, _, _ => none
 | k + 1, x0, x3, x4 => if x4 < (x0.length : Int) then (if 0 ≤ x4 then (if x4 < (x3.length : Int) then (laws_toIntS.l0 k x0 (x3.set (x4 : Int).toNat (rd x0 x4)) (wrap64 (x4 + 1))) else (none)) else (none)) else (some x3)
def laws_toIntS.f (k : Nat) (l0 : List Int) : Option (List Int) := if 0 ≤ (l0.length : Int) then (if ((l0.length : Int) : Int).toNat ≤ 35184372088832 then (laws_toIntS.l0 k l0 (List.replicate ((l0.length : Int) : Int).toNat 0) 0) else (none)) else (none)
theorem laws_toIntS.mono_l : ∀ k, (∀ y0 y1 y2, LeO (laws_toIntS.l0 k y0 y1 y2) (laws_toIntS.l0 (k + 1) y0 y1 y2))
 | 0 => fun _ _ _ r h => by simp [laws_toIntS.l0] at h
 | k + 1 => by
  have ih0 := laws_toIntS.mono_l k
  ·intro y0 y1 y2
   unfold laws_toIntS.l0
   repeat' first
   | (with_reducible exact ih0 _ _ _)
   | (with_reducible exact LeO.refl _)
   | (with_reducible exact LeO.none _)
   | (with_reducible refine LeO.ite ?_ ?_)
   | (with_reducible refine LeO.bind ?_ (fun _ => ?_))
theorem laws_toIntS.mono : ∀ a0 k, LeO (laws_toIntS.f k a0) (laws_toIntS.f (k + 1) a0) := by
 intro a0 k
 have ih0 := laws_toIntS.mono_l k
 unfold laws_toIntS.f
 repeat' first
   | (with_reducible exact ih0 _ _ _)
   | (with_reducible exact LeO.refl _)
   | (with_reducible exact LeO.none _)
   | (with_reducible refine LeO.ite ?_ ?_)
   | (with_reducible refine LeO.bind ?_ (fun _ => ?_))
set_option maxHeartbeats 8000000 in
set_option maxRecDepth 100000 in
theorem laws_toIntS.calls (k : Nat) (A0 : Option Addr) (c0 : Nat) (l0 : List Int) (r : List Int) (w : World) (hr0 : Kd.C (Kd.int .i64) w A0 l0.length l0) (hc0 : l0.length ≤ c0) (h : laws_toIntS.f k l0 = some r) :
  Calls Try.prog 20 #[.slice A0 l0.length c0] w fun e w' => ∃ v0_ : Value, e = .returned (v0_) ∧ Kd.R (Kd.int .i64) 3 w' w.heap.size (fun _ => True) v0_ r ∧ Below w.heap.size w w' := by
 have HR0 := X.A hr0
 have HC0 := X.A hc0
 clear hr0 hc0
 have HB := X.A (Below.refl w.heap.size w)
 have H : (if 0 ≤ (l0.length : Int) then (if ((l0.length : Int) : Int).toNat ≤ 35184372088832 then (laws_toIntS.l0 k l0 (List.replicate ((l0.length : Int) : Int).toNat 0) 0) else (none)) else (none)) = some r := h
 clear h
 by_cases c2 : 0 ≤ (l0.length : Int)
 ·rw [if_pos c2] at H
  have c2b0 := eq_true c2
  have c2b1 : decide (0 ≤ (l0.length : Int)) = true := decide_eq_true c2
  clear c2
  by_cases c3 : ((l0.length : Int) : Int).toNat ≤ 35184372088832
  rotate_left
  ·rw [if_neg c3] at H
   exact absurd H (by simp)
  rw [if_pos c3] at H
  have c3b0 := eq_true c3
  have c3b1 : decide (((l0.length : Int) : Int).toNat ≤ 35184372088832) = true := decide_eq_true c3
  clear c3
  obtain ⟨y187, hy187⟩ : ∃ y_ : List Int, y_ = (List.replicate ((l0.length : Int) : Int).toNat 0) := ⟨_, rfl⟩
  replace H : (laws_toIntS.l0 k l0 y187 0) = some r := by first | (rw [hy187]; with_reducible exact H) | (have H2_ := (Option.bind_some _ _).symm.trans H; rw [hy187]; with_reducible exact H2_) | (have H2_ := (Option.bind_some _ _).symm.trans H; with_reducible exact H2_) | with_reducible exact H | (rw [hy187]; exact H) | exact H
  have Ny187 := X.A hy187
  clear hy187
  have H' := X.A H
  clear H
  go_enter Try.func20, Try.ntmps20
  go_wp2_with (first | ((with_reducible refine gate_dst (N := 7) rfl ?_); refine Kd.R_make (Kd.int .i64) _ 3 rfl (N := 7) rfl 24 _ _ rfl (l0.length : Int) rfl rfl Try.underlying24 (.int .i64 0) 8 info3 rfl (by decide) (by omega) 0 (ok := fun _ => True) (okp := fun _ => True) rfl (fun _ hk => hk) trivial X.D (Nat.le_trans (Nat.mul_le_mul_right _ (X.D : (l0.length : Int).toNat ≤ 35184372088832)) (by omega)) (Below.refl _ _) (Nat.le_refl _) ?_; intro v188 w4 ho5 hb hg_ hnew_; clear hg_ hnew_; (first | rw [← Ny187.out] at ho5 | (simp only [Int.reduceToNat] at ho5; rw [← Ny187.out] at ho5)); have n0_ := X.A (Kd.R_lower ho5 (below_size X.G)); have n1_ := X.A (below_step X.G hb); clear HB; have HO189 := n0_; have HB := n1_; clear n0_ n1_; clear hb ho5))
  go_loopg [4] k (fun kq v4 w' => ∃ (x3_1 : List Int) (x4_1 : Int), v4 = .int .i64 x4_1 ∧ Aside0 (laws_toIntS.l0 kq l0 x3_1 x4_1 = some r) ∧ Aside0 (kq ≤ k) ∧ Aside0 (Kd.R (Kd.int .i64) 3 w' w.heap.size (fun _ => True) v188 x3_1) ∧ Aside0 (Below w.heap.size w w'))
  case atStart => exact ⟨(y187), (0), (by first | rfl | (simp; done) | (simp [*]; done)), H', ⟨Nat.le_refl _⟩, ⟨by (with_reducible repeat (first | apply Kd.R_alloc | apply Kd.R_drewN | apply Kd.R_drew)); exact HO189.out⟩, ⟨X.G⟩⟩
  case round =>
   clear H'
   try clear c2
   try clear c2b0
   try clear c2b1
   try clear p2
   try clear c3
   try clear c3b0
   try clear c3b1
   obtain ⟨x3_1, x4_1, rfl, HA, HK1, HO_3, HB⟩ := hrel
   cases gk with
   | zero => exact absurd HA.out (by simp [laws_toIntS.l0])
   | succ k1 =>
    have H := HA.out
    clear HA
    simp only [laws_toIntS.l0] at H
    by_cases c6 : x4_1 < (l0.length : Int)
    ·rw [if_pos c6] at H
     have c6b0 : decide (x4_1 < (l0.length : Int)) = true := decide_eq_true c6
     clear c6
     by_cases c7 : 0 ≤ x4_1
     rotate_left
     ·rw [if_neg c7] at H
      exact absurd H (by simp)
     rw [if_pos c7] at H
     have c7b0 : decide (0 ≤ x4_1) = true := decide_eq_true c7
     clear c7
     by_cases c8 : x4_1 < (x3_1.length : Int)
     rotate_left
     ·rw [if_neg c8] at H
      exact absurd H (by simp)
     rw [if_pos c8] at H
     have c8b0 : decide (x4_1 < (x3_1.length : Int)) = true := decide_eq_true c8
     clear c8
     obtain ⟨y191, hy191⟩ : ∃ y_ : List Int, y_ = (x3_1.set (x4_1 : Int).toNat (rd l0 x4_1)) := ⟨_, rfl⟩
     replace H : (laws_toIntS.l0 k1 l0 y191 (wrap64 (x4_1 + 1))) = some r := by first | (rw [hy191]; with_reducible exact H) | (have H2_ := (Option.bind_some _ _).symm.trans H; rw [hy191]; with_reducible exact H2_) | (have H2_ := (Option.bind_some _ _).symm.trans H; with_reducible exact H2_) | with_reducible exact H | (rw [hy191]; exact H) | exact H
     have Ny191 := X.A hy191
     clear hy191
     have H' := X.A H
     clear H
     have p190 : 0 ≤ (x4_1 : Int) := X.D
     have q190 : x4_1 < (l0.length : Int) := X.D
     obtain ⟨ad190, e190, hx190_0⟩ := Kd.at_int HR0.out x4_1 p190 q190
     cases e190
     replace hx190_0 := (HB.out.cell (World.block_lt_of_cell? w _ hx190_0)).trans hx190_0
     replace p190 := eq_true p190
     replace q190 := eq_true q190
     have p9 : 0 ≤ (x4_1 : Int) := X.D
     have q9 : (x4_1 : Int) < ((x3_1.length : Int) : Int) := X.D
     obtain ⟨go9, co9, eo9, gb9, gl9, cl9, HG9⟩ := Kd.R_form HO_3.out (by omega)
     (first | cases eo9 | (injection eo9 with ea_ en_ ec_; (first | subst ea_ | (injection ea_ with ea_; subst ea_)); subst ec_; clear en_))
     have GB9 := X.A gb9
     have GG9 := X.A HG9
     clear gb9 gl9 HG9
     obtain ⟨hx9_0, hf9_0⟩ := Kd.R_celln 0 HO_3.out (x4_1 : Int) p9 q9
     replace p9 := eq_true p9
     replace q9 := eq_true q9
     have HP10 := Kd.R_putg HO_3.out (x4_1 : Int) (rd l0 x4_1)
     go_wp2_with (first | ((with_reducible refine gate_store (t := 3) (p := 20) rfl ?_); refine store_event (t := 3) (p := 20) (v := ?vo_w11) (w1 := (wr.setCell ⟨go9, (x4_1 : Int).toNat, none⟩ (.int .i64 (rd l0 x4_1)))) ?hg ?ho ?hn ?hr ?_; (case ho => rfl); (case hg => rfl); (case hn => rfl); (case hr => exact X.R); intro w11 hw; have hg : wr.grownBy w11 (some go9) := (by rw [hw]; exact HP10.2); have hp_ : Kd.R (Kd.int .i64) 3 w11 w.heap.size (fun _ => True) (.slice (some ⟨go9, 0, none⟩) x3_1.length co9) y191 := (by rw [hw, Ny191.out]; exact HP10.1); clear HP10; have n0_ := X.A (hp_); have n1_ := X.A ((by rw [hw]; exact below_set (HB.out) GB9.out : Below w.heap.size w w11)); clear HO_3 HB; have HO_3 := n0_; have HB := n1_; clear n0_ n1_; clear hg hw hp_))
     go_roundg k1
     case measure => have := HK1.out; omega
     case rel => exact ⟨(y191), (wrap64 (x4_1 + 1)), (by first | rfl | (simp; done) | (simp [*]; done)), H', ⟨by have := HK1.out; omega⟩, ⟨by (with_reducible repeat (first | apply Kd.R_alloc | apply Kd.R_drewN | apply Kd.R_drew)); exact HO_3.out⟩, ⟨X.G⟩⟩
    ·rw [if_neg c6] at H
     have c6b0 : decide (x4_1 < (l0.length : Int)) = false := decide_eq_false c6
     clear c6
     obtain rfl := Option.some.inj H
     go_wp2
     go_ret
     exact ⟨_, by first | rfl | (simp [errW_none, errW_some] <;> rfl) | (simp [*, errW_none, errW_some] <;> rfl), by (with_reducible repeat (first | apply Kd.R_alloc | apply Kd.R_drewN | apply Kd.R_drew)); exact HO_3.out, X.G⟩
 ·rw [if_neg c2] at H
  exact absurd H (by simp)

/-! ### laws_toPlaces: function 8 -/
def laws_toPlaces.f (k : Nat) (l0_0 : List Int) (a0_1 : Int) : Option (List Int × Int) := (laws_toIntS.f k l0_0).bind fun t195 => (some (t195, a0_1))
theorem laws_toPlaces.mono : ∀ a0 a1 k, LeO (laws_toPlaces.f k a0 a1) (laws_toPlaces.f (k + 1) a0 a1) := by
 intro a0 a1 k
 unfold laws_toPlaces.f
 repeat' first
   | (with_reducible exact laws_toIntS.mono _ _)
   | (with_reducible exact LeO.refl _)
   | (with_reducible exact LeO.none _)
   | (with_reducible refine LeO.ite ?_ ?_)
   | (with_reducible refine LeO.bind ?_ (fun _ => ?_))
set_option maxHeartbeats 8000000 in
set_option maxRecDepth 100000 in
theorem laws_toPlaces.calls (k : Nat) (A0_0 : Option Addr) (c0_0 : Nat) (l0_0 : List Int) (a0_1 : Int) (r1 : List Int) (r2 : Int) (w : World) (hr0_0 : Kd.C (Kd.int .i64) w A0_0 l0_0.length l0_0) (hc0_0 : l0_0.length ≤ c0_0) (h : laws_toPlaces.f k l0_0 a0_1 = some (r1, r2)) :
  Calls Try.prog 8 #[.agg #[.slice A0_0 l0_0.length c0_0, .int .i64 a0_1]] w fun e w' => ∃ v0_ : Value, e = .returned (.agg #[v0_, .int .i64 r2]) ∧ Kd.R (Kd.int .i64) 3 w' w.heap.size (fun _ => True) v0_ r1 ∧ Below w.heap.size w w' := by
 have hu26 := Try.underlying26
 have hu30 := Try.underlying30
 have HR0_0 := X.A hr0_0
 have HC0_0 := X.A hc0_0
 clear hr0_0 hc0_0
 have HB := X.A (Below.refl w.heap.size w)
 have H : ((laws_toIntS.f k l0_0).bind fun t195 => (some (t195, a0_1))) = some (r1, r2) := h
 clear h
 replace H := Option.bind_eq_some_iff.mp H
 obtain ⟨t195, A20, H⟩ := H
 replace H : (some (t195, a0_1)) = some (r1, r2) := H
 have A2 := X.A A20
 clear A20
 simp only [Option.some.injEq, Prod.mk.injEq] at H
 obtain ⟨rfl, rfl⟩ := H
 go_enter Try.func8, Try.ntmps8
 go_wp2_with (first | ((with_reducible refine gate_dst (N := 1) rfl ?_); refine box_event ?hg (N := 1) ?hd (cs := #[.slice A0_0 l0_0.length c0_0, .int .i64 a0_1]) (t := 26) ?hr ?_; (case hd => rfl); (case hg => rfl); (case hr => exact X.R); intro gb192 hg w3 hbox hb; have n0_ := X.A (below_step X.G hb); have n1_ := X.A (hbox); have n2_ := X.A ((by rw [hg]; exact (below_size X.G) : w.heap.size ≤ gb192)); have n3_ := X.A ((by rw [hg]; exact (below_size X.G) : w.heap.size ≤ gb192)); clear HB; have HB := n0_; have BK192 := n1_; have GW192 := n2_; have GE192 := n3_; clear n0_ n1_ n2_ n3_; clear hb hbox hg) | ((with_reducible refine gate_dst (N := 2) rfl ?_); refine box_event ?hg (N := 2) ?hd (cs := #[.slice none 0 0, .int .i64 0]) (t := 30) ?hr ?_; (case hd => rfl); (case hg => rfl); (case hr => exact X.R); intro gb193 hg w4 hbox hb; have n0_ := X.A (X.BB BK192 hb); have n1_ := X.A (below_step X.G hb); have n2_ := X.A (hbox); have n3_ := X.A ((by rw [hg]; exact (below_size X.G) : w.heap.size ≤ gb193)); have n4_ := X.A ((by rw [hg]; exact (below_size X.G) : w.heap.size ≤ gb193)); have n5_ := X.A (X.NL hg BK192); have n6_ := X.A (X.NG hg BK192); clear BK192 HB; have BK192 := n0_; have HB := n1_; have BK193 := n2_; have GW193 := n3_; have GE193 := n4_; have NB192_193 := n5_; have NB193_192 := n6_; clear n0_ n1_ n2_ n3_ n4_ n5_ n6_; clear hb hbox hg) | ((with_reducible refine gate_dst (N := 3) rfl ?_); refine box_event ?hg (N := 3) ?hd (cs := #[.slice none 0 0, .int .i64 0]) (t := 30) ?hr ?_; (case hd => rfl); (case hg => rfl); (case hr => exact X.R); intro gb194 hg w5 hbox hb; have n0_ := X.A (X.BB BK192 hb); have n1_ := X.A (X.BB BK193 hb); have n2_ := X.A (below_step X.G hb); have n3_ := X.A (hbox); have n4_ := X.A ((by rw [hg]; exact (below_size X.G) : w.heap.size ≤ gb194)); have n5_ := X.A ((by rw [hg]; exact (below_size X.G) : w.heap.size ≤ gb194)); have n6_ := X.A (X.NL hg BK192); have n7_ := X.A (X.NG hg BK192); have n8_ := X.A (X.NL hg BK193); have n9_ := X.A (X.NG hg BK193); clear BK192 BK193 HB; have BK192 := n0_; have BK193 := n1_; have HB := n2_; have BK194 := n3_; have GW194 := n4_; have GE194 := n5_; have NB192_194 := n6_; have NB194_192 := n7_; have NB193_194 := n8_; have NB194_193 := n9_; clear n0_ n1_ n2_ n3_ n4_ n5_ n6_ n7_ n8_ n9_ hb hbox hg; have hnb6 := NB192_193.out; have hnc6 := NB193_192.out; have hnb7 := NB192_194.out; have hnc7 := NB194_192.out; have hcz8_0 : w5.cell? ⟨gb192, 0, none⟩ = some (.slice A0_0 l0_0.length c0_0) := (blk_cell BK192.out 0).trans rfl; have hcz8_1 : w5.cell? ⟨gb192, 1, none⟩ = some (.int .i64 a0_1) := (blk_cell BK192.out 1).trans rfl; have hfz8_0 := blk_frozen BK192.out 0; have hfz8_1 := blk_frozen BK192.out 1) | ((with_reducible refine gate_callee (f := 20) rfl ?_); refine goesL_ (some 6) rfl rfl Try.func20 (by kernel_rfl) rfl #[.slice A0_0 l0_0.length c0_0] rfl X.M ?_; (with_reducible refine (laws_toIntS.calls k _ _ l0_0 t195 _ ?side1 ?side2 A2.out).mono ?_); (case side1 => exact X.C (Kd.C_below HR0_0.out HB.out)); (case side2 => exact HC0_0.out); rintro e w9 ⟨v196, rfl, ho0, hb⟩; refine ⟨_, rfl, ?_⟩; have n0_ := X.A (Kd.R_lower ho0 (below_size X.G)); have n1_ := X.A (X.BB BK192 hb); have n2_ := X.A (X.BB BK193 hb); have n3_ := X.A (X.BB BK194 hb); have n4_ := X.A (below_step X.G hb); clear BK192 BK193 BK194 HB; have HO197 := n0_; have BK192 := n1_; have BK193 := n2_; have BK194 := n3_; have HB := n4_; clear n0_ n1_ n2_ n3_ n4_; (try clear hb); (try clear hb2); (try clear hk); (try clear hi); (try clear ho0); obtain ⟨Ao10, co10, eo10⟩ := Kd.R_slice HO197.out; subst eo10; have hnb11 := NB194_193.out; have hnc11 := NB193_194.out; have hcz12_0 : w9.cell? ⟨gb194, 0, none⟩ = some (.slice none 0 0) := (blk_cell BK194.out 0).trans rfl; have hcz12_1 : w9.cell? ⟨gb194, 1, none⟩ = some (.int .i64 0) := (blk_cell BK194.out 1).trans rfl; have hfz12_0 := blk_frozen BK194.out 0; have hfz12_1 := blk_frozen BK194.out 1; have hcz13_0 : w9.cell? ⟨gb192, 0, none⟩ = some (.slice A0_0 l0_0.length c0_0) := (blk_cell BK192.out 0).trans rfl; have hcz13_1 : w9.cell? ⟨gb192, 1, none⟩ = some (.int .i64 a0_1) := (blk_cell BK192.out 1).trans rfl; have hfz13_0 := blk_frozen BK192.out 0; have hfz13_1 := blk_frozen BK192.out 1; have hcz14_0 : w9.cell? ⟨gb193, 0, none⟩ = some (.slice none 0 0) := (blk_cell BK193.out 0).trans rfl; have hcz14_1 : w9.cell? ⟨gb193, 1, none⟩ = some (.int .i64 0) := (blk_cell BK193.out 1).trans rfl; have hfz14_0 := blk_frozen BK193.out 0; have hfz14_1 := blk_frozen BK193.out 1))
 refine bodyPost_ret (results_cell_row rfl _ _ gb193 30 #[.slice Ao10 t195.length co10, .int .i64 a0_1] (0, 0) _ rfl (by (with_reducible repeat (first | refine blk_drewN ?_ _ | refine blk_drew ?_ | refine blk_alloc ?_ _)); refine blk_put (cs := #[.slice Ao10 t195.length co10, .int .i64 0]) ?_ 1 _ rfl; (with_reducible repeat (first | refine blk_drewN ?_ _ | refine blk_drew ?_ | refine blk_alloc ?_ _)); refine blk_put (cs := #[.slice none 0 0, .int .i64 0]) ?_ 0 _ rfl; (with_reducible repeat (first | refine blk_drewN ?_ _ | refine blk_drew ?_ | refine blk_alloc ?_ _)); refine blk_far ?_ NB193_194.out _; (with_reducible repeat (first | refine blk_drewN ?_ _ | refine blk_drew ?_ | refine blk_alloc ?_ _)); refine blk_far ?_ NB193_194.out _; (with_reducible repeat (first | refine blk_drewN ?_ _ | refine blk_drew ?_ | refine blk_alloc ?_ _)); exact BK193.out) Try.underlying30 rfl (by kernel_rfl)) rfl ?_
 exact ⟨_, by first | rfl | (simp [errW_none, errW_some] <;> rfl) | (simp [*, errW_none, errW_some] <;> rfl), by (with_reducible repeat (first | apply Kd.R_alloc | apply Kd.R_drewN | apply Kd.R_drew)); exact Kd.R_mono (Kd.R_far (p := ⟨gb193, 1, none⟩) (Kd.R_far (p := ⟨gb193, 0, none⟩) (Kd.R_far (p := ⟨gb194, 1, none⟩) (Kd.R_far (p := ⟨gb194, 0, none⟩) (Kd.R_types (Kd.R_types HO197.out BK194.out (by decide)) BK193.out (by decide)) (fun _ hk => hk.1.2) (.slice Ao10 t195.length co10)) (fun _ hk => hk.1.2) (.int .i64 a0_1)) (fun _ hk => hk.2) (.slice Ao10 t195.length co10)) (fun _ hk => hk.2) (.int .i64 a0_1)) (fun _ hk => trivial), X.G⟩

/-! ### laws_toVoyage: function 21 -/
def laws_toVoyage.f (k : Nat) (a0_0 : Int) (l0_1 : List Int) : Option (Int × List Int) := (laws_toIntS.f k l0_1).bind fun t201 => (some (a0_0, t201))
theorem laws_toVoyage.mono : ∀ a0 a1 k, LeO (laws_toVoyage.f k a0 a1) (laws_toVoyage.f (k + 1) a0 a1) := by
 intro a0 a1 k
 unfold laws_toVoyage.f
 repeat' first
   | (with_reducible exact laws_toIntS.mono _ _)
   | (with_reducible exact LeO.refl _)
   | (with_reducible exact LeO.none _)
   | (with_reducible refine LeO.ite ?_ ?_)
   | (with_reducible refine LeO.bind ?_ (fun _ => ?_))
set_option maxHeartbeats 8000000 in
set_option maxRecDepth 100000 in
theorem laws_toVoyage.calls (k : Nat) (a0_0 : Int) (A0_1 : Option Addr) (c0_1 : Nat) (l0_1 : List Int) (r1 : Int) (r2 : List Int) (w : World) (hr0_1 : Kd.C (Kd.int .i64) w A0_1 l0_1.length l0_1) (hc0_1 : l0_1.length ≤ c0_1) (h : laws_toVoyage.f k a0_0 l0_1 = some (r1, r2)) :
  Calls Try.prog 21 #[.agg #[.int .i64 a0_0, .slice A0_1 l0_1.length c0_1]] w fun e w' => ∃ v1_ : Value, e = .returned (.agg #[.int .i64 r1, v1_]) ∧ Kd.R (Kd.int .i64) 3 w' w.heap.size (fun _ => True) v1_ r2 ∧ Below w.heap.size w w' := by
 have hu46 := Try.underlying46
 have hu51 := Try.underlying51
 have HR0_1 := X.A hr0_1
 have HC0_1 := X.A hc0_1
 clear hr0_1 hc0_1
 have HB := X.A (Below.refl w.heap.size w)
 have H : ((laws_toIntS.f k l0_1).bind fun t201 => (some (a0_0, t201))) = some (r1, r2) := h
 clear h
 replace H := Option.bind_eq_some_iff.mp H
 obtain ⟨t201, A20, H⟩ := H
 replace H : (some (a0_0, t201)) = some (r1, r2) := H
 have A2 := X.A A20
 clear A20
 simp only [Option.some.injEq, Prod.mk.injEq] at H
 obtain ⟨rfl, rfl⟩ := H
 go_enter Try.func21, Try.ntmps21
 go_wp2_with (first | ((with_reducible refine gate_dst (N := 1) rfl ?_); refine box_event ?hg (N := 1) ?hd (cs := #[.int .i64 a0_0, .slice A0_1 l0_1.length c0_1]) (t := 46) ?hr ?_; (case hd => rfl); (case hg => rfl); (case hr => exact X.R); intro gb198 hg w3 hbox hb; have n0_ := X.A (below_step X.G hb); have n1_ := X.A (hbox); have n2_ := X.A ((by rw [hg]; exact (below_size X.G) : w.heap.size ≤ gb198)); have n3_ := X.A ((by rw [hg]; exact (below_size X.G) : w.heap.size ≤ gb198)); clear HB; have HB := n0_; have BK198 := n1_; have GW198 := n2_; have GE198 := n3_; clear n0_ n1_ n2_ n3_; clear hb hbox hg) | ((with_reducible refine gate_dst (N := 2) rfl ?_); refine box_event ?hg (N := 2) ?hd (cs := #[.int .i64 0, .slice none 0 0]) (t := 51) ?hr ?_; (case hd => rfl); (case hg => rfl); (case hr => exact X.R); intro gb199 hg w4 hbox hb; have n0_ := X.A (X.BB BK198 hb); have n1_ := X.A (below_step X.G hb); have n2_ := X.A (hbox); have n3_ := X.A ((by rw [hg]; exact (below_size X.G) : w.heap.size ≤ gb199)); have n4_ := X.A ((by rw [hg]; exact (below_size X.G) : w.heap.size ≤ gb199)); have n5_ := X.A (X.NL hg BK198); have n6_ := X.A (X.NG hg BK198); clear BK198 HB; have BK198 := n0_; have HB := n1_; have BK199 := n2_; have GW199 := n3_; have GE199 := n4_; have NB198_199 := n5_; have NB199_198 := n6_; clear n0_ n1_ n2_ n3_ n4_ n5_ n6_; clear hb hbox hg) | ((with_reducible refine gate_dst (N := 3) rfl ?_); refine box_event ?hg (N := 3) ?hd (cs := #[.int .i64 0, .slice none 0 0]) (t := 51) ?hr ?_; (case hd => rfl); (case hg => rfl); (case hr => exact X.R); intro gb200 hg w5 hbox hb; have n0_ := X.A (X.BB BK198 hb); have n1_ := X.A (X.BB BK199 hb); have n2_ := X.A (below_step X.G hb); have n3_ := X.A (hbox); have n4_ := X.A ((by rw [hg]; exact (below_size X.G) : w.heap.size ≤ gb200)); have n5_ := X.A ((by rw [hg]; exact (below_size X.G) : w.heap.size ≤ gb200)); have n6_ := X.A (X.NL hg BK198); have n7_ := X.A (X.NG hg BK198); have n8_ := X.A (X.NL hg BK199); have n9_ := X.A (X.NG hg BK199); clear BK198 BK199 HB; have BK198 := n0_; have BK199 := n1_; have HB := n2_; have BK200 := n3_; have GW200 := n4_; have GE200 := n5_; have NB198_200 := n6_; have NB200_198 := n7_; have NB199_200 := n8_; have NB200_199 := n9_; clear n0_ n1_ n2_ n3_ n4_ n5_ n6_ n7_ n8_ n9_ hb hbox hg; have hnb6 := NB198_199.out; have hnc6 := NB199_198.out; have hnb7 := NB198_200.out; have hnc7 := NB200_198.out; have hcz8_0 : w5.cell? ⟨gb198, 0, none⟩ = some (.int .i64 a0_0) := (blk_cell BK198.out 0).trans rfl; have hcz8_1 : w5.cell? ⟨gb198, 1, none⟩ = some (.slice A0_1 l0_1.length c0_1) := (blk_cell BK198.out 1).trans rfl; have hfz8_0 := blk_frozen BK198.out 0; have hfz8_1 := blk_frozen BK198.out 1; have hnb9 := NB200_199.out; have hnc9 := NB199_200.out; have hcz10_0 : w5.cell? ⟨gb200, 0, none⟩ = some (.int .i64 0) := (blk_cell BK200.out 0).trans rfl; have hcz10_1 : w5.cell? ⟨gb200, 1, none⟩ = some (.slice none 0 0) := (blk_cell BK200.out 1).trans rfl; have hfz10_0 := blk_frozen BK200.out 0; have hfz10_1 := blk_frozen BK200.out 1) | ((with_reducible refine gate_callee (f := 20) rfl ?_); refine goesL_ (some 9) rfl rfl Try.func20 (by kernel_rfl) rfl #[.slice A0_1 l0_1.length c0_1] rfl X.M ?_; (with_reducible refine (laws_toIntS.calls k _ _ l0_1 t201 _ ?side1 ?side2 A2.out).mono ?_); (case side1 => exact Kd.C_below HR0_1.out X.G); (case side2 => exact HC0_1.out); rintro e w11 ⟨v202, rfl, ho0, hb⟩; refine ⟨_, rfl, ?_⟩; have n0_ := X.A (Kd.R_lower ho0 (below_size X.G)); have n1_ := X.A (blk_below (g := gb198) (o := .cells #[.int .i64 a0_0, .slice A0_1 l0_1.length c0_1] 46 (0, 0)) (by (with_reducible repeat (first | refine blk_drewN ?_ _ | refine blk_drew ?_ | refine blk_alloc ?_ _)); refine blk_far ?_ NB198_200.out _; (with_reducible repeat (first | refine blk_drewN ?_ _ | refine blk_drew ?_ | refine blk_alloc ?_ _)); exact BK198.out) hb); have n2_ := X.A (blk_below (g := gb199) (o := .cells #[.int .i64 0, .slice none 0 0] 51 (0, 0)) (by (with_reducible repeat (first | refine blk_drewN ?_ _ | refine blk_drew ?_ | refine blk_alloc ?_ _)); refine blk_far ?_ NB199_200.out _; (with_reducible repeat (first | refine blk_drewN ?_ _ | refine blk_drew ?_ | refine blk_alloc ?_ _)); exact BK199.out) hb); have n3_ := X.A (blk_below (g := gb200) (o := .cells #[.int .i64 a0_0, .slice none 0 0] 51 (0, 0)) (by (with_reducible repeat (first | refine blk_drewN ?_ _ | refine blk_drew ?_ | refine blk_alloc ?_ _)); refine blk_put (cs := #[.int .i64 0, .slice none 0 0]) ?_ 0 _ rfl; (with_reducible repeat (first | refine blk_drewN ?_ _ | refine blk_drew ?_ | refine blk_alloc ?_ _)); exact BK200.out) hb); have n4_ := X.A (below_step X.G hb); clear BK198 BK199 BK200 HB; have HO203 := n0_; have BK198 := n1_; have BK199 := n2_; have BK200 := n3_; have HB := n4_; clear n0_ n1_ n2_ n3_ n4_; (try clear hb); (try clear hb2); (try clear hk); (try clear hi); (try clear ho0); obtain ⟨Ao12, co12, eo12⟩ := Kd.R_slice HO203.out; subst eo12; have hcz13_0 : w11.cell? ⟨gb200, 0, none⟩ = some (.int .i64 a0_0) := (blk_cell BK200.out 0).trans rfl; have hcz13_1 : w11.cell? ⟨gb200, 1, none⟩ = some (.slice none 0 0) := (blk_cell BK200.out 1).trans rfl; have hfz13_0 := blk_frozen BK200.out 0; have hfz13_1 := blk_frozen BK200.out 1; have hcz14_0 : w11.cell? ⟨gb199, 0, none⟩ = some (.int .i64 0) := (blk_cell BK199.out 0).trans rfl; have hcz14_1 : w11.cell? ⟨gb199, 1, none⟩ = some (.slice none 0 0) := (blk_cell BK199.out 1).trans rfl; have hfz14_0 := blk_frozen BK199.out 0; have hfz14_1 := blk_frozen BK199.out 1))
 refine bodyPost_ret (results_cell_row rfl _ _ gb199 51 #[.int .i64 a0_0, .slice Ao12 t201.length co12] (0, 0) _ rfl (by (with_reducible repeat (first | refine blk_drewN ?_ _ | refine blk_drew ?_ | refine blk_alloc ?_ _)); refine blk_put (cs := #[.int .i64 a0_0, .slice none 0 0]) ?_ 1 _ rfl; (with_reducible repeat (first | refine blk_drewN ?_ _ | refine blk_drew ?_ | refine blk_alloc ?_ _)); refine blk_put (cs := #[.int .i64 0, .slice none 0 0]) ?_ 0 _ rfl; (with_reducible repeat (first | refine blk_drewN ?_ _ | refine blk_drew ?_ | refine blk_alloc ?_ _)); refine blk_far ?_ NB199_200.out _; (with_reducible repeat (first | refine blk_drewN ?_ _ | refine blk_drew ?_ | refine blk_alloc ?_ _)); exact BK199.out) Try.underlying51 rfl (by kernel_rfl)) rfl ?_
 exact ⟨_, by first | rfl | (simp [errW_none, errW_some] <;> rfl) | (simp [*, errW_none, errW_some] <;> rfl), by (with_reducible repeat (first | apply Kd.R_alloc | apply Kd.R_drewN | apply Kd.R_drew)); exact Kd.R_mono (Kd.R_far (p := ⟨gb199, 1, none⟩) (Kd.R_far (p := ⟨gb199, 0, none⟩) (Kd.R_far (p := ⟨gb200, 1, none⟩) (Kd.R_types (Kd.R_types HO203.out BK200.out (by decide)) BK199.out (by decide)) (fun _ hk => hk.1.2) (.slice Ao12 t201.length co12)) (fun _ hk => hk.2) (.int .i64 a0_0)) (fun _ hk => hk.2) (.slice Ao12 t201.length co12)) (fun _ hk => trivial), X.G⟩

end Go.Proofs.Ytjllgibfcnkgpah.Q
