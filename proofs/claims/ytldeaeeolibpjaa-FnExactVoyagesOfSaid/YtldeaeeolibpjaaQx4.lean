-- by wip/xprint.py, a program of this session over the kit's print: not trusted, Lean checks it.
import Derived.Test.YtldeaeeolibpjaaXShort
import Derived.Test.YtldeaeeolibpjaaQx0
import Derived.Test.YtldeaeeolibpjaaQx2
namespace Go.Proofs.Ytldeaeeolibpjaa.Q
open Go.RowKit Go.Proofs.YtldeaeeolibpjaaW.PrintWords Go.Proofs.YtldeaeeolibpjaaW.PrintLast Go.Proofs.YtldeaeeolibpjaaW.PrintMore
attribute [local go_sem] max2_int min2_int max_two min_two max_three min_three max_four min_four   -- for this text's walks alone
set_option linter.unusedVariables false
set_option linter.unusedSimpArgs false

/-! ### spec_isSail: function 44 -/
def spec_isSail.l0 : Nat → List Int → Int → Int → Int → List Int → List Int → Int → Option (List Int × Int)
 | 0, _, _, _, _, _, _, _ => none
 | k + 1, x15, x16, x17, x160000, x160001, x165000, x165001 => if x17 < x16 then (if 0 ≤ x17 then (if x17 < (x15.length : Int) then (if 0 ≤ (rd x15 x17) then (if (rd x15 x17) < (x165000.length : Int) then (spec_isSail.l0 k x15 x16 (wrap64 (x17 + 1)) x160000 x160001 (x165000.set ((rd x15 x17) : Int).toNat x160000) x165001) else (none)) else (none)) else (none)) else (none)) else (some (x165000, x165001))
def spec_isSail.f (k : Nat) (l0_0 : List Int) (a0_1 : Int) (a1_0 : Int) (l1_1 : List Int) : Option (List Int × Int) := (spec_l1Own.f l0_0).bind fun t161 => (spec_isSail.l0 k l1_1 (l1_1.length : Int) 0 a1_0 l1_1 t161 a1_0)
theorem spec_isSail.mono_l : ∀ k, (∀ y0 y1 y2 y3 y4 y5 y6, LeO (spec_isSail.l0 k y0 y1 y2 y3 y4 y5 y6) (spec_isSail.l0 (k + 1) y0 y1 y2 y3 y4 y5 y6))
 | 0 => fun _ _ _ _ _ _ _ r h => by simp [spec_isSail.l0] at h
 | k + 1 => by
  have ih0 := spec_isSail.mono_l k
  ·intro y0 y1 y2 y3 y4 y5 y6
   unfold spec_isSail.l0
   repeat' first
   | (with_reducible exact ih0 _ _ _ _ _ _ _)
   | (with_reducible exact LeO.refl _)
   | (with_reducible exact LeO.none _)
   | (with_reducible refine LeO.ite ?_ ?_)
   | (with_reducible refine LeO.bind ?_ (fun _ => ?_))
theorem spec_isSail.mono : ∀ a0 a1 a2 a3 k, LeO (spec_isSail.f k a0 a1 a2 a3) (spec_isSail.f (k + 1) a0 a1 a2 a3) := by
 intro a0 a1 a2 a3 k
 have ih0 := spec_isSail.mono_l k
 unfold spec_isSail.f
 repeat' first
   | (with_reducible exact ih0 _ _ _ _ _ _ _)
   | (with_reducible exact LeO.refl _)
   | (with_reducible exact LeO.none _)
   | (with_reducible refine LeO.ite ?_ ?_)
   | (with_reducible refine LeO.bind ?_ (fun _ => ?_))
def spec_isSail.T1 : Bool × List (List Nat × List Nat) := (true, [([], []), ([0], [0]), ([1], [1]), ([], []), ([3], [3]), ([2, 4], [2, 4]), ([], []), ([6, 5, 2, 0, 1, 2, 3, 4, 5, 6], [5, 6])])
def spec_isSail.B1 : List Nat := [0, 1, 3, 0, 8, 31, 0, 127]
theorem spec_isSail.tab1 : rtab .any (opsOf Try.f44 1) = spec_isSail.T1 := by kernel_rfl
theorem spec_isSail.bits1 : waitsOk spec_isSail.T1.2 spec_isSail.B1 = true := by kernel_rfl
set_option maxHeartbeats 8000000 in
set_option maxRecDepth 100000 in
theorem spec_isSail.calls (k : Nat) (A0_0 : Option Addr) (c0_0 : Nat) (l0_0 : List Int) (a0_1 : Int) (a1_0 : Int) (A1_1 : Option Addr) (c1_1 : Nat) (l1_1 : List Int) (r1 : List Int) (r2 : Int) (w : World) (hr0_0 : Kd.C (Kd.int .i64) w A0_0 l0_0.length l0_0) (hc0_0 : l0_0.length ≤ c0_0) (hr1_1 : Kd.C (Kd.int .i64) w A1_1 l1_1.length l1_1) (hc1_1 : l1_1.length ≤ c1_1) (h : spec_isSail.f k l0_0 a0_1 a1_0 l1_1 = some (r1, r2)) :
  Calls Try.prog 44 #[.agg #[.slice A0_0 l0_0.length c0_0, .int .i64 a0_1], .agg #[.int .i64 a1_0, .slice A1_1 l1_1.length c1_1]] w fun e w' => ∃ v0_ : Value, e = .returned (.agg #[v0_, .int .i64 r2]) ∧ Kd.R (Kd.int .i64) 3 w' w.heap.size (fun _ => True) v0_ r1 ∧ Below w.heap.size w w' := by
 have hu33 := Try.underlying33
 have hu48 := Try.underlying48
 have HR0_0 := X.A hr0_0
 have HC0_0 := X.A hc0_0
 clear hr0_0 hc0_0
 have HR1_1 := X.A hr1_1
 have HC1_1 := X.A hc1_1
 clear hr1_1 hc1_1
 have HB := X.A (Below.refl w.heap.size w)
 have H : ((spec_l1Own.f l0_0).bind fun t161 => (spec_isSail.l0 k l1_1 (l1_1.length : Int) 0 a1_0 l1_1 t161 a1_0)) = some (r1, r2) := h
 clear h
 replace H := Option.bind_eq_some_iff.mp H
 obtain ⟨t161, A30, H⟩ := H
 replace H : (spec_isSail.l0 k l1_1 (l1_1.length : Int) 0 a1_0 l1_1 t161 a1_0) = some (r1, r2) := H
 have A3 := X.A A30
 clear A30
 have H' := X.A H
 clear H
 go_enter Try.func44, Try.ntmps44
 try go_wp2_with (first | ((with_reducible refine gate_dst (N := 2) rfl ?_); refine box_event ?hg (N := 2) ?hd (cs := #[.slice A0_0 l0_0.length c0_0, .int .i64 a0_1]) (t := 33) ?hr ?_; (case hd => rfl); (case hg => rfl); (case hr => exact X.R); intro gb158 hg w4 hbox hb; have n0_ := X.A (below_step X.G hb); have n1_ := X.A (hbox); have n2_ := X.A ((by rw [hg]; exact (below_size X.G) : w.heap.size ≤ gb158)); have n3_ := X.A ((by rw [hg]; exact (below_size X.G) : w.heap.size ≤ gb158)); clear HB; have HB := n0_; have BK158 := n1_; have GW158 := n2_; have GE158 := n3_; clear n0_ n1_ n2_ n3_; clear hb hbox hg) | ((with_reducible refine gate_dst (N := 3) rfl ?_); refine box_event ?hg (N := 3) ?hd (cs := #[.int .i64 a1_0, .slice A1_1 l1_1.length c1_1]) (t := 48) ?hr ?_; (case hd => rfl); (case hg => rfl); (case hr => exact X.R); intro gb159 hg w5 hbox hb; have n0_ := X.A (X.BB BK158 hb); have n1_ := X.A (below_step X.G hb); have n2_ := X.A (hbox); have n3_ := X.A ((by rw [hg]; exact (below_size X.G) : w.heap.size ≤ gb159)); have n4_ := X.A ((by rw [hg]; exact (below_size X.G) : w.heap.size ≤ gb159)); have n5_ := X.A (X.NL hg BK158); have n6_ := X.A (X.NG hg BK158); clear BK158 HB; have BK158 := n0_; have HB := n1_; have BK159 := n2_; have GW159 := n3_; have GE159 := n4_; have NB158_159 := n5_; have NB159_158 := n6_; clear n0_ n1_ n2_ n3_ n4_ n5_ n6_; clear hb hbox hg) | ((with_reducible refine gate_dst (N := 4) rfl ?_); refine box_event ?hg (N := 4) ?hd (cs := #[.slice none 0 0, .int .i64 0]) (t := 33) ?hr ?_; (case hd => rfl); (case hg => rfl); (case hr => exact X.R); intro gb160 hg w6 hbox hb; have n0_ := X.A (X.BB BK158 hb); have n1_ := X.A (X.BB BK159 hb); have n2_ := X.A (below_step X.G hb); have n3_ := X.A (hbox); have n4_ := X.A ((by rw [hg]; exact (below_size X.G) : w.heap.size ≤ gb160)); have n5_ := X.A ((by rw [hg]; exact (below_size X.G) : w.heap.size ≤ gb160)); have n6_ := X.A (X.NL hg BK158); have n7_ := X.A (X.NG hg BK158); have n8_ := X.A (X.NL hg BK159); have n9_ := X.A (X.NG hg BK159); clear BK158 BK159 HB; have BK158 := n0_; have BK159 := n1_; have HB := n2_; have BK160 := n3_; have GW160 := n4_; have GE160 := n5_; have NB158_160 := n6_; have NB160_158 := n7_; have NB159_160 := n8_; have NB160_159 := n9_; clear n0_ n1_ n2_ n3_ n4_ n5_ n6_ n7_ n8_ n9_; clear hb hbox hg))
 have n0_ := X.A (blk_drew BK158.out)
 have n1_ := X.A (blk_drew BK159.out)
 have n2_ := X.A (blk_drew BK160.out)
 have n3_ := X.A (below_drew1 HB.out)
 clear BK158 BK159 BK160 HB
 have BK158 := n0_
 have BK159 := n1_
 have BK160 := n2_
 have HB := n3_
 clear n0_ n1_ n2_ n3_
 refine start_ (n := 8) (S := fun w' => w'.cell? ⟨gb158, 0, none⟩ = some (.slice A0_0 l0_0.length c0_0) ∧ w'.cell? ⟨gb158, 1, none⟩ = some (.int .i64 a0_1) ∧ w'.cell? ⟨gb159, 0, none⟩ = some (.int .i64 a1_0) ∧ w'.cell? ⟨gb159, 1, none⟩ = some (.slice A1_1 l1_1.length c1_1)) (ds := []) #[false, false, false, false, false, false, false, false] (by kernel_rfl) rfl rfl ⟨(blk_cell BK158.out 0).trans rfl, (blk_cell BK158.out 1).trans rfl, (blk_cell BK159.out 0).trans rfl, (blk_cell BK159.out 1).trans rfl⟩ (fun hHeld => ?_); refine with_tabW spec_isSail.tab1 spec_isSail.bits1 (fun HT_ HW_ => ?_)
 generalize w6.drew = w7 at BK158 BK159 BK160 HB hHeld ⊢
 refine pure_ (i := 0) (N := some 8) (v := ?_) (a' := ?_) #[true, false, false, false, false, false, false, false] rfl rfl (any_of HT_.out (by kernel_rfl)) (fun _ _ _ h => h) (Or.inl ⟨by rfl, ?_⟩) ?_ ?_
 rotate_left
 ·intro w'
  go_simp
  with_reducible rfl
 rotate_left
 ·exact X.Pu
 refine pure_ (i := 3) (N := some 11) (v := ?_) (a' := ?_) #[true, false, false, true, false, false, false, false] rfl rfl (any_of HT_.out (by kernel_rfl)) (fun _ _ _ h => h) (Or.inl ⟨by rfl, ?_⟩) ?_ ?_
 rotate_left
 ·intro w'
  go_simp
  with_reducible rfl
 rotate_left
 ·exact X.Pu
 refine take_ (i := 1) (N := some 9) (v := ?_) (a' := ?_) #[true, true, false, true, false, false, false, false] rfl rfl (take_ofW HT_.out HW_.out (by kernel_rfl)) (fun _ _ _ h => h) (Or.inl ⟨by rfl, ?_⟩) hHeld ?_ ?_
 rotate_left
 ·rintro w' ⟨s0, s1, s2, s3⟩
  go_simp
  with_reducible rfl
 rotate_left
 ·exact X.Pu
 refine take_ (i := 4) (N := some 12) (v := ?_) (a' := ?_) #[true, true, false, true, true, false, false, false] rfl rfl (take_ofW HT_.out HW_.out (by kernel_rfl)) (fun _ _ _ h => h) (Or.inl ⟨by rfl, ?_⟩) hHeld ?_ ?_
 rotate_left
 ·rintro w' ⟨s0, s1, s2, s3⟩
  go_simp
  with_reducible rfl
 rotate_left
 ·exact X.Pu
 refine join_ (σ := Value × Nat) 1 #[true, true, true, true, true, true, true, false] (fun s_ => [(10, s_.1), (5, .pointer (some ⟨s_.2, 0, none⟩)), (13, .agg #[s_.1, .int .i64 a1_0])]) (fun s_ w' => (w'.cell? ⟨gb158, 0, none⟩ = some (.slice A0_0 l0_0.length c0_0) ∧ w'.cell? ⟨gb158, 1, none⟩ = some (.int .i64 a0_1) ∧ w'.cell? ⟨gb159, 0, none⟩ = some (.int .i64 a1_0) ∧ w'.cell? ⟨gb159, 1, none⟩ = some (.slice A1_1 l1_1.length c1_1)) ∧ (Kd.R (Kd.int .i64) 3 w' w.heap.size (fun _ => True) s_.1 t161) ∧ (w'.heap[gb158]? = some (.cells #[.slice A0_0 l0_0.length c0_0, .int .i64 a0_1] 33 (0, 0))) ∧ (w'.heap[gb159]? = some (.cells #[.int .i64 a1_0, .slice A1_1 l1_1.length c1_1] 48 (0, 0))) ∧ (w'.heap[gb160]? = some (.cells #[.slice none 0 0, .int .i64 0] 33 (0, 0))) ∧ (w'.heap[s_.2]? = some (.cells #[.slice none 0 0, .int .i64 0] 33 (0, 0))) ∧ (w.heap.size ≤ s_.2) ∧ (w.heap.size ≤ s_.2) ∧ (gb158 ≠ s_.2) ∧ (s_.2 ≠ gb158) ∧ (gb159 ≠ s_.2) ∧ (s_.2 ≠ gb159) ∧ (gb160 ≠ s_.2) ∧ (s_.2 ≠ gb160) ∧ (Below w.heap.size w w')) ?_ ?_
 rotate_left
 ·intro hCont
  refine two_ (i := 2) (j := 6) (Ni := some 10) (Nj := some 5) #[true, true, true, true, true, false, false, false] #[true, true, false, true, true, false, true, false] rfl rfl rfl rfl (two_of HT_.out (by kernel_rfl)) (by decide) (by decide) (fun K hK => ?_) (fun K hK => ?_)
  ·skip
   refine goes_ Try.func40 (by kernel_rfl) rfl #[.slice A0_0 l0_0.length c0_0] (by rfl) rfl rfl X.M ?_
   with_reducible refine (spec_l1Own.calls _ _ l0_0 t161 _ ?side1 ?side2 A3.out).mono ?_
   (case side1 => exact X.C (Kd.C_below HR0_0.out HB.out))
   (case side2 => exact HC0_0.out)
   rintro e w8 ⟨v162, rfl, ho0, hb⟩
   refine ⟨_, rfl, ?_⟩
   have n0_ := X.A (Kd.R_lower ho0 (below_size X.G))
   have n1_ := X.A (X.BB BK158 hb)
   have n2_ := X.A (X.BB BK159 hb)
   have n3_ := X.A (X.BB BK160 hb)
   have n4_ := X.A (below_step X.G hb)
   clear BK158 BK159 BK160 HB
   have HO163 := n0_
   have BK158 := n1_
   have BK159 := n2_
   have BK160 := n3_
   have HB := n4_
   clear n0_ n1_ n2_ n3_ n4_
   (try clear hb)
   (try clear hb2)
   (try clear hk)
   (try clear hi)
   (try clear ho0)
   obtain ⟨Ao9, co9, eo9⟩ := Kd.R_slice HO163.out
   (first | subst eo9 | (injection eo9 with f1_ f2_ f3_; have f4_ := f1_.symm; have f5_ := f3_.symm; clear f1_ f2_ f3_; subst f4_; subst f5_))
   refine hK.out _ _ ⟨(blk_cell BK158.out 0).trans rfl, (blk_cell BK158.out 1).trans rfl, (blk_cell BK159.out 0).trans rfl, (blk_cell BK159.out 1).trans rfl⟩ (fun hHeld => ?_)
   clear hK K
   refine norm_ (a' := ?_) ?_ ?_
   rotate_left
   ·exact (show Act.put _ (some 10) _ = _ from X.Pu)
   refine pure_ (i := 5) (N := some 13) (v := ?_) (a' := ?_) #[true, true, true, true, true, true, false, false] rfl rfl (any_of HT_.out (by kernel_rfl)) (fun _ _ _ h => h) (Or.inl ⟨by rfl, ?_⟩) ?_ ?_
   rotate_left
   ·intro w'
    go_simp
    with_reducible rfl
   rotate_left
   ·exact X.Pu
   refine one_ (i := 6) (N := some 5) #[true, true, true, true, true, true, true, false] rfl rfl (one_of HT_.out (by kernel_rfl)) (by decide) (fun K hK => ?_)
   refine box_step ?hg (N := 5) ?hd (cs := #[.slice none 0 0, .int .i64 0]) (t := 33) ?hr ?_; (case hd => rfl); (case hg => rfl); (case hr => exact X.R)
   intro gb164 hg w10 hbox hb
   have n0_ := X.A (Kd.R_below (X.K HO163) hb)
   have n1_ := X.A (X.BB BK158 hb)
   have n2_ := X.A (X.BB BK159 hb)
   have n3_ := X.A (X.BB BK160 hb)
   have n4_ := X.A (below_step X.G hb)
   have n5_ := X.A (hbox)
   have n6_ := X.A ((by rw [hg]; exact (below_size X.G) : w.heap.size ≤ gb164))
   have n7_ := X.A ((by rw [hg]; exact (below_size X.G) : w.heap.size ≤ gb164))
   have n8_ := X.A (X.NL hg BK158)
   have n9_ := X.A (X.NG hg BK158)
   have n10_ := X.A (X.NL hg BK159)
   have n11_ := X.A (X.NG hg BK159)
   have n12_ := X.A (X.NL hg BK160)
   have n13_ := X.A (X.NG hg BK160)
   clear HO163 BK158 BK159 BK160 HB
   have HO163 := n0_
   have BK158 := n1_
   have BK159 := n2_
   have BK160 := n3_
   have HB := n4_
   have BK164 := n5_
   have GW164 := n6_
   have GE164 := n7_
   have NB158_164 := n8_
   have NB164_158 := n9_
   have NB159_164 := n10_
   have NB164_159 := n11_
   have NB160_164 := n12_
   have NB164_160 := n13_
   clear n0_ n1_ n2_ n3_ n4_ n5_ n6_ n7_ n8_ n9_ n10_ n11_ n12_ n13_ hb hbox hg
   refine hK.out _ _ ⟨(blk_cell BK158.out 0).trans rfl, (blk_cell BK158.out 1).trans rfl, (blk_cell BK159.out 0).trans rfl, (blk_cell BK159.out 1).trans rfl⟩ (fun hHeld => ?_)
   clear hK K
   refine norm_ (a' := ?_) ?_ ?_
   rotate_left
   ·exact (show Act.put _ (some 5) _ = _ from X.Pu)
   exact norm_ (by simp only [putAll, Act.put, List.setIfInBounds_toArray, List.set_cons_zero, List.set_cons_succ]) (hCont (.slice Ao9 t161.length co9, gb164) _ ⟨hHeld, (X.K HO163), (X.B BK158), (X.B BK159), (X.B BK160), (X.B BK164), GW164.out, GE164.out, NB158_164.out, NB164_158.out, NB159_164.out, NB164_159.out, NB160_164.out, NB164_160.out, X.G⟩)
  ·skip
   refine box_step ?hg (N := 5) ?hd (cs := #[.slice none 0 0, .int .i64 0]) (t := 33) ?hr ?_; (case hd => rfl); (case hg => rfl); (case hr => exact X.R)
   intro gb164 hg w8 hbox hb
   have n0_ := X.A (X.BB BK158 hb)
   have n1_ := X.A (X.BB BK159 hb)
   have n2_ := X.A (X.BB BK160 hb)
   have n3_ := X.A (below_step X.G hb)
   have n4_ := X.A (hbox)
   have n5_ := X.A ((by rw [hg]; exact (below_size X.G) : w.heap.size ≤ gb164))
   have n6_ := X.A ((by rw [hg]; exact (below_size X.G) : w.heap.size ≤ gb164))
   have n7_ := X.A (X.NL hg BK158)
   have n8_ := X.A (X.NG hg BK158)
   have n9_ := X.A (X.NL hg BK159)
   have n10_ := X.A (X.NG hg BK159)
   have n11_ := X.A (X.NL hg BK160)
   have n12_ := X.A (X.NG hg BK160)
   clear BK158 BK159 BK160 HB
   have BK158 := n0_
   have BK159 := n1_
   have BK160 := n2_
   have HB := n3_
   have BK164 := n4_
   have GW164 := n5_
   have GE164 := n6_
   have NB158_164 := n7_
   have NB164_158 := n8_
   have NB159_164 := n9_
   have NB164_159 := n10_
   have NB160_164 := n11_
   have NB164_160 := n12_
   clear n0_ n1_ n2_ n3_ n4_ n5_ n6_ n7_ n8_ n9_ n10_ n11_ n12_ hb hbox hg
   refine hK.out _ _ ⟨(blk_cell BK158.out 0).trans rfl, (blk_cell BK158.out 1).trans rfl, (blk_cell BK159.out 0).trans rfl, (blk_cell BK159.out 1).trans rfl⟩ (fun hHeld => ?_)
   clear hK K
   refine norm_ (a' := ?_) ?_ ?_
   rotate_left
   ·exact (show Act.put _ (some 5) _ = _ from X.Pu)
   refine one_ (i := 2) (N := some 10) #[true, true, true, true, true, false, true, false] rfl rfl (one_of HT_.out (by kernel_rfl)) (by decide) (fun K hK => ?_)
   refine goes_ Try.func40 (by kernel_rfl) rfl #[.slice A0_0 l0_0.length c0_0] (by rfl) rfl rfl X.M ?_
   with_reducible refine (spec_l1Own.calls _ _ l0_0 t161 _ ?side1 ?side2 A3.out).mono ?_
   (case side1 => exact X.C (Kd.C_below HR0_0.out HB.out))
   (case side2 => exact HC0_0.out)
   rintro e w9 ⟨v162, rfl, ho0, hb⟩
   refine ⟨_, rfl, ?_⟩
   have n0_ := X.A (Kd.R_lower ho0 (below_size X.G))
   have n1_ := X.A (X.BB BK158 hb)
   have n2_ := X.A (X.BB BK159 hb)
   have n3_ := X.A (X.BB BK160 hb)
   have n4_ := X.A (X.BB BK164 hb)
   have n5_ := X.A (below_step X.G hb)
   clear BK158 BK159 BK160 BK164 HB
   have HO163 := n0_
   have BK158 := n1_
   have BK159 := n2_
   have BK160 := n3_
   have BK164 := n4_
   have HB := n5_
   clear n0_ n1_ n2_ n3_ n4_ n5_
   (try clear hb)
   (try clear hb2)
   (try clear hk)
   (try clear hi)
   (try clear ho0)
   obtain ⟨Ao10, co10, eo10⟩ := Kd.R_slice HO163.out
   (first | subst eo10 | (injection eo10 with f1_ f2_ f3_; have f4_ := f1_.symm; have f5_ := f3_.symm; clear f1_ f2_ f3_; subst f4_; subst f5_))
   refine hK.out _ _ ⟨(blk_cell BK158.out 0).trans rfl, (blk_cell BK158.out 1).trans rfl, (blk_cell BK159.out 0).trans rfl, (blk_cell BK159.out 1).trans rfl⟩ (fun hHeld => ?_)
   clear hK K
   refine norm_ (a' := ?_) ?_ ?_
   rotate_left
   ·exact (show Act.put _ (some 10) _ = _ from X.Pu)
   refine pure_ (i := 5) (N := some 13) (v := ?_) (a' := ?_) #[true, true, true, true, true, true, true, false] rfl rfl (any_of HT_.out (by kernel_rfl)) (fun _ _ _ h => h) (Or.inl ⟨by rfl, ?_⟩) ?_ ?_
   rotate_left
   ·intro w'
    go_simp
    with_reducible rfl
   rotate_left
   ·exact X.Pu
   exact norm_ (by simp only [putAll, Act.put, List.setIfInBounds_toArray, List.set_cons_zero, List.set_cons_succ]) (hCont (.slice Ao10 t161.length co10, gb164) _ ⟨hHeld, (X.K HO163), (X.B BK158), (X.B BK159), (X.B BK160), (X.B BK164), GW164.out, GE164.out, NB158_164.out, NB164_158.out, NB159_164.out, NB164_159.out, NB160_164.out, NB164_160.out, X.G⟩)
 rintro ⟨v162, gb164⟩ w11 ⟨hS_, h0_, h1_, h2_, h3_, h4_, h5_, h6_, h7_, h8_, h9_, h10_, h11_, h12_, h13_⟩
 have n0_ : Aside0 (Kd.R (Kd.int .i64) 3 w11 w.heap.size (fun _ => True) v162 t161) := ⟨h0_⟩
 have n1_ : Aside0 (w11.heap[gb158]? = some (.cells #[.slice A0_0 l0_0.length c0_0, .int .i64 a0_1] 33 (0, 0))) := ⟨h1_⟩
 have n2_ : Aside0 (w11.heap[gb159]? = some (.cells #[.int .i64 a1_0, .slice A1_1 l1_1.length c1_1] 48 (0, 0))) := ⟨h2_⟩
 have n3_ : Aside0 (w11.heap[gb160]? = some (.cells #[.slice none 0 0, .int .i64 0] 33 (0, 0))) := ⟨h3_⟩
 have n4_ : Aside0 (w11.heap[gb164]? = some (.cells #[.slice none 0 0, .int .i64 0] 33 (0, 0))) := ⟨h4_⟩
 have n5_ : Aside0 (w.heap.size ≤ gb164) := ⟨h5_⟩
 have n6_ : Aside0 (w.heap.size ≤ gb164) := ⟨h6_⟩
 have n7_ : Aside0 (gb158 ≠ gb164) := ⟨h7_⟩
 have n8_ : Aside0 (gb164 ≠ gb158) := ⟨h8_⟩
 have n9_ : Aside0 (gb159 ≠ gb164) := ⟨h9_⟩
 have n10_ : Aside0 (gb164 ≠ gb159) := ⟨h10_⟩
 have n11_ : Aside0 (gb160 ≠ gb164) := ⟨h11_⟩
 have n12_ : Aside0 (gb164 ≠ gb160) := ⟨h12_⟩
 have n13_ : Aside0 (Below w.heap.size w w11) := ⟨h13_⟩
 clear BK158 BK159 BK160 HB h0_ h1_ h2_ h3_ h4_ h5_ h6_ h7_ h8_ h9_ h10_ h11_ h12_ h13_
 have HO163 := n0_
 have BK158 := n1_
 have BK159 := n2_
 have BK160 := n3_
 have BK164 := n4_
 have GW164 := n5_
 have GE164 := n6_
 have NB158_164 := n7_
 have NB164_158 := n8_
 have NB159_164 := n9_
 have NB164_159 := n10_
 have NB160_164 := n11_
 have NB164_160 := n12_
 have HB := n13_
 clear n0_ n1_ n2_ n3_ n4_ n5_ n6_ n7_ n8_ n9_ n10_ n11_ n12_ n13_
 have hHeld : w11.cell? ⟨gb158, 0, none⟩ = some (.slice A0_0 l0_0.length c0_0) ∧ w11.cell? ⟨gb158, 1, none⟩ = some (.int .i64 a0_1) ∧ w11.cell? ⟨gb159, 0, none⟩ = some (.int .i64 a1_0) ∧ w11.cell? ⟨gb159, 1, none⟩ = some (.slice A1_1 l1_1.length c1_1) := hS_
 obtain ⟨Ao12, co12, eo12⟩ := Kd.R_slice HO163.out
 (first | subst eo12 | (injection eo12 with f1_ f2_ f3_; have f4_ := f1_.symm; have f5_ := f3_.symm; clear f1_ f2_ f3_; subst f4_; subst f5_))
 refine norm_ (a' := ?_) ?_ ?_
 rotate_left
 ·simp only [putAll, Act.put, List.setIfInBounds_toArray, List.set_cons_zero, List.set_cons_succ]
  rfl
 refine one_ (i := 7) (N := none) #[true, true, true, true, true, true, true, true] rfl rfl (one_of HT_.out (by kernel_rfl)) (by decide) (fun K hK => ?_)
 have hs13 : w11.cell? ⟨gb164, 0, none⟩ = some (.slice none 0 0) := (blk_cell BK164.out 0).trans rfl
 have hfs13 := blk_frozen BK164.out 0
 have hns13_0 := NB158_164.out
 have hns13_1 := NB159_164.out
 have hns13_2 := NB160_164.out
 have hms13_0 := NB164_158.out
 have hms13_1 := NB164_159.out
 have hms13_2 := NB164_160.out
 have hs14 : w11.cell? ⟨gb164, 1, none⟩ = some (.int .i64 0) := (blk_cell BK164.out 1).trans rfl
 have hfs14 := blk_frozen BK164.out 1
 have hns14_0 := NB158_164.out
 have hns14_1 := NB159_164.out
 have hns14_2 := NB160_164.out
 have hms14_0 := NB164_158.out
 have hms14_1 := NB164_159.out
 have hms14_2 := NB164_160.out
 refine skip_ (w1 := ?_) (by rfl) rfl ?_ ?_
 rotate_left
 ·go_simp
  rfl
 refine hK.out _ _ ⟨((cell_far (p := ⟨gb164, _, none⟩) NB158_164.out _).trans (((cell_far (p := ⟨gb164, _, none⟩) NB158_164.out _).trans (hHeld.1)))), ((cell_far (p := ⟨gb164, _, none⟩) NB158_164.out _).trans (((cell_far (p := ⟨gb164, _, none⟩) NB158_164.out _).trans (hHeld.2.1)))), ((cell_far (p := ⟨gb164, _, none⟩) NB159_164.out _).trans (((cell_far (p := ⟨gb164, _, none⟩) NB159_164.out _).trans (hHeld.2.2.1)))), ((cell_far (p := ⟨gb164, _, none⟩) NB159_164.out _).trans (((cell_far (p := ⟨gb164, _, none⟩) NB159_164.out _).trans (hHeld.2.2.2))))⟩ (fun hHeld => ?_)
 clear hK K
 refine done_ (done_of HT_.out (by kernel_rfl)) ?_
 have hnb15 := NB159_158.out
 have hnc15 := NB158_159.out
 have hnb16 := NB159_160.out
 have hnc16 := NB160_159.out
 have hnb17 := NB159_164.out
 have hnc17 := NB164_159.out
 have hcz18_0 : w11.cell? ⟨gb159, 0, none⟩ = some (.int .i64 a1_0) := (blk_cell BK159.out 0).trans rfl
 have hcz18_1 : w11.cell? ⟨gb159, 1, none⟩ = some (.slice A1_1 l1_1.length c1_1) := (blk_cell BK159.out 1).trans rfl
 have hfz18_0 := blk_frozen BK159.out 0
 have hfz18_1 := blk_frozen BK159.out 1
 try go_wp2
 go_loopg [17] k (fun kq v17 w' => ∃ (x17_1 : Int) (x165000_1 : List Int) (u165000 : Value), v17 = .int .i64 x17_1 ∧ Aside0 (spec_isSail.l0 kq l1_1 (l1_1.length : Int) x17_1 a1_0 l1_1 x165000_1 a1_0 = some (r1, r2)) ∧ Aside0 (kq ≤ k) ∧ Aside0 (Kd.R (Kd.int .i64) 3 w' w.heap.size (fun _ => True) u165000 x165000_1) ∧ Aside0 (w'.heap[gb158]? = some (.cells #[(.slice A0_0 l0_0.length c0_0), .int .i64 a0_1] 33 (0, 0))) ∧ Aside0 (w'.heap[gb159]? = some (.cells #[.int .i64 a1_0, (.slice A1_1 l1_1.length c1_1)] 48 (0, 0))) ∧ Aside0 (w'.heap[gb160]? = some (.cells #[(.slice none 0 0), .int .i64 0] 33 (0, 0))) ∧ Aside0 (w'.heap[gb164]? = some (.cells #[u165000, .int .i64 a1_0] 33 (0, 0))) ∧ Aside0 (Below w.heap.size w w'))
 case atStart => exact ⟨(0), (t161), (.slice Ao12 t161.length co12), (by first | rfl | (simp; done) | (simp [*]; done)), H', ⟨Nat.le_refl _⟩, ⟨by (with_reducible repeat (first | apply Kd.R_alloc | apply Kd.R_drewN | apply Kd.R_drew)); exact Kd.R_mono (Kd.R_far (p := ⟨gb164, 1, none⟩) (Kd.R_far (p := ⟨gb164, 0, none⟩) (Kd.R_types HO163.out BK164.out (by decide)) (fun _ hk => hk.2) (.slice Ao12 t161.length co12)) (fun _ hk => hk.2) (.int .i64 a1_0)) (fun _ hk => trivial)⟩, ⟨by (with_reducible repeat (first | refine blk_drewN ?_ _ | refine blk_drew ?_ | refine blk_alloc ?_ _)); refine blk_far ?_ NB158_164.out _; (with_reducible repeat (first | refine blk_drewN ?_ _ | refine blk_drew ?_ | refine blk_alloc ?_ _)); refine blk_far ?_ NB158_164.out _; (with_reducible repeat (first | refine blk_drewN ?_ _ | refine blk_drew ?_ | refine blk_alloc ?_ _)); exact BK158.out⟩, ⟨by (with_reducible repeat (first | refine blk_drewN ?_ _ | refine blk_drew ?_ | refine blk_alloc ?_ _)); refine blk_far ?_ NB159_164.out _; (with_reducible repeat (first | refine blk_drewN ?_ _ | refine blk_drew ?_ | refine blk_alloc ?_ _)); refine blk_far ?_ NB159_164.out _; (with_reducible repeat (first | refine blk_drewN ?_ _ | refine blk_drew ?_ | refine blk_alloc ?_ _)); exact BK159.out⟩, ⟨by (with_reducible repeat (first | refine blk_drewN ?_ _ | refine blk_drew ?_ | refine blk_alloc ?_ _)); refine blk_far ?_ NB160_164.out _; (with_reducible repeat (first | refine blk_drewN ?_ _ | refine blk_drew ?_ | refine blk_alloc ?_ _)); refine blk_far ?_ NB160_164.out _; (with_reducible repeat (first | refine blk_drewN ?_ _ | refine blk_drew ?_ | refine blk_alloc ?_ _)); exact BK160.out⟩, ⟨by (with_reducible repeat (first | refine blk_drewN ?_ _ | refine blk_drew ?_ | refine blk_alloc ?_ _)); refine blk_put (cs := #[.slice Ao12 t161.length co12, .int .i64 0]) ?_ 1 _ rfl; (with_reducible repeat (first | refine blk_drewN ?_ _ | refine blk_drew ?_ | refine blk_alloc ?_ _)); refine blk_put (cs := #[.slice none 0 0, .int .i64 0]) ?_ 0 _ rfl; (with_reducible repeat (first | refine blk_drewN ?_ _ | refine blk_drew ?_ | refine blk_alloc ?_ _)); exact BK164.out⟩, ⟨X.G⟩⟩
 case round =>
  clear H'
  try clear c1
  try clear p2
  try clear c4
  try clear c15
  try clear c16
  try clear c17
  try clear hcz18_0
  try clear hcz18_1
  try clear hfz18_0
  try clear hfz18_1
  obtain ⟨x17_1, x165000_1, u165000, rfl, HA, HK1, HO_165000, BK158, BK159, BK160, BK164, HB⟩ := hrel
  cases gk with
  | zero => exact absurd HA.out (by simp [spec_isSail.l0])
  | succ k1 =>
   have H := HA.out
   clear HA
   simp only [spec_isSail.l0] at H
   by_cases c19 : x17_1 < (l1_1.length : Int)
   ·rw [if_pos c19] at H
    have c19b0 : decide (x17_1 < (l1_1.length : Int)) = true := decide_eq_true c19
    clear c19
    by_cases c20 : 0 ≤ x17_1
    rotate_left
    ·rw [if_neg c20] at H
     exact absurd H (by simp)
    rw [if_pos c20] at H
    have c20b0 : decide (0 ≤ x17_1) = true := decide_eq_true c20
    clear c20
    by_cases c21 : x17_1 < (l1_1.length : Int)
    rotate_left
    ·rw [if_neg c21] at H
     exact absurd H (by simp)
    rw [if_pos c21] at H
    have c21b0 : decide (x17_1 < (l1_1.length : Int)) = true := decide_eq_true c21
    clear c21
    by_cases c22 : 0 ≤ (rd l1_1 x17_1)
    rotate_left
    ·rw [if_neg c22] at H
     exact absurd H (by simp)
    rw [if_pos c22] at H
    have c22b0 : decide (0 ≤ (rd l1_1 x17_1)) = true := decide_eq_true c22
    clear c22
    by_cases c23 : (rd l1_1 x17_1) < (x165000_1.length : Int)
    rotate_left
    ·rw [if_neg c23] at H
     exact absurd H (by simp)
    rw [if_pos c23] at H
    have c23b0 : decide ((rd l1_1 x17_1) < (x165000_1.length : Int)) = true := decide_eq_true c23
    clear c23
    obtain ⟨y166, hy166⟩ : ∃ y_ : List Int, y_ = (x165000_1.set ((rd l1_1 x17_1) : Int).toNat a1_0) := ⟨_, rfl⟩
    replace H : (spec_isSail.l0 k1 l1_1 (l1_1.length : Int) (wrap64 (x17_1 + 1)) a1_0 l1_1 y166 a1_0) = some (r1, r2) := by first | (rw [hy166]; with_reducible exact H) | (have H2_ := (Option.bind_some _ _).symm.trans H; rw [hy166]; with_reducible exact H2_) | (have H2_ := (Option.bind_some _ _).symm.trans H; with_reducible exact H2_) | with_reducible exact H | (rw [hy166]; exact H) | exact H
    have Ny166 := X.A hy166
    clear hy166
    have H' := X.A H
    clear H
    have p165 : 0 ≤ (x17_1 : Int) := X.D
    have q165 : x17_1 < (l1_1.length : Int) := X.D
    obtain ⟨ad165, e165, hx165_0⟩ := Kd.at_int HR1_1.out x17_1 p165 q165
    cases e165
    replace hx165_0 := (HB.out.cell (World.block_lt_of_cell? w _ hx165_0)).trans hx165_0
    replace p165 := eq_true p165
    replace q165 := eq_true q165
    have hnb25 := NB164_158.out
    have hnc25 := NB158_164.out
    have hnb26 := NB164_159.out
    have hnc26 := NB159_164.out
    have hnb27 := NB164_160.out
    have hnc27 := NB160_164.out
    have hcz28_0 : wr.cell? ⟨gb164, 0, none⟩ = some (u165000) := (blk_cell BK164.out 0).trans rfl
    have hcz28_1 : wr.cell? ⟨gb164, 1, none⟩ = some (.int .i64 a1_0) := (blk_cell BK164.out 1).trans rfl
    have hfz28_0 := blk_frozen BK164.out 0
    have hfz28_1 := blk_frozen BK164.out 1
    have hnb29 := NB159_158.out
    have hnc29 := NB158_159.out
    have hnb30 := NB159_160.out
    have hnc30 := NB160_159.out
    have hcz31_0 : wr.cell? ⟨gb159, 0, none⟩ = some (.int .i64 a1_0) := (blk_cell BK159.out 0).trans rfl
    have hcz31_1 : wr.cell? ⟨gb159, 1, none⟩ = some (.slice (some ad165) l1_1.length c1_1) := (blk_cell BK159.out 1).trans rfl
    have hfz31_0 := blk_frozen BK159.out 0
    have hfz31_1 := blk_frozen BK159.out 1
    have p24 : 0 ≤ ((rd l1_1 x17_1) : Int) := X.D
    have q24 : ((rd l1_1 x17_1) : Int) < ((x165000_1.length : Int) : Int) := X.D
    obtain ⟨go24, co24, eo24, gb24, gl24, cl24, HG24⟩ := Kd.R_form HO_165000.out (by omega)
    (first | cases eo24 | (injection eo24 with ea_ en_ ec_; (first | subst ea_ | (injection ea_ with ea_; subst ea_)); subst ec_; clear en_))
    have GB24 := X.A gb24
    have GG24 := X.A HG24
    clear gb24 gl24 HG24
    obtain ⟨hx24_0, hf24_0⟩ := Kd.R_celln 0 HO_165000.out ((rd l1_1 x17_1) : Int) p24 q24
    replace p24 := eq_true p24
    replace q24 := eq_true q24
    have HP32 := Kd.R_putg HO_165000.out ((rd l1_1 x17_1) : Int) a1_0
    go_wp2_with (first | ((with_reducible refine gate_store (t := 3) (p := 26) rfl ?_); refine store_event (t := 3) (p := 26) (v := ?vo_w33) (w1 := (wr.setCell ⟨go24, ((rd l1_1 x17_1) : Int).toNat, none⟩ (.int .i64 a1_0))) ?hg ?ho ?hn ?hr ?_; (case ho => rfl); (case hg => rfl); (case hn => rfl); (case hr => exact X.R); intro w33 hw; have hg : wr.grownBy w33 (some go24) := (by rw [hw]; exact HP32.2); have hp_ : Kd.R (Kd.int .i64) 3 w33 w.heap.size (fun _ => True) (.slice (some ⟨go24, 0, none⟩) x165000_1.length co24) y166 := (by rw [hw, Ny166.out]; exact HP32.1); clear HP32; have n0_ := X.A (hp_); have n1_ := X.A (blk_grown (g := gb158) (o := .cells #[.slice A0_0 l0_0.length c0_0, .int .i64 a0_1] 33 (0, 0)) (X.B BK158) hg (Kd.R_ne HO_165000.out BK158.out (by decide))); have n2_ := X.A (blk_grown (g := gb159) (o := .cells #[.int .i64 a1_0, .slice (some ad165) l1_1.length c1_1] 48 (0, 0)) (X.B BK159) hg (Kd.R_ne HO_165000.out BK159.out (by decide))); have n3_ := X.A (blk_grown (g := gb160) (o := .cells #[.slice none 0 0, .int .i64 0] 33 (0, 0)) (X.B BK160) hg (Kd.R_ne HO_165000.out BK160.out (by decide))); have n4_ := X.A (blk_grown (g := gb164) (o := .cells #[.slice (some ⟨go24, 0, none⟩) x165000_1.length co24, .int .i64 a1_0] 33 (0, 0)) (X.B BK164) hg (Kd.R_ne HO_165000.out BK164.out (by decide))); have n5_ := X.A ((by rw [hw]; exact below_set (HB.out) GB24.out : Below w.heap.size w w33)); clear HO_165000 BK158 BK159 BK160 BK164 HB; have HO_165000 := n0_; have BK158 := n1_; have BK159 := n2_; have BK160 := n3_; have BK164 := n4_; have HB := n5_; clear n0_ n1_ n2_ n3_ n4_ n5_; clear hg hw hp_))
    go_roundg k1
    case measure => have := HK1.out; omega
    case rel => exact ⟨(wrap64 (x17_1 + 1)), (y166), (.slice (some ⟨go24, 0, none⟩) x165000_1.length co24), (by first | rfl | (simp; done) | (simp [*]; done)), H', ⟨by have := HK1.out; omega⟩, ⟨by (with_reducible repeat (first | apply Kd.R_alloc | apply Kd.R_drewN | apply Kd.R_drew)); exact HO_165000.out⟩, ⟨X.B BK158⟩, ⟨X.B BK159⟩, ⟨X.B BK160⟩, ⟨X.B BK164⟩, ⟨X.G⟩⟩
   ·rw [if_neg c19] at H
    have c19b0 : decide (x17_1 < (l1_1.length : Int)) = false := decide_eq_false c19
    clear c19
    simp only [Option.some.injEq, Prod.mk.injEq] at H
    obtain ⟨rfl, rfl⟩ := H
    have hnb34 := NB164_158.out
    have hnc34 := NB158_164.out
    have hnb35 := NB164_159.out
    have hnc35 := NB159_164.out
    have hnb36 := NB164_160.out
    have hnc36 := NB160_164.out
    have hcz37_0 : wr.cell? ⟨gb164, 0, none⟩ = some (u165000) := (blk_cell BK164.out 0).trans rfl
    have hcz37_1 : wr.cell? ⟨gb164, 1, none⟩ = some (.int .i64 a1_0) := (blk_cell BK164.out 1).trans rfl
    have hfz37_0 := blk_frozen BK164.out 0
    have hfz37_1 := blk_frozen BK164.out 1
    obtain ⟨Ao38, co38, eo38⟩ := Kd.R_slice HO_165000.out
    subst eo38
    have hnb39 := NB160_158.out
    have hnc39 := NB158_160.out
    have hnb40 := NB160_159.out
    have hnc40 := NB159_160.out
    have hcz41_0 : wr.cell? ⟨gb160, 0, none⟩ = some (.slice none 0 0) := (blk_cell BK160.out 0).trans rfl
    have hcz41_1 : wr.cell? ⟨gb160, 1, none⟩ = some (.int .i64 0) := (blk_cell BK160.out 1).trans rfl
    have hfz41_0 := blk_frozen BK160.out 0
    have hfz41_1 := blk_frozen BK160.out 1
    go_wp2
    refine bodyPost_ret (results_cell_row rfl _ _ gb160 33 #[.slice Ao38 x165000_1.length co38, .int .i64 a1_0] (0, 0) _ rfl (by (with_reducible repeat (first | refine blk_drewN ?_ _ | refine blk_drew ?_ | refine blk_alloc ?_ _)); refine blk_put (cs := #[.slice Ao38 x165000_1.length co38, .int .i64 0]) ?_ 1 _ rfl; (with_reducible repeat (first | refine blk_drewN ?_ _ | refine blk_drew ?_ | refine blk_alloc ?_ _)); refine blk_put (cs := #[.slice none 0 0, .int .i64 0]) ?_ 0 _ rfl; (with_reducible repeat (first | refine blk_drewN ?_ _ | refine blk_drew ?_ | refine blk_alloc ?_ _)); exact BK160.out) Try.underlying33 rfl (by kernel_rfl)) rfl ?_
    exact ⟨_, by first | rfl | (simp [errW_none, errW_some] <;> rfl) | (simp [*, errW_none, errW_some] <;> rfl), by (with_reducible repeat (first | apply Kd.R_alloc | apply Kd.R_drewN | apply Kd.R_drew)); exact Kd.R_mono (Kd.R_far (p := ⟨gb160, 1, none⟩) (Kd.R_far (p := ⟨gb160, 0, none⟩) (Kd.R_types HO_165000.out BK160.out (by decide)) (fun _ hk => hk.2) (.slice Ao38 x165000_1.length co38)) (fun _ hk => hk.2) (.int .i64 a1_0)) (fun _ hk => trivial), X.G⟩

end Go.Proofs.Ytldeaeeolibpjaa.Q
