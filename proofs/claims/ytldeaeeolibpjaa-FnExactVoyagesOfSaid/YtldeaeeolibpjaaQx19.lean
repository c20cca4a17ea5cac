-- by wip/xprint.py, a program of this session over the kit's print: not trusted, Lean checks it.
import Derived.Test.YtldeaeeolibpjaaQx0
import Derived.Test.YtldeaeeolibpjaaQx14
import Derived.Test.YtldeaeeolibpjaaQx18
import Derived.Test.YtldeaeeolibpjaaXGroups
import Derived.Test.YtldeaeeolibpjaaXShort
namespace Go.Proofs.Ytldeaeeolibpjaa.Q
open Go.RowKit Go.Proofs.YtldeaeeolibpjaaW.PrintWords Go.Proofs.YtldeaeeolibpjaaW.PrintLast Go.Proofs.YtldeaeeolibpjaaW.PrintMore
attribute [local go_sem] max2_int min2_int max_two min_two max_three min_three max_four min_four   -- for this text's walks alone
set_option linter.unusedVariables false
set_option linter.unusedSimpArgs false

/-! ### impl_Isles_voyages_1: function 33 (by hand: Voyages1.lean) -/
-- NOHALVE
-- IMPORT: Derived.Test.YtldeaeeolibpjaaXGroups
-- IMPORT: Derived.Test.YtldeaeeolibpjaaXShort
-- INFO: 48
def impl_Isles_voyages_1.st (k : Nat) (a1_0 a1_1 a1_2 : Int) (l2_0 : List Int) (a2_1 a3_0 : Int) (s : List S48) (l : List Int) : Option (List S48) := (impl_calm.f k l).bind fun t => if t = true then ((impl_Places_behind.f k l2_0 a2_1 a3_0 l).bind fun bt => (impl_Isles_areCalm.f k a1_0 a1_1 a1_2 bt.1 bt.2).bind fun t2 => if t2 = true then (if s.length + 1 < 4398046511104 then some (s ++ [⟨a3_0, l⟩]) else none) else some s) else some s
def impl_Isles_voyages_1.T0 : Bool × List (List Nat × List Nat) := (true, [([], []), ([0], [0]), ([1, 1], [1]), ([2], [2]), ([2], [2]), ([2], [2]), ([2], [2]), ([4, 5, 6, 2, 2], [2, 4, 5, 6]), ([3, 7, 7, 2], [2, 3, 7]), ([2, 8], [2, 8])])
def impl_Isles_voyages_1.B0 : List Nat := [0, 1, 3, 7, 7, 7, 7, 119, 255, 511]
theorem impl_Isles_voyages_1.tab0 : rtab .any (opsOf Try.f33 0) = impl_Isles_voyages_1.T0 := by kernel_rfl
theorem impl_Isles_voyages_1.bits0 : waitsOk impl_Isles_voyages_1.T0.2 impl_Isles_voyages_1.B0 = true := by kernel_rfl
set_option maxHeartbeats 8000000 in
set_option maxRecDepth 100000 in
theorem impl_Isles_voyages_1.cb (k : Nat) (w0 : World) (gb501 : Nat) (a1_0 a1_1 a1_2 : Int) (gb502 : Nat) (A2_0 : Option Addr) (c2_0 : Nat) (l2_0 : List Int) (a2_1 : Int) (gb503 : Nat) (a3_0 : Int) (gb504 : Nat) (hr2_0 : Kd.C (Kd.int .i64) w0 A2_0 l2_0.length l2_0) (hc2_0 : l2_0.length ≤ c2_0)
    (hn501_504 : gb501 ≠ gb504) (hn502_504 : gb502 ≠ gb504) (hn503_504 : gb503 ≠ gb504) (hg504 : w0.heap.size ≤ gb504) :
    X.Cb Try.prog w0 3 33 #[.pointer (some ⟨gb501, 0, none⟩), .pointer (some ⟨gb502, 0, none⟩), .pointer (some ⟨gb503, 0, none⟩), .pointer (some ⟨gb504, 0, none⟩)]
      (fun W s O => (W.heap[gb501]? = some (.cells #[.int .i64 a1_0, .int .i64 a1_1, .int .i64 a1_2] 31 (0, 0))) ∧ (W.heap[gb502]? = some (.cells #[.slice A2_0 l2_0.length c2_0, .int .i64 a2_1] 33 (0, 0))) ∧ (W.heap[gb503]? = some (.cells #[.int .i64 a3_0] 3 (0, 0))) ∧ ∃ v, W.heap[gb504]? = some (.cells #[v] 28 (0, 0)) ∧ Kd.S k48 48 W w0.heap.size (fun _ => True) v s ∧ ∀ k_, O k_ ↔ k_ = gb504 ∨ v.ownBlock = some k_)
      (impl_Isles_voyages_1.st k a1_0 a1_1 a1_2 l2_0 a2_1 a3_0) := by
  refine ⟨?_, ?_, ?_⟩
  · rintro W W' s O ⟨h1, h2, h3, v, h4, hS, hO⟩ hb
    exact ⟨blk_below h1 hb, blk_below h2 hb, blk_below h3 hb, v, blk_below h4 hb, Kd.S_below hS hb, hO⟩
  · rintro W s O ⟨h1, h2, h3, v, h4, hS, hO⟩ k_ hk
    rcases (hO k_).1 hk with rfl | hk
    · exact blk_lt h4
    · exact Kd.S_lt hS k_ hk
  · rintro W0 w l4_0 s' O v l0 ⟨h1, h2, h3, v4, h4, hS, hO⟩ hbw0 hb0 hv hst
    have hbw := below_weaken hbw0 hbw0.size hb0
    have HBWs := X.A hbw0.size
    obtain ⟨A0, c0, rfl⟩ := Kd.R_slice hv
    obtain ⟨A4_0, c4_0, rfl⟩ := Kd.S_slice hS
    have hu31 := Try.underlying31
    have hu33 := Try.underlying33
    have HV := X.A hv
    have HR0 := X.A (Kd.R_reads' hv).2.2
    have HC0 := X.A (Kd.R_reads' hv).2.1
    have HR2_0 := X.A (Kd.C_below hr2_0 hbw)
    have HC2_0 := X.A hc2_0
    have BK501 := X.A (blk_below h1 hb0)
    have BK502 := X.A (blk_below h2 hb0)
    have BK503 := X.A (blk_below h3 hb0)
    have BK504 := X.A (blk_below h4 hb0)
    have HLT : Aside0 (∀ k_, (Value.slice A4_0 l4_0.length c4_0).ownBlock = some k_ → k_ < W0.heap.size) := ⟨Kd.S_lt hS⟩
    have HS4 : Aside0 (Kd.S k48 48 w w0.heap.size (fun k_ => True ∧ ¬ some k_ = (Value.slice A0 l0.length c0).ownBlock) (.slice A4_0 l4_0.length c4_0) l4_0) := ⟨Kd.S_below (Kd.S_mono (Kd.S_bound hS) (fun k_ hk => ⟨trivial, fun he => by have h5 := Kd.R_base hv k_ he.symm; have h6 := hk.2.2.1; omega⟩)) hb0⟩
    have HO := X.A hO
    have HBW := X.A hbw
    have HB := X.A (Below.refl w.heap.size w)
    have NB501_504 := X.A hn501_504
    have NB502_504 := X.A hn502_504
    have NB503_504 := X.A hn503_504
    have HG := X.A hg504
    have HW0 := X.A (Nat.le_trans hbw.size (Nat.le_refl w.heap.size))
    have HW00 : Aside0 (W0.heap.size ≤ w.heap.size) := ⟨hb0.size⟩
    have HW01 : Aside0 (∀ k_, (Value.slice A0 l0.length c0).ownBlock = some k_ → W0.heap.size ≤ k_) := ⟨Kd.R_base hv⟩
    clear hbw0 hv h1 h2 h3 h4 hS hO hb0 hbw hc2_0 hr2_0 hn501_504 hn502_504 hn503_504 hg504
    unfold impl_Isles_voyages_1.st at hst
    obtain ⟨t271, A60, H⟩ := Option.bind_eq_some_iff.1 hst
    have A6 := X.A A60
    clear A60 hst
    by_cases c7 : t271 = true
    · subst c7
      rw [if_pos rfl] at H
      obtain ⟨⟨t272, t275⟩, A80, H⟩ := Option.bind_eq_some_iff.1 H
      have A8 := X.A A80
      obtain ⟨t276, A90, H⟩ := Option.bind_eq_some_iff.1 H
      have A9 : Aside0 (impl_Isles_areCalm.f k a1_0 a1_1 a1_2 t272 t275 = some t276) := ⟨A90⟩
      clear A80 A90
      by_cases c10 : t276 = true
      · subst c10
        rw [if_pos rfl] at H
        by_cases c11 : l4_0.length + 1 < 4398046511104
        · rw [if_pos c11] at H
          injection H with H
          have LM := X.A c11
          have HE := X.A H
          clear H c11
          go_enter Try.func33, Try.ntmps33
          try go_wp2
          have n0_ := X.A (blk_drew BK501.out)
          have n1_ := X.A (blk_drew BK502.out)
          have n2_ := X.A (blk_drew BK503.out)
          have n3_ := X.A (blk_drew BK504.out)
          have n4_ := X.A (below_drew1 HB.out)
          clear BK501 BK502 BK503 BK504 HB
          have BK501 := n0_
          have BK502 := n1_
          have BK503 := n2_
          have BK504 := n3_
          have HB := n4_
          clear n0_ n1_ n2_ n3_ n4_
          refine start_ (n := 10) (S := fun w' => w'.cell? ⟨gb501, 0, none⟩ = some (.int .i64 a1_0) ∧ w'.cell? ⟨gb501, 1, none⟩ = some (.int .i64 a1_1) ∧ w'.cell? ⟨gb501, 2, none⟩ = some (.int .i64 a1_2) ∧ w'.cell? ⟨gb502, 0, none⟩ = some (.slice A2_0 l2_0.length c2_0) ∧ w'.cell? ⟨gb502, 1, none⟩ = some (.int .i64 a2_1) ∧ w'.cell? ⟨gb503, 0, none⟩ = some (.int .i64 a3_0)) (ds := []) #[false, false, false, false, false, false, false, false, false, false] (by kernel_rfl) rfl rfl ⟨(blk_cell BK501.out 0).trans rfl, (blk_cell BK501.out 1).trans rfl, (blk_cell BK501.out 2).trans rfl, (blk_cell BK502.out 0).trans rfl, (blk_cell BK502.out 1).trans rfl, (blk_cell BK503.out 0).trans rfl⟩ (fun hHeld => ?_); refine with_tabW impl_Isles_voyages_1.tab0 impl_Isles_voyages_1.bits0 (fun HT_ HW_ => ?_)
          generalize w.drew = w11 at BK501 BK502 BK503 BK504 HB hHeld ⊢
          refine pure_ (i := 0) (N := some 6) (v := ?_) (a' := ?_) #[true, false, false, false, false, false, false, false, false, false] rfl rfl (any_of HT_.out (by kernel_rfl)) (fun _ _ _ h => h) (Or.inl ⟨by rfl, ?_⟩) ?_ ?_
          rotate_left
          ·intro w'
           go_simp
           with_reducible rfl
          rotate_left
          ·exact X.Pu
          refine one_ (i := 1) (N := some 7) #[true, true, false, false, false, false, false, false, false, false] rfl rfl (one_of HT_.out (by kernel_rfl)) (by decide) (fun K hK => ?_)
          refine goes_ Try.func34 (by kernel_rfl) rfl #[.slice A0 l0.length c0] (by rfl) rfl rfl X.M ?_
          with_reducible refine (impl_calm.calls k _ _ l0 true _ ?side1 ?side2 A6.out).mono ?_
          (case side1 => exact X.C (Kd.C_below HR0.out HB.out))
          (case side2 => exact HC0.out)
          rintro e w12 ⟨rfl, hb⟩
          refine ⟨_, rfl, ?_⟩
          have n0_ := X.A (X.BB BK501 hb)
          have n1_ := X.A (X.BB BK502 hb)
          have n2_ := X.A (X.BB BK503 hb)
          have n3_ := X.A (X.BB BK504 hb)
          have n4_ := X.A (below_step X.G hb)
          clear BK501 BK502 BK503 BK504 HB
          have BK501 := n0_
          have BK502 := n1_
          have BK503 := n2_
          have BK504 := n3_
          have HB := n4_
          clear n0_ n1_ n2_ n3_ n4_
          (try clear hb)
          (try clear hb2)
          (try clear hk)
          (try clear hi)
          refine hK.out _ _ ⟨(blk_cell BK501.out 0).trans rfl, (blk_cell BK501.out 1).trans rfl, (blk_cell BK501.out 2).trans rfl, (blk_cell BK502.out 0).trans rfl, (blk_cell BK502.out 1).trans rfl, (blk_cell BK503.out 0).trans rfl⟩ (fun hHeld => ?_)
          clear hK K
          refine norm_ (a' := ?_) ?_ ?_
          rotate_left
          ·exact (show Act.put _ (some 7) _ = _ from X.Pu)
          refine pure_ (i := 2) (N := some 8) (v := ?_) (a' := ?_) #[true, true, true, false, false, false, false, false, false, false] rfl rfl (any_of HT_.out (by kernel_rfl)) (fun _ _ _ h => h) (Or.inl ⟨by rfl, ?_⟩) ?_ ?_
          rotate_left
          ·intro w'
           go_simp
           with_reducible rfl
          rotate_left
          ·exact X.Pu
          refine pure_ (i := 6) (N := some 12) (v := ?_) (a' := ?_) #[true, true, true, false, false, false, true, false, false, false] rfl rfl (any_of HT_.out (by kernel_rfl)) (fun _ _ _ h => h) (Or.inl ⟨by rfl, ?_⟩) ?_ ?_
          rotate_left
          ·intro w'
           go_simp
           with_reducible rfl
          rotate_left
          ·exact X.Pu
          refine take_ (i := 3) (N := some 9) (v := ?_) (a' := ?_) #[true, true, true, true, false, false, true, false, false, false] rfl rfl (take_ofW HT_.out HW_.out (by kernel_rfl)) (fun _ _ _ h => h) (Or.inl ⟨by rfl, ?_⟩) hHeld ?_ ?_
          rotate_left
          ·rintro w' ⟨s0, s1, s2, s3, s4, s5⟩
           go_simp
           with_reducible rfl
          rotate_left
          ·exact X.Pu
          refine take_ (i := 4) (N := some 10) (v := ?_) (a' := ?_) #[true, true, true, true, true, false, true, false, false, false] rfl rfl (take_ofW HT_.out HW_.out (by kernel_rfl)) (fun _ _ _ h => h) (Or.inl ⟨by rfl, ?_⟩) hHeld ?_ ?_
          rotate_left
          ·rintro w' ⟨s0, s1, s2, s3, s4, s5⟩
           go_simp
           with_reducible rfl
          rotate_left
          ·exact X.Pu
          refine take_ (i := 5) (N := some 11) (v := ?_) (a' := ?_) #[true, true, true, true, true, true, true, false, false, false] rfl rfl (take_ofW HT_.out HW_.out (by kernel_rfl)) (fun _ _ _ h => h) (Or.inl ⟨by rfl, ?_⟩) hHeld ?_ ?_
          rotate_left
          ·rintro w' ⟨s0, s1, s2, s3, s4, s5⟩
           go_simp
           with_reducible rfl
          rotate_left
          ·exact X.Pu
          refine one_ (i := 7) (N := some 13) #[true, true, true, true, true, true, true, true, false, false] rfl rfl (one_of HT_.out (by kernel_rfl)) (by decide) (fun K hK => ?_)
          refine goes_ Try.func35 (by kernel_rfl) rfl #[.agg #[.slice A2_0 l2_0.length c2_0, .int .i64 a2_1], .int .i64 a3_0, .slice A0 l0.length c0] (by rfl) rfl rfl X.M ?_
          with_reducible refine (impl_Places_behind.calls k _ _ l2_0 a2_1 a3_0 _ _ l0 t272 t275 _ ?side1 ?side2 ?side3 ?side4 A8.out).mono ?_
          (case side1 => exact X.C (Kd.C_below HR2_0.out HB.out))
          (case side2 => exact HC2_0.out)
          (case side3 => exact X.C (Kd.C_below HR0.out HB.out))
          (case side4 => exact HC0.out)
          rintro e w13 ⟨v273, rfl, ho0, hb⟩
          refine ⟨_, rfl, ?_⟩
          have n0_ := X.A (Kd.R_lower (Kd.R_newB ho0 (g := gb503) (o := .cells #[.int .i64 a3_0] 3 (0, 0)) (X.B BK503)) (below_size X.G))
          have n1_ := X.A (X.BB BK501 hb)
          have n2_ := X.A (X.BB BK502 hb)
          have n3_ := X.A (X.BB BK503 hb)
          have n4_ := X.A (X.BB BK504 hb)
          have n5_ := X.A (below_step X.G hb)
          clear BK501 BK502 BK503 BK504 HB
          have HO274 := n0_
          have BK501 := n1_
          have BK502 := n2_
          have BK503 := n3_
          have BK504 := n4_
          have HB := n5_
          clear n0_ n1_ n2_ n3_ n4_ n5_
          (try clear hb)
          (try clear hb2)
          (try clear hk)
          (try clear hi)
          (try clear ho0)
          obtain ⟨Ao14, co14, eo14⟩ := Kd.R_slice HO274.out
          (first | subst eo14 | (injection eo14 with f1_ f2_ f3_; have f4_ := f1_.symm; have f5_ := f3_.symm; clear f1_ f2_ f3_; subst f4_; subst f5_))
          refine hK.out _ _ ⟨(blk_cell BK501.out 0).trans rfl, (blk_cell BK501.out 1).trans rfl, (blk_cell BK501.out 2).trans rfl, (blk_cell BK502.out 0).trans rfl, (blk_cell BK502.out 1).trans rfl, (blk_cell BK503.out 0).trans rfl⟩ (fun hHeld => ?_)
          clear hK K
          refine norm_ (a' := ?_) ?_ ?_
          rotate_left
          ·exact (show Act.put _ (some 13) _ = _ from X.Pu)
          refine one_ (i := 8) (N := some 14) #[true, true, true, true, true, true, true, true, true, false] rfl rfl (one_of HT_.out (by kernel_rfl)) (by decide) (fun K hK => ?_)
          refine goes_ Try.func29 (by kernel_rfl) rfl #[.agg #[.int .i64 a1_0, .int .i64 a1_1, .int .i64 a1_2], .agg #[.slice Ao14 t272.length co14, .int .i64 t275]] (by rfl) rfl rfl X.M ?_
          with_reducible refine (impl_Isles_areCalm.calls k a1_0 a1_1 a1_2 _ _ t272 t275 true _ ?side1 ?side2 A9.out).mono ?_
          (case side1 => exact X.C (Kd.R_reads' HO274.out).2.2)
          (case side2 => exact (Kd.R_reads' HO274.out).2.1)
          rintro e w15 ⟨rfl, hb⟩
          refine ⟨_, rfl, ?_⟩
          have n0_ := X.A (Kd.R_below (X.K HO274) hb)
          have n1_ := X.A (X.BB BK501 hb)
          have n2_ := X.A (X.BB BK502 hb)
          have n3_ := X.A (X.BB BK503 hb)
          have n4_ := X.A (X.BB BK504 hb)
          have n5_ := X.A (below_step X.G hb)
          clear HO274 BK501 BK502 BK503 BK504 HB
          have HO274 := n0_
          have BK501 := n1_
          have BK502 := n2_
          have BK503 := n3_
          have BK504 := n4_
          have HB := n5_
          clear n0_ n1_ n2_ n3_ n4_ n5_
          (try clear hb)
          (try clear hb2)
          (try clear hk)
          (try clear hi)
          refine hK.out _ _ ⟨(blk_cell BK501.out 0).trans rfl, (blk_cell BK501.out 1).trans rfl, (blk_cell BK501.out 2).trans rfl, (blk_cell BK502.out 0).trans rfl, (blk_cell BK502.out 1).trans rfl, (blk_cell BK503.out 0).trans rfl⟩ (fun hHeld => ?_)
          clear hK K
          refine norm_ (a' := ?_) ?_ ?_
          rotate_left
          ·exact (show Act.put _ (some 14) _ = _ from X.Pu)
          refine pure_ (i := 9) (N := some 15) (v := ?_) (a' := ?_) #[true, true, true, true, true, true, true, true, true, true] rfl rfl (any_of HT_.out (by kernel_rfl)) (fun _ _ _ h => h) (Or.inl ⟨by rfl, ?_⟩) ?_ ?_
          rotate_left
          ·intro w'
           go_simp
           with_reducible rfl
          rotate_left
          ·exact X.Pu
          refine done_ (done_of HT_.out (by kernel_rfl)) ?_
          have hcz4 : w15.cell? ⟨gb504, 0, none⟩ = some (.slice A4_0 l4_0.length c4_0) := (blk_cell BK504.out 0).trans rfl
          have hfz4 := blk_frozen BK504.out 0
          have hcz3 : w15.cell? ⟨gb503, 0, none⟩ = some (.int .i64 a3_0) := (blk_cell BK503.out 0).trans rfl
          have hfz3 := blk_frozen BK503.out 0
          have HSn := X.A (Kd.S_below HS4.out HB.out)
          have HVn := X.A (Kd.R_below HV.out HB.out)
          go_wp2_with (first | ((with_reducible refine gate_builtin (b := .append) (xs := #[.tmp 16, .tmp 20]) rfl ?_); at_builtin; refine Kd.S_append k48 (w0 := w0) w0.heap.size rfl (.tmp 16) (.tmp 20) 28 48 (.agg #[(.int .i64 0), (.slice none 0 0)]) 32 rfl Try.underlying28 info48 rfl (by decide) (by omega) (.slice A4_0 l4_0.length c4_0) l4_0 ⟨a3_0, l0⟩ [.int .i64 a3_0, .slice A0 l0.length c0] (fun _ => True) (fun k_ => some k_ = (Value.slice A0 l0.length c0).ownBlock) rfl rfl ?aP ?aK ?aF ?aO ?aB ?aS ?aL ?_; (case aP => exact k48_mkM _ _ _ ⟨a3_0, l0⟩ (Kd.R_lower (Kd.R_tight rfl HVn.out) (Nat.le_trans HBWs.out (Nat.le_refl _)))); (case aK => exact fun k_ hk => ⟨trivial, fun he => by have h5 := HW01.out k_ hk.symm; have h6 := HLT.out k_ he.symm; omega⟩); (case aF => exact fun _ _ => trivial); (case aO => exact HSn.out); (case aB => exact below_weaken HBW.out HW0.out X.G); (case aS => exact (below_weaken HBW.out HW0.out X.G).size); (case aL => have := LM.out; omega); intro v5 w20 ho hb hg hat; have n0_ := X.A (blk_grown (X.B BK501) hg (Kd.S_ne HSn.out BK501.out (by decide))); have n1_ := X.A (blk_grown (X.B BK502) hg (Kd.S_ne HSn.out BK502.out (by decide))); have n2_ := X.A (blk_grown (X.B BK503) hg (Kd.S_ne HSn.out BK503.out (by decide))); have n3_ := X.A (blk_grown (X.B BK504) hg (Kd.S_ne HSn.out BK504.out (by decide))); have n4_ := X.A hb; have n5_ := X.A ho; have n6_ := X.A (Kept.of_grown (S := O) hg (Kept.of_below (show Below w.heap.size w _ from X.G) O) (fun k_ e_ => .inl ((HO.out k_).2 (.inr e_)))); have HAT : Aside0 (v5.ownBlock = (Value.slice A4_0 l4_0.length c4_0).ownBlock ∨ ∃ b, v5.ownBlock = some b ∧ w.heap.size ≤ b) := ⟨hat.imp id (fun ⟨b, hb1, hb2⟩ => ⟨b, hb1, Nat.le_trans (show Below w.heap.size w _ from X.G).size hb2⟩)⟩; clear BK501 BK502 BK503 BK504 HB HSn hcz4 hcz3 hfz4 hfz3 ho hb hg hat; have BK501 := n0_; have BK502 := n1_; have BK503 := n2_; have BK504 := n3_; have HB5 := n4_; have HS5 := n5_; have HK5 := n6_; clear n0_ n1_ n2_ n3_ n4_ n5_ n6_; obtain ⟨A5, c5, e5⟩ := Kd.S_slice HS5.out; subst e5; have hcz4 : w20.cell? ⟨gb504, 0, none⟩ = some (.slice A4_0 l4_0.length c4_0) := (blk_cell BK504.out 0).trans rfl; have hfz4 := blk_frozen BK504.out 0) | ((with_reducible refine gate_store (t := 28) (p := 4) rfl ?_); refine store_event (t := 28) (p := 4) (v := ?vo_w21) (w1 := (w20.setCell ⟨gb504, 0, none⟩ (.slice A5 (l4_0 ++ [(⟨a3_0, l0⟩ : S48)]).length c5))) ?hg ?ho ?hn ?hr ?_; (case ho => rfl); (case hg => rfl); (case hn => rfl); (case hr => exact X.R); intro w21 hw; have n0_ := X.A (by rw [hw]; exact blk_far BK501.out NB501_504.out _ : w21.heap[gb501]? = some (.cells #[.int .i64 a1_0, .int .i64 a1_1, .int .i64 a1_2] 31 (0, 0))); have n1_ := X.A (by rw [hw]; exact blk_far BK502.out NB502_504.out _ : w21.heap[gb502]? = some (.cells #[.slice A2_0 l2_0.length c2_0, .int .i64 a2_1] 33 (0, 0))); have n2_ := X.A (by rw [hw]; exact blk_far BK503.out NB503_504.out _ : w21.heap[gb503]? = some (.cells #[.int .i64 a3_0] 3 (0, 0))); have n3_ := X.A (by rw [hw]; exact blk_put (cs := #[.slice A4_0 l4_0.length c4_0]) BK504.out 0 _ rfl : w21.heap[gb504]? = some (.cells #[.slice A5 (l4_0 ++ [(⟨a3_0, l0⟩ : S48)]).length c5] 28 (0, 0))); have n4_ := X.A (by rw [hw]; exact below_set HB5.out HG.out : Below w0.heap.size w0 w21); have n5_ := X.A (by rw [hw]; exact Kd.S_set HS5.out BK504.out (by decide) 0 _ : Kd.S k48 48 w21 w0.heap.size (fun _ => True) (.slice A5 (l4_0 ++ [(⟨a3_0, l0⟩ : S48)]).length c5) (l4_0 ++ [(⟨a3_0, l0⟩ : S48)])); have n6_ := X.A (by rw [hw]; exact Kept.setCell HK5.out (.inl ((HO.out gb504).2 (.inl rfl))) _ : Kept w w21 O); clear BK501 BK502 BK503 BK504 HB5 HS5 HK5 hcz4 hfz4 hw; have BK501 := n0_; have BK502 := n1_; have BK503 := n2_; have BK504 := n3_; have HB5 := n4_; have HS5 := n5_; have HK5 := n6_; clear n0_ n1_ n2_ n3_ n4_ n5_ n6_))
          first | go_end0 | ((try simp only [Exit.inBlock, Exit.then]); refine bodyPost_ret (results_none rfl _ _ _) rfl ?_)
          refine ⟨rfl, fun k_ => k_ = gb504 ∨ (Value.slice A5 (l4_0 ++ [(⟨a3_0, l0⟩ : S48)]).length c5).ownBlock = some k_, ⟨X.B BK501, X.B BK502, X.B BK503, _, X.B BK504, by rw [← HE.out]; exact Kd.S_below HS5.out X.PB, fun k_ => Iff.rfl⟩, Kept.below HK5.out X.PB, fun k_ hk => ?_, below_weaken HB5.out HB5.out.size X.PB⟩
          rcases hk with hk | hk
          · exact .inl ((HO.out k_).2 (.inl hk))
          · rcases HAT.out with h5 | ⟨b, h5, h6⟩
            · exact .inl ((HO.out k_).2 (.inr (h5 ▸ hk)))
            · rw [h5] at hk
              injection hk with hk
              exact .inr (by omega)
        · rw [if_neg c11] at H
          cases H
      · replace c10 := Bool.eq_false_iff.mpr c10
        subst c10
        rw [if_neg (by decide)] at H
        injection H with H
        subst H
        go_enter Try.func33, Try.ntmps33
        try go_wp2
        have n0_ := X.A (blk_drew BK501.out)
        have n1_ := X.A (blk_drew BK502.out)
        have n2_ := X.A (blk_drew BK503.out)
        have n3_ := X.A (blk_drew BK504.out)
        have n4_ := X.A (below_drew1 HB.out)
        clear BK501 BK502 BK503 BK504 HB
        have BK501 := n0_
        have BK502 := n1_
        have BK503 := n2_
        have BK504 := n3_
        have HB := n4_
        clear n0_ n1_ n2_ n3_ n4_
        refine start_ (n := 10) (S := fun w' => w'.cell? ⟨gb501, 0, none⟩ = some (.int .i64 a1_0) ∧ w'.cell? ⟨gb501, 1, none⟩ = some (.int .i64 a1_1) ∧ w'.cell? ⟨gb501, 2, none⟩ = some (.int .i64 a1_2) ∧ w'.cell? ⟨gb502, 0, none⟩ = some (.slice A2_0 l2_0.length c2_0) ∧ w'.cell? ⟨gb502, 1, none⟩ = some (.int .i64 a2_1) ∧ w'.cell? ⟨gb503, 0, none⟩ = some (.int .i64 a3_0)) (ds := []) #[false, false, false, false, false, false, false, false, false, false] (by kernel_rfl) rfl rfl ⟨(blk_cell BK501.out 0).trans rfl, (blk_cell BK501.out 1).trans rfl, (blk_cell BK501.out 2).trans rfl, (blk_cell BK502.out 0).trans rfl, (blk_cell BK502.out 1).trans rfl, (blk_cell BK503.out 0).trans rfl⟩ (fun hHeld => ?_); refine with_tabW impl_Isles_voyages_1.tab0 impl_Isles_voyages_1.bits0 (fun HT_ HW_ => ?_)
        generalize w.drew = w16 at BK501 BK502 BK503 BK504 HB hHeld ⊢
        refine pure_ (i := 0) (N := some 6) (v := ?_) (a' := ?_) #[true, false, false, false, false, false, false, false, false, false] rfl rfl (any_of HT_.out (by kernel_rfl)) (fun _ _ _ h => h) (Or.inl ⟨by rfl, ?_⟩) ?_ ?_
        rotate_left
        ·intro w'
         go_simp
         with_reducible rfl
        rotate_left
        ·exact X.Pu
        refine one_ (i := 1) (N := some 7) #[true, true, false, false, false, false, false, false, false, false] rfl rfl (one_of HT_.out (by kernel_rfl)) (by decide) (fun K hK => ?_)
        refine goes_ Try.func34 (by kernel_rfl) rfl #[.slice A0 l0.length c0] (by rfl) rfl rfl X.M ?_
        with_reducible refine (impl_calm.calls k _ _ l0 true _ ?side1 ?side2 A6.out).mono ?_
        (case side1 => exact X.C (Kd.C_below HR0.out HB.out))
        (case side2 => exact HC0.out)
        rintro e w17 ⟨rfl, hb⟩
        refine ⟨_, rfl, ?_⟩
        have n0_ := X.A (X.BB BK501 hb)
        have n1_ := X.A (X.BB BK502 hb)
        have n2_ := X.A (X.BB BK503 hb)
        have n3_ := X.A (X.BB BK504 hb)
        have n4_ := X.A (below_step X.G hb)
        clear BK501 BK502 BK503 BK504 HB
        have BK501 := n0_
        have BK502 := n1_
        have BK503 := n2_
        have BK504 := n3_
        have HB := n4_
        clear n0_ n1_ n2_ n3_ n4_
        (try clear hb)
        (try clear hb2)
        (try clear hk)
        (try clear hi)
        refine hK.out _ _ ⟨(blk_cell BK501.out 0).trans rfl, (blk_cell BK501.out 1).trans rfl, (blk_cell BK501.out 2).trans rfl, (blk_cell BK502.out 0).trans rfl, (blk_cell BK502.out 1).trans rfl, (blk_cell BK503.out 0).trans rfl⟩ (fun hHeld => ?_)
        clear hK K
        refine norm_ (a' := ?_) ?_ ?_
        rotate_left
        ·exact (show Act.put _ (some 7) _ = _ from X.Pu)
        refine pure_ (i := 2) (N := some 8) (v := ?_) (a' := ?_) #[true, true, true, false, false, false, false, false, false, false] rfl rfl (any_of HT_.out (by kernel_rfl)) (fun _ _ _ h => h) (Or.inl ⟨by rfl, ?_⟩) ?_ ?_
        rotate_left
        ·intro w'
         go_simp
         with_reducible rfl
        rotate_left
        ·exact X.Pu
        refine pure_ (i := 6) (N := some 12) (v := ?_) (a' := ?_) #[true, true, true, false, false, false, true, false, false, false] rfl rfl (any_of HT_.out (by kernel_rfl)) (fun _ _ _ h => h) (Or.inl ⟨by rfl, ?_⟩) ?_ ?_
        rotate_left
        ·intro w'
         go_simp
         with_reducible rfl
        rotate_left
        ·exact X.Pu
        refine take_ (i := 3) (N := some 9) (v := ?_) (a' := ?_) #[true, true, true, true, false, false, true, false, false, false] rfl rfl (take_ofW HT_.out HW_.out (by kernel_rfl)) (fun _ _ _ h => h) (Or.inl ⟨by rfl, ?_⟩) hHeld ?_ ?_
        rotate_left
        ·rintro w' ⟨s0, s1, s2, s3, s4, s5⟩
         go_simp
         with_reducible rfl
        rotate_left
        ·exact X.Pu
        refine take_ (i := 4) (N := some 10) (v := ?_) (a' := ?_) #[true, true, true, true, true, false, true, false, false, false] rfl rfl (take_ofW HT_.out HW_.out (by kernel_rfl)) (fun _ _ _ h => h) (Or.inl ⟨by rfl, ?_⟩) hHeld ?_ ?_
        rotate_left
        ·rintro w' ⟨s0, s1, s2, s3, s4, s5⟩
         go_simp
         with_reducible rfl
        rotate_left
        ·exact X.Pu
        refine take_ (i := 5) (N := some 11) (v := ?_) (a' := ?_) #[true, true, true, true, true, true, true, false, false, false] rfl rfl (take_ofW HT_.out HW_.out (by kernel_rfl)) (fun _ _ _ h => h) (Or.inl ⟨by rfl, ?_⟩) hHeld ?_ ?_
        rotate_left
        ·rintro w' ⟨s0, s1, s2, s3, s4, s5⟩
         go_simp
         with_reducible rfl
        rotate_left
        ·exact X.Pu
        refine one_ (i := 7) (N := some 13) #[true, true, true, true, true, true, true, true, false, false] rfl rfl (one_of HT_.out (by kernel_rfl)) (by decide) (fun K hK => ?_)
        refine goes_ Try.func35 (by kernel_rfl) rfl #[.agg #[.slice A2_0 l2_0.length c2_0, .int .i64 a2_1], .int .i64 a3_0, .slice A0 l0.length c0] (by rfl) rfl rfl X.M ?_
        with_reducible refine (impl_Places_behind.calls k _ _ l2_0 a2_1 a3_0 _ _ l0 t272 t275 _ ?side1 ?side2 ?side3 ?side4 A8.out).mono ?_
        (case side1 => exact X.C (Kd.C_below HR2_0.out HB.out))
        (case side2 => exact HC2_0.out)
        (case side3 => exact X.C (Kd.C_below HR0.out HB.out))
        (case side4 => exact HC0.out)
        rintro e w18 ⟨v273, rfl, ho0, hb⟩
        refine ⟨_, rfl, ?_⟩
        have n0_ := X.A (Kd.R_lower (Kd.R_newB ho0 (g := gb503) (o := .cells #[.int .i64 a3_0] 3 (0, 0)) (X.B BK503)) (below_size X.G))
        have n1_ := X.A (X.BB BK501 hb)
        have n2_ := X.A (X.BB BK502 hb)
        have n3_ := X.A (X.BB BK503 hb)
        have n4_ := X.A (X.BB BK504 hb)
        have n5_ := X.A (below_step X.G hb)
        clear BK501 BK502 BK503 BK504 HB
        have HO274 := n0_
        have BK501 := n1_
        have BK502 := n2_
        have BK503 := n3_
        have BK504 := n4_
        have HB := n5_
        clear n0_ n1_ n2_ n3_ n4_ n5_
        (try clear hb)
        (try clear hb2)
        (try clear hk)
        (try clear hi)
        (try clear ho0)
        obtain ⟨Ao19, co19, eo19⟩ := Kd.R_slice HO274.out
        (first | subst eo19 | (injection eo19 with f1_ f2_ f3_; have f4_ := f1_.symm; have f5_ := f3_.symm; clear f1_ f2_ f3_; subst f4_; subst f5_))
        refine hK.out _ _ ⟨(blk_cell BK501.out 0).trans rfl, (blk_cell BK501.out 1).trans rfl, (blk_cell BK501.out 2).trans rfl, (blk_cell BK502.out 0).trans rfl, (blk_cell BK502.out 1).trans rfl, (blk_cell BK503.out 0).trans rfl⟩ (fun hHeld => ?_)
        clear hK K
        refine norm_ (a' := ?_) ?_ ?_
        rotate_left
        ·exact (show Act.put _ (some 13) _ = _ from X.Pu)
        refine one_ (i := 8) (N := some 14) #[true, true, true, true, true, true, true, true, true, false] rfl rfl (one_of HT_.out (by kernel_rfl)) (by decide) (fun K hK => ?_)
        refine goes_ Try.func29 (by kernel_rfl) rfl #[.agg #[.int .i64 a1_0, .int .i64 a1_1, .int .i64 a1_2], .agg #[.slice Ao19 t272.length co19, .int .i64 t275]] (by rfl) rfl rfl X.M ?_
        with_reducible refine (impl_Isles_areCalm.calls k a1_0 a1_1 a1_2 _ _ t272 t275 false _ ?side1 ?side2 A9.out).mono ?_
        (case side1 => exact X.C (Kd.R_reads' HO274.out).2.2)
        (case side2 => exact (Kd.R_reads' HO274.out).2.1)
        rintro e w20 ⟨rfl, hb⟩
        refine ⟨_, rfl, ?_⟩
        have n0_ := X.A (Kd.R_below (X.K HO274) hb)
        have n1_ := X.A (X.BB BK501 hb)
        have n2_ := X.A (X.BB BK502 hb)
        have n3_ := X.A (X.BB BK503 hb)
        have n4_ := X.A (X.BB BK504 hb)
        have n5_ := X.A (below_step X.G hb)
        clear HO274 BK501 BK502 BK503 BK504 HB
        have HO274 := n0_
        have BK501 := n1_
        have BK502 := n2_
        have BK503 := n3_
        have BK504 := n4_
        have HB := n5_
        clear n0_ n1_ n2_ n3_ n4_ n5_
        (try clear hb)
        (try clear hb2)
        (try clear hk)
        (try clear hi)
        refine hK.out _ _ ⟨(blk_cell BK501.out 0).trans rfl, (blk_cell BK501.out 1).trans rfl, (blk_cell BK501.out 2).trans rfl, (blk_cell BK502.out 0).trans rfl, (blk_cell BK502.out 1).trans rfl, (blk_cell BK503.out 0).trans rfl⟩ (fun hHeld => ?_)
        clear hK K
        refine norm_ (a' := ?_) ?_ ?_
        rotate_left
        ·exact (show Act.put _ (some 14) _ = _ from X.Pu)
        refine pure_ (i := 9) (N := some 15) (v := ?_) (a' := ?_) #[true, true, true, true, true, true, true, true, true, true] rfl rfl (any_of HT_.out (by kernel_rfl)) (fun _ _ _ h => h) (Or.inl ⟨by rfl, ?_⟩) ?_ ?_
        rotate_left
        ·intro w'
         go_simp
         with_reducible rfl
        rotate_left
        ·exact X.Pu
        refine done_ (done_of HT_.out (by kernel_rfl)) ?_
        try go_wp2
        first | go_end0 | ((try simp only [Exit.inBlock, Exit.then]); refine bodyPost_ret (results_none rfl _ _ _) rfl ?_)
        exact ⟨rfl, O, ⟨X.B BK501, X.B BK502, X.B BK503, _, X.B BK504, Kd.S_mono (Kd.S_below HS4.out X.G) (fun _ _ => trivial), HO.out⟩, Kept.of_below X.G O, fun k_ hk => .inl hk, below_weaken HBW.out HW0.out X.G⟩
    · replace c7 := Bool.eq_false_iff.mpr c7
      subst c7
      rw [if_neg (by decide)] at H
      injection H with H
      subst H
      go_enter Try.func33, Try.ntmps33
      try go_wp2
      have n0_ := X.A (blk_drew BK501.out)
      have n1_ := X.A (blk_drew BK502.out)
      have n2_ := X.A (blk_drew BK503.out)
      have n3_ := X.A (blk_drew BK504.out)
      have n4_ := X.A (below_drew1 HB.out)
      clear BK501 BK502 BK503 BK504 HB
      have BK501 := n0_
      have BK502 := n1_
      have BK503 := n2_
      have BK504 := n3_
      have HB := n4_
      clear n0_ n1_ n2_ n3_ n4_
      refine start_ (n := 10) (S := fun w' => True) (ds := []) #[false, false, false, false, false, false, false, false, false, false] (by kernel_rfl) rfl rfl trivial (fun hHeld => ?_); refine with_tabW impl_Isles_voyages_1.tab0 impl_Isles_voyages_1.bits0 (fun HT_ HW_ => ?_)
      generalize w.drew = w21 at BK501 BK502 BK503 BK504 HB hHeld ⊢
      refine pure_ (i := 0) (N := some 6) (v := ?_) (a' := ?_) #[true, false, false, false, false, false, false, false, false, false] rfl rfl (any_of HT_.out (by kernel_rfl)) (fun _ _ _ h => h) (Or.inl ⟨by rfl, ?_⟩) ?_ ?_
      rotate_left
      ·intro w'
       go_simp
       with_reducible rfl
      rotate_left
      ·exact X.Pu
      refine one_ (i := 1) (N := some 7) #[true, true, false, false, false, false, false, false, false, false] rfl rfl (one_of HT_.out (by kernel_rfl)) (by decide) (fun K hK => ?_)
      refine goes_ Try.func34 (by kernel_rfl) rfl #[.slice A0 l0.length c0] (by rfl) rfl rfl X.M ?_
      with_reducible refine (impl_calm.calls k _ _ l0 false _ ?side1 ?side2 A6.out).mono ?_
      (case side1 => exact X.C (Kd.C_below HR0.out HB.out))
      (case side2 => exact HC0.out)
      rintro e w22 ⟨rfl, hb⟩
      refine ⟨_, rfl, ?_⟩
      have n0_ := X.A (X.BB BK501 hb)
      have n1_ := X.A (X.BB BK502 hb)
      have n2_ := X.A (X.BB BK503 hb)
      have n3_ := X.A (X.BB BK504 hb)
      have n4_ := X.A (below_step X.G hb)
      clear BK501 BK502 BK503 BK504 HB
      have BK501 := n0_
      have BK502 := n1_
      have BK503 := n2_
      have BK504 := n3_
      have HB := n4_
      clear n0_ n1_ n2_ n3_ n4_
      (try clear hb)
      (try clear hb2)
      (try clear hk)
      (try clear hi)
      refine hK.out _ _ trivial (fun hHeld => ?_)
      clear hK K
      refine norm_ (a' := ?_) ?_ ?_
      rotate_left
      ·exact (show Act.put _ (some 7) _ = _ from X.Pu)
      refine pure_ (i := 2) (N := some 8) (v := ?_) (a' := ?_) #[true, true, true, false, false, false, false, false, false, false] rfl rfl (any_of HT_.out (by kernel_rfl)) (fun _ _ _ h => h) (Or.inl ⟨by rfl, ?_⟩) ?_ ?_
      rotate_left
      ·intro w'
       go_simp
       with_reducible rfl
      rotate_left
      ·exact X.Pu
      refine pure_ (i := 3) (N := some 9) (v := undef) (a' := ?_) #[true, true, true, true, false, false, false, false, false, false] rfl rfl (any_of HT_.out (by kernel_rfl)) (fun _ _ _ h => h) (Or.inr ⟨by rfl, rfl⟩) ?_ ?_
      rotate_left
      ·exact X.Pu
      refine pure_ (i := 4) (N := some 10) (v := undef) (a' := ?_) #[true, true, true, true, true, false, false, false, false, false] rfl rfl (any_of HT_.out (by kernel_rfl)) (fun _ _ _ h => h) (Or.inr ⟨by rfl, rfl⟩) ?_ ?_
      rotate_left
      ·exact X.Pu
      refine pure_ (i := 5) (N := some 11) (v := undef) (a' := ?_) #[true, true, true, true, true, true, false, false, false, false] rfl rfl (any_of HT_.out (by kernel_rfl)) (fun _ _ _ h => h) (Or.inr ⟨by rfl, rfl⟩) ?_ ?_
      rotate_left
      ·exact X.Pu
      refine pure_ (i := 6) (N := some 12) (v := undef) (a' := ?_) #[true, true, true, true, true, true, true, false, false, false] rfl rfl (any_of HT_.out (by kernel_rfl)) (fun _ _ _ h => h) (Or.inr ⟨by rfl, rfl⟩) ?_ ?_
      rotate_left
      ·exact X.Pu
      refine pure_ (i := 7) (N := some 13) (v := undef) (a' := ?_) #[true, true, true, true, true, true, true, true, false, false] rfl rfl (any_of HT_.out (by kernel_rfl)) (fun _ _ _ h => h) (Or.inr ⟨by rfl, rfl⟩) ?_ ?_
      rotate_left
      ·exact X.Pu
      refine pure_ (i := 8) (N := some 14) (v := undef) (a' := ?_) #[true, true, true, true, true, true, true, true, true, false] rfl rfl (any_of HT_.out (by kernel_rfl)) (fun _ _ _ h => h) (Or.inr ⟨by rfl, rfl⟩) ?_ ?_
      rotate_left
      ·exact X.Pu
      refine pure_ (i := 9) (N := some 15) (v := ?_) (a' := ?_) #[true, true, true, true, true, true, true, true, true, true] rfl rfl (any_of HT_.out (by kernel_rfl)) (fun _ _ _ h => h) (Or.inl ⟨by rfl, ?_⟩) ?_ ?_
      rotate_left
      ·intro w'
       go_simp
       with_reducible rfl
      rotate_left
      ·exact X.Pu
      refine done_ (done_of HT_.out (by kernel_rfl)) ?_
      try go_wp2
      first | go_end0 | ((try simp only [Exit.inBlock, Exit.then]); refine bodyPost_ret (results_none rfl _ _ _) rfl ?_)
      exact ⟨rfl, O, ⟨X.B BK501, X.B BK502, X.B BK503, _, X.B BK504, Kd.S_mono (Kd.S_below HS4.out X.G) (fun _ _ => trivial), HO.out⟩, Kept.of_below X.G O, fun k_ hk => .inl hk, below_weaken HBW.out HW0.out X.G⟩

end Go.Proofs.Ytldeaeeolibpjaa.Q
