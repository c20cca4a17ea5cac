-- by wip/xprint.py, a program of this session over the kit's print: not trusted, Lean checks it.
import Derived.Test.YtldeaeeolibpjaaQx0
import Derived.Test.YtldeaeeolibpjaaQx6
import Derived.Test.YtldeaeeolibpjaaQx12
import Derived.Test.YtldeaeeolibpjaaQx14
import Derived.Test.YtldeaeeolibpjaaQx17
import Derived.Test.YtldeaeeolibpjaaQx18
import Derived.Test.YtldeaeeolibpjaaQx19
import Derived.Test.YtldeaeeolibpjaaXGroups
import Derived.Test.YtldeaeeolibpjaaXShort
namespace Go.Proofs.Ytldeaeeolibpjaa.Q
open Go.RowKit Go.Proofs.YtldeaeeolibpjaaW.PrintWords Go.Proofs.YtldeaeeolibpjaaW.PrintLast Go.Proofs.YtldeaeeolibpjaaW.PrintMore
attribute [local go_sem] max2_int min2_int max_two min_two max_three min_three max_four min_four   -- for this text's walks alone
set_option linter.unusedVariables false
set_option linter.unusedSimpArgs false

/-! ### impl_Isles_voyages: function 19 (by hand: Voyages0.lean) -/
-- NOHALVE
-- IMPORT: Derived.Test.YtldeaeeolibpjaaXGroups
-- IMPORT: Derived.Test.YtldeaeeolibpjaaXShort
def impl_Isles_voyages.lp (k : Nat) (a0_0 a0_1 a0_2 : Int) (l1_0 : List Int) (a1_1 : Int) (pe : List Int) (n : Int) : Nat → Int → List S48 → Option (List S48)
  | 0, _, _ => none
  | m + 1, t, s => if t < n then (if t = a1_1 then impl_Isles_voyages.lp k a0_0 a0_1 a0_2 l1_0 a1_1 pe n m (wrap64 (t + 1)) s else (X.onF a0_1 (impl_Isles_voyages_1.st k a0_0 a0_1 a0_2 l1_0 a1_1 t) pe [] s).bind fun s' => impl_Isles_voyages.lp k a0_0 a0_1 a0_2 l1_0 a1_1 pe n m (wrap64 (t + 1)) s') else some s
def impl_Isles_voyages.f (k : Nat) (a0_0 a0_1 a0_2 : Int) (l1_0 : List Int) (a1_1 : Int) : Option (List S48) := (impl_Places_standing.f k l1_0 a1_1 a1_1).bind fun pe => (impl_Isles_far.f a0_0 a0_1 a0_2).bind fun fr => if a0_1 ≤ 1000000 ∧ pe.length ≤ 1000000 then impl_Isles_voyages.lp k a0_0 a0_1 a0_2 l1_0 a1_1 pe (wrap64 (fr + 1)) k 0 [] else none
theorem impl_Isles_voyages.st_mono (k : Nat) (a b c : Int) (l : List Int) (p t : Int) (s : List S48) (g : List Int) : LeO (impl_Isles_voyages_1.st k a b c l p t s g) (impl_Isles_voyages_1.st (k + 1) a b c l p t s g) := by
  unfold impl_Isles_voyages_1.st
  exact LeO.bind (impl_calm.mono _ _) (fun _ => LeO.ite (LeO.bind (impl_Places_behind.mono _ _ _ _ _) (fun _ => LeO.bind (impl_Isles_areCalm.mono _ _ _ _ _ _) (fun _ => LeO.refl _))) (LeO.refl _))
theorem impl_Isles_voyages.lp_mono (k : Nat) (a b c : Int) (l : List Int) (p : Int) (pe : List Int) (n : Int) : ∀ m t s, LeO (impl_Isles_voyages.lp k a b c l p pe n m t s) (impl_Isles_voyages.lp (k + 1) a b c l p pe n (m + 1) t s)
  | 0, _, _ => fun r h => by simp [impl_Isles_voyages.lp] at h
  | m + 1, t, s => by
    rw [impl_Isles_voyages.lp, impl_Isles_voyages.lp]
    exact LeO.ite (LeO.ite (impl_Isles_voyages.lp_mono k a b c l p pe n m _ _) (LeO.bind (X.onF_mono (fun s g => impl_Isles_voyages.st_mono k a b c l p t s g) _ _ _) (fun _ => impl_Isles_voyages.lp_mono k a b c l p pe n m _ _))) (LeO.refl _)
theorem impl_Isles_voyages.mono : ∀ a0 a1 a2 a3 a4 k, LeO (impl_Isles_voyages.f k a0 a1 a2 a3 a4) (impl_Isles_voyages.f (k + 1) a0 a1 a2 a3 a4) := by
  intro a0 a1 a2 a3 a4 k
  unfold impl_Isles_voyages.f
  exact LeO.bind (impl_Places_standing.mono _ _ _ _) (fun _ => LeO.bind (LeO.refl _) (fun _ => LeO.ite (impl_Isles_voyages.lp_mono _ _ _ _ _ _ _ _ _ _ _) (LeO.refl _)))
set_option maxHeartbeats 8000000 in
set_option maxRecDepth 100000 in
theorem impl_Isles_voyages.calls (k : Nat) (a0_0 : Int) (a0_1 : Int) (a0_2 : Int) (A1_0 : Option Addr) (c1_0 : Nat) (l1_0 : List Int) (a1_1 : Int) (r : List S48) (w : World) (hr1_0 : Kd.C (Kd.int .i64) w A1_0 l1_0.length l1_0) (hc1_0 : l1_0.length ≤ c1_0) (h : impl_Isles_voyages.f k a0_0 a0_1 a0_2 l1_0 a1_1 = some r) :
    Calls Try.prog 19 #[.agg #[.int .i64 a0_0, .int .i64 a0_1, .int .i64 a0_2], .agg #[.slice A1_0 l1_0.length c1_0, .int .i64 a1_1]] w fun e w' => ∃ v0_ : Value, e = .returned (v0_) ∧ Kd.S k48 48 w' w.heap.size (fun _ => True) v0_ r ∧ Below w.heap.size w w' := by
  have hu31 := Try.underlying31
  have hu33 := Try.underlying33
  have hu48 := Try.underlying48
  unfold impl_Isles_voyages.f at h
  obtain ⟨pe, h1, h⟩ := Option.bind_eq_some_iff.1 h
  obtain ⟨fr, h2, h⟩ := Option.bind_eq_some_iff.1 h
  have APE := X.A h1
  have AFR := X.A h2
  by_cases h3 : a0_1 ≤ 1000000 ∧ pe.length ≤ 1000000
  rotate_left
  · rw [if_neg h3] at h
    cases h
  rw [if_pos h3] at h
  have HQ := X.A h
  have HL := X.A h3
  have HR := X.A hr1_0
  have HC := X.A hc1_0
  have HB := X.A (Below.refl w.heap.size w)
  clear h1 h2 h h3 hr1_0 hc1_0
  go_enter Try.func19, Try.ntmps19
  go_wp2_with (first | ((with_reducible refine gate_dst (N := 2) rfl ?_); refine box_event ?hg (N := 2) ?hd (cs := #[.int .i64 a0_0, .int .i64 a0_1, .int .i64 a0_2]) (t := 31) ?hr ?_; (case hd => rfl); (case hg => rfl); (case hr => exact X.R); intro gb1 hg w1 hbox hb; have n9_ := X.A (below_step X.G hb); have GW1 : Aside0 (w.heap.size ≤ gb1) := ⟨by rw [hg]; exact below_size X.G⟩; clear HB; have BK1 := X.A hbox; have HB := n9_; clear n9_ hb hbox hg) | ((with_reducible refine gate_dst (N := 3) rfl ?_); refine box_event ?hg (N := 3) ?hd (cs := #[.slice A1_0 l1_0.length c1_0, .int .i64 a1_1]) (t := 33) ?hr ?_; (case hd => rfl); (case hg => rfl); (case hr => exact X.R); intro gb2 hg w2 hbox hb; have n1_ := X.A (X.BB BK1 hb); have n9_ := X.A (below_step X.G hb); have NB12 := X.A (X.NL hg BK1); have GW2 : Aside0 (w.heap.size ≤ gb2) := ⟨by rw [hg]; exact below_size X.G⟩; clear HB BK1; have BK1 := n1_; have BK2 := X.A hbox; have HB := n9_; clear n9_ n1_ hb hbox hg) | ((with_reducible refine gate_dst (N := 8) rfl ?_); refine Kd.S_lit k48 _ 48 ?hg (N := 8) ?hd (xs := ([] : List S48)) (inner := []) (ok := fun _ => True) (okp := fun _ => True) ?hr ?hp (fun _ hk => hk) trivial (Below.refl _ _) (Nat.le_refl _) (by simp) ?_; (case hd => rfl); (case hg => rfl); (case hr => exact X.R); (case hp => exact (Reps.none _ _)); intro vo w3 hs hb hg_ hnew_; clear hg_ hnew_; have n7_ := X.A (Kd.S_lower hs (below_size (show Below w.heap.size w _ from X.G))); have n1_ := X.A (X.BB BK1 hb); have n2_ := X.A (X.BB BK2 hb); have n9_ := X.A (below_step X.G hb); clear BK1 BK2 HB hs hb; have BK1 := n1_; have BK2 := n2_; have HB := n9_; have HS := n7_; clear n1_ n2_ n7_ n9_; obtain ⟨Ao, co, eo⟩ := Kd.S_slice HS.out; subst eo) | ((with_reducible refine gate_dst (N := 5) rfl ?_); refine box_event ?hg (N := 5) ?hd (cs := #[.slice none 0 0]) (t := 28) ?hr ?_; (case hd => rfl); (case hg => rfl); (case hr => exact X.R); intro gbo hg w4 hbox hb; have n1_ := X.A (X.BB BK1 hb); have n2_ := X.A (X.BB BK2 hb); have n7_ := X.A (Kd.S_below (X.L HS) hb); have n9_ := X.A (below_step X.G hb); have NB1o := X.A (X.NL hg BK1); have NB2o := X.A (X.NL hg BK2); have GWo : Aside0 (w.heap.size ≤ gbo) := ⟨by rw [hg]; exact below_size X.G⟩; clear HS HB BK1 BK2; have BK1 := n1_; have BK2 := n2_; have BKo := X.A hbox; have HB := n9_; have HS := n7_; clear n7_; clear n9_ n1_ n2_ hb hbox hg; have hczo0 : w4.cell? ⟨gbo, 0, none⟩ = some (.slice none 0 0) := (blk_cell BKo.out 0).trans rfl; have hfzo0 := blk_frozen BKo.out 0) | ((with_reducible refine gate_store (t := 28) (p := 5) rfl ?_); refine store_event (t := 28) (p := 5) (v := ?vo_w5) (w1 := (w4.setCell ⟨gbo, 0, none⟩ (.slice Ao ([] : List S48).length co))) ?hg ?ho ?hn ?hr ?_; (case ho => rfl); (case hg => rfl); (case hn => rfl); (case hr => exact X.R); intro w5 hw; have n1_ := X.A (by rw [hw]; exact blk_far BK1.out NB1o.out _ : w5.heap[gb1]? = some (.cells #[.int .i64 a0_0, .int .i64 a0_1, .int .i64 a0_2] 31 (0, 0))); have n2_ := X.A (by rw [hw]; exact blk_far BK2.out NB2o.out _ : w5.heap[gb2]? = some (.cells #[.slice A1_0 l1_0.length c1_0, .int .i64 a1_1] 33 (0, 0))); have n3_ := X.A (by rw [hw]; exact blk_put (cs := #[.slice none 0 0]) BKo.out 0 _ rfl : w5.heap[gbo]? = some (.cells #[.slice Ao ([] : List S48).length co] 28 (0, 0))); have n9_ := X.A (by rw [hw]; exact below_set HB.out GWo.out : Below w.heap.size w w5); have n7_ := X.A (by rw [hw]; exact Kd.S_mono (Kd.S_far (Kd.S_types HS.out BKo.out (by decide)) (fun _ hk => hk.2) _) (fun _ _ => trivial) : Kd.S k48 48 w5 w.heap.size (fun _ => True) (.slice Ao ([] : List S48).length co) []); clear BK1 BK2 BKo HB HS hw hczo0 hfzo0; have BK1 := n1_; have BK2 := n2_; have BKo := n3_; have HB := n9_; have HS := n7_; clear n1_ n2_ n3_ n7_ n9_; have hcz20 : w5.cell? ⟨gb2, 0, none⟩ = some (.slice A1_0 l1_0.length c1_0) := (blk_cell BK2.out 0).trans rfl; have hfz20 := blk_frozen BK2.out 0; have hcz21 : w5.cell? ⟨gb2, 1, none⟩ = some (.int .i64 a1_1) := (blk_cell BK2.out 1).trans rfl; have hfz21 := blk_frozen BK2.out 1; have hcz10 : w5.cell? ⟨gb1, 0, none⟩ = some (.int .i64 a0_0) := (blk_cell BK1.out 0).trans rfl; have hfz10 := blk_frozen BK1.out 0; have hcz11 : w5.cell? ⟨gb1, 1, none⟩ = some (.int .i64 a0_1) := (blk_cell BK1.out 1).trans rfl; have hfz11 := blk_frozen BK1.out 1; have hcz12 : w5.cell? ⟨gb1, 2, none⟩ = some (.int .i64 a0_2) := (blk_cell BK1.out 2).trans rfl; have hfz12 := blk_frozen BK1.out 2) | ((with_reducible refine gate_callee (f := 30) rfl ?_); refine goesL_ (some 12) rfl rfl Try.func30 (by kernel_rfl) rfl #[.agg #[.slice A1_0 l1_0.length c1_0, .int .i64 a1_1], .int .i64 a1_1] rfl X.M ?_; (with_reducible refine (impl_Places_standing.calls k _ _ l1_0 a1_1 a1_1 pe _ ?side1 ?side2 APE.out).mono ?_); (case side1 => exact X.C (Kd.C_below HR.out HB.out)); (case side2 => exact HC.out); rintro e w6 ⟨vp, rfl, ho0, hb⟩; refine ⟨_, rfl, ?_⟩; have n6_ := X.A (Kd.R_lower ho0 (below_size (show Below w.heap.size w _ from X.G))); have n1_ := X.A (X.BB BK1 hb); have n2_ := X.A (X.BB BK2 hb); have n3_ := X.A (X.BB BKo hb); have n7_ := X.A (Kd.S_below (X.L HS) hb); have n9_ := X.A (below_step X.G hb); clear BK1 BK2 BKo HB HS hb ho0 hcz20 hcz21 hfz20 hfz21 hcz10 hcz11 hcz12 hfz10 hfz11 hfz12; have BK1 := n1_; have BK2 := n2_; have BKo := n3_; have HS := n7_; have HB := n9_; have HP := n6_; clear n1_ n2_ n3_ n6_ n7_ n9_; obtain ⟨Ap, cp, ep⟩ := Kd.R_slice HP.out; subst ep; have hcz10 : w6.cell? ⟨gb1, 0, none⟩ = some (.int .i64 a0_0) := (blk_cell BK1.out 0).trans rfl; have hfz10 := blk_frozen BK1.out 0; have hcz11 : w6.cell? ⟨gb1, 1, none⟩ = some (.int .i64 a0_1) := (blk_cell BK1.out 1).trans rfl; have hfz11 := blk_frozen BK1.out 1; have hcz12 : w6.cell? ⟨gb1, 2, none⟩ = some (.int .i64 a0_2) := (blk_cell BK1.out 2).trans rfl; have hfz12 := blk_frozen BK1.out 2) | ((with_reducible refine gate_callee (f := 31) rfl ?_); refine goesL_ (some 14) rfl rfl Try.func31 (by kernel_rfl) rfl #[.agg #[.int .i64 a0_0, .int .i64 a0_1, .int .i64 a0_2]] rfl X.M ?_; (with_reducible refine (impl_Isles_far.calls a0_0 a0_1 a0_2 fr _ AFR.out).mono ?_); rintro e w7 ⟨rfl, hb⟩; refine ⟨_, rfl, ?_⟩; have n6_ := X.A (Kd.R_below (X.K HP) hb); have n1_ := X.A (X.BB BK1 hb); have n2_ := X.A (X.BB BK2 hb); have n3_ := X.A (X.BB BKo hb); have n7_ := X.A (Kd.S_below (X.L HS) hb); have n9_ := X.A (below_step X.G hb); clear BK1 BK2 BKo HB HS HP hb hcz10 hcz11 hcz12 hfz10 hfz11 hfz12; have BK1 := n1_; have BK2 := n2_; have BKo := n3_; have HS := n7_; have HB := n9_; have HP := n6_; clear n1_ n2_ n3_ n6_ n7_ n9_))
  have HP2 := X.A (Kd.R_tight rfl HP.out)
  clear HP
  have HP := HP2
  clear HP2 GW1 GW2
  have HR' := HR
  go_loopg [16] k (fun kq v16 w' => ∃ (x16 : Int) (s1 : List S48) (Ao1 : Option Addr) (co1 : Nat), v16 = .int .i64 x16 ∧ Aside0 (impl_Isles_voyages.lp k a0_0 a0_1 a0_2 l1_0 a1_1 pe (wrap64 (fr + 1)) kq x16 s1 = some r) ∧ Aside0 (w'.heap[gb1]? = some (.cells #[.int .i64 a0_0, .int .i64 a0_1, .int .i64 a0_2] 31 (0, 0))) ∧ Aside0 (w'.heap[gb2]? = some (.cells #[.slice A1_0 l1_0.length c1_0, .int .i64 a1_1] 33 (0, 0))) ∧ Aside0 (w'.heap[gbo]? = some (.cells #[.slice Ao1 s1.length co1] 28 (0, 0))) ∧ Aside0 (Kd.S k48 48 w' w.heap.size (fun _ => True) (.slice Ao1 s1.length co1) s1) ∧ Aside0 (Below w.heap.size w w') ∧ Aside0 (Kd.R (Kd.int .i64) 3 w' w.heap.size (fun k_ => some k_ = (.slice Ap pe.length cp : Value).ownBlock) (.slice Ap pe.length cp) pe))
  case atStart => exact ⟨0, [], Ao, co, rfl, HQ, BK1, BK2, BKo, HS, HB, HP⟩
  case round =>
    clear HQ BK1 BK2 BKo HS HB HP
    obtain ⟨x16, s1, Ao1, co1, rfl, HQ, BK1, BK2, BKo, HS, HB, HP⟩ := hrel
    cases gk with
    | zero => exact absurd HQ.out (by simp [impl_Isles_voyages.lp])
    | succ k1 =>
      have H := HQ.out
      clear HQ
      rw [impl_Isles_voyages.lp] at H
      by_cases c7 : x16 < wrap64 (fr + 1)
      · rw [if_pos c7] at H
        have c7b0 : decide (x16 < wrap64 (fr + 1)) = true := decide_eq_true c7
        clear c7
        have HPo : Aside0 (∀ k_, (Value.slice Ap pe.length cp).ownBlock = some k_ → ¬ (k_ = gbo ∨ (Value.slice Ao1 s1.length co1).ownBlock = some k_)) := ⟨fun k_ hk ho => by
          obtain ⟨c1, hc1⟩ := Kd.R_typed HP.out k_ hk
          rcases ho with rfl | ho
          · exact X.tne hc1 BKo.out (by decide)
          · obtain ⟨c2, hc2⟩ := Kd.S_typed HS.out k_ ho
            exact X.tne hc1 hc2 (by decide)⟩
        by_cases c8 : x16 = a1_1
        · rw [if_pos c8] at H
          have c8b0 : (x16 == a1_1) = true := by simpa using c8
          have HQ := X.A H
          have C8 := X.A c8
          clear H c8
          go_wp2_with (first | ((with_reducible refine gate_dst (N := 7) rfl ?_); refine box_event ?hg (N := 7) ?hd (cs := #[.int .i64 0]) (t := 3) ?hr ?_; (case hd => rfl); (case hg => rfl); (case hr => exact X.R); intro gbt hg w11 hbox hb; have n1_ := X.A (X.BB BK1 hb); have n2_ := X.A (X.BB BK2 hb); have no_ := X.A (X.BB BKo hb); have n7_ : Aside0 (Kd.S k48 48 w11 w.heap.size (fun k_ => k_ ≠ gbt) (.slice Ao1 s1.length co1) s1) := X.A (Kd.S_mono (Kd.S_below (Kd.S_elderB (X.L HS) gbt (Nat.le_of_eq hg.symm)) hb) (fun _ hk => hk.2)); have HPt : Aside0 (¬ some gbt = (.slice Ap pe.length cp : Value).ownBlock) := ⟨fun he => by have h1 : gbt < wr.heap.size := Kd.R_lt HP.out gbt he.symm; rw [hg] at h1; exact Nat.lt_irrefl _ h1⟩; have n8_ := X.A (Kd.R_below (X.K HP) hb); have n9_ := X.A (below_step X.G hb); have NB1t := X.A (X.NL hg BK1); have NB2t := X.A (X.NL hg BK2); have NBot := X.A (X.NL hg BKo); have GWt : Aside0 (w.heap.size ≤ gbt) := ⟨by rw [hg]; exact below_size X.G⟩; clear HS HP HB BK1 BK2 BKo; have BK1 := n1_; have BK2 := n2_; have BKo := no_; have BKt := X.A hbox; have HB := n9_; have HS := n7_; have HP := n8_; clear n7_ n8_; clear n9_ n1_ n2_ no_ hb hbox hg; have hczt0 : w11.cell? ⟨gbt, 0, none⟩ = some (.int .i64 0) := (blk_cell BKt.out 0).trans rfl; have hfzt0 := blk_frozen BKt.out 0) | ((with_reducible refine gate_store (t := 3) (p := 7) rfl ?_); refine store_event (t := 3) (p := 7) (v := ?vo_w12) (w1 := (w11.setCell ⟨gbt, 0, none⟩ (.int .i64 x16))) ?hg ?ho ?hn ?hr ?_; (case ho => rfl); (case hg => rfl); (case hn => rfl); (case hr => exact X.R); intro w12 hw; have n1_ := X.A (by rw [hw]; exact blk_far BK1.out NB1t.out _ : w12.heap[gb1]? = some (.cells #[.int .i64 a0_0, .int .i64 a0_1, .int .i64 a0_2] 31 (0, 0))); have n2_ := X.A (by rw [hw]; exact blk_far BK2.out NB2t.out _ : w12.heap[gb2]? = some (.cells #[.slice A1_0 l1_0.length c1_0, .int .i64 a1_1] 33 (0, 0))); have n3_ := X.A (by rw [hw]; exact blk_far BKo.out NBot.out _ : w12.heap[gbo]? = some (.cells #[.slice Ao1 s1.length co1] 28 (0, 0))); have n4_ := X.A (by rw [hw]; exact blk_put (cs := #[.int .i64 0]) BKt.out 0 _ rfl : w12.heap[gbt]? = some (.cells #[.int .i64 x16] 3 (0, 0))); have n9_ := X.A (by rw [hw]; exact below_set HB.out GWt.out : Below w.heap.size w w12); have n7_ := X.A (by rw [hw]; exact Kd.S_mono (Kd.S_far HS.out (fun _ hk => hk) _) (fun _ _ => trivial) : Kd.S k48 48 w12 w.heap.size (fun _ => True) (.slice Ao1 s1.length co1) s1); have n8_ := X.A (by rw [hw]; exact Kd.R_far (p := ⟨gbt, 0, none⟩) HP.out (fun k_ hk he => HPt.out (by rw [← (show k_ = gbt from he)]; exact hk)) _ : Kd.R (Kd.int .i64) 3 w12 w.heap.size (fun k_ => some k_ = (.slice Ap pe.length cp : Value).ownBlock) (.slice Ap pe.length cp) pe); clear BK1 BK2 BKo BKt HB HS HP hw hczt0 hfzt0; have BK1 := n1_; have BK2 := n2_; have BKo := n3_; have BKt := n4_; have HB := n9_; have HS := n7_; have HP := n8_; clear n1_ n2_ n3_ n4_ n7_ n8_ n9_; have hczt0 : w12.cell? ⟨gbt, 0, none⟩ = some (.int .i64 x16) := (blk_cell BKt.out 0).trans rfl; have hfzt0 := blk_frozen BKt.out 0; have hcz20 : w12.cell? ⟨gb2, 0, none⟩ = some (.slice A1_0 l1_0.length c1_0) := (blk_cell BK2.out 0).trans rfl; have hfz20 := blk_frozen BK2.out 0; have hcz21 : w12.cell? ⟨gb2, 1, none⟩ = some (.int .i64 a1_1) := (blk_cell BK2.out 1).trans rfl; have hfz21 := blk_frozen BK2.out 1; have hcz10 : w12.cell? ⟨gb1, 0, none⟩ = some (.int .i64 a0_0) := (blk_cell BK1.out 0).trans rfl; have hfz10 := blk_frozen BK1.out 0; have hcz11 : w12.cell? ⟨gb1, 1, none⟩ = some (.int .i64 a0_1) := (blk_cell BK1.out 1).trans rfl; have hfz11 := blk_frozen BK1.out 1; have hcz12 : w12.cell? ⟨gb1, 2, none⟩ = some (.int .i64 a0_2) := (blk_cell BK1.out 2).trans rfl; have hfz12 := blk_frozen BK1.out 2))
          go_roundg k1
          case measure => omega
          case rel => exact ⟨wrap64 (x16 + 1), s1, Ao1, co1, (by first | rfl | (simp; done) | (simp [*]; done)), HQ, ⟨X.B BK1⟩, ⟨X.B BK2⟩, ⟨X.B BKo⟩, ⟨X.L HS⟩, ⟨X.G⟩, ⟨X.K HP⟩⟩
        · rw [if_neg c8] at H
          have c8b0 : (x16 == a1_1) = false := by simpa using c8
          obtain ⟨s2, hs2, H⟩ := Option.bind_eq_some_iff.1 H
          have HS2 := X.A hs2
          have HQ := X.A H
          clear H c8 hs2
          go_wp2_with (first | ((with_reducible refine gate_dst (N := 7) rfl ?_); refine box_event ?hg (N := 7) ?hd (cs := #[.int .i64 0]) (t := 3) ?hr ?_; (case hd => rfl); (case hg => rfl); (case hr => exact X.R); intro gbt hg w11 hbox hb; have n1_ := X.A (X.BB BK1 hb); have n2_ := X.A (X.BB BK2 hb); have no_ := X.A (X.BB BKo hb); have n7_ : Aside0 (Kd.S k48 48 w11 w.heap.size (fun k_ => k_ ≠ gbt) (.slice Ao1 s1.length co1) s1) := X.A (Kd.S_mono (Kd.S_below (Kd.S_elderB (X.L HS) gbt (Nat.le_of_eq hg.symm)) hb) (fun _ hk => hk.2)); have HPt : Aside0 (¬ some gbt = (.slice Ap pe.length cp : Value).ownBlock) := ⟨fun he => by have h1 : gbt < wr.heap.size := Kd.R_lt HP.out gbt he.symm; rw [hg] at h1; exact Nat.lt_irrefl _ h1⟩; have n8_ := X.A (Kd.R_below (X.K HP) hb); have n9_ := X.A (below_step X.G hb); have NB1t := X.A (X.NL hg BK1); have NB2t := X.A (X.NL hg BK2); have NBot := X.A (X.NL hg BKo); have GWt : Aside0 (w.heap.size ≤ gbt) := ⟨by rw [hg]; exact below_size X.G⟩; clear HS HP HB BK1 BK2 BKo; have BK1 := n1_; have BK2 := n2_; have BKo := no_; have BKt := X.A hbox; have HB := n9_; have HS := n7_; have HP := n8_; clear n7_ n8_; clear n9_ n1_ n2_ no_ hb hbox hg; have hczt0 : w11.cell? ⟨gbt, 0, none⟩ = some (.int .i64 0) := (blk_cell BKt.out 0).trans rfl; have hfzt0 := blk_frozen BKt.out 0) | ((with_reducible refine gate_store (t := 3) (p := 7) rfl ?_); refine store_event (t := 3) (p := 7) (v := ?vo_w12) (w1 := (w11.setCell ⟨gbt, 0, none⟩ (.int .i64 x16))) ?hg ?ho ?hn ?hr ?_; (case ho => rfl); (case hg => rfl); (case hn => rfl); (case hr => exact X.R); intro w12 hw; have n1_ := X.A (by rw [hw]; exact blk_far BK1.out NB1t.out _ : w12.heap[gb1]? = some (.cells #[.int .i64 a0_0, .int .i64 a0_1, .int .i64 a0_2] 31 (0, 0))); have n2_ := X.A (by rw [hw]; exact blk_far BK2.out NB2t.out _ : w12.heap[gb2]? = some (.cells #[.slice A1_0 l1_0.length c1_0, .int .i64 a1_1] 33 (0, 0))); have n3_ := X.A (by rw [hw]; exact blk_far BKo.out NBot.out _ : w12.heap[gbo]? = some (.cells #[.slice Ao1 s1.length co1] 28 (0, 0))); have n4_ := X.A (by rw [hw]; exact blk_put (cs := #[.int .i64 0]) BKt.out 0 _ rfl : w12.heap[gbt]? = some (.cells #[.int .i64 x16] 3 (0, 0))); have n9_ := X.A (by rw [hw]; exact below_set HB.out GWt.out : Below w.heap.size w w12); have n7_ := X.A (by rw [hw]; exact Kd.S_mono (Kd.S_far HS.out (fun _ hk => hk) _) (fun _ _ => trivial) : Kd.S k48 48 w12 w.heap.size (fun _ => True) (.slice Ao1 s1.length co1) s1); have n8_ := X.A (by rw [hw]; exact Kd.R_far (p := ⟨gbt, 0, none⟩) HP.out (fun k_ hk he => HPt.out (by rw [← (show k_ = gbt from he)]; exact hk)) _ : Kd.R (Kd.int .i64) 3 w12 w.heap.size (fun k_ => some k_ = (.slice Ap pe.length cp : Value).ownBlock) (.slice Ap pe.length cp) pe); clear BK1 BK2 BKo BKt HB HS HP hw hczt0 hfzt0; have BK1 := n1_; have BK2 := n2_; have BKo := n3_; have BKt := n4_; have HB := n9_; have HS := n7_; have HP := n8_; clear n1_ n2_ n3_ n4_ n7_ n8_ n9_; have hczt0 : w12.cell? ⟨gbt, 0, none⟩ = some (.int .i64 x16) := (blk_cell BKt.out 0).trans rfl; have hfzt0 := blk_frozen BKt.out 0; have hcz20 : w12.cell? ⟨gb2, 0, none⟩ = some (.slice A1_0 l1_0.length c1_0) := (blk_cell BK2.out 0).trans rfl; have hfz20 := blk_frozen BK2.out 0; have hcz21 : w12.cell? ⟨gb2, 1, none⟩ = some (.int .i64 a1_1) := (blk_cell BK2.out 1).trans rfl; have hfz21 := blk_frozen BK2.out 1; have hcz10 : w12.cell? ⟨gb1, 0, none⟩ = some (.int .i64 a0_0) := (blk_cell BK1.out 0).trans rfl; have hfz10 := blk_frozen BK1.out 0; have hcz11 : w12.cell? ⟨gb1, 1, none⟩ = some (.int .i64 a0_1) := (blk_cell BK1.out 1).trans rfl; have hfz11 := blk_frozen BK1.out 1; have hcz12 : w12.cell? ⟨gb1, 2, none⟩ = some (.int .i64 a0_2) := (blk_cell BK1.out 2).trans rfl; have hfz12 := blk_frozen BK1.out 2) | ((with_reducible refine gate_callee (f := 32) rfl ?_); refine goesL_ (some 27) rfl rfl Try.func32 (by kernel_rfl) rfl #[.slice Ap pe.length cp, .int .i64 a0_1, .func (.func 33) #[] #[.pointer (some ⟨gb1, 0, none⟩), .pointer (some ⟨gb2, 0, none⟩), .pointer (some ⟨gbt, 0, none⟩), .pointer (some ⟨gbo, 0, none⟩)]] rfl X.M ?_; refine (impl_groups.any w 33 #[.pointer (some ⟨gb1, 0, none⟩), .pointer (some ⟨gb2, 0, none⟩), .pointer (some ⟨gbt, 0, none⟩), .pointer (some ⟨gbo, 0, none⟩)] (fun args w => enters_ Try.func33 (by kernel_rfl) rfl args w) _ _ (impl_Isles_voyages_1.cb k w gb1 a0_0 a0_1 a0_2 gb2 A1_0 c1_0 l1_0 a1_1 gbt x16 gbo HR.out HC.out NB1o.out NB2o.out NBot.out.symm GWo.out) Ap cp pe a0_1 HL.out.1 HL.out.2 _ s1 s2 (fun k_ => k_ = gbo ∨ (Value.slice Ao1 s1.length co1).ownBlock = some k_) ?b1 ?b2 ?b3 HS2.out).mono ?_; (case b1 => exact ⟨X.B BK1, X.B BK2, X.B BKt, _, X.B BKo, (X.L HS), fun k_ => Iff.rfl⟩); (case b2 => exact X.G); (case b3 => exact X.Safe.row rfl (X.K HP) HPo.out); rintro e w13 ⟨rfl, O2, ⟨h1, h2, h3, v5, h5, h6, h7⟩, hK, hO, hB⟩; refine ⟨_, rfl, ?_⟩; have n8_ := X.A (Kd.R_kept (ok := fun k_ => some k_ = (Value.slice Ap pe.length cp).ownBlock) (X.K HP) hK (fun k_ (hk : some k_ = (Value.slice Ap pe.length cp).ownBlock) => HPo.out k_ hk.symm)); obtain ⟨A5, c5, e5⟩ := Kd.S_slice h6; subst e5; have n1_ := X.A h1; have n2_ := X.A h2; have n3_ := X.A h5; have n7_ := X.A h6; have n9_ := X.A hB; clear BK1 BK2 BKo BKt HB HS HP h1 h2 h3 h5 h6 h7 hK hO hB hczt0 hfzt0 hcz20 hcz21 hfz20 hfz21 hcz10 hcz11 hcz12 hfz10 hfz11 hfz12; have BK1 := n1_; have BK2 := n2_; have BKo := n3_; have HS := n7_; have HB := n9_; have HP := n8_; clear n1_ n2_ n3_ n7_ n8_ n9_))
          go_roundg k1
          case measure => omega
          case rel => exact ⟨wrap64 (x16 + 1), s2, A5, c5, (by first | rfl | (simp; done) | (simp [*]; done)), HQ, ⟨X.B BK1⟩, ⟨X.B BK2⟩, ⟨X.B BKo⟩, ⟨X.L HS⟩, ⟨X.G⟩, ⟨X.K HP⟩⟩
      · rw [if_neg c7] at H
        have c7b0 : decide (x16 < wrap64 (fr + 1)) = false := decide_eq_false c7
        injection H with H
        subst H
        clear c7
        have hczo0 : wr.cell? ⟨gbo, 0, none⟩ = some (.slice Ao1 s1.length co1) := (blk_cell BKo.out 0).trans rfl
        have hfzo0 := blk_frozen BKo.out 0
        go_wp2
        go_ret
        exact ⟨_, rfl, (X.L HS), X.G⟩

end Go.Proofs.Ytldeaeeolibpjaa.Q
