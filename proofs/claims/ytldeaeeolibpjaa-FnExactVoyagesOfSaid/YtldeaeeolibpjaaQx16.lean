-- by wip/xprint.py, a program of this session over the kit's print: not trusted, Lean checks it.
import Derived.Test.YtldeaeeolibpjaaQx0
import Derived.Test.YtldeaeeolibpjaaQx15
import Derived.Test.YtldeaeeolibpjaaXGroups
import Derived.Test.YtldeaeeolibpjaaXShort
namespace Go.Proofs.Ytldeaeeolibpjaa.Q
open Go.RowKit Go.Proofs.YtldeaeeolibpjaaW.PrintWords Go.Proofs.YtldeaeeolibpjaaW.PrintLast Go.Proofs.YtldeaeeolibpjaaW.PrintMore
attribute [local go_sem] max2_int min2_int max_two min_two max_three min_three max_four min_four   -- for this text's walks alone
set_option linter.unusedVariables false
set_option linter.unusedSimpArgs false

/-! ### impl_groups_1: function 47 (by hand: Groups1.lean) -/
-- NOHALVE
-- IMPORT: Derived.Test.YtldeaeeolibpjaaXGroups
-- IMPORT: Derived.Test.YtldeaeeolibpjaaXShort
-- INFO: 3
def impl_groups_1.T3 : Bool × List (List Nat × List Nat) := (true, [([], []), ([0], [0]), ([], []), ([], []), ([2, 3], [2, 3]), ([4], [4]), ([5], [5]), ([1, 6, 1], [1, 6]), ([7, 7, 0, 1, 2, 3, 4, 5, 6, 7], [7])])
def impl_groups_1.B3 : List Nat := [0, 1, 0, 0, 12, 28, 60, 127, 255]
theorem impl_groups_1.tab3 : rtab .any (opsOf Try.f47 3) = impl_groups_1.T3 := by kernel_rfl
theorem impl_groups_1.bits3 : waitsOk impl_groups_1.T3.2 impl_groups_1.B3 = true := by kernel_rfl
set_option maxHeartbeats 8000000 in
set_option maxRecDepth 100000 in
theorem impl_groups_1.any {σ : Type} (w0 : World) (g : Nat) (lb : Array Value) (eg : ∀ args w, (callFunc g args).run Try.prog w = .ok (.enter g args) w) (I : World → σ → (Nat → Prop) → Prop) (step : σ → List Int → Option σ) (cb : X.Cb Try.prog w0 3 g lb I step)
    (A2_0 : Option Addr) (c2_0 : Nat) (l2_0 : List Int) (a3_0 : Int) (gb502 gb503 gb504 gb505 : Nat) (hm : a3_0 ≤ 1000000) (hpl : l2_0.length ≤ 1000000)
    (hn502_503 : gb502 ≠ gb503) (hn502_504 : gb502 ≠ gb504) (hn502_505 : gb502 ≠ gb505) (hn503_504 : gb503 ≠ gb504) (hn503_505 : gb503 ≠ gb505) (hn504_505 : gb504 ≠ gb505) :
    ∀ (d i : Nat) (A1 : Option Addr) (c1 : Nat) (l1 : List Int) (w : World) (s s' : σ) (O : Nat → Prop), i + d = l2_0.length → I w s O → Below w0.heap.size w0 w → X.Safe w O (fun W_ => ((W_.heap[gb502]? = some (.cells #[.slice A2_0 l2_0.length c2_0] 24 (0, 0))) ∧ (W_.heap[gb503]? = some (.cells #[.int .i64 a3_0] 3 (0, 0))) ∧ (W_.heap[gb504]? = some (.cells #[.func (.func g) #[] lb] 58 (0, 0))) ∧ (W_.heap[gb505]? = some (.cells #[.func (.func 47) #[] #[.pointer (some ⟨gb502, 0, none⟩), .pointer (some ⟨gb503, 0, none⟩), .pointer (some ⟨gb504, 0, none⟩), .pointer (some ⟨gb505, 0, none⟩)]] 66 (0, 0)))) ∧ Kd.C (Kd.int .i64) W_ A2_0 l2_0.length l2_0) → X.Safe w O (fun W_ => Kd.C (Kd.int .i64) W_ A1 l1.length l1) → l1.length ≤ c1 → X.onF a3_0 step (l2_0.drop i) l1 s = some s' →
    Calls Try.prog 47 #[.int .i64 (i : Int), .slice A1 l1.length c1, .pointer (some ⟨gb502, 0, none⟩), .pointer (some ⟨gb503, 0, none⟩), .pointer (some ⟨gb504, 0, none⟩), .pointer (some ⟨gb505, 0, none⟩)] w fun e w' => e = .returned (.tuple #[]) ∧ ∃ O', I w' s' O' ∧ Kept w w' O ∧ (∀ k, O' k → O k ∨ w.heap.size ≤ k) ∧ Below w0.heap.size w0 w' := by
  intro d
  induction d using Nat.strongRecOn with
  | _ d ih =>
  intro i A1 c1 l1 w s s' O hi hI hB hS hL hc1 hF
  have NB502_503 := X.A hn502_503
  have NB502_504 := X.A hn502_504
  have NB502_505 := X.A hn502_505
  have NB503_502 := X.A hn502_503.symm
  have NB503_504 := X.A hn503_504
  have NB503_505 := X.A hn503_505
  have NB504_502 := X.A hn502_504.symm
  have NB504_503 := X.A hn503_504.symm
  have NB504_505 := X.A hn504_505
  have NB505_502 := X.A hn502_505.symm
  have NB505_503 := X.A hn503_505.symm
  have NB505_504 := X.A hn504_505.symm
  have HI := X.A hI
  have HB0 := X.A hB
  have HS := X.A hS
  have HL := X.A hL
  have HC1 := X.A hc1
  have HF := X.A hF
  have HIH := X.A ih
  have HCB := X.A cb
  clear hI hB hS hL hc1 hF ih cb hn502_503 hn502_504 hn502_505 hn503_504 hn503_505 hn504_505
  obtain ⟨x0, hx0⟩ : ∃ x : Int, x = (i : Int) := ⟨_, rfl⟩
  rw [← hx0]
  have HX0 := X.A hx0
  clear hx0
  go_enter Try.func47, Try.ntmps47
  go_wp2
  go_loopg [8] l2_0.length (fun gq v8 w' => ∃ (x8_1 : Int) (j : Nat) (s1 : σ) (O1 : Nat → Prop), v8 = .int .i64 x8_1 ∧ x8_1 = (j : Int) ∧ i ≤ j ∧ j ≤ l2_0.length ∧ l2_0.length - j ≤ gq ∧ Aside0 (X.onF a3_0 step (l2_0.drop j) l1 s1 = some s') ∧ Aside0 (I w' s1 O1) ∧ Aside0 (Kept w w' O) ∧ Aside0 (∀ k, O1 k → O k ∨ w.heap.size ≤ k) ∧ Aside0 (Below w0.heap.size w0 w') ∧ Aside0 (X.Safe w' O1 (fun W_ => ((W_.heap[gb502]? = some (.cells #[.slice A2_0 l2_0.length c2_0] 24 (0, 0))) ∧ (W_.heap[gb503]? = some (.cells #[.int .i64 a3_0] 3 (0, 0))) ∧ (W_.heap[gb504]? = some (.cells #[.func (.func g) #[] lb] 58 (0, 0))) ∧ (W_.heap[gb505]? = some (.cells #[.func (.func 47) #[] #[.pointer (some ⟨gb502, 0, none⟩), .pointer (some ⟨gb503, 0, none⟩), .pointer (some ⟨gb504, 0, none⟩), .pointer (some ⟨gb505, 0, none⟩)]] 66 (0, 0)))) ∧ Kd.C (Kd.int .i64) W_ A2_0 l2_0.length l2_0)) ∧ Aside0 (X.Safe w' O1 (fun W_ => Kd.C (Kd.int .i64) W_ A1 l1.length l1)))
  case atStart => exact ⟨x0, i, s, O, rfl, HX0.out, Nat.le_refl _, by omega, by omega, HF, HI, ⟨Kept.refl _ _⟩, ⟨fun k hk => .inl hk⟩, HB0, HS, HL⟩
  case round =>
    clear HF HI HB0 HS HL
    obtain ⟨x8_1, j, s1, O1, rfl, hxj, hij, hjl, hgq, HF, HI, HK, HO, HB0, HS, HL⟩ := hrel
    obtain ⟨⟨b502, b503, b504, b505⟩, hpe⟩ := HS.out.now
    have BK502 := X.A b502
    have BK503 := X.A b503
    have BK504 := X.A b504
    have BK505 := X.A b505
    have HR2_0 := X.A hpe
    have HR1 := X.A HL.out.now
    clear b502 b503 b504 b505 hpe
    have HB := X.A (Below.refl wr.heap.size wr)
    by_cases c7 : x8_1 < (l2_0.length : Int)
    · have c7b0 : decide (x8_1 < (l2_0.length : Int)) = true := decide_eq_true c7
      have hjlt : j < l2_0.length := by omega
      have hrd : rd l2_0 x8_1 = l2_0[j] := by rw [hxj]; simp [rd, hjlt]
      have hF2 := HF.out
      rw [List.drop_eq_getElem_cons hjlt, ← hrd] at hF2
      simp only [X.onF] at hF2
      by_cases c8 : (l1.length : Int) < a3_0
      · rw [if_pos c8] at hF2
        have c8b0 : decide ((l1.length : Int) < a3_0) = true := decide_eq_true c8
        obtain ⟨s2, hs2, hF3⟩ := Option.bind_eq_some_iff.1 hF2
        obtain ⟨s3, hs3, hF4⟩ := Option.bind_eq_some_iff.1 hF3
        have hlen : (l1.length : Int) ≤ 17592186044416 := by omega
        have A9 : Aside0 (slices_Clone_int_int.f l1 = some l1) := ⟨by unfold slices_Clone_int_int.f; rw [if_pos hlen]⟩
        have c10b0 : decide (0 ≤ x8_1) = true := decide_eq_true (by omega)
        obtain ⟨y267, hy267⟩ : ∃ y_ : List Int, y_ = (([rd l2_0 x8_1] : List Int)) := ⟨_, rfl⟩
        have Ny267 := X.A hy267
        have LMc11 := X.A (show l1.length + y267.length < 17592186044416 by rw [hy267]; simp only [List.length_singleton]; omega)
        obtain ⟨y270, hy270⟩ : ∃ y_ : List Int, y_ = (l1 ++ y267) := ⟨_, rfl⟩
        have Ny270 := X.A hy270
        have HN : Aside0 (l1 ++ [rd l2_0 x8_1] = y270) := ⟨by rw [hy270, hy267]⟩
        have HS2 := X.A hs2
        have HS3 := X.A hs3
        have HF4 := X.A hF4
        have Hjlt := X.A hjlt
        have Hxj := X.A hxj
        have Hc8 := X.A c8
        clear HF hF2 hF3 hs2 hs3 hF4 hy267 hy270 c7 hrd hlen c8 hxj
        have hnb12 := NB502_503.out
        have hnc12 := NB503_502.out
        have hnb13 := NB502_504.out
        have hnc13 := NB504_502.out
        have hnb14 := NB502_505.out
        have hnc14 := NB505_502.out
        have hcz15_0 : wr.cell? ⟨gb502, 0, none⟩ = some (.slice A2_0 l2_0.length c2_0) := (blk_cell BK502.out 0).trans rfl
        have hfz15_0 := blk_frozen BK502.out 0
        have hnb16 := NB503_504.out
        have hnc16 := NB504_503.out
        have hnb17 := NB503_505.out
        have hnc17 := NB505_503.out
        have hcz18_0 : wr.cell? ⟨gb503, 0, none⟩ = some (.int .i64 a3_0) := (blk_cell BK503.out 0).trans rfl
        have hfz18_0 := blk_frozen BK503.out 0
        try go_wp2
        have n0_ := Aside0.mk (blk_drew BK502.out)
        have n1_ := Aside0.mk (blk_drew BK503.out)
        have n2_ := Aside0.mk (blk_drew BK504.out)
        have n3_ := Aside0.mk (blk_drew BK505.out)
        have n4_ := Aside0.mk (below_drew1 HB.out)
        clear BK502
        clear BK503
        clear BK504
        clear BK505
        clear HB
        have BK502 := n0_
        have BK503 := n1_
        have BK504 := n2_
        have BK505 := n3_
        have HB := n4_
        clear n0_ n1_ n2_ n3_ n4_
        have p266 : 0 ≤ (x8_1 : Int) := of_decide_eq_true (by first | (with_reducible assumption) | assumption)
        have q266 : x8_1 < (l2_0.length : Int) := of_decide_eq_true (by first | (with_reducible assumption) | assumption)
        obtain ⟨ad266, e266, hx266_0⟩ := Kd.at_int HR2_0.out x8_1 p266 q266
        have hw266_0 := hx266_0
        cases e266
        replace hx266_0 := (HB.out.cell (World.block_lt_of_cell? wr _ hx266_0)).trans hx266_0
        replace p266 := eq_true p266
        replace q266 := eq_true q266
        refine start_ (n := 9) (S := fun w' => w'.cell? ⟨gb502, 0, none⟩ = some (.slice (some ad266) l2_0.length c2_0) ∧ w'.cell? (ad266.add (x8_1).toNat) = some (.int .i64 (rd l2_0 x8_1))) (ds := []) #[false, false, false, false, false, false, false, false, false] (by kernel_rfl) rfl rfl ⟨(blk_cell BK502.out 0).trans rfl, ((HB.out.cell (World.block_lt_of_cell? wr _ hw266_0)).trans hw266_0)⟩ (fun hHeld => ?_); refine with_tabW impl_groups_1.tab3 impl_groups_1.bits3 (fun HT_ HW_ => ?_)
        generalize wr.drew = w19 at BK502 BK503 BK504 BK505 HB hx266_0 hHeld ⊢
        refine pure_ (i := 0) (N := some 23) (v := ?_) (a' := ?_) #[true, false, false, false, false, false, false, false, false] rfl rfl (any_of HT_.out (by kernel_rfl)) (fun _ _ _ h => h) (Or.inl ⟨by rfl, ?_⟩) ?_ ?_
        rotate_left
        ·intro w'
         go_simp
         with_reducible rfl
        rotate_left
        ·exact X.Pu
        refine pure_ (i := 3) (N := some 26) (v := ?_) (a' := ?_) #[true, false, false, true, false, false, false, false, false] rfl rfl (any_of HT_.out (by kernel_rfl)) (fun _ _ _ h => h) (Or.inl ⟨by rfl, ?_⟩) ?_ ?_
        rotate_left
        ·intro w'
         go_simp
         with_reducible rfl
        rotate_left
        ·exact X.Pu
        refine take_ (i := 2) (N := some 25) (v := ?_) (a' := ?_) #[true, false, true, true, false, false, false, false, false] rfl rfl (take_ofW HT_.out HW_.out (by kernel_rfl)) (fun _ _ _ h => h) (Or.inl ⟨by rfl, ?_⟩) hHeld ?_ ?_
        rotate_left
        ·rintro w' ⟨s0, s1⟩
         go_simp
         with_reducible rfl
        rotate_left
        ·exact X.Pu
        refine pure_ (i := 4) (N := some 27) (v := ?_) (a' := ?_) #[true, false, true, true, true, false, false, false, false] rfl rfl (any_of HT_.out (by kernel_rfl)) (fun _ _ _ h => h) (Or.inl ⟨by rfl, ?_⟩) ?_ ?_
        rotate_left
        ·intro w'
         go_simp
         with_reducible rfl
        rotate_left
        ·exact X.Pu
        refine take_ (i := 5) (N := some 28) (v := ?_) (a' := ?_) #[true, false, true, true, true, true, false, false, false] rfl rfl (take_ofW HT_.out HW_.out (by kernel_rfl)) (fun _ _ _ h => h) (Or.inl ⟨by rfl, ?_⟩) hHeld ?_ ?_
        rotate_left
        ·rintro w' ⟨s0, s1⟩
         go_simp
         with_reducible rfl
        rotate_left
        ·exact X.Pu
        refine join_ (σ := Value × Value) 2 #[true, true, true, true, true, true, true, false, false] (fun s_ => [(24, s_.1), (29, s_.2)]) (fun s_ w' => (w'.cell? ⟨gb502, 0, none⟩ = some (.slice (some ad266) l2_0.length c2_0) ∧ w'.cell? (ad266.add (x8_1).toNat) = some (.int .i64 (rd l2_0 x8_1))) ∧ (Kd.R (Kd.int .i64) 3 w' wr.heap.size (fun k_ => some k_ ≠ (s_.2 : Value).ownBlock ∧ k_ ≠ gb503 ∧ k_ ≠ gb504 ∧ k_ ≠ gb505) s_.1 l1) ∧ (Kd.R (Kd.int .i64) 3 w' wr.heap.size (fun k_ => some k_ ≠ (s_.1 : Value).ownBlock ∧ k_ ≠ gb503 ∧ k_ ≠ gb504 ∧ k_ ≠ gb505) s_.2 y267) ∧ (w'.heap[gb502]? = some (.cells #[.slice (some ad266) l2_0.length c2_0] 24 (0, 0))) ∧ (w'.heap[gb503]? = some (.cells #[.int .i64 a3_0] 3 (0, 0))) ∧ (w'.heap[gb504]? = some (.cells #[.func (.func g) #[] lb] 58 (0, 0))) ∧ (w'.heap[gb505]? = some (.cells #[.func (.func 47) #[] #[.pointer (some ⟨gb502, 0, none⟩), .pointer (some ⟨gb503, 0, none⟩), .pointer (some ⟨gb504, 0, none⟩), .pointer (some ⟨gb505, 0, none⟩)]] 66 (0, 0))) ∧ (Below wr.heap.size wr w')) ?_ ?_
        rotate_left
        ·intro hCont
         refine two_ (i := 1) (j := 6) (Ni := some 24) (Nj := some 29) #[true, true, true, true, true, true, false, false, false] #[true, false, true, true, true, true, true, false, false] rfl rfl rfl rfl (two_of HT_.out (by kernel_rfl)) (by decide) (by decide) (fun K hK => ?_) (fun K hK => ?_)
         ·skip
          refine goes_ Try.func48 (by kernel_rfl) rfl #[.slice A1 l1.length c1] (by rfl) rfl rfl X.M ?_
          with_reducible refine (slices_Clone_int_int.calls _ _ l1 l1 _ ?side1 ?side2 A9.out).mono ?_
          (case side1 => exact X.C (Kd.C_below HR1.out HB.out))
          (case side2 => exact HC1.out)
          rintro e w20 ⟨v264, rfl, ho0, hb⟩
          refine ⟨_, rfl, ?_⟩
          have n0_ := Aside0.mk (Kd.R_lower (Kd.R_newB (Kd.R_newB (Kd.R_newB ho0 (g := gb503) (o := .cells #[.int .i64 a3_0] 3 (0, 0)) (X.B BK503)) (g := gb504) (o := .cells #[.func (.func g) #[] lb] 58 (0, 0)) (X.B BK504)) (g := gb505) (o := .cells #[.func (.func 47) #[] #[.pointer (some ⟨gb502, 0, none⟩), .pointer (some ⟨gb503, 0, none⟩), .pointer (some ⟨gb504, 0, none⟩), .pointer (some ⟨gb505, 0, none⟩)]] 66 (0, 0)) (X.B BK505)) (below_size X.G))
          have n1_ := Aside0.mk (X.BB BK502 hb)
          have n2_ := Aside0.mk (X.BB BK503 hb)
          have n3_ := Aside0.mk (X.BB BK504 hb)
          have n4_ := Aside0.mk (X.BB BK505 hb)
          have n5_ := Aside0.mk (below_step X.G hb)
          clear BK502
          clear BK503
          clear BK504
          clear BK505
          clear HB
          have HO265 := n0_
          have BK502 := n1_
          have BK503 := n2_
          have BK504 := n3_
          have BK505 := n4_
          have HB := n5_
          clear n0_ n1_ n2_ n3_ n4_ n5_
          (try clear hb)
          (try clear hb2)
          (try clear hk)
          (try clear hi)
          (try clear ho0)
          refine hK.out _ _ ⟨(blk_cell BK502.out 0).trans rfl, ((HB.out.cell (World.block_lt_of_cell? wr _ hw266_0)).trans hw266_0)⟩ (fun hHeld => ?_)
          clear hK K
          refine norm_ (a' := ?_) ?_ ?_
          rotate_left
          ·show Act.put _ (some 24) _ = _
           simp only [Act.put, List.setIfInBounds_toArray, List.set_cons_zero, List.set_cons_succ, i64_w, i32_w]
           rfl
          refine one_ (i := 6) (N := some 29) #[true, true, true, true, true, true, true, false, false] rfl rfl (one_of HT_.out (by kernel_rfl)) (by decide) (fun K hK => ?_)
          refine Kd.R_lit_step (Kd.int .i64) _ 3 ?hg (N := 29) ?hd (xs := ([rd l2_0 x8_1] : List Int)) (inner := [.int .i64 (rd l2_0 x8_1)]) (ok := fun _ => True) (okp := fun _ => True) ?hr ?hp (fun _ hk => hk) trivial (Below.refl _ _) (Nat.le_refl _) (by simp) ?_; (case hd => rfl); (case hg => rfl); (case hr => exact X.R); (case hp => exact (Reps.one (show Kd.M (Kd.int .i64) _ _ _ (rd l2_0 x8_1) [.int .i64 (rd l2_0 x8_1)] from rfl) (Reps.none _ _)))
          intro v268 w21 ho22 hb hg_ hnew_
          clear hg_ hnew_
          (first | rw [← Ny267.out] at ho22 | (simp only [Int.reduceToNat] at ho22; rw [← Ny267.out] at ho22))
          have n0_ := Aside0.mk (Kd.R_elder' (X.K HO265) (Kd.R_base ho22) hb)
          have n1_ := Aside0.mk (Kd.R_lower (Kd.R_newB (Kd.R_newB (Kd.R_newB (Kd.R_new' ho22 (Kd.R_lt (X.K HO265))) (g := gb503) (o := .cells #[.int .i64 a3_0] 3 (0, 0)) (X.B BK503)) (g := gb504) (o := .cells #[.func (.func g) #[] lb] 58 (0, 0)) (X.B BK504)) (g := gb505) (o := .cells #[.func (.func 47) #[] #[.pointer (some ⟨gb502, 0, none⟩), .pointer (some ⟨gb503, 0, none⟩), .pointer (some ⟨gb504, 0, none⟩), .pointer (some ⟨gb505, 0, none⟩)]] 66 (0, 0)) (X.B BK505)) (below_size X.G))
          have n2_ := Aside0.mk (X.BB BK502 hb)
          have n3_ := Aside0.mk (X.BB BK503 hb)
          have n4_ := Aside0.mk (X.BB BK504 hb)
          have n5_ := Aside0.mk (X.BB BK505 hb)
          have n6_ := Aside0.mk (below_step X.G hb)
          clear HO265
          clear BK502
          clear BK503
          clear BK504
          clear BK505
          clear HB
          have HO265 := n0_
          have HO269 := n1_
          have BK502 := n2_
          have BK503 := n3_
          have BK504 := n4_
          have BK505 := n5_
          have HB := n6_
          clear n0_ n1_ n2_ n3_ n4_ n5_ n6_
          clear hb ho22
          refine hK.out _ _ ⟨(blk_cell BK502.out 0).trans rfl, ((HB.out.cell (World.block_lt_of_cell? wr _ hw266_0)).trans hw266_0)⟩ (fun hHeld => ?_)
          clear hK K
          refine norm_ (a' := ?_) ?_ ?_
          rotate_left
          ·show Act.put _ (some 29) _ = _
           simp only [Act.put, List.setIfInBounds_toArray, List.set_cons_zero, List.set_cons_succ, i64_w, i32_w]
           rfl
          exact norm_ (by simp only [putAll, Act.put, List.setIfInBounds_toArray, List.set_cons_zero, List.set_cons_succ]) (hCont (v264, v268) _ ⟨hHeld, (by (with_reducible repeat (first | apply Kd.R_alloc | apply Kd.R_drewN | apply Kd.R_drew)); exact Kd.R_mono HO265.out (fun _ hk => ⟨hk.2, ⟨hk.1.1.1.2, ⟨hk.1.1.2, hk.1.2⟩⟩⟩)), (by (with_reducible repeat (first | apply Kd.R_alloc | apply Kd.R_drewN | apply Kd.R_drew)); exact Kd.R_mono HO269.out (fun _ hk => ⟨hk.1.1.1.2, ⟨hk.1.1.2, ⟨hk.1.2, hk.2⟩⟩⟩)), (X.B BK502), (X.B BK503), (X.B BK504), (X.B BK505), X.G⟩)
         ·skip
          refine Kd.R_lit_step (Kd.int .i64) _ 3 ?hg (N := 29) ?hd (xs := ([rd l2_0 x8_1] : List Int)) (inner := [.int .i64 (rd l2_0 x8_1)]) (ok := fun _ => True) (okp := fun _ => True) ?hr ?hp (fun _ hk => hk) trivial (Below.refl _ _) (Nat.le_refl _) (by simp) ?_; (case hd => rfl); (case hg => rfl); (case hr => exact X.R); (case hp => exact (Reps.one (show Kd.M (Kd.int .i64) _ _ _ (rd l2_0 x8_1) [.int .i64 (rd l2_0 x8_1)] from rfl) (Reps.none _ _)))
          intro v268 w20 ho21 hb hg_ hnew_
          clear hg_ hnew_
          (first | rw [← Ny267.out] at ho21 | (simp only [Int.reduceToNat] at ho21; rw [← Ny267.out] at ho21))
          have n0_ := Aside0.mk (Kd.R_lower (Kd.R_newB (Kd.R_newB (Kd.R_newB ho21 (g := gb503) (o := .cells #[.int .i64 a3_0] 3 (0, 0)) (X.B BK503)) (g := gb504) (o := .cells #[.func (.func g) #[] lb] 58 (0, 0)) (X.B BK504)) (g := gb505) (o := .cells #[.func (.func 47) #[] #[.pointer (some ⟨gb502, 0, none⟩), .pointer (some ⟨gb503, 0, none⟩), .pointer (some ⟨gb504, 0, none⟩), .pointer (some ⟨gb505, 0, none⟩)]] 66 (0, 0)) (X.B BK505)) (below_size X.G))
          have n1_ := Aside0.mk (X.BB BK502 hb)
          have n2_ := Aside0.mk (X.BB BK503 hb)
          have n3_ := Aside0.mk (X.BB BK504 hb)
          have n4_ := Aside0.mk (X.BB BK505 hb)
          have n5_ := Aside0.mk (below_step X.G hb)
          clear BK502
          clear BK503
          clear BK504
          clear BK505
          clear HB
          have HO269 := n0_
          have BK502 := n1_
          have BK503 := n2_
          have BK504 := n3_
          have BK505 := n4_
          have HB := n5_
          clear n0_ n1_ n2_ n3_ n4_ n5_
          clear hb ho21
          refine hK.out _ _ ⟨(blk_cell BK502.out 0).trans rfl, ((HB.out.cell (World.block_lt_of_cell? wr _ hw266_0)).trans hw266_0)⟩ (fun hHeld => ?_)
          clear hK K
          refine norm_ (a' := ?_) ?_ ?_
          rotate_left
          ·show Act.put _ (some 29) _ = _
           simp only [Act.put, List.setIfInBounds_toArray, List.set_cons_zero, List.set_cons_succ, i64_w, i32_w]
           rfl
          refine one_ (i := 1) (N := some 24) #[true, true, true, true, true, true, true, false, false] rfl rfl (one_of HT_.out (by kernel_rfl)) (by decide) (fun K hK => ?_)
          refine goes_ Try.func48 (by kernel_rfl) rfl #[.slice A1 l1.length c1] (by rfl) rfl rfl X.M ?_
          with_reducible refine (slices_Clone_int_int.calls _ _ l1 l1 _ ?side1 ?side2 A9.out).mono ?_
          (case side1 => exact X.C (Kd.C_below HR1.out HB.out))
          (case side2 => exact HC1.out)
          rintro e w22 ⟨v264, rfl, ho0, hb⟩
          refine ⟨_, rfl, ?_⟩
          have n0_ := Aside0.mk (Kd.R_elder' (X.K HO269) (Kd.R_base ho0) hb)
          have n1_ := Aside0.mk (Kd.R_lower (Kd.R_newB (Kd.R_newB (Kd.R_newB (Kd.R_new' ho0 (Kd.R_lt (X.K HO269))) (g := gb503) (o := .cells #[.int .i64 a3_0] 3 (0, 0)) (X.B BK503)) (g := gb504) (o := .cells #[.func (.func g) #[] lb] 58 (0, 0)) (X.B BK504)) (g := gb505) (o := .cells #[.func (.func 47) #[] #[.pointer (some ⟨gb502, 0, none⟩), .pointer (some ⟨gb503, 0, none⟩), .pointer (some ⟨gb504, 0, none⟩), .pointer (some ⟨gb505, 0, none⟩)]] 66 (0, 0)) (X.B BK505)) (below_size X.G))
          have n2_ := Aside0.mk (X.BB BK502 hb)
          have n3_ := Aside0.mk (X.BB BK503 hb)
          have n4_ := Aside0.mk (X.BB BK504 hb)
          have n5_ := Aside0.mk (X.BB BK505 hb)
          have n6_ := Aside0.mk (below_step X.G hb)
          clear HO269
          clear BK502
          clear BK503
          clear BK504
          clear BK505
          clear HB
          have HO269 := n0_
          have HO265 := n1_
          have BK502 := n2_
          have BK503 := n3_
          have BK504 := n4_
          have BK505 := n5_
          have HB := n6_
          clear n0_ n1_ n2_ n3_ n4_ n5_ n6_
          (try clear hb)
          (try clear hb2)
          (try clear hk)
          (try clear hi)
          (try clear ho0)
          refine hK.out _ _ ⟨(blk_cell BK502.out 0).trans rfl, ((HB.out.cell (World.block_lt_of_cell? wr _ hw266_0)).trans hw266_0)⟩ (fun hHeld => ?_)
          clear hK K
          refine norm_ (a' := ?_) ?_ ?_
          rotate_left
          ·show Act.put _ (some 24) _ = _
           simp only [Act.put, List.setIfInBounds_toArray, List.set_cons_zero, List.set_cons_succ, i64_w, i32_w]
           rfl
          exact norm_ (by simp only [putAll, Act.put, List.setIfInBounds_toArray, List.set_cons_zero, List.set_cons_succ]) (hCont (v264, v268) _ ⟨hHeld, (by (with_reducible repeat (first | apply Kd.R_alloc | apply Kd.R_drewN | apply Kd.R_drew)); exact Kd.R_mono HO265.out (fun _ hk => ⟨hk.1.1.1.2, ⟨hk.1.1.2, ⟨hk.1.2, hk.2⟩⟩⟩)), (by (with_reducible repeat (first | apply Kd.R_alloc | apply Kd.R_drewN | apply Kd.R_drew)); exact Kd.R_mono HO269.out (fun _ hk => ⟨hk.2, ⟨hk.1.1.1.2, ⟨hk.1.1.2, hk.1.2⟩⟩⟩)), (X.B BK502), (X.B BK503), (X.B BK504), (X.B BK505), X.G⟩)
        rintro ⟨v264, v268⟩ w23 ⟨hS_, h0_, h1_, h2_, h3_, h4_, h5_, h6_⟩
        have n0_ : Aside0 (Kd.R (Kd.int .i64) 3 w23 wr.heap.size (fun k_ => some k_ ≠ (v268 : Value).ownBlock ∧ k_ ≠ gb503 ∧ k_ ≠ gb504 ∧ k_ ≠ gb505) v264 l1) := ⟨h0_⟩
        have n1_ : Aside0 (Kd.R (Kd.int .i64) 3 w23 wr.heap.size (fun k_ => some k_ ≠ (v264 : Value).ownBlock ∧ k_ ≠ gb503 ∧ k_ ≠ gb504 ∧ k_ ≠ gb505) v268 y267) := ⟨h1_⟩
        have n2_ : Aside0 (w23.heap[gb502]? = some (.cells #[.slice (some ad266) l2_0.length c2_0] 24 (0, 0))) := ⟨h2_⟩
        have n3_ : Aside0 (w23.heap[gb503]? = some (.cells #[.int .i64 a3_0] 3 (0, 0))) := ⟨h3_⟩
        have n4_ : Aside0 (w23.heap[gb504]? = some (.cells #[.func (.func g) #[] lb] 58 (0, 0))) := ⟨h4_⟩
        have n5_ : Aside0 (w23.heap[gb505]? = some (.cells #[.func (.func 47) #[] #[.pointer (some ⟨gb502, 0, none⟩), .pointer (some ⟨gb503, 0, none⟩), .pointer (some ⟨gb504, 0, none⟩), .pointer (some ⟨gb505, 0, none⟩)]] 66 (0, 0))) := ⟨h5_⟩
        have n6_ : Aside0 (Below wr.heap.size wr w23) := ⟨h6_⟩
        clear BK502
        clear BK503
        clear BK504
        clear BK505
        clear HB
        clear h0_ h1_ h2_ h3_ h4_ h5_ h6_
        have HO265 := n0_
        have HO269 := n1_
        have BK502 := n2_
        have BK503 := n3_
        have BK504 := n4_
        have BK505 := n5_
        have HB := n6_
        clear n0_ n1_ n2_ n3_ n4_ n5_ n6_
        have hHeld : w23.cell? ⟨gb502, 0, none⟩ = some (.slice (some ad266) l2_0.length c2_0) ∧ w23.cell? (ad266.add (x8_1).toNat) = some (.int .i64 (rd l2_0 x8_1)) := hS_
        obtain ⟨Ao25, co25, eo25⟩ := Kd.R_slice HO269.out
        (first | subst eo25 | (injection eo25 with f1_ f2_ f3_; have f4_ := f1_.symm; have f5_ := f3_.symm; clear f1_ f2_ f3_; subst f4_; subst f5_))
        refine norm_ (a' := ?_) ?_ ?_
        rotate_left
        ·simp only [putAll, Act.put, List.setIfInBounds_toArray, List.set_cons_zero, List.set_cons_succ]
         rfl
        refine one_ (i := 7) (N := some 30) #[true, true, true, true, true, true, true, true, false] rfl rfl (one_of HT_.out (by kernel_rfl)) (by decide) (fun K hK => ?_)
        refine Kd.R_append_rows_step (Kd.int .i64) (w0 := wr) wr.heap.size (by rfl) (.tmp 24) (.tmp 29) 24 3 (.int .i64 0) 8 rfl Try.underlying24 info3 rfl (by decide) (by omega) v264 l1 y267 _ _ _ (fun k_ => some k_ ≠ (.slice Ao25 y267.length co25 : Value).ownBlock ∧ k_ ≠ gb503 ∧ k_ ≠ gb504 ∧ k_ ≠ gb505) (fun _ => False) rfl rfl ?aO ?aR (fun _ _ h => h) (fun _ h => h.elim) ?aF ?aB ?aS ?aL ?_
        (case aR => exact X.C (Kd.R_reads' HO269.out).2.2)
        (case aB => exact X.G)
        (case aF => exact (fun k_ hk => ⟨Kd.fresh' (Kd.R_lt (X.K HO269)) k_ hk, Kd.freshB (g := gb503) (o := .cells #[.int .i64 a3_0] 3 (0, 0)) (X.B BK503) k_ hk, Kd.freshB (g := gb504) (o := .cells #[.func (.func g) #[] lb] 58 (0, 0)) (X.B BK504) k_ hk, Kd.freshB (g := gb505) (o := .cells #[.func (.func 47) #[] #[.pointer (some ⟨gb502, 0, none⟩), .pointer (some ⟨gb503, 0, none⟩), .pointer (some ⟨gb504, 0, none⟩), .pointer (some ⟨gb505, 0, none⟩)]] 66 (0, 0)) (X.B BK505) k_ hk⟩))
        (case aO => exact (X.K HO265))
        (case aS => exact (below_size X.G))
        (case aL => have := LMc11.out; omega)
        intro v271 w24 ho hb hg hat
        rw [← Ny270.out] at ho
        have n0_ := Aside0.mk (blk_grown (g := gb502) (o := .cells #[.slice (some ad266) l2_0.length c2_0] 24 (0, 0)) (X.B BK502) hg (Kd.R_ne HO265.out BK502.out (by decide)))
        have n1_ := Aside0.mk (blk_grown (g := gb503) (o := .cells #[.int .i64 a3_0] 3 (0, 0)) (X.B BK503) hg (Kd.R_away HO265.out (fun _ hk => hk.2.1)))
        have n2_ := Aside0.mk (blk_grown (g := gb504) (o := .cells #[.func (.func g) #[] lb] 58 (0, 0)) (X.B BK504) hg (Kd.R_away HO265.out (fun _ hk => hk.2.2.1)))
        have n3_ := Aside0.mk (blk_grown (g := gb505) (o := .cells #[.func (.func 47) #[] #[.pointer (some ⟨gb502, 0, none⟩), .pointer (some ⟨gb503, 0, none⟩), .pointer (some ⟨gb504, 0, none⟩), .pointer (some ⟨gb505, 0, none⟩)]] 66 (0, 0)) (X.B BK505) hg (Kd.R_away HO265.out (fun _ hk => hk.2.2.2)))
        have n4_ := Aside0.mk (Kd.R_after (ok := (fun k_ => k_ ≠ gb503 ∧ k_ ≠ gb504 ∧ k_ ≠ gb505)) (by (with_reducible repeat (first | apply Kd.R_alloc | apply Kd.R_drewN | apply Kd.R_drew)); exact Kd.R_mono HO269.out (fun _ hk => ⟨⟨hk.2.1, ⟨hk.2.2.1, hk.2.2.2⟩⟩, hk.1⟩)) hg hat)
        have n5_ := Aside0.mk (hb)
        have n6_ := Aside0.mk (ho)
        clear BK502
        clear BK503
        clear BK504
        clear BK505
        clear HO269
        clear HB
        clear HO265
        have BK502 := n0_
        have BK503 := n1_
        have BK504 := n2_
        have BK505 := n3_
        have HO269 := n4_
        have HB := n5_
        have HO272 := n6_
        clear n0_ n1_ n2_ n3_ n4_ n5_ n6_
        clear ho hb hg hat
        refine hK.out _ _ ⟨(blk_cell BK502.out 0).trans rfl, ((HB.out.cell (World.block_lt_of_cell? wr _ hw266_0)).trans hw266_0)⟩ (fun hHeld => ?_)
        clear hK K
        refine norm_ (a' := ?_) ?_ ?_
        rotate_left
        ·show Act.put _ (some 30) _ = _
         simp only [Act.put, List.setIfInBounds_toArray, List.set_cons_zero, List.set_cons_succ, i64_w, i32_w]
         rfl
        refine pure_ (i := 8) (N := some 9) (v := ?_) (a' := ?_) #[true, true, true, true, true, true, true, true, true] rfl rfl (any_of HT_.out (by kernel_rfl)) (fun _ _ _ h => h) (Or.inl ⟨by rfl, ?_⟩) ?_ ?_
        rotate_left
        ·intro w'
         go_simp
         with_reducible rfl
        rotate_left
        ·exact X.Pu
        refine done_ (done_of HT_.out (by kernel_rfl)) ?_
        clear hHeld HT_ HW_
        have HIa := X.A (HCB.out.stab HI.out HB.out)
        have HSa := X.A (HS.out.below HB.out)
        have HLa := X.A (HL.out.below HB.out)
        have HBa := X.A (below_weaken HB0.out HB0.out.size HB.out)
        obtain ⟨An, cn, en⟩ := Kd.R_slice HO272.out
        subst en
        have hcE : w24.cell? ⟨gb504, 0, none⟩ = some (.func (.func g) #[] lb) := (blk_cell BK504.out 0).trans rfl
        have hfE := blk_frozen BK504.out 0
        have hw : wrap64 (x8_1 + 1) = ((j + 1 : Nat) : Int) := by rw [Hxj.out]; unfold wrap64; have := Hjlt.out; omega
        have HW := X.A hw
        clear hw
        have HNx : Aside0 (X.Safe w24 O1 (fun w => Kd.C (Kd.int .i64) w An y270.length y270)) := ⟨X.Safe.row rfl HO272.out (fun k hk h => by have h1 := Kd.R_base HO272.out k hk; have h2 := HCB.out.lt HI.out k h; omega)⟩
        have HNc := X.A (Kd.R_reads' HO272.out).2.1
        go_wp2_with fail
        refine (HCB.out.call wr _ s1 s2 O1 _ y270 HI.out ?b1 ?b2 ?b3 ?b4).mono ?_
        case b1 => exact HB0.out
        case b2 => exact below_step HB.out X.PB
        case b3 => exact Kd.R_mono (Kd.R_below HO272.out X.PB) (fun _ _ => trivial)
        case b4 => rw [← HN.out]; exact HS2.out
        rintro e w30 ⟨rfl, O2, hI2, hK2, hO2, hB2⟩
        have HK2 := X.A (Kept.then_ (Kept.below HK.out (below_step HB.out X.PB)) hK2 (fun k hk => HO.out k hk))
        have HO2 : Aside0 (∀ k, O2 k → O k ∨ w.heap.size ≤ k) := ⟨fun k hk => (hO2 k hk).elim (HO.out k) (fun h => .inr (Nat.le_trans HK.out.1 (Nat.le_trans HB.out.size (Nat.le_trans (show w24.heap.size ≤ _ from (X.PB (W := w24)).size) h))))⟩
        have HS4 := X.A ((HSa.out.below X.PB).step hK2 hO2)
        have HL4 := X.A ((HLa.out.below X.PB).step hK2 hO2)
        have HN4 := X.A ((HNx.out.below X.PB).step hK2 hO2)
        have HI2 := X.A hI2
        have HB2 := X.A hB2
        clear hI2 hK2 hO2 hB2 hcE hfE HSa HLa HNx HIa HBa HI HK HO HB0 HS HL HB BK502 BK503 BK504 BK505
        have BK505 := X.A HS4.out.now.1.2.2.2
        have hcO : w30.cell? ⟨gb505, 0, none⟩ = some (.func (.func 47) #[] #[.pointer (some ⟨gb502, 0, none⟩), .pointer (some ⟨gb503, 0, none⟩), .pointer (some ⟨gb504, 0, none⟩), .pointer (some ⟨gb505, 0, none⟩)]) := (blk_cell BK505.out 0).trans rfl
        have hfO := blk_frozen BK505.out 0
        have eo : ∀ args w, (callFunc 47 args).run Try.prog w = .ok (.enter 47 args) w := fun args w => enters_ Try.func47 (by kernel_rfl) rfl args w
        go_wp2_with fail
        refine calls_of_args (args' := #[.int .i64 ((j + 1 : Nat) : Int), .slice An y270.length cn, .pointer (some ⟨gb502, 0, none⟩), .pointer (some ⟨gb503, 0, none⟩), .pointer (some ⟨gb504, 0, none⟩), .pointer (some ⟨gb505, 0, none⟩)]) (by rw [← HW.out]) ?_
        refine (HIH.out (l2_0.length - (j + 1)) (by have := Hjlt.out; omega) (j + 1) An cn y270 _ s2 s3 O2 (by have := Hjlt.out; omega) (HCB.out.stab HI2.out X.PB) (below_weaken HB2.out HB2.out.size X.PB) (HS4.out.below X.PB) (HN4.out.below X.PB) HNc.out (by rw [← HN.out]; exact HS3.out)).mono ?_
        rintro e w31 ⟨rfl, O3, hI3, hK3, hO3, hB3⟩
        have HK5 := X.A (Kept.then_ (Kept.below HK2.out (X.PB (W := w30))) hK3 (fun k hk => HO2.out k hk))
        have HO5 : Aside0 (∀ k, O3 k → O k ∨ w.heap.size ≤ k) := ⟨fun k hk => (hO3 k hk).elim (HO2.out k) (fun h => .inr (Nat.le_trans HK2.out.1 (Nat.le_trans (show w30.heap.size ≤ _ from (X.PB (W := w30)).size) h)))⟩
        have HS5 := X.A ((HS4.out.below X.PB).step hK3 hO3)
        have HL5 := X.A ((HL4.out.below X.PB).step hK3 hO3)
        have HI5 := X.A hI3
        have HB5 := X.A hB3
        clear hI3 hK3 hO3 hB3 hcO hfO HS4 HL4 HN4 HI2 HB2 HK2 HO2 BK505
        go_wp2
        go_roundg (l2_0.length - (j + 1))
        case measure => have := Hjlt.out; omega
        case rel => exact ⟨wrap64 (x8_1 + 1), j + 1, s3, O3, (by first | rfl | (simp; done) | (simp [*]; done)), HW.out, by omega, by have := Hjlt.out; omega, by omega, HF4, ⟨HCB.out.stab HI5.out X.PB⟩, ⟨Kept.below HK5.out X.PB⟩, HO5, ⟨below_weaken HB5.out HB5.out.size X.PB⟩, ⟨HS5.out.below X.PB⟩, ⟨HL5.out.below X.PB⟩⟩
      · rw [if_neg c8] at hF2
        have c8b0 : decide ((l1.length : Int) < a3_0) = false := decide_eq_false c8
        injection hF2 with hF2
        subst hF2
        have hcz29_0 : wr.cell? ⟨gb502, 0, none⟩ = some (.slice A2_0 l2_0.length c2_0) := (blk_cell BK502.out 0).trans rfl
        have hfz29_0 := blk_frozen BK502.out 0
        have hcz32_0 : wr.cell? ⟨gb503, 0, none⟩ = some (.int .i64 a3_0) := (blk_cell BK503.out 0).trans rfl
        have hfz32_0 := blk_frozen BK503.out 0
        go_wp2
        first | go_end0 | ((try simp only [Exit.inBlock, Exit.then]); refine bodyPost_ret (results_none rfl _ _ _) rfl ?_)
        exact ⟨rfl, O1, HCB.out.stab HI.out X.PB, HK.out, HO.out, below_weaken HB0.out HB0.out.size X.PB⟩
    · have c7b0 : decide (x8_1 < (l2_0.length : Int)) = false := decide_eq_false c7
      have hjl2 : l2_0.length ≤ j := by omega
      have hF2 := HF.out
      rw [List.drop_eq_nil_of_le hjl2] at hF2
      simp only [X.onF, Option.some.injEq] at hF2
      subst hF2
      have hcz36_0 : wr.cell? ⟨gb502, 0, none⟩ = some (.slice A2_0 l2_0.length c2_0) := (blk_cell BK502.out 0).trans rfl
      have hfz36_0 := blk_frozen BK502.out 0
      go_wp2
      first | go_end0 | ((try simp only [Exit.inBlock, Exit.then]); refine bodyPost_ret (results_none rfl _ _ _) rfl ?_)
      exact ⟨rfl, O1, HCB.out.stab HI.out X.PB, HK.out, HO.out, below_weaken HB0.out HB0.out.size X.PB⟩

end Go.Proofs.Ytldeaeeolibpjaa.Q
