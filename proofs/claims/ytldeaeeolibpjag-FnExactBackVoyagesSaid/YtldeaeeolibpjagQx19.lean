-- by wip/xprint.py, a program of this session over the kit's print: not trusted, Lean checks it.
import Derived.Test.YtldeaeeolibpjagXShort
import Derived.Test.YtldeaeeolibpjagQx0
import Derived.Test.YtldeaeeolibpjagQx9
import Derived.Test.YtldeaeeolibpjagQx18
namespace Go.Proofs.Ytldeaeeolibpjag.Q
open Go.RowKit Go.Proofs.YtldeaeeolibpjagW.PrintWords Go.Proofs.YtldeaeeolibpjagW.PrintLast Go.Proofs.YtldeaeeolibpjagW.PrintMore
attribute [local go_sem] max2_int min2_int max_two min_two max_three min_three max_four min_four   -- for this text's walks alone
set_option linter.unusedVariables false
set_option linter.unusedSimpArgs false

/-! ### impl_Isles_sailed: function 21 -/
def impl_Isles_sailed.l0 : Nat → List (S43) → Int → Int → Int → Int → Int → List Int → Int → Option (List Int × Int × Int)
 | 0, _, _, _, _, _, _, _, _ => none
 | k + 1, x10, x11, x12, x268000, x268001, x268002, x269000, x269001 => if x12 < x11 then (if 0 ≤ x12 then (if x12 < (x10.length : Int) then ((impl_Isles_isVoyage.f k x268000 x268001 x268002 x269000 x269001 ((rd_T43 x10 x12).f0) ((rd_T43 x10 x12).f1)).bind fun t276 => (if t276 = true then ((impl_Places_behind.f k x269000 x269001 ((rd_T43 x10 x12).f0) ((rd_T43 x10 x12).f1)).bind fun bt277 => (impl_Isles_sailed.l0 k x10 x11 (wrap64 (x12 + 1)) x268000 x268001 x268002 bt277.1 bt277.2)) else (some (x269000, x269001, x12)))) else (none)) else (none)) else ((impl_Places_behind.f k x269000 x269001 x269001 ([] : List Int)).bind fun bt270 => (some (bt270.1, bt270.2, (-1))))
def impl_Isles_sailed.f (k : Nat) (a0_0 : Int) (a0_1 : Int) (a0_2 : Int) (l1_0 : List Int) (a1_1 : Int) (l2 : List (S43)) : Option (List Int × Int × Int) := impl_Isles_sailed.l0 k l2 (l2.length : Int) 0 a0_0 a0_1 a0_2 l1_0 a1_1
theorem impl_Isles_sailed.mono_l : ∀ k, (∀ y0 y1 y2 y3 y4 y5 y6 y7, LeO (impl_Isles_sailed.l0 k y0 y1 y2 y3 y4 y5 y6 y7) (impl_Isles_sailed.l0 (k + 1) y0 y1 y2 y3 y4 y5 y6 y7))
 | 0 => fun _ _ _ _ _ _ _ _ r h => by simp [impl_Isles_sailed.l0] at h
 | k + 1 => by
  have ih0 := impl_Isles_sailed.mono_l k
  ·intro y0 y1 y2 y3 y4 y5 y6 y7
   unfold impl_Isles_sailed.l0
   repeat' first
   | (with_reducible exact ih0 _ _ _ _ _ _ _ _)
   | (with_reducible exact impl_Isles_isVoyage.mono _ _ _ _ _ _ _ _)
   | (with_reducible exact impl_Places_behind.mono _ _ _ _ _)
   | (with_reducible exact LeO.refl _)
   | (with_reducible exact LeO.none _)
   | (with_reducible refine LeO.ite ?_ ?_)
   | (with_reducible refine LeO.bind ?_ (fun _ => ?_))
theorem impl_Isles_sailed.mono : ∀ a0 a1 a2 a3 a4 a5 k, LeO (impl_Isles_sailed.f k a0 a1 a2 a3 a4 a5) (impl_Isles_sailed.f (k + 1) a0 a1 a2 a3 a4 a5) := by
 intro a0 a1 a2 a3 a4 a5 k
 have ih0 := impl_Isles_sailed.mono_l k
 unfold impl_Isles_sailed.f
 repeat' first
   | (with_reducible exact ih0 _ _ _ _ _ _ _ _)
   | (with_reducible exact impl_Isles_isVoyage.mono _ _ _ _ _ _ _ _)
   | (with_reducible exact impl_Places_behind.mono _ _ _ _ _)
   | (with_reducible exact LeO.refl _)
   | (with_reducible exact LeO.none _)
   | (with_reducible refine LeO.ite ?_ ?_)
   | (with_reducible refine LeO.bind ?_ (fun _ => ?_))
set_option maxHeartbeats 8000000 in
set_option maxRecDepth 100000 in
theorem impl_Isles_sailed.calls (k : Nat) (a0_0 : Int) (a0_1 : Int) (a0_2 : Int) (P1_0_ : Nat → Prop) (A1_0 : Option Addr) (c1_0 : Nat) (l1_0 : List Int) (a1_1 : Int) (A2 : Option Addr) (c2 : Nat) (l2 : List (S43)) (r1 : List Int) (r2 : Int) (r3 : Int) (w : World) (hs1_0 : Kd.V (Kd.int .i64) 3 w w.heap.size (fun k_ => P1_0_ k_) (.slice A1_0 l1_0.length c1_0) l1_0) (hr2 : Kd.C k43 w A2 l2.length l2) (hc2 : l2.length ≤ c2) (h : impl_Isles_sailed.f k a0_0 a0_1 a0_2 l1_0 a1_1 l2 = some (r1, r2, r3)) :
  Calls Try.prog 21 #[.agg #[.int .i64 a0_0, .int .i64 a0_1, .int .i64 a0_2], .agg #[.slice A1_0 l1_0.length c1_0, .int .i64 a1_1], .slice A2 l2.length c2] w fun e w' => ∃ v0_ : Value, e = .returned (.tuple #[.agg #[v0_, .int .i64 r2], .int .i64 r3]) ∧ Kd.V (Kd.int .i64) 3 w' w.heap.size (fun k_ => (P1_0_ k_ ∨ w.heap.size ≤ k_)) v0_ r1 ∧ Below w.heap.size w w' := by
 have hu29 := Try.underlying29
 have hu41 := Try.underlying41
 have hu43 := Try.underlying43
 have HO1_0 := X.A (show Kd.V (Kd.int .i64) 3 w w.heap.size (fun k_ => (P1_0_ k_ ∨ w.heap.size ≤ k_)) (.slice A1_0 l1_0.length c1_0) l1_0 from Kd.V_mono hs1_0 (fun k_ hk => .inl hk))
 have HR2 := X.A hr2
 have HC2 := X.A hc2
 clear hr2 hc2
 have HB := X.A (Below.refl w.heap.size w)
 have H : (impl_Isles_sailed.l0 k l2 (l2.length : Int) 0 a0_0 a0_1 a0_2 l1_0 a1_1) = some (r1, r2, r3) := h
 clear h
 have H' := X.A H
 clear H
 go_enter Try.func21, Try.ntmps21
 go_wp2_with (first | ((with_reducible refine gate_dst (N := 3) rfl ?_); refine box_event ?hg (N := 3) ?hd (cs := #[.int .i64 a0_0, .int .i64 a0_1, .int .i64 a0_2]) (t := 29) ?hr ?_; (case hd => rfl); (case hg => rfl); (case hr => exact X.R); intro gb267 hg w4 hbox hb; have n0_ := X.A (Kd.V_below (Kd.V_elderB (by (with_reducible repeat (first | apply Kd.V_alloc | apply Kd.V_drewN | apply Kd.V_drew)); exact HO1_0.out) gb267 (Nat.le_of_eq hg.symm)) hb); have n1_ := X.A (below_step X.G hb); have n2_ := X.A (hbox); have n3_ := X.A ((by rw [hg]; exact (below_size X.G) : w.heap.size ≤ gb267)); have n4_ := X.A ((by rw [hg]; exact (below_size X.G) : w.heap.size ≤ gb267)); clear HO1_0 HB; have HO1_0 := n0_; have HB := n1_; have BK267 := n2_; have GW267 := n3_; have GE267 := n4_; clear n0_ n1_ n2_ n3_ n4_; clear hb hbox hg) | ((with_reducible refine gate_dst (N := 4) rfl ?_); refine box_event ?hg (N := 4) ?hd (cs := #[.slice A1_0 l1_0.length c1_0, .int .i64 a1_1]) (t := 41) ?hr ?_; (case hd => rfl); (case hg => rfl); (case hr => exact X.R); intro gb268 hg w5 hbox hb; have n0_ := X.A (Kd.V_below (Kd.V_elderB (by (with_reducible repeat (first | apply Kd.V_alloc | apply Kd.V_drewN | apply Kd.V_drew)); exact HO1_0.out) gb268 (Nat.le_of_eq hg.symm)) hb); have n1_ := X.A (X.BB BK267 hb); have n2_ := X.A (below_step X.G hb); have n3_ := X.A (hbox); have n4_ := X.A ((by rw [hg]; exact (below_size X.G) : w.heap.size ≤ gb268)); have n5_ := X.A ((by rw [hg]; exact (below_size X.G) : w.heap.size ≤ gb268)); have n6_ := X.A (X.NL hg BK267); have n7_ := X.A (X.NG hg BK267); clear HO1_0 BK267 HB; have HO1_0 := n0_; have BK267 := n1_; have HB := n2_; have BK268 := n3_; have GW268 := n4_; have GE268 := n5_; have NB267_268 := n6_; have NB268_267 := n7_; clear n0_ n1_ n2_ n3_ n4_ n5_ n6_ n7_; clear hb hbox hg) | ((with_reducible refine gate_dst (N := 6) rfl ?_); refine box_event ?hg (N := 6) ?hd (cs := #[.slice none 0 0, .int .i64 0]) (t := 41) ?hr ?_; (case hd => rfl); (case hg => rfl); (case hr => exact X.R); intro gb269 hg w6 hbox hb; have n0_ := X.A (Kd.V_below (Kd.V_elderB (by (with_reducible repeat (first | apply Kd.V_alloc | apply Kd.V_drewN | apply Kd.V_drew)); exact HO1_0.out) gb269 (Nat.le_of_eq hg.symm)) hb); have n1_ := X.A (X.BB BK267 hb); have n2_ := X.A (X.BB BK268 hb); have n3_ := X.A (below_step X.G hb); have n4_ := X.A (hbox); have n5_ := X.A ((by rw [hg]; exact (below_size X.G) : w.heap.size ≤ gb269)); have n6_ := X.A ((by rw [hg]; exact (below_size X.G) : w.heap.size ≤ gb269)); have n7_ := X.A (X.NL hg BK267); have n8_ := X.A (X.NG hg BK267); have n9_ := X.A (X.NL hg BK268); have n10_ := X.A (X.NG hg BK268); clear HO1_0 BK267 BK268 HB; have HO1_0 := n0_; have BK267 := n1_; have BK268 := n2_; have HB := n3_; have BK269 := n4_; have GW269 := n5_; have GE269 := n6_; have NB267_269 := n7_; have NB269_267 := n8_; have NB268_269 := n9_; have NB269_268 := n10_; clear n0_ n1_ n2_ n3_ n4_ n5_ n6_ n7_ n8_ n9_ n10_; clear hb hbox hg))
 go_loopg [12] k (fun kq v12 w' => ∃ (x12_1 : Int) (x269000_1 : List Int) (x269001_1 : Int) (x270001_1 : Int) (u269000 : Value), v12 = .int .i64 x12_1 ∧ Aside0 (impl_Isles_sailed.l0 kq l2 (l2.length : Int) x12_1 a0_0 a0_1 a0_2 x269000_1 x269001_1 = some (r1, r2, r3)) ∧ Aside0 (kq ≤ k) ∧ Aside0 (Kd.V (Kd.int .i64) 3 w' w.heap.size (fun k_ => (P1_0_ k_ ∨ w.heap.size ≤ k_) ∧ k_ ≠ gb267 ∧ k_ ≠ gb268 ∧ k_ ≠ gb269) u269000 x269000_1) ∧ Aside0 (w'.heap[gb267]? = some (.cells #[.int .i64 a0_0, .int .i64 a0_1, .int .i64 a0_2] 29 (0, 0))) ∧ Aside0 (w'.heap[gb268]? = some (.cells #[u269000, .int .i64 x269001_1] 41 (0, 0))) ∧ Aside0 (w'.heap[gb269]? = some (.cells #[(.slice none 0 0), .int .i64 x270001_1] 41 (0, 0))) ∧ Aside0 (Below w.heap.size w w'))
 case atStart => exact ⟨(0), (l1_0), (a1_1), (0), (.slice A1_0 l1_0.length c1_0), (by first | rfl | (simp; done) | (simp [*]; done)), H', ⟨Nat.le_refl _⟩, ⟨by (with_reducible repeat (first | apply Kd.V_alloc | apply Kd.V_drewN | apply Kd.V_drew)); exact Kd.V_mono HO1_0.out (fun _ hk => ⟨hk.1.1.1, ⟨hk.1.1.2, ⟨hk.1.2, hk.2⟩⟩⟩)⟩, ⟨X.B BK267⟩, ⟨X.B BK268⟩, ⟨X.B BK269⟩, ⟨X.G⟩⟩
 case round =>
  clear H'
  try clear c1
  try clear c2
  try clear p2
  obtain ⟨x12_1, x269000_1, x269001_1, x270001_1, u269000, rfl, HA, HK1, HO_269000, BK267, BK268, BK269, HB⟩ := hrel
  cases gk with
  | zero => exact absurd HA.out (by simp [impl_Isles_sailed.l0])
  | succ k1 =>
   have H := HA.out
   clear HA
   simp only [impl_Isles_sailed.l0] at H
   by_cases c7 : x12_1 < (l2.length : Int)
   ·rw [if_pos c7] at H
    have c7b0 : decide (x12_1 < (l2.length : Int)) = true := decide_eq_true c7
    clear c7
    by_cases c8 : 0 ≤ x12_1
    rotate_left
    ·rw [if_neg c8] at H
     exact absurd H (by simp)
    rw [if_pos c8] at H
    have c8b0 : decide (0 ≤ x12_1) = true := decide_eq_true c8
    clear c8
    by_cases c9 : x12_1 < (l2.length : Int)
    rotate_left
    ·rw [if_neg c9] at H
     exact absurd H (by simp)
    rw [if_pos c9] at H
    have c9b0 : decide (x12_1 < (l2.length : Int)) = true := decide_eq_true c9
    clear c9
    replace H := Option.bind_eq_some_iff.mp H
    obtain ⟨t276, A100, H⟩ := H
    replace H : (if t276 = true then ((impl_Places_behind.f k1 x269000_1 x269001_1 ((rd_T43 l2 x12_1).f0) ((rd_T43 l2 x12_1).f1)).bind fun bt277 => (impl_Isles_sailed.l0 k1 l2 (l2.length : Int) (wrap64 (x12_1 + 1)) a0_0 a0_1 a0_2 bt277.1 bt277.2)) else (some (x269000_1, x269001_1, x12_1))) = some (r1, r2, r3) := H
    have A10 := X.A A100
    clear A100
    by_cases c11 : t276 = true
    ·subst c11
     have H1 : ((impl_Places_behind.f k1 x269000_1 x269001_1 ((rd_T43 l2 x12_1).f0) ((rd_T43 l2 x12_1).f1)).bind fun bt277 => (impl_Isles_sailed.l0 k1 l2 (l2.length : Int) (wrap64 (x12_1 + 1)) a0_0 a0_1 a0_2 bt277.1 bt277.2)) = some (r1, r2, r3) := by rw [if_pos rfl] at H; exact H
     clear H
     have H := H1
     clear H1
     replace H := Option.bind_eq_some_iff.mp H
     obtain ⟨⟨t277, t280⟩, A120, H⟩ := H
     replace H : (impl_Isles_sailed.l0 k1 l2 (l2.length : Int) (wrap64 (x12_1 + 1)) a0_0 a0_1 a0_2 t277 t280) = some (r1, r2, r3) := H
     have A12 := X.A A120
     clear A120
     have H' := X.A H
     clear H
     have p274 : 0 ≤ (x12_1 : Int) := X.D
     have q274 : x12_1 < (l2.length : Int) := X.D
     obtain ⟨ad274, A274_1, c274_1, e274, hx274_0, hx274_1, hl274_1, hi274_1⟩ := at_T43 HR2.out x12_1 p274 q274
     cases e274
     replace hx274_0 := (HB.out.cell (World.block_lt_of_cell? w _ hx274_0)).trans hx274_0
     replace hx274_1 := (HB.out.cell (World.block_lt_of_cell? w _ hx274_1)).trans hx274_1
     have HR274_1 := X.A hi274_1
     have HC274_1 := X.A hl274_1
     clear hi274_1 hl274_1
     replace p274 := eq_true p274
     replace q274 := eq_true q274
     go_wp2_with (first | ((with_reducible refine gate_dst (N := 9) rfl ?_); refine box_event ?hg (N := 9) ?hd (cs := #[.int .i64 0, .slice none 0 0]) (t := 43) ?hr ?_; (case hd => rfl); (case hg => rfl); (case hr => exact X.R); intro gb275 hg w13 hbox hb; have n0_ := X.A (Kd.V_below (Kd.V_elderB (by (with_reducible repeat (first | apply Kd.V_alloc | apply Kd.V_drewN | apply Kd.V_drew)); exact HO_269000.out) gb275 (Nat.le_of_eq hg.symm)) hb); have n1_ := X.A (X.BB BK267 hb); have n2_ := X.A (X.BB BK268 hb); have n3_ := X.A (X.BB BK269 hb); have n4_ := X.A (below_step X.G hb); have n5_ := X.A (hbox); have n6_ := X.A ((by rw [hg]; exact (below_size X.G) : w.heap.size ≤ gb275)); have n7_ := X.A ((by rw [hg]; exact (below_size X.G) : w.heap.size ≤ gb275)); have n8_ := X.A (X.NL hg BK267); have n9_ := X.A (X.NG hg BK267); have n10_ := X.A (X.NL hg BK268); have n11_ := X.A (X.NG hg BK268); have n12_ := X.A (X.NL hg BK269); have n13_ := X.A (X.NG hg BK269); clear HO_269000 BK267 BK268 BK269 HB; have HO_269000 := n0_; have BK267 := n1_; have BK268 := n2_; have BK269 := n3_; have HB := n4_; have BK275 := n5_; have GW275 := n6_; have GE275 := n7_; have NB267_275 := n8_; have NB275_267 := n9_; have NB268_275 := n10_; have NB275_268 := n11_; have NB269_275 := n12_; have NB275_269 := n13_; clear n0_ n1_ n2_ n3_ n4_ n5_ n6_ n7_ n8_ n9_ n10_ n11_ n12_ n13_ hb hbox hg; have hnb14 := NB275_267.out; have hnc14 := NB267_275.out; have hnb15 := NB275_268.out; have hnc15 := NB268_275.out; have hnb16 := NB275_269.out; have hnc16 := NB269_275.out; have hcz17_0 : w13.cell? ⟨gb275, 0, none⟩ = some (.int .i64 0) := (blk_cell BK275.out 0).trans rfl; have hcz17_1 : w13.cell? ⟨gb275, 1, none⟩ = some (.slice none 0 0) := (blk_cell BK275.out 1).trans rfl; have hfz17_0 := blk_frozen BK275.out 0; have hfz17_1 := blk_frozen BK275.out 1; have hnb18 := NB267_268.out; have hnc18 := NB268_267.out; have hnb19 := NB267_269.out; have hnc19 := NB269_267.out; have hcz20_0 : w13.cell? ⟨gb267, 0, none⟩ = some (.int .i64 a0_0) := (blk_cell BK267.out 0).trans rfl; have hcz20_1 : w13.cell? ⟨gb267, 1, none⟩ = some (.int .i64 a0_1) := (blk_cell BK267.out 1).trans rfl; have hcz20_2 : w13.cell? ⟨gb267, 2, none⟩ = some (.int .i64 a0_2) := (blk_cell BK267.out 2).trans rfl; have hfz20_0 := blk_frozen BK267.out 0; have hfz20_1 := blk_frozen BK267.out 1; have hfz20_2 := blk_frozen BK267.out 2; have hnb21 := NB268_269.out; have hnc21 := NB269_268.out; have hcz22_0 : w13.cell? ⟨gb268, 0, none⟩ = some (u269000) := (blk_cell BK268.out 0).trans rfl; have hcz22_1 : w13.cell? ⟨gb268, 1, none⟩ = some (.int .i64 x269001_1) := (blk_cell BK268.out 1).trans rfl; have hfz22_0 := blk_frozen BK268.out 0; have hfz22_1 := blk_frozen BK268.out 1; obtain ⟨Ao23, co23, eo23⟩ := Kd.V_slice HO_269000.out; subst eo23) | ((with_reducible refine gate_callee (f := 38) rfl ?_); refine goesL_ (some 20) rfl rfl Try.func38 (by kernel_rfl) rfl #[.agg #[.int .i64 a0_0, .int .i64 a0_1, .int .i64 a0_2], .agg #[.slice Ao23 x269000_1.length co23, .int .i64 x269001_1], .agg #[.int .i64 ((rd_T43 l2 x12_1).f0), .slice A274_1 ((rd_T43 l2 x12_1).f1).length c274_1]] rfl X.M ?_; (with_reducible refine (impl_Isles_isVoyage.calls k1 a0_0 a0_1 a0_2 _ _ x269000_1 x269001_1 ((rd_T43 l2 x12_1).f0) _ _ ((rd_T43 l2 x12_1).f1) true _ ?side1 ?side2 ?side3 ?side4 A10.out).mono ?_); (case side1 => refine (Kd.V_reads' (e := 3) (base := w.heap.size) (ok := fun k_ => (((P1_0_ k_ ∨ w.heap.size ≤ k_) ∧ (k_ ≠ gb267 ∧ (k_ ≠ gb268 ∧ k_ ≠ gb269))) ∧ k_ ≠ gb275)) (n := x269000_1.length) (c := co23) ?_).2.2; exact (by (with_reducible repeat (first | apply Kd.V_alloc | apply Kd.V_drewN | apply Kd.V_drew)); exact (Kd.V_mono (Kd.V_far (p := ⟨gb275, 1, none⟩) (Kd.V_far (p := ⟨gb275, 0, none⟩) (Kd.V_mono HO_269000.out (fun k_ hk => (⟨hk, hk.2⟩ : _ ∧ k_ ≠ gb275))) (fun _ hk => hk.2) (.int .i64 ((rd_T43 l2 x12_1).f0))) (fun _ hk => hk.2) (.slice A274_1 ((rd_T43 l2 x12_1).f1).length c274_1)) (fun _ h_ => h_.1)))); (case side2 => exact (Kd.V_reads' HO_269000.out).2.1); (case side3 => exact Kd.C_below HR274_1.out X.G); (case side4 => exact HC274_1.out); rintro e w24 ⟨rfl, hb⟩; refine ⟨_, rfl, ?_⟩; have n0_ := X.A (Kd.V_below (by (with_reducible repeat (first | apply Kd.V_alloc | apply Kd.V_drewN | apply Kd.V_drew)); exact (Kd.V_mono (Kd.V_far (p := ⟨gb275, 1, none⟩) (Kd.V_far (p := ⟨gb275, 0, none⟩) (Kd.V_mono HO_269000.out (fun k_ hk => (⟨hk, hk.2⟩ : _ ∧ k_ ≠ gb275))) (fun _ hk => hk.2) (.int .i64 ((rd_T43 l2 x12_1).f0))) (fun _ hk => hk.2) (.slice A274_1 ((rd_T43 l2 x12_1).f1).length c274_1)) (fun _ h_ => h_.1))) hb); have n1_ := X.A (blk_below (g := gb267) (o := .cells #[.int .i64 a0_0, .int .i64 a0_1, .int .i64 a0_2] 29 (0, 0)) (by (with_reducible repeat (first | refine blk_drewN ?_ _ | refine blk_drew ?_ | refine blk_alloc ?_ _)); refine blk_far ?_ NB267_275.out _; (with_reducible repeat (first | refine blk_drewN ?_ _ | refine blk_drew ?_ | refine blk_alloc ?_ _)); refine blk_far ?_ NB267_275.out _; (with_reducible repeat (first | refine blk_drewN ?_ _ | refine blk_drew ?_ | refine blk_alloc ?_ _)); exact BK267.out) hb); have n2_ := X.A (blk_below (g := gb268) (o := .cells #[.slice Ao23 x269000_1.length co23, .int .i64 x269001_1] 41 (0, 0)) (by (with_reducible repeat (first | refine blk_drewN ?_ _ | refine blk_drew ?_ | refine blk_alloc ?_ _)); refine blk_far ?_ NB268_275.out _; (with_reducible repeat (first | refine blk_drewN ?_ _ | refine blk_drew ?_ | refine blk_alloc ?_ _)); refine blk_far ?_ NB268_275.out _; (with_reducible repeat (first | refine blk_drewN ?_ _ | refine blk_drew ?_ | refine blk_alloc ?_ _)); exact BK268.out) hb); have n3_ := X.A (blk_below (g := gb269) (o := .cells #[.slice none 0 0, .int .i64 x270001_1] 41 (0, 0)) (by (with_reducible repeat (first | refine blk_drewN ?_ _ | refine blk_drew ?_ | refine blk_alloc ?_ _)); refine blk_far ?_ NB269_275.out _; (with_reducible repeat (first | refine blk_drewN ?_ _ | refine blk_drew ?_ | refine blk_alloc ?_ _)); refine blk_far ?_ NB269_275.out _; (with_reducible repeat (first | refine blk_drewN ?_ _ | refine blk_drew ?_ | refine blk_alloc ?_ _)); exact BK269.out) hb); have n4_ := X.A (blk_below (g := gb275) (o := .cells #[.int .i64 ((rd_T43 l2 x12_1).f0), .slice A274_1 ((rd_T43 l2 x12_1).f1).length c274_1] 43 (0, 0)) (by (with_reducible repeat (first | refine blk_drewN ?_ _ | refine blk_drew ?_ | refine blk_alloc ?_ _)); refine blk_put (cs := #[.int .i64 ((rd_T43 l2 x12_1).f0), .slice none 0 0]) ?_ 1 _ rfl; (with_reducible repeat (first | refine blk_drewN ?_ _ | refine blk_drew ?_ | refine blk_alloc ?_ _)); refine blk_put (cs := #[.int .i64 0, .slice none 0 0]) ?_ 0 _ rfl; (with_reducible repeat (first | refine blk_drewN ?_ _ | refine blk_drew ?_ | refine blk_alloc ?_ _)); exact BK275.out) hb); have n5_ := X.A (below_step X.G hb); clear HO_269000 BK267 BK268 BK269 BK275 HB; have HO_269000 := n0_; have BK267 := n1_; have BK268 := n2_; have BK269 := n3_; have BK275 := n4_; have HB := n5_; clear n0_ n1_ n2_ n3_ n4_ n5_; (try clear hb); (try clear hb2); (try clear hk); (try clear hi); have hcz25_0 : w24.cell? ⟨gb268, 0, none⟩ = some (.slice Ao23 x269000_1.length co23) := (blk_cell BK268.out 0).trans rfl; have hcz25_1 : w24.cell? ⟨gb268, 1, none⟩ = some (.int .i64 x269001_1) := (blk_cell BK268.out 1).trans rfl; have hfz25_0 := blk_frozen BK268.out 0; have hfz25_1 := blk_frozen BK268.out 1; have hcz26_0 : w24.cell? ⟨gb275, 0, none⟩ = some (.int .i64 ((rd_T43 l2 x12_1).f0)) := (blk_cell BK275.out 0).trans rfl; have hcz26_1 : w24.cell? ⟨gb275, 1, none⟩ = some (.slice A274_1 ((rd_T43 l2 x12_1).f1).length c274_1) := (blk_cell BK275.out 1).trans rfl; have hfz26_0 := blk_frozen BK275.out 0; have hfz26_1 := blk_frozen BK275.out 1) | ((with_reducible refine gate_callee (f := 39) rfl ?_); refine goesL_ (some 29) rfl rfl Try.func39 (by kernel_rfl) rfl #[.agg #[.slice Ao23 x269000_1.length co23, .int .i64 x269001_1], .int .i64 ((rd_T43 l2 x12_1).f0), .slice A274_1 ((rd_T43 l2 x12_1).f1).length c274_1] rfl X.M ?_; (with_reducible refine (impl_Places_behind.calls k1 _ _ x269000_1 x269001_1 ((rd_T43 l2 x12_1).f0) _ _ ((rd_T43 l2 x12_1).f1) t277 t280 _ ?side1 ?side2 ?side3 ?side4 A12.out).mono ?_); (case side1 => exact X.C (Kd.V_reads' HO_269000.out).2.2); (case side2 => exact (Kd.V_reads' HO_269000.out).2.1); (case side3 => exact X.C (Kd.C_below HR274_1.out HB.out)); (case side4 => exact HC274_1.out); rintro e w27 ⟨v278, rfl, ho0, hb⟩; refine ⟨_, rfl, ?_⟩; have n0_ := X.A (Kd.V_elder' (by (with_reducible repeat (first | apply Kd.V_alloc | apply Kd.V_drewN | apply Kd.V_drew)); exact HO_269000.out) (Kd.R_base ho0) hb); have n1_ := X.A (Kd.R_lower (Kd.R_newM (M := fun k_ => (w.heap.size ≤ k_)) ho0 (below_size X.G) (fun k_ h_ => h_)) (below_size X.G)); have n2_ := X.A (X.BB BK267 hb); have n3_ := X.A (X.BB BK268 hb); have n4_ := X.A (X.BB BK269 hb); have n5_ := X.A (blk_below (g := gb275) (o := .cells #[.int .i64 ((rd_T43 l2 x12_1).f0), .slice A274_1 ((rd_T43 l2 x12_1).f1).length c274_1] 43 (0, 0)) (X.B BK275) hb); have n6_ := X.A (below_step X.G hb); clear HO_269000 BK267 BK268 BK269 BK275 HB; have HO_269000 := n0_; have HO279 := n1_; have BK267 := n2_; have BK268 := n3_; have BK269 := n4_; have BK275 := n5_; have HB := n6_; clear n0_ n1_ n2_ n3_ n4_ n5_ n6_; (try clear hb); (try clear hb2); (try clear hk); (try clear hi); (try clear ho0); obtain ⟨Ao28, co28, eo28⟩ := Kd.R_slice HO279.out; subst eo28; have hcz29_0 : w27.cell? ⟨gb268, 0, none⟩ = some (.slice Ao23 x269000_1.length co23) := (blk_cell BK268.out 0).trans rfl; have hcz29_1 : w27.cell? ⟨gb268, 1, none⟩ = some (.int .i64 x269001_1) := (blk_cell BK268.out 1).trans rfl; have hfz29_0 := blk_frozen BK268.out 0; have hfz29_1 := blk_frozen BK268.out 1))
     go_roundg k1
     case measure => have := HK1.out; omega
     case rel => exact ⟨(wrap64 (x12_1 + 1)), (t277), (t280), (x270001_1), (.slice Ao28 t277.length co28), (by first | rfl | (simp; done) | (simp [*]; done)), H', ⟨by have := HK1.out; omega⟩, ⟨Kd.V_mono (ok := fun k_ => (w.heap.size ≤ k_) ∧ (k_ ≠ gb267 ∧ k_ ≠ gb268 ∧ k_ ≠ gb269)) (Kd.R_V (by (with_reducible repeat (first | apply Kd.R_alloc | apply Kd.R_drewN | apply Kd.R_drew)); exact Kd.R_mono (Kd.R_far (p := ⟨gb268, 1, none⟩) (Kd.R_far (p := ⟨gb268, 0, none⟩) (Kd.R_types (Kd.R_types (Kd.R_types (Kd.R_types HO279.out BK267.out (by decide)) BK268.out (by decide)) BK269.out (by decide)) BK268.out (by decide)) (fun _ hk => hk.2) (.slice Ao28 t277.length co28)) (fun _ hk => hk.2) (.int .i64 t280)) (fun _ hk => ⟨hk.1.1.1.1.1, ⟨hk.1.1.1.2, ⟨hk.1.1.2, hk.1.2⟩⟩⟩))) (fun k_ hk => by first | exact ⟨(.inr (hk.1)), hk.2⟩ | exact (.inr (hk)))⟩, ⟨by (with_reducible repeat (first | refine blk_drewN ?_ _ | refine blk_drew ?_ | refine blk_alloc ?_ _)); refine blk_far ?_ NB267_268.out _; (with_reducible repeat (first | refine blk_drewN ?_ _ | refine blk_drew ?_ | refine blk_alloc ?_ _)); refine blk_far ?_ NB267_268.out _; (with_reducible repeat (first | refine blk_drewN ?_ _ | refine blk_drew ?_ | refine blk_alloc ?_ _)); exact BK267.out⟩, ⟨by (with_reducible repeat (first | refine blk_drewN ?_ _ | refine blk_drew ?_ | refine blk_alloc ?_ _)); refine blk_put (cs := #[.slice Ao28 t277.length co28, .int .i64 x269001_1]) ?_ 1 _ rfl; (with_reducible repeat (first | refine blk_drewN ?_ _ | refine blk_drew ?_ | refine blk_alloc ?_ _)); refine blk_put (cs := #[.slice Ao23 x269000_1.length co23, .int .i64 x269001_1]) ?_ 0 _ rfl; (with_reducible repeat (first | refine blk_drewN ?_ _ | refine blk_drew ?_ | refine blk_alloc ?_ _)); exact BK268.out⟩, ⟨by (with_reducible repeat (first | refine blk_drewN ?_ _ | refine blk_drew ?_ | refine blk_alloc ?_ _)); refine blk_far ?_ NB269_268.out _; (with_reducible repeat (first | refine blk_drewN ?_ _ | refine blk_drew ?_ | refine blk_alloc ?_ _)); refine blk_far ?_ NB269_268.out _; (with_reducible repeat (first | refine blk_drewN ?_ _ | refine blk_drew ?_ | refine blk_alloc ?_ _)); exact BK269.out⟩, ⟨X.G⟩⟩
    ·replace c11 := Bool.eq_false_iff.mpr c11
     subst c11
     have H1 : (some (x269000_1, x269001_1, x12_1)) = some (r1, r2, r3) := by rw [if_neg (show ¬ (false = true) by decide)] at H; exact H
     clear H
     have H := H1
     clear H1
     simp only [Option.some.injEq, Prod.mk.injEq] at H
     obtain ⟨rfl, rfl, rfl⟩ := H
     have p274 : 0 ≤ (x12_1 : Int) := X.D
     have q274 : x12_1 < (l2.length : Int) := X.D
     obtain ⟨ad274, A274_1, c274_1, e274, hx274_0, hx274_1, hl274_1, hi274_1⟩ := at_T43 HR2.out x12_1 p274 q274
     cases e274
     replace hx274_0 := (HB.out.cell (World.block_lt_of_cell? w _ hx274_0)).trans hx274_0
     replace hx274_1 := (HB.out.cell (World.block_lt_of_cell? w _ hx274_1)).trans hx274_1
     have HR274_1 := X.A hi274_1
     have HC274_1 := X.A hl274_1
     clear hi274_1 hl274_1
     replace p274 := eq_true p274
     replace q274 := eq_true q274
     go_wp2_with (first | ((with_reducible refine gate_dst (N := 9) rfl ?_); refine box_event ?hg (N := 9) ?hd (cs := #[.int .i64 0, .slice none 0 0]) (t := 43) ?hr ?_; (case hd => rfl); (case hg => rfl); (case hr => exact X.R); intro gb275 hg w30 hbox hb; have n0_ := X.A (Kd.V_below (Kd.V_elderB (by (with_reducible repeat (first | apply Kd.V_alloc | apply Kd.V_drewN | apply Kd.V_drew)); exact HO_269000.out) gb275 (Nat.le_of_eq hg.symm)) hb); have n1_ := X.A (X.BB BK267 hb); have n2_ := X.A (X.BB BK268 hb); have n3_ := X.A (X.BB BK269 hb); have n4_ := X.A (below_step X.G hb); have n5_ := X.A (hbox); have n6_ := X.A ((by rw [hg]; exact (below_size X.G) : w.heap.size ≤ gb275)); have n7_ := X.A ((by rw [hg]; exact (below_size X.G) : w.heap.size ≤ gb275)); have n8_ := X.A (X.NL hg BK267); have n9_ := X.A (X.NG hg BK267); have n10_ := X.A (X.NL hg BK268); have n11_ := X.A (X.NG hg BK268); have n12_ := X.A (X.NL hg BK269); have n13_ := X.A (X.NG hg BK269); clear HO_269000 BK267 BK268 BK269 HB; have HO_269000 := n0_; have BK267 := n1_; have BK268 := n2_; have BK269 := n3_; have HB := n4_; have BK275 := n5_; have GW275 := n6_; have GE275 := n7_; have NB267_275 := n8_; have NB275_267 := n9_; have NB268_275 := n10_; have NB275_268 := n11_; have NB269_275 := n12_; have NB275_269 := n13_; clear n0_ n1_ n2_ n3_ n4_ n5_ n6_ n7_ n8_ n9_ n10_ n11_ n12_ n13_ hb hbox hg; have hnb31 := NB275_267.out; have hnc31 := NB267_275.out; have hnb32 := NB275_268.out; have hnc32 := NB268_275.out; have hnb33 := NB275_269.out; have hnc33 := NB269_275.out; have hcz34_0 : w30.cell? ⟨gb275, 0, none⟩ = some (.int .i64 0) := (blk_cell BK275.out 0).trans rfl; have hcz34_1 : w30.cell? ⟨gb275, 1, none⟩ = some (.slice none 0 0) := (blk_cell BK275.out 1).trans rfl; have hfz34_0 := blk_frozen BK275.out 0; have hfz34_1 := blk_frozen BK275.out 1; have hnb35 := NB267_268.out; have hnc35 := NB268_267.out; have hnb36 := NB267_269.out; have hnc36 := NB269_267.out; have hcz37_0 : w30.cell? ⟨gb267, 0, none⟩ = some (.int .i64 a0_0) := (blk_cell BK267.out 0).trans rfl; have hcz37_1 : w30.cell? ⟨gb267, 1, none⟩ = some (.int .i64 a0_1) := (blk_cell BK267.out 1).trans rfl; have hcz37_2 : w30.cell? ⟨gb267, 2, none⟩ = some (.int .i64 a0_2) := (blk_cell BK267.out 2).trans rfl; have hfz37_0 := blk_frozen BK267.out 0; have hfz37_1 := blk_frozen BK267.out 1; have hfz37_2 := blk_frozen BK267.out 2; have hnb38 := NB268_269.out; have hnc38 := NB269_268.out; have hcz39_0 : w30.cell? ⟨gb268, 0, none⟩ = some (u269000) := (blk_cell BK268.out 0).trans rfl; have hcz39_1 : w30.cell? ⟨gb268, 1, none⟩ = some (.int .i64 x269001_1) := (blk_cell BK268.out 1).trans rfl; have hfz39_0 := blk_frozen BK268.out 0; have hfz39_1 := blk_frozen BK268.out 1; obtain ⟨Ao40, co40, eo40⟩ := Kd.V_slice HO_269000.out; subst eo40) | ((with_reducible refine gate_callee (f := 38) rfl ?_); refine goesL_ (some 20) rfl rfl Try.func38 (by kernel_rfl) rfl #[.agg #[.int .i64 a0_0, .int .i64 a0_1, .int .i64 a0_2], .agg #[.slice Ao40 x269000_1.length co40, .int .i64 x269001_1], .agg #[.int .i64 ((rd_T43 l2 x12_1).f0), .slice A274_1 ((rd_T43 l2 x12_1).f1).length c274_1]] rfl X.M ?_; (with_reducible refine (impl_Isles_isVoyage.calls k1 a0_0 a0_1 a0_2 _ _ x269000_1 x269001_1 ((rd_T43 l2 x12_1).f0) _ _ ((rd_T43 l2 x12_1).f1) false _ ?side1 ?side2 ?side3 ?side4 A10.out).mono ?_); (case side1 => refine (Kd.V_reads' (e := 3) (base := w.heap.size) (ok := fun k_ => (((P1_0_ k_ ∨ w.heap.size ≤ k_) ∧ (k_ ≠ gb267 ∧ (k_ ≠ gb268 ∧ k_ ≠ gb269))) ∧ k_ ≠ gb275)) (n := x269000_1.length) (c := co40) ?_).2.2; exact (by (with_reducible repeat (first | apply Kd.V_alloc | apply Kd.V_drewN | apply Kd.V_drew)); exact (Kd.V_mono (Kd.V_far (p := ⟨gb275, 1, none⟩) (Kd.V_far (p := ⟨gb275, 0, none⟩) (Kd.V_mono HO_269000.out (fun k_ hk => (⟨hk, hk.2⟩ : _ ∧ k_ ≠ gb275))) (fun _ hk => hk.2) (.int .i64 ((rd_T43 l2 x12_1).f0))) (fun _ hk => hk.2) (.slice A274_1 ((rd_T43 l2 x12_1).f1).length c274_1)) (fun _ h_ => h_.1)))); (case side2 => exact (Kd.V_reads' HO_269000.out).2.1); (case side3 => exact Kd.C_below HR274_1.out X.G); (case side4 => exact HC274_1.out); rintro e w41 ⟨rfl, hb⟩; refine ⟨_, rfl, ?_⟩; have n0_ := X.A (Kd.V_below (by (with_reducible repeat (first | apply Kd.V_alloc | apply Kd.V_drewN | apply Kd.V_drew)); exact (Kd.V_mono (Kd.V_far (p := ⟨gb275, 1, none⟩) (Kd.V_far (p := ⟨gb275, 0, none⟩) (Kd.V_mono HO_269000.out (fun k_ hk => (⟨hk, hk.2⟩ : _ ∧ k_ ≠ gb275))) (fun _ hk => hk.2) (.int .i64 ((rd_T43 l2 x12_1).f0))) (fun _ hk => hk.2) (.slice A274_1 ((rd_T43 l2 x12_1).f1).length c274_1)) (fun _ h_ => h_.1))) hb); have n1_ := X.A (blk_below (g := gb267) (o := .cells #[.int .i64 a0_0, .int .i64 a0_1, .int .i64 a0_2] 29 (0, 0)) (by (with_reducible repeat (first | refine blk_drewN ?_ _ | refine blk_drew ?_ | refine blk_alloc ?_ _)); refine blk_far ?_ NB267_275.out _; (with_reducible repeat (first | refine blk_drewN ?_ _ | refine blk_drew ?_ | refine blk_alloc ?_ _)); refine blk_far ?_ NB267_275.out _; (with_reducible repeat (first | refine blk_drewN ?_ _ | refine blk_drew ?_ | refine blk_alloc ?_ _)); exact BK267.out) hb); have n2_ := X.A (blk_below (g := gb268) (o := .cells #[.slice Ao40 x269000_1.length co40, .int .i64 x269001_1] 41 (0, 0)) (by (with_reducible repeat (first | refine blk_drewN ?_ _ | refine blk_drew ?_ | refine blk_alloc ?_ _)); refine blk_far ?_ NB268_275.out _; (with_reducible repeat (first | refine blk_drewN ?_ _ | refine blk_drew ?_ | refine blk_alloc ?_ _)); refine blk_far ?_ NB268_275.out _; (with_reducible repeat (first | refine blk_drewN ?_ _ | refine blk_drew ?_ | refine blk_alloc ?_ _)); exact BK268.out) hb); have n3_ := X.A (blk_below (g := gb269) (o := .cells #[.slice none 0 0, .int .i64 x270001_1] 41 (0, 0)) (by (with_reducible repeat (first | refine blk_drewN ?_ _ | refine blk_drew ?_ | refine blk_alloc ?_ _)); refine blk_far ?_ NB269_275.out _; (with_reducible repeat (first | refine blk_drewN ?_ _ | refine blk_drew ?_ | refine blk_alloc ?_ _)); refine blk_far ?_ NB269_275.out _; (with_reducible repeat (first | refine blk_drewN ?_ _ | refine blk_drew ?_ | refine blk_alloc ?_ _)); exact BK269.out) hb); have n4_ := X.A (blk_below (g := gb275) (o := .cells #[.int .i64 ((rd_T43 l2 x12_1).f0), .slice A274_1 ((rd_T43 l2 x12_1).f1).length c274_1] 43 (0, 0)) (by (with_reducible repeat (first | refine blk_drewN ?_ _ | refine blk_drew ?_ | refine blk_alloc ?_ _)); refine blk_put (cs := #[.int .i64 ((rd_T43 l2 x12_1).f0), .slice none 0 0]) ?_ 1 _ rfl; (with_reducible repeat (first | refine blk_drewN ?_ _ | refine blk_drew ?_ | refine blk_alloc ?_ _)); refine blk_put (cs := #[.int .i64 0, .slice none 0 0]) ?_ 0 _ rfl; (with_reducible repeat (first | refine blk_drewN ?_ _ | refine blk_drew ?_ | refine blk_alloc ?_ _)); exact BK275.out) hb); have n5_ := X.A (below_step X.G hb); clear HO_269000 BK267 BK268 BK269 BK275 HB; have HO_269000 := n0_; have BK267 := n1_; have BK268 := n2_; have BK269 := n3_; have BK275 := n4_; have HB := n5_; clear n0_ n1_ n2_ n3_ n4_ n5_; (try clear hb); (try clear hb2); (try clear hk); (try clear hi); have hcz42_0 : w41.cell? ⟨gb268, 0, none⟩ = some (.slice Ao40 x269000_1.length co40) := (blk_cell BK268.out 0).trans rfl; have hcz42_1 : w41.cell? ⟨gb268, 1, none⟩ = some (.int .i64 x269001_1) := (blk_cell BK268.out 1).trans rfl; have hfz42_0 := blk_frozen BK268.out 0; have hfz42_1 := blk_frozen BK268.out 1; have hcz43_0 : w41.cell? ⟨gb269, 0, none⟩ = some (.slice none 0 0) := (blk_cell BK269.out 0).trans rfl; have hcz43_1 : w41.cell? ⟨gb269, 1, none⟩ = some (.int .i64 x270001_1) := (blk_cell BK269.out 1).trans rfl; have hfz43_0 := blk_frozen BK269.out 0; have hfz43_1 := blk_frozen BK269.out 1))
     refine bodyPost_ret (results_ct rfl _ _ gb269 41 #[.slice Ao40 x269000_1.length co40, .int .i64 x269001_1] (0, 0) _ rfl (by (with_reducible repeat (first | refine blk_drewN ?_ _ | refine blk_drew ?_ | refine blk_alloc ?_ _)); refine blk_put (cs := #[.slice Ao40 x269000_1.length co40, .int .i64 x270001_1]) ?_ 1 _ rfl; (with_reducible repeat (first | refine blk_drewN ?_ _ | refine blk_drew ?_ | refine blk_alloc ?_ _)); refine blk_put (cs := #[.slice none 0 0, .int .i64 x270001_1]) ?_ 0 _ rfl; (with_reducible repeat (first | refine blk_drewN ?_ _ | refine blk_drew ?_ | refine blk_alloc ?_ _)); exact BK269.out) Try.underlying41 rfl (by kernel_rfl)) rfl ?_
     exact ⟨_, by first | rfl | (simp [errW_none, errW_some] <;> rfl) | (simp [*, errW_none, errW_some] <;> rfl), by (with_reducible repeat (first | apply Kd.V_alloc | apply Kd.V_drewN | apply Kd.V_drew)); exact Kd.V_mono (Kd.V_far (p := ⟨gb269, 1, none⟩) (Kd.V_far (p := ⟨gb269, 0, none⟩) (Kd.V_mono HO_269000.out (fun k_ hk => (⟨hk, hk.1.2.2.2⟩ : _ ∧ k_ ≠ gb269))) (fun _ hk => hk.2) (.slice Ao40 x269000_1.length co40)) (fun _ hk => hk.2) (.int .i64 x269001_1)) (fun _ hk => hk.1.1.1), X.G⟩
   ·rw [if_neg c7] at H
    have c7b0 : decide (x12_1 < (l2.length : Int)) = false := decide_eq_false c7
    clear c7
    replace H := Option.bind_eq_some_iff.mp H
    obtain ⟨⟨t270, t273⟩, A440, H⟩ := H
    replace H : (some (t270, t273, (-1))) = some (r1, r2, r3) := H
    have A44 := X.A A440
    clear A440
    simp only [Option.some.injEq, Prod.mk.injEq] at H
    obtain ⟨rfl, rfl, rfl⟩ := H
    have hnb45 := NB268_267.out
    have hnc45 := NB267_268.out
    have hnb46 := NB268_269.out
    have hnc46 := NB269_268.out
    have hcz47_0 : wr.cell? ⟨gb268, 0, none⟩ = some (u269000) := (blk_cell BK268.out 0).trans rfl
    have hcz47_1 : wr.cell? ⟨gb268, 1, none⟩ = some (.int .i64 x269001_1) := (blk_cell BK268.out 1).trans rfl
    have hfz47_0 := blk_frozen BK268.out 0
    have hfz47_1 := blk_frozen BK268.out 1
    obtain ⟨Ao48, co48, eo48⟩ := Kd.V_slice HO_269000.out
    subst eo48
    go_wp2_with (first | ((with_reducible refine gate_callee (f := 39) rfl ?_); refine goesL_ (some 34) rfl rfl Try.func39 (by kernel_rfl) rfl #[.agg #[.slice Ao48 x269000_1.length co48, .int .i64 x269001_1], .int .i64 x269001_1, .slice none 0 0] rfl X.M ?_; (refine (impl_Places_behind.calls k1 _ _ x269000_1 x269001_1 x269001_1 _ _ ([] : List Int) t270 t273 _ ?side1 ?side2 ?side3 ?side4 A44.out).mono ?_); (case side1 => exact X.C (Kd.V_reads' HO_269000.out).2.2); (case side2 => exact (Kd.V_reads' HO_269000.out).2.1); (case side3 => exact Kd.C_nil _ _); (case side4 => exact Nat.le_refl _); rintro e w49 ⟨v271, rfl, ho0, hb⟩; refine ⟨_, rfl, ?_⟩; have n0_ := X.A (Kd.V_elder' (by (with_reducible repeat (first | apply Kd.V_alloc | apply Kd.V_drewN | apply Kd.V_drew)); exact HO_269000.out) (Kd.R_base ho0) hb); have n1_ := X.A (Kd.R_lower (Kd.R_newM (M := fun k_ => (w.heap.size ≤ k_)) ho0 (below_size X.G) (fun k_ h_ => h_)) (below_size X.G)); have n2_ := X.A (X.BB BK267 hb); have n3_ := X.A (X.BB BK268 hb); have n4_ := X.A (X.BB BK269 hb); have n5_ := X.A (below_step X.G hb); clear HO_269000 BK267 BK268 BK269 HB; have HO_269000 := n0_; have HO272 := n1_; have BK267 := n2_; have BK268 := n3_; have BK269 := n4_; have HB := n5_; clear n0_ n1_ n2_ n3_ n4_ n5_; (try clear hb); (try clear hb2); (try clear hk); (try clear hi); (try clear ho0); obtain ⟨Ao50, co50, eo50⟩ := Kd.R_slice HO272.out; subst eo50; have hnb51 := NB269_267.out; have hnc51 := NB267_269.out; have hcz52_0 : w49.cell? ⟨gb269, 0, none⟩ = some (.slice none 0 0) := (blk_cell BK269.out 0).trans rfl; have hcz52_1 : w49.cell? ⟨gb269, 1, none⟩ = some (.int .i64 x270001_1) := (blk_cell BK269.out 1).trans rfl; have hfz52_0 := blk_frozen BK269.out 0; have hfz52_1 := blk_frozen BK269.out 1))
    refine bodyPost_ret (results_ct rfl _ _ gb269 41 #[.slice Ao50 t270.length co50, .int .i64 t273] (0, 0) _ rfl (by (with_reducible repeat (first | refine blk_drewN ?_ _ | refine blk_drew ?_ | refine blk_alloc ?_ _)); refine blk_put (cs := #[.slice Ao50 t270.length co50, .int .i64 x270001_1]) ?_ 1 _ rfl; (with_reducible repeat (first | refine blk_drewN ?_ _ | refine blk_drew ?_ | refine blk_alloc ?_ _)); refine blk_put (cs := #[.slice none 0 0, .int .i64 x270001_1]) ?_ 0 _ rfl; (with_reducible repeat (first | refine blk_drewN ?_ _ | refine blk_drew ?_ | refine blk_alloc ?_ _)); exact BK269.out) Try.underlying41 rfl (by kernel_rfl)) rfl ?_
    exact ⟨_, by first | rfl | (simp [errW_none, errW_some] <;> rfl) | (simp [*, errW_none, errW_some] <;> rfl), Kd.V_mono (Kd.R_V (by (with_reducible repeat (first | apply Kd.R_alloc | apply Kd.R_drewN | apply Kd.R_drew)); exact Kd.R_mono (Kd.R_far (p := ⟨gb269, 1, none⟩) (Kd.R_far (p := ⟨gb269, 0, none⟩) (Kd.R_types HO272.out BK269.out (by decide)) (fun _ hk => hk.2) (.slice Ao50 t270.length co50)) (fun _ hk => hk.2) (.int .i64 t273)) (fun _ hk => hk.1.1))) (fun k_ hk => by first | exact ⟨(.inr (hk.1)), hk.2⟩ | exact (.inr (hk))), X.G⟩

/-! ### bits_Mul32: function 55 -/
def bits_Mul32.f (a0 : Int) (a1 : Int) : Option (Int × Int) := some (((IntKind.u64.wrap ((IntKind.u64.wrap (a0)) * (IntKind.u64.wrap (a1)))) / 4294967296) % 4294967296, (IntKind.u64.wrap ((IntKind.u64.wrap (a0)) * (IntKind.u64.wrap (a1)))) % 4294967296)
set_option maxHeartbeats 8000000 in
set_option maxRecDepth 100000 in
theorem bits_Mul32.calls (a0 : Int) (a1 : Int) (r1 : Int) (r2 : Int) (w : World) (h : bits_Mul32.f a0 a1 = some (r1, r2)) :
  Calls Try.prog 55 #[.int .u32 a0, .int .u32 a1] w fun e w' => e = .returned (.tuple #[.int .u32 r1, .int .u32 r2]) ∧ Drawn0 w w' := by
 have H : (some (((IntKind.u64.wrap ((IntKind.u64.wrap (a0)) * (IntKind.u64.wrap (a1)))) / 4294967296) % 4294967296, (IntKind.u64.wrap ((IntKind.u64.wrap (a0)) * (IntKind.u64.wrap (a1)))) % 4294967296)) = some (r1, r2) := h
 clear h
 simp only [Option.some.injEq, Prod.mk.injEq] at H
 obtain ⟨rfl, rfl⟩ := H
 go_enter Try.func55, Try.ntmps55
 go_wp2
 go_ret2
 exact ⟨by first | rfl | (simp; done) | (simp [*]; done), by repeat (first | exact Drawn0.refl _ | apply Drawn0.step)⟩

/-! ### bits_Mul64: function 56 -/
def bits_Mul64.f (a0 : Int) (a1 : Int) : Option (Int × Int) := some (IntKind.u64.wrap ((IntKind.u64.wrap ((IntKind.u64.wrap ((a0 / 4294967296) * (a1 / 4294967296))) + ((IntKind.u64.wrap ((IntKind.u64.wrap ((a0 / 4294967296) * (Go.bits .and .u64 a1 4294967295))) + ((IntKind.u64.wrap ((Go.bits .and .u64 a0 4294967295) * (Go.bits .and .u64 a1 4294967295))) / 4294967296))) / 4294967296))) + ((IntKind.u64.wrap ((Go.bits .and .u64 (IntKind.u64.wrap ((IntKind.u64.wrap ((a0 / 4294967296) * (Go.bits .and .u64 a1 4294967295))) + ((IntKind.u64.wrap ((Go.bits .and .u64 a0 4294967295) * (Go.bits .and .u64 a1 4294967295))) / 4294967296))) 4294967295) + (IntKind.u64.wrap ((Go.bits .and .u64 a0 4294967295) * (a1 / 4294967296))))) / 4294967296)), IntKind.u64.wrap (a0 * a1))
set_option maxHeartbeats 8000000 in
set_option maxRecDepth 100000 in
theorem bits_Mul64.calls (a0 : Int) (a1 : Int) (r1 : Int) (r2 : Int) (w : World) (h : bits_Mul64.f a0 a1 = some (r1, r2)) :
  Calls Try.prog 56 #[.int .u64 a0, .int .u64 a1] w fun e w' => e = .returned (.tuple #[.int .u64 r1, .int .u64 r2]) ∧ Drawn0 w w' := by
 have H : (some (IntKind.u64.wrap ((IntKind.u64.wrap ((IntKind.u64.wrap ((a0 / 4294967296) * (a1 / 4294967296))) + ((IntKind.u64.wrap ((IntKind.u64.wrap ((a0 / 4294967296) * (Go.bits .and .u64 a1 4294967295))) + ((IntKind.u64.wrap ((Go.bits .and .u64 a0 4294967295) * (Go.bits .and .u64 a1 4294967295))) / 4294967296))) / 4294967296))) + ((IntKind.u64.wrap ((Go.bits .and .u64 (IntKind.u64.wrap ((IntKind.u64.wrap ((a0 / 4294967296) * (Go.bits .and .u64 a1 4294967295))) + ((IntKind.u64.wrap ((Go.bits .and .u64 a0 4294967295) * (Go.bits .and .u64 a1 4294967295))) / 4294967296))) 4294967295) + (IntKind.u64.wrap ((Go.bits .and .u64 a0 4294967295) * (a1 / 4294967296))))) / 4294967296)), IntKind.u64.wrap (a0 * a1))) = some (r1, r2) := h
 clear h
 simp only [Option.some.injEq, Prod.mk.injEq] at H
 obtain ⟨rfl, rfl⟩ := H
 go_enter Try.func56, Try.ntmps56
 go_wp2
 go_ret2
 exact ⟨by first | rfl | (simp; done) | (simp [*]; done), by repeat (first | exact Drawn0.refl _ | apply Drawn0.step)⟩

/-! ### bits_Mul: function 49 -/
def bits_Mul.f (a0 : Int) (a1 : Int) : Option (Int × Int) := (bits_Mul64.f a0 a1).bind fun bt281 => (some (bt281.1, bt281.2))
set_option maxHeartbeats 8000000 in
set_option maxRecDepth 100000 in
theorem bits_Mul.calls (a0 : Int) (a1 : Int) (r1 : Int) (r2 : Int) (w : World) (h : bits_Mul.f a0 a1 = some (r1, r2)) :
  Calls Try.prog 49 #[.int .u64 a0, .int .u64 a1] w fun e w' => e = .returned (.tuple #[.int .u64 r1, .int .u64 r2]) ∧ Drawn0 w w' := by
 have H : ((bits_Mul64.f a0 a1).bind fun bt281 => (some (bt281.1, bt281.2))) = some (r1, r2) := h
 clear h
 replace H := Option.bind_eq_some_iff.mp H
 obtain ⟨⟨t281, t282⟩, A30, H⟩ := H
 replace H : (some (t281, t282)) = some (r1, r2) := H
 have A3 := X.A A30
 clear A30
 simp only [Option.some.injEq, Prod.mk.injEq] at H
 obtain ⟨rfl, rfl⟩ := H
 go_enter Try.func49, Try.ntmps49
 go_wp2_with (first | ((with_reducible refine gate_callee (f := 56) rfl ?_); refine goesL_ (some 25) rfl rfl Try.func56 (by kernel_rfl) rfl #[.int .u64 a0, .int .u64 a1] rfl X.M ?_; (with_reducible refine (bits_Mul64.calls a0 a1 t281 t282 _ A3.out).mono ?_); rintro e w' ⟨rfl, ⟨nd, rfl⟩⟩; refine ⟨_, rfl, ?_⟩))
 go_ret2
 exact ⟨by first | rfl | (simp; done) | (simp [*]; done), by repeat (first | exact Drawn0.refl _ | apply Drawn0.step)⟩

end Go.Proofs.Ytldeaeeolibpjag.Q
