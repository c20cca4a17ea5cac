-- by wip/xprint.py, a program of this session over the kit's print: not trusted, Lean checks it.
import Derived.Test.YtldeaeeolibpjaaXShort
import Derived.Test.YtldeaeeolibpjaaQx0
import Derived.Test.YtldeaeeolibpjaaQx1
import Derived.Test.YtldeaeeolibpjaaQx6
import Derived.Test.YtldeaeeolibpjaaQx21
import Derived.Test.YtldeaeeolibpjaaQx22
import Derived.Test.YtldeaeeolibpjaaQx23
import Derived.Test.YtldeaeeolibpjaaQx24
import Derived.Test.YtldeaeeolibpjaaXMark
namespace Go.Proofs.Ytldeaeeolibpjaa.Q
open Go.RowKit Go.Proofs.YtldeaeeolibpjaaW.PrintWords Go.Proofs.YtldeaeeolibpjaaW.PrintLast Go.Proofs.YtldeaeeolibpjaaW.PrintMore
attribute [local go_sem] max2_int min2_int max_two min_two max_three min_three max_four min_four   -- for this text's walks alone
set_option linter.unusedVariables false
set_option linter.unusedSimpArgs false

/-! ### laws_FnExactVoyagesOf: function 3 -/
-- IMPORT: Derived.Test.YtldeaeeolibpjaaXMark
def laws_FnExactVoyagesOf.f (k : Nat) (a0_0 : Int) (a0_1 : Int) (a0_2 : Int) (l1_0 : List Int) (a1_1 : Int) : Option (Bool) := (laws_szPlaces.f l1_0 a1_1 1048576).bind fun t298 => (if t298 < 0 then (some true) else ((laws_toIsles.f a0_0 a0_1 a0_2).bind fun bt299 => ((laws_toPlaces.f k l1_0 a1_1).bind fun bt302 => ((spec_VoyagesOf.f k bt299.1 bt299.2.1 bt299.2.2 bt302.1 bt302.2).bind fun bt306 => ((laws_toPlaces.f k l1_0 a1_1).bind fun bt310 => ((laws_toIsles.f a0_0 a0_1 a0_2).bind fun bt315 => ((impl_VoyagesOf.f k bt315.1 bt315.2.1 bt315.2.2 bt310.1 bt310.2).bind fun bt318 => ((laws_eqVoyageS.f k bt318.1 bt306.1).bind fun t322 => (if t322 = true then (if (bt318.2 != bt306.2) = true then (none) else ((laws_toPlaces.f k l1_0 a1_1).bind fun bt323 => ((laws_eqPlaces.f k bt310.1 bt310.2 bt323.1 bt323.2).bind fun t327 => (if t327 = true then ((laws_markPlaces.f k bt310.1 bt310.2 1).bind fun bt328 => (if bt328.1 < 0 then (none) else ((laws_eqVoyageS.f k bt318.1 bt306.1).bind fun t330 => (if t330 = true then ((laws_markVoyageS.f k bt318.1 1).bind fun bt331 => ((laws_heldVoyageS.f k bt331.2 1).bind fun t333 => (if t333 < 0 then (none) else (if t333 = bt331.1 then ((laws_toIsles.f a0_0 a0_1 a0_2).bind fun bt334 => ((laws_toPlaces.f k l1_0 a1_1).bind fun bt337 => ((impl_VoyagesOf.f k bt334.1 bt334.2.1 bt334.2.2 bt337.1 bt337.2).bind fun bt341 => ((laws_eqVoyageS.f k bt341.1 bt306.1).bind fun t345 => (if t345 = true then (if (bt341.2 != bt306.2) = true then (none) else ((laws_heldVoyageS.f k bt331.2 1).bind fun t346 => (if t346 < 0 then (none) else (if t346 = bt331.1 then (some true) else (none))))) else (none)))))) else (none))))) else (none))))) else (none))))) else (none))))))))))
theorem laws_FnExactVoyagesOf.mono : ∀ a0 a1 a2 a3 a4 k, LeO (laws_FnExactVoyagesOf.f k a0 a1 a2 a3 a4) (laws_FnExactVoyagesOf.f (k + 1) a0 a1 a2 a3 a4) := by
 intro a0 a1 a2 a3 a4 k
 unfold laws_FnExactVoyagesOf.f
 repeat' first
   | (with_reducible exact impl_VoyagesOf.mono _ _ _ _ _ _)
   | (with_reducible exact laws_eqPlaces.mono _ _ _ _ _)
   | (with_reducible exact laws_eqVoyageS.mono _ _ _)
   | (with_reducible exact laws_heldVoyageS.mono _ _ _)
   | (with_reducible exact laws_markPlaces.mono _ _ _ _)
   | (with_reducible exact laws_markVoyageS.mono _ _ _)
   | (with_reducible exact laws_toPlaces.mono _ _ _)
   | (with_reducible exact spec_VoyagesOf.mono _ _ _ _ _ _)
   | (with_reducible exact LeO.refl _)
   | (with_reducible exact LeO.none _)
   | (with_reducible refine LeO.ite ?_ ?_)
   | (with_reducible refine LeO.bind ?_ (fun _ => ?_))
def laws_FnExactVoyagesOf.T5 : Bool × List (List Nat × List Nat) := (true, [([], []), ([0], [0]), ([], []), ([2, 1], [2]), ([1, 3, 3], [1, 3]), ([4], [4]), ([5], [5]), ([5], [5]), ([6, 4, 0, 1, 2, 3, 4, 5, 6], [6]), ([7, 8, 0, 1, 2, 3, 4, 5, 6, 7, 8], [7])])
def laws_FnExactVoyagesOf.B5 : List Nat := [0, 1, 0, 7, 15, 31, 63, 63, 127, 511]
theorem laws_FnExactVoyagesOf.tab5 : rtab .any (opsOf Try.f3 5) = laws_FnExactVoyagesOf.T5 := by kernel_rfl
theorem laws_FnExactVoyagesOf.bits5 : waitsOk laws_FnExactVoyagesOf.T5.2 laws_FnExactVoyagesOf.B5 = true := by kernel_rfl
def laws_FnExactVoyagesOf.T7 : Bool × List (List Nat × List Nat) := (true, [([], []), ([0], [0]), ([], []), ([1, 2, 1], [1, 2]), ([3], [3]), ([4], [4]), ([4], [4]), ([5, 3, 0, 1, 2, 3, 4, 5], [5]), ([6, 7, 0, 1, 2, 3, 4, 5, 6, 7], [6])])
def laws_FnExactVoyagesOf.B7 : List Nat := [0, 1, 0, 7, 15, 31, 31, 63, 255]
theorem laws_FnExactVoyagesOf.tab7 : rtab .any (opsOf Try.f3 7) = laws_FnExactVoyagesOf.T7 := by kernel_rfl
theorem laws_FnExactVoyagesOf.bits7 : waitsOk laws_FnExactVoyagesOf.T7.2 laws_FnExactVoyagesOf.B7 = true := by kernel_rfl
def laws_FnExactVoyagesOf.T24 : Bool × List (List Nat × List Nat) := (true, [([], []), ([0], [0]), ([], []), ([2, 1], [2]), ([1, 3, 3], [1, 3]), ([4], [4]), ([5], [5]), ([5], [5]), ([6, 4, 0, 1, 2, 3, 4, 5, 6], [6]), ([7, 8, 0, 1, 2, 3, 4, 5, 6, 7, 8], [7])])
def laws_FnExactVoyagesOf.B24 : List Nat := [0, 1, 0, 7, 15, 31, 63, 63, 127, 511]
theorem laws_FnExactVoyagesOf.tab24 : rtab .any (opsOf Try.f3 24) = laws_FnExactVoyagesOf.T24 := by kernel_rfl
theorem laws_FnExactVoyagesOf.bits24 : waitsOk laws_FnExactVoyagesOf.T24.2 laws_FnExactVoyagesOf.B24 = true := by kernel_rfl
set_option maxHeartbeats 8000000 in
set_option maxRecDepth 100000 in
theorem laws_FnExactVoyagesOf.calls (k : Nat) (a0_0 : Int) (a0_1 : Int) (a0_2 : Int) (A1_0 : Option Addr) (c1_0 : Nat) (l1_0 : List Int) (a1_1 : Int) (r : Bool) (w : World) (hr1_0 : Kd.C (Kd.int .i64) w A1_0 l1_0.length l1_0) (hc1_0 : l1_0.length ≤ c1_0) (h : laws_FnExactVoyagesOf.f k a0_0 a0_1 a0_2 l1_0 a1_1 = some r) :
  Calls Try.prog 3 #[.agg #[.int .i64 a0_0, .int .i64 a0_1, .int .i64 a0_2], .agg #[.slice A1_0 l1_0.length c1_0, .int .i64 a1_1]] w fun e w' => e = .returned (.bool r) ∧ Below w.heap.size w w' := by
 have hu23 := Try.underlying23
 have hu26 := Try.underlying26
 have hu33 := Try.underlying33
 have HR1_0 := X.A hr1_0
 have HC1_0 := X.A hc1_0
 clear hr1_0 hc1_0
 have HB := X.A (Below.refl w.heap.size w)
 have H : ((laws_szPlaces.f l1_0 a1_1 1048576).bind fun t298 => (if t298 < 0 then (some true) else ((laws_toIsles.f a0_0 a0_1 a0_2).bind fun bt299 => ((laws_toPlaces.f k l1_0 a1_1).bind fun bt302 => ((spec_VoyagesOf.f k bt299.1 bt299.2.1 bt299.2.2 bt302.1 bt302.2).bind fun bt306 => ((laws_toPlaces.f k l1_0 a1_1).bind fun bt310 => ((laws_toIsles.f a0_0 a0_1 a0_2).bind fun bt315 => ((impl_VoyagesOf.f k bt315.1 bt315.2.1 bt315.2.2 bt310.1 bt310.2).bind fun bt318 => ((laws_eqVoyageS.f k bt318.1 bt306.1).bind fun t322 => (if t322 = true then (if (bt318.2 != bt306.2) = true then (none) else ((laws_toPlaces.f k l1_0 a1_1).bind fun bt323 => ((laws_eqPlaces.f k bt310.1 bt310.2 bt323.1 bt323.2).bind fun t327 => (if t327 = true then ((laws_markPlaces.f k bt310.1 bt310.2 1).bind fun bt328 => (if bt328.1 < 0 then (none) else ((laws_eqVoyageS.f k bt318.1 bt306.1).bind fun t330 => (if t330 = true then ((laws_markVoyageS.f k bt318.1 1).bind fun bt331 => ((laws_heldVoyageS.f k bt331.2 1).bind fun t333 => (if t333 < 0 then (none) else (if t333 = bt331.1 then ((laws_toIsles.f a0_0 a0_1 a0_2).bind fun bt334 => ((laws_toPlaces.f k l1_0 a1_1).bind fun bt337 => ((impl_VoyagesOf.f k bt334.1 bt334.2.1 bt334.2.2 bt337.1 bt337.2).bind fun bt341 => ((laws_eqVoyageS.f k bt341.1 bt306.1).bind fun t345 => (if t345 = true then (if (bt341.2 != bt306.2) = true then (none) else ((laws_heldVoyageS.f k bt331.2 1).bind fun t346 => (if t346 < 0 then (none) else (if t346 = bt331.1 then (some true) else (none))))) else (none)))))) else (none))))) else (none))))) else (none))))) else (none))))))))))) = some r := h
 clear h
 replace H := Option.bind_eq_some_iff.mp H
 obtain ⟨t298, A30, H⟩ := H
 replace H : (if t298 < 0 then (some true) else ((laws_toIsles.f a0_0 a0_1 a0_2).bind fun bt299 => ((laws_toPlaces.f k l1_0 a1_1).bind fun bt302 => ((spec_VoyagesOf.f k bt299.1 bt299.2.1 bt299.2.2 bt302.1 bt302.2).bind fun bt306 => ((laws_toPlaces.f k l1_0 a1_1).bind fun bt310 => ((laws_toIsles.f a0_0 a0_1 a0_2).bind fun bt315 => ((impl_VoyagesOf.f k bt315.1 bt315.2.1 bt315.2.2 bt310.1 bt310.2).bind fun bt318 => ((laws_eqVoyageS.f k bt318.1 bt306.1).bind fun t322 => (if t322 = true then (if (bt318.2 != bt306.2) = true then (none) else ((laws_toPlaces.f k l1_0 a1_1).bind fun bt323 => ((laws_eqPlaces.f k bt310.1 bt310.2 bt323.1 bt323.2).bind fun t327 => (if t327 = true then ((laws_markPlaces.f k bt310.1 bt310.2 1).bind fun bt328 => (if bt328.1 < 0 then (none) else ((laws_eqVoyageS.f k bt318.1 bt306.1).bind fun t330 => (if t330 = true then ((laws_markVoyageS.f k bt318.1 1).bind fun bt331 => ((laws_heldVoyageS.f k bt331.2 1).bind fun t333 => (if t333 < 0 then (none) else (if t333 = bt331.1 then ((laws_toIsles.f a0_0 a0_1 a0_2).bind fun bt334 => ((laws_toPlaces.f k l1_0 a1_1).bind fun bt337 => ((impl_VoyagesOf.f k bt334.1 bt334.2.1 bt334.2.2 bt337.1 bt337.2).bind fun bt341 => ((laws_eqVoyageS.f k bt341.1 bt306.1).bind fun t345 => (if t345 = true then (if (bt341.2 != bt306.2) = true then (none) else ((laws_heldVoyageS.f k bt331.2 1).bind fun t346 => (if t346 < 0 then (none) else (if t346 = bt331.1 then (some true) else (none))))) else (none)))))) else (none))))) else (none))))) else (none))))) else (none)))))))))) = some r := H
 have A3 := X.A A30
 clear A30
 by_cases c4 : t298 < 0
 ·rw [if_pos c4] at H
  have c4b0 : decide (t298 < 0) = true := decide_eq_true c4
  clear c4
  obtain rfl := Option.some.inj H
  go_enter Try.func3, Try.ntmps3
  go_wp2_with (first | ((with_reducible refine gate_dst (N := 2) rfl ?_); refine box_event ?hg (N := 2) ?hd (cs := #[.int .i64 a0_0, .int .i64 a0_1, .int .i64 a0_2]) (t := 23) ?hr ?_; (case hd => rfl); (case hg => rfl); (case hr => exact X.R); intro gb296 hg w5 hbox hb; have n0_ := X.A (below_step X.G hb); have n1_ := X.A (hbox); have n2_ := X.A ((by rw [hg]; exact (below_size X.G) : w.heap.size ≤ gb296)); have n3_ := X.A ((by rw [hg]; exact (below_size X.G) : w.heap.size ≤ gb296)); clear HB; have HB := n0_; have BK296 := n1_; have GW296 := n2_; have GE296 := n3_; clear n0_ n1_ n2_ n3_; clear hb hbox hg) | ((with_reducible refine gate_dst (N := 3) rfl ?_); refine box_event ?hg (N := 3) ?hd (cs := #[.slice A1_0 l1_0.length c1_0, .int .i64 a1_1]) (t := 26) ?hr ?_; (case hd => rfl); (case hg => rfl); (case hr => exact X.R); intro gb297 hg w6 hbox hb; have n0_ := X.A (X.BB BK296 hb); have n1_ := X.A (below_step X.G hb); have n2_ := X.A (hbox); have n3_ := X.A ((by rw [hg]; exact (below_size X.G) : w.heap.size ≤ gb297)); have n4_ := X.A ((by rw [hg]; exact (below_size X.G) : w.heap.size ≤ gb297)); have n5_ := X.A (X.NL hg BK296); have n6_ := X.A (X.NG hg BK296); clear BK296 HB; have BK296 := n0_; have HB := n1_; have BK297 := n2_; have GW297 := n3_; have GE297 := n4_; have NB296_297 := n5_; have NB297_296 := n6_; clear n0_ n1_ n2_ n3_ n4_ n5_ n6_ hb hbox hg; have hnb7 := NB297_296.out; have hnc7 := NB296_297.out; have hcz8_0 : w6.cell? ⟨gb297, 0, none⟩ = some (.slice A1_0 l1_0.length c1_0) := (blk_cell BK297.out 0).trans rfl; have hcz8_1 : w6.cell? ⟨gb297, 1, none⟩ = some (.int .i64 a1_1) := (blk_cell BK297.out 1).trans rfl; have hfz8_0 := blk_frozen BK297.out 0; have hfz8_1 := blk_frozen BK297.out 1) | ((with_reducible refine gate_callee (f := 4) rfl ?_); refine goesL_ (some 18) rfl rfl Try.func4 (by kernel_rfl) rfl #[.agg #[.slice A1_0 l1_0.length c1_0, .int .i64 a1_1], .int .i64 1048576] rfl X.M ?_; (with_reducible refine (laws_szPlaces.calls _ _ l1_0 a1_1 1048576 t298 _ ?side1 ?side2 A3.out).mono ?_); (case side1 => exact X.C (Kd.C_below HR1_0.out HB.out)); (case side2 => exact HC1_0.out); rintro e w9 ⟨rfl, hb⟩; refine ⟨_, rfl, ?_⟩; have n0_ := X.A (X.BB BK296 hb); have n1_ := X.A (X.BB BK297 hb); have n2_ := X.A (below_step X.G hb); clear BK296 BK297 HB; have BK296 := n0_; have BK297 := n1_; have HB := n2_; clear n0_ n1_ n2_; (try clear hb); (try clear hb2); (try clear hk); (try clear hi)))
  go_ret
  exact ⟨by first | rfl | (simp [errW_none, errW_some] <;> rfl) | (simp [*, errW_none, errW_some] <;> rfl), X.G⟩
 ·rw [if_neg c4] at H
  have c4b0 : decide (t298 < 0) = false := decide_eq_false c4
  clear c4
  replace H := Option.bind_eq_some_iff.mp H
  obtain ⟨⟨t299, t300, t301⟩, A100, H⟩ := H
  replace H : ((laws_toPlaces.f k l1_0 a1_1).bind fun bt302 => ((spec_VoyagesOf.f k t299 t300 t301 bt302.1 bt302.2).bind fun bt306 => ((laws_toPlaces.f k l1_0 a1_1).bind fun bt310 => ((laws_toIsles.f a0_0 a0_1 a0_2).bind fun bt315 => ((impl_VoyagesOf.f k bt315.1 bt315.2.1 bt315.2.2 bt310.1 bt310.2).bind fun bt318 => ((laws_eqVoyageS.f k bt318.1 bt306.1).bind fun t322 => (if t322 = true then (if (bt318.2 != bt306.2) = true then (none) else ((laws_toPlaces.f k l1_0 a1_1).bind fun bt323 => ((laws_eqPlaces.f k bt310.1 bt310.2 bt323.1 bt323.2).bind fun t327 => (if t327 = true then ((laws_markPlaces.f k bt310.1 bt310.2 1).bind fun bt328 => (if bt328.1 < 0 then (none) else ((laws_eqVoyageS.f k bt318.1 bt306.1).bind fun t330 => (if t330 = true then ((laws_markVoyageS.f k bt318.1 1).bind fun bt331 => ((laws_heldVoyageS.f k bt331.2 1).bind fun t333 => (if t333 < 0 then (none) else (if t333 = bt331.1 then ((laws_toIsles.f a0_0 a0_1 a0_2).bind fun bt334 => ((laws_toPlaces.f k l1_0 a1_1).bind fun bt337 => ((impl_VoyagesOf.f k bt334.1 bt334.2.1 bt334.2.2 bt337.1 bt337.2).bind fun bt341 => ((laws_eqVoyageS.f k bt341.1 bt306.1).bind fun t345 => (if t345 = true then (if (bt341.2 != bt306.2) = true then (none) else ((laws_heldVoyageS.f k bt331.2 1).bind fun t346 => (if t346 < 0 then (none) else (if t346 = bt331.1 then (some true) else (none))))) else (none)))))) else (none))))) else (none))))) else (none))))) else (none)))))))) = some r := H
  have A10 := X.A A100
  clear A100
  replace H := Option.bind_eq_some_iff.mp H
  obtain ⟨⟨t302, t305⟩, A110, H⟩ := H
  replace H : ((spec_VoyagesOf.f k t299 t300 t301 t302 t305).bind fun bt306 => ((laws_toPlaces.f k l1_0 a1_1).bind fun bt310 => ((laws_toIsles.f a0_0 a0_1 a0_2).bind fun bt315 => ((impl_VoyagesOf.f k bt315.1 bt315.2.1 bt315.2.2 bt310.1 bt310.2).bind fun bt318 => ((laws_eqVoyageS.f k bt318.1 bt306.1).bind fun t322 => (if t322 = true then (if (bt318.2 != bt306.2) = true then (none) else ((laws_toPlaces.f k l1_0 a1_1).bind fun bt323 => ((laws_eqPlaces.f k bt310.1 bt310.2 bt323.1 bt323.2).bind fun t327 => (if t327 = true then ((laws_markPlaces.f k bt310.1 bt310.2 1).bind fun bt328 => (if bt328.1 < 0 then (none) else ((laws_eqVoyageS.f k bt318.1 bt306.1).bind fun t330 => (if t330 = true then ((laws_markVoyageS.f k bt318.1 1).bind fun bt331 => ((laws_heldVoyageS.f k bt331.2 1).bind fun t333 => (if t333 < 0 then (none) else (if t333 = bt331.1 then ((laws_toIsles.f a0_0 a0_1 a0_2).bind fun bt334 => ((laws_toPlaces.f k l1_0 a1_1).bind fun bt337 => ((impl_VoyagesOf.f k bt334.1 bt334.2.1 bt334.2.2 bt337.1 bt337.2).bind fun bt341 => ((laws_eqVoyageS.f k bt341.1 bt306.1).bind fun t345 => (if t345 = true then (if (bt341.2 != bt306.2) = true then (none) else ((laws_heldVoyageS.f k bt331.2 1).bind fun t346 => (if t346 < 0 then (none) else (if t346 = bt331.1 then (some true) else (none))))) else (none)))))) else (none))))) else (none))))) else (none))))) else (none))))))) = some r := H
  have A11 := X.A A110
  clear A110
  replace H := Option.bind_eq_some_iff.mp H
  obtain ⟨⟨t306, t309⟩, A120, H⟩ := H
  replace H : ((laws_toPlaces.f k l1_0 a1_1).bind fun bt310 => ((laws_toIsles.f a0_0 a0_1 a0_2).bind fun bt315 => ((impl_VoyagesOf.f k bt315.1 bt315.2.1 bt315.2.2 bt310.1 bt310.2).bind fun bt318 => ((laws_eqVoyageS.f k bt318.1 t306).bind fun t322 => (if t322 = true then (if (bt318.2 != t309) = true then (none) else ((laws_toPlaces.f k l1_0 a1_1).bind fun bt323 => ((laws_eqPlaces.f k bt310.1 bt310.2 bt323.1 bt323.2).bind fun t327 => (if t327 = true then ((laws_markPlaces.f k bt310.1 bt310.2 1).bind fun bt328 => (if bt328.1 < 0 then (none) else ((laws_eqVoyageS.f k bt318.1 t306).bind fun t330 => (if t330 = true then ((laws_markVoyageS.f k bt318.1 1).bind fun bt331 => ((laws_heldVoyageS.f k bt331.2 1).bind fun t333 => (if t333 < 0 then (none) else (if t333 = bt331.1 then ((laws_toIsles.f a0_0 a0_1 a0_2).bind fun bt334 => ((laws_toPlaces.f k l1_0 a1_1).bind fun bt337 => ((impl_VoyagesOf.f k bt334.1 bt334.2.1 bt334.2.2 bt337.1 bt337.2).bind fun bt341 => ((laws_eqVoyageS.f k bt341.1 t306).bind fun t345 => (if t345 = true then (if (bt341.2 != t309) = true then (none) else ((laws_heldVoyageS.f k bt331.2 1).bind fun t346 => (if t346 < 0 then (none) else (if t346 = bt331.1 then (some true) else (none))))) else (none)))))) else (none))))) else (none))))) else (none))))) else (none)))))) = some r := H
  have A12 := X.A A120
  clear A120
  replace H := Option.bind_eq_some_iff.mp H
  obtain ⟨⟨t310, t313⟩, A130, H⟩ := H
  replace H : ((laws_toIsles.f a0_0 a0_1 a0_2).bind fun bt315 => ((impl_VoyagesOf.f k bt315.1 bt315.2.1 bt315.2.2 t310 t313).bind fun bt318 => ((laws_eqVoyageS.f k bt318.1 t306).bind fun t322 => (if t322 = true then (if (bt318.2 != t309) = true then (none) else ((laws_toPlaces.f k l1_0 a1_1).bind fun bt323 => ((laws_eqPlaces.f k t310 t313 bt323.1 bt323.2).bind fun t327 => (if t327 = true then ((laws_markPlaces.f k t310 t313 1).bind fun bt328 => (if bt328.1 < 0 then (none) else ((laws_eqVoyageS.f k bt318.1 t306).bind fun t330 => (if t330 = true then ((laws_markVoyageS.f k bt318.1 1).bind fun bt331 => ((laws_heldVoyageS.f k bt331.2 1).bind fun t333 => (if t333 < 0 then (none) else (if t333 = bt331.1 then ((laws_toIsles.f a0_0 a0_1 a0_2).bind fun bt334 => ((laws_toPlaces.f k l1_0 a1_1).bind fun bt337 => ((impl_VoyagesOf.f k bt334.1 bt334.2.1 bt334.2.2 bt337.1 bt337.2).bind fun bt341 => ((laws_eqVoyageS.f k bt341.1 t306).bind fun t345 => (if t345 = true then (if (bt341.2 != t309) = true then (none) else ((laws_heldVoyageS.f k bt331.2 1).bind fun t346 => (if t346 < 0 then (none) else (if t346 = bt331.1 then (some true) else (none))))) else (none)))))) else (none))))) else (none))))) else (none))))) else (none))))) = some r := H
  have A13 := X.A A130
  clear A130
  replace H := Option.bind_eq_some_iff.mp H
  obtain ⟨⟨t315, t316, t317⟩, A140, H⟩ := H
  replace H : ((impl_VoyagesOf.f k t315 t316 t317 t310 t313).bind fun bt318 => ((laws_eqVoyageS.f k bt318.1 t306).bind fun t322 => (if t322 = true then (if (bt318.2 != t309) = true then (none) else ((laws_toPlaces.f k l1_0 a1_1).bind fun bt323 => ((laws_eqPlaces.f k t310 t313 bt323.1 bt323.2).bind fun t327 => (if t327 = true then ((laws_markPlaces.f k t310 t313 1).bind fun bt328 => (if bt328.1 < 0 then (none) else ((laws_eqVoyageS.f k bt318.1 t306).bind fun t330 => (if t330 = true then ((laws_markVoyageS.f k bt318.1 1).bind fun bt331 => ((laws_heldVoyageS.f k bt331.2 1).bind fun t333 => (if t333 < 0 then (none) else (if t333 = bt331.1 then ((laws_toIsles.f a0_0 a0_1 a0_2).bind fun bt334 => ((laws_toPlaces.f k l1_0 a1_1).bind fun bt337 => ((impl_VoyagesOf.f k bt334.1 bt334.2.1 bt334.2.2 bt337.1 bt337.2).bind fun bt341 => ((laws_eqVoyageS.f k bt341.1 t306).bind fun t345 => (if t345 = true then (if (bt341.2 != t309) = true then (none) else ((laws_heldVoyageS.f k bt331.2 1).bind fun t346 => (if t346 < 0 then (none) else (if t346 = bt331.1 then (some true) else (none))))) else (none)))))) else (none))))) else (none))))) else (none))))) else (none)))) = some r := H
  have A14 := X.A A140
  clear A140
  replace H := Option.bind_eq_some_iff.mp H
  obtain ⟨⟨t318, t321⟩, A150, H⟩ := H
  replace H : ((laws_eqVoyageS.f k t318 t306).bind fun t322 => (if t322 = true then (if (t321 != t309) = true then (none) else ((laws_toPlaces.f k l1_0 a1_1).bind fun bt323 => ((laws_eqPlaces.f k t310 t313 bt323.1 bt323.2).bind fun t327 => (if t327 = true then ((laws_markPlaces.f k t310 t313 1).bind fun bt328 => (if bt328.1 < 0 then (none) else ((laws_eqVoyageS.f k t318 t306).bind fun t330 => (if t330 = true then ((laws_markVoyageS.f k t318 1).bind fun bt331 => ((laws_heldVoyageS.f k bt331.2 1).bind fun t333 => (if t333 < 0 then (none) else (if t333 = bt331.1 then ((laws_toIsles.f a0_0 a0_1 a0_2).bind fun bt334 => ((laws_toPlaces.f k l1_0 a1_1).bind fun bt337 => ((impl_VoyagesOf.f k bt334.1 bt334.2.1 bt334.2.2 bt337.1 bt337.2).bind fun bt341 => ((laws_eqVoyageS.f k bt341.1 t306).bind fun t345 => (if t345 = true then (if (bt341.2 != t309) = true then (none) else ((laws_heldVoyageS.f k bt331.2 1).bind fun t346 => (if t346 < 0 then (none) else (if t346 = bt331.1 then (some true) else (none))))) else (none)))))) else (none))))) else (none))))) else (none))))) else (none))) = some r := H
  have A15 := X.A A150
  clear A150
  replace H := Option.bind_eq_some_iff.mp H
  obtain ⟨t322, A160, H⟩ := H
  replace H : (if t322 = true then (if (t321 != t309) = true then (none) else ((laws_toPlaces.f k l1_0 a1_1).bind fun bt323 => ((laws_eqPlaces.f k t310 t313 bt323.1 bt323.2).bind fun t327 => (if t327 = true then ((laws_markPlaces.f k t310 t313 1).bind fun bt328 => (if bt328.1 < 0 then (none) else ((laws_eqVoyageS.f k t318 t306).bind fun t330 => (if t330 = true then ((laws_markVoyageS.f k t318 1).bind fun bt331 => ((laws_heldVoyageS.f k bt331.2 1).bind fun t333 => (if t333 < 0 then (none) else (if t333 = bt331.1 then ((laws_toIsles.f a0_0 a0_1 a0_2).bind fun bt334 => ((laws_toPlaces.f k l1_0 a1_1).bind fun bt337 => ((impl_VoyagesOf.f k bt334.1 bt334.2.1 bt334.2.2 bt337.1 bt337.2).bind fun bt341 => ((laws_eqVoyageS.f k bt341.1 t306).bind fun t345 => (if t345 = true then (if (bt341.2 != t309) = true then (none) else ((laws_heldVoyageS.f k bt331.2 1).bind fun t346 => (if t346 < 0 then (none) else (if t346 = bt331.1 then (some true) else (none))))) else (none)))))) else (none))))) else (none))))) else (none))))) else (none)) = some r := H
  have A16 := X.A A160
  clear A160
  by_cases c17 : t322 = true
  rotate_left
  ·replace c17 := Bool.eq_false_iff.mpr c17
   subst c17
   have H1 : (none) = some r := by rw [if_neg (show ¬ (false = true) by decide)] at H; exact H
   clear H
   have H := H1
   clear H1
   exact absurd H (by simp)
  subst c17
  have H1 : (if (t321 != t309) = true then (none) else ((laws_toPlaces.f k l1_0 a1_1).bind fun bt323 => ((laws_eqPlaces.f k t310 t313 bt323.1 bt323.2).bind fun t327 => (if t327 = true then ((laws_markPlaces.f k t310 t313 1).bind fun bt328 => (if bt328.1 < 0 then (none) else ((laws_eqVoyageS.f k t318 t306).bind fun t330 => (if t330 = true then ((laws_markVoyageS.f k t318 1).bind fun bt331 => ((laws_heldVoyageS.f k bt331.2 1).bind fun t333 => (if t333 < 0 then (none) else (if t333 = bt331.1 then ((laws_toIsles.f a0_0 a0_1 a0_2).bind fun bt334 => ((laws_toPlaces.f k l1_0 a1_1).bind fun bt337 => ((impl_VoyagesOf.f k bt334.1 bt334.2.1 bt334.2.2 bt337.1 bt337.2).bind fun bt341 => ((laws_eqVoyageS.f k bt341.1 t306).bind fun t345 => (if t345 = true then (if (bt341.2 != t309) = true then (none) else ((laws_heldVoyageS.f k bt331.2 1).bind fun t346 => (if t346 < 0 then (none) else (if t346 = bt331.1 then (some true) else (none))))) else (none)))))) else (none))))) else (none))))) else (none))))) = some r := by rw [if_pos rfl] at H; exact H
  clear H
  have H := H1
  clear H1
  by_cases c18 : (t321 != t309) = true
  ·rw [if_pos c18] at H
   exact absurd H (by simp)
  ·rw [if_neg c18] at H
   have c18b0 : (t321 != t309) = false := by simpa using c18
   (try (have c18b1 : decide (t321 = t309) = true := by simpa using c18))
   (try (have c18b2 : (t321 == t309) = true := by simpa using c18))
   clear c18
   replace H := Option.bind_eq_some_iff.mp H
   obtain ⟨⟨t323, t326⟩, A190, H⟩ := H
   replace H : ((laws_eqPlaces.f k t310 t313 t323 t326).bind fun t327 => (if t327 = true then ((laws_markPlaces.f k t310 t313 1).bind fun bt328 => (if bt328.1 < 0 then (none) else ((laws_eqVoyageS.f k t318 t306).bind fun t330 => (if t330 = true then ((laws_markVoyageS.f k t318 1).bind fun bt331 => ((laws_heldVoyageS.f k bt331.2 1).bind fun t333 => (if t333 < 0 then (none) else (if t333 = bt331.1 then ((laws_toIsles.f a0_0 a0_1 a0_2).bind fun bt334 => ((laws_toPlaces.f k l1_0 a1_1).bind fun bt337 => ((impl_VoyagesOf.f k bt334.1 bt334.2.1 bt334.2.2 bt337.1 bt337.2).bind fun bt341 => ((laws_eqVoyageS.f k bt341.1 t306).bind fun t345 => (if t345 = true then (if (bt341.2 != t309) = true then (none) else ((laws_heldVoyageS.f k bt331.2 1).bind fun t346 => (if t346 < 0 then (none) else (if t346 = bt331.1 then (some true) else (none))))) else (none)))))) else (none))))) else (none))))) else (none))) = some r := H
   have A19 := X.A A190
   clear A190
   replace H := Option.bind_eq_some_iff.mp H
   obtain ⟨t327, A200, H⟩ := H
   replace H : (if t327 = true then ((laws_markPlaces.f k t310 t313 1).bind fun bt328 => (if bt328.1 < 0 then (none) else ((laws_eqVoyageS.f k t318 t306).bind fun t330 => (if t330 = true then ((laws_markVoyageS.f k t318 1).bind fun bt331 => ((laws_heldVoyageS.f k bt331.2 1).bind fun t333 => (if t333 < 0 then (none) else (if t333 = bt331.1 then ((laws_toIsles.f a0_0 a0_1 a0_2).bind fun bt334 => ((laws_toPlaces.f k l1_0 a1_1).bind fun bt337 => ((impl_VoyagesOf.f k bt334.1 bt334.2.1 bt334.2.2 bt337.1 bt337.2).bind fun bt341 => ((laws_eqVoyageS.f k bt341.1 t306).bind fun t345 => (if t345 = true then (if (bt341.2 != t309) = true then (none) else ((laws_heldVoyageS.f k bt331.2 1).bind fun t346 => (if t346 < 0 then (none) else (if t346 = bt331.1 then (some true) else (none))))) else (none)))))) else (none))))) else (none))))) else (none)) = some r := H
   have A20 := X.A A200
   clear A200
   by_cases c21 : t327 = true
   rotate_left
   ·replace c21 := Bool.eq_false_iff.mpr c21
    subst c21
    have H1 : (none) = some r := by rw [if_neg (show ¬ (false = true) by decide)] at H; exact H
    clear H
    have H := H1
    clear H1
    exact absurd H (by simp)
   subst c21
   have H1 : ((laws_markPlaces.f k t310 t313 1).bind fun bt328 => (if bt328.1 < 0 then (none) else ((laws_eqVoyageS.f k t318 t306).bind fun t330 => (if t330 = true then ((laws_markVoyageS.f k t318 1).bind fun bt331 => ((laws_heldVoyageS.f k bt331.2 1).bind fun t333 => (if t333 < 0 then (none) else (if t333 = bt331.1 then ((laws_toIsles.f a0_0 a0_1 a0_2).bind fun bt334 => ((laws_toPlaces.f k l1_0 a1_1).bind fun bt337 => ((impl_VoyagesOf.f k bt334.1 bt334.2.1 bt334.2.2 bt337.1 bt337.2).bind fun bt341 => ((laws_eqVoyageS.f k bt341.1 t306).bind fun t345 => (if t345 = true then (if (bt341.2 != t309) = true then (none) else ((laws_heldVoyageS.f k bt331.2 1).bind fun t346 => (if t346 < 0 then (none) else (if t346 = bt331.1 then (some true) else (none))))) else (none)))))) else (none))))) else (none))))) = some r := by rw [if_pos rfl] at H; exact H
   clear H
   have H := H1
   clear H1
   replace H := Option.bind_eq_some_iff.mp H
   obtain ⟨⟨t328, t329⟩, A220, H⟩ := H
   replace H : (if t328 < 0 then (none) else ((laws_eqVoyageS.f k t318 t306).bind fun t330 => (if t330 = true then ((laws_markVoyageS.f k t318 1).bind fun bt331 => ((laws_heldVoyageS.f k bt331.2 1).bind fun t333 => (if t333 < 0 then (none) else (if t333 = bt331.1 then ((laws_toIsles.f a0_0 a0_1 a0_2).bind fun bt334 => ((laws_toPlaces.f k l1_0 a1_1).bind fun bt337 => ((impl_VoyagesOf.f k bt334.1 bt334.2.1 bt334.2.2 bt337.1 bt337.2).bind fun bt341 => ((laws_eqVoyageS.f k bt341.1 t306).bind fun t345 => (if t345 = true then (if (bt341.2 != t309) = true then (none) else ((laws_heldVoyageS.f k bt331.2 1).bind fun t346 => (if t346 < 0 then (none) else (if t346 = bt331.1 then (some true) else (none))))) else (none)))))) else (none))))) else (none)))) = some r := H
   have A22 := X.A A220
   clear A220
   by_cases c23 : t328 < 0
   ·rw [if_pos c23] at H
    exact absurd H (by simp)
   ·rw [if_neg c23] at H
    have c23b0 : decide (t328 < 0) = false := decide_eq_false c23
    clear c23
    replace H := Option.bind_eq_some_iff.mp H
    obtain ⟨t330, A240, H⟩ := H
    replace H : (if t330 = true then ((laws_markVoyageS.f k t318 1).bind fun bt331 => ((laws_heldVoyageS.f k bt331.2 1).bind fun t333 => (if t333 < 0 then (none) else (if t333 = bt331.1 then ((laws_toIsles.f a0_0 a0_1 a0_2).bind fun bt334 => ((laws_toPlaces.f k l1_0 a1_1).bind fun bt337 => ((impl_VoyagesOf.f k bt334.1 bt334.2.1 bt334.2.2 bt337.1 bt337.2).bind fun bt341 => ((laws_eqVoyageS.f k bt341.1 t306).bind fun t345 => (if t345 = true then (if (bt341.2 != t309) = true then (none) else ((laws_heldVoyageS.f k bt331.2 1).bind fun t346 => (if t346 < 0 then (none) else (if t346 = bt331.1 then (some true) else (none))))) else (none)))))) else (none))))) else (none)) = some r := H
    have A24 := X.A A240
    clear A240
    by_cases c25 : t330 = true
    rotate_left
    ·replace c25 := Bool.eq_false_iff.mpr c25
     subst c25
     have H1 : (none) = some r := by rw [if_neg (show ¬ (false = true) by decide)] at H; exact H
     clear H
     have H := H1
     clear H1
     exact absurd H (by simp)
    subst c25
    have H1 : ((laws_markVoyageS.f k t318 1).bind fun bt331 => ((laws_heldVoyageS.f k bt331.2 1).bind fun t333 => (if t333 < 0 then (none) else (if t333 = bt331.1 then ((laws_toIsles.f a0_0 a0_1 a0_2).bind fun bt334 => ((laws_toPlaces.f k l1_0 a1_1).bind fun bt337 => ((impl_VoyagesOf.f k bt334.1 bt334.2.1 bt334.2.2 bt337.1 bt337.2).bind fun bt341 => ((laws_eqVoyageS.f k bt341.1 t306).bind fun t345 => (if t345 = true then (if (bt341.2 != t309) = true then (none) else ((laws_heldVoyageS.f k bt331.2 1).bind fun t346 => (if t346 < 0 then (none) else (if t346 = bt331.1 then (some true) else (none))))) else (none)))))) else (none))))) = some r := by rw [if_pos rfl] at H; exact H
    clear H
    have H := H1
    clear H1
    replace H := Option.bind_eq_some_iff.mp H
    obtain ⟨⟨t331, t332⟩, A260, H⟩ := H
    replace H : ((laws_heldVoyageS.f k t332 1).bind fun t333 => (if t333 < 0 then (none) else (if t333 = t331 then ((laws_toIsles.f a0_0 a0_1 a0_2).bind fun bt334 => ((laws_toPlaces.f k l1_0 a1_1).bind fun bt337 => ((impl_VoyagesOf.f k bt334.1 bt334.2.1 bt334.2.2 bt337.1 bt337.2).bind fun bt341 => ((laws_eqVoyageS.f k bt341.1 t306).bind fun t345 => (if t345 = true then (if (bt341.2 != t309) = true then (none) else ((laws_heldVoyageS.f k t332 1).bind fun t346 => (if t346 < 0 then (none) else (if t346 = t331 then (some true) else (none))))) else (none)))))) else (none)))) = some r := H
    have A26 := X.A A260
    clear A260
    replace H := Option.bind_eq_some_iff.mp H
    obtain ⟨t333, A270, H⟩ := H
    replace H : (if t333 < 0 then (none) else (if t333 = t331 then ((laws_toIsles.f a0_0 a0_1 a0_2).bind fun bt334 => ((laws_toPlaces.f k l1_0 a1_1).bind fun bt337 => ((impl_VoyagesOf.f k bt334.1 bt334.2.1 bt334.2.2 bt337.1 bt337.2).bind fun bt341 => ((laws_eqVoyageS.f k bt341.1 t306).bind fun t345 => (if t345 = true then (if (bt341.2 != t309) = true then (none) else ((laws_heldVoyageS.f k t332 1).bind fun t346 => (if t346 < 0 then (none) else (if t346 = t331 then (some true) else (none))))) else (none)))))) else (none))) = some r := H
    have A27 := X.A A270
    clear A270
    by_cases c28 : t333 < 0
    ·rw [if_pos c28] at H
     exact absurd H (by simp)
    ·rw [if_neg c28] at H
     have c28b0 : decide (t333 < 0) = false := decide_eq_false c28
     clear c28
     by_cases c29 : t333 = t331
     rotate_left
     ·rw [if_neg c29] at H
      exact absurd H (by simp)
     rw [if_pos c29] at H
     have c29b0 : (t333 == t331) = true := beq_iff_eq.mpr c29
     have c29b1 : (t333 != t331) = false := bne_eq_false_iff_eq.mpr c29
     clear c29
     replace H := Option.bind_eq_some_iff.mp H
     obtain ⟨⟨t334, t335, t336⟩, A300, H⟩ := H
     replace H : ((laws_toPlaces.f k l1_0 a1_1).bind fun bt337 => ((impl_VoyagesOf.f k t334 t335 t336 bt337.1 bt337.2).bind fun bt341 => ((laws_eqVoyageS.f k bt341.1 t306).bind fun t345 => (if t345 = true then (if (bt341.2 != t309) = true then (none) else ((laws_heldVoyageS.f k t332 1).bind fun t346 => (if t346 < 0 then (none) else (if t346 = t331 then (some true) else (none))))) else (none))))) = some r := H
     have A30 := X.A A300
     clear A300
     replace H := Option.bind_eq_some_iff.mp H
     obtain ⟨⟨t337, t340⟩, A310, H⟩ := H
     replace H : ((impl_VoyagesOf.f k t334 t335 t336 t337 t340).bind fun bt341 => ((laws_eqVoyageS.f k bt341.1 t306).bind fun t345 => (if t345 = true then (if (bt341.2 != t309) = true then (none) else ((laws_heldVoyageS.f k t332 1).bind fun t346 => (if t346 < 0 then (none) else (if t346 = t331 then (some true) else (none))))) else (none)))) = some r := H
     have A31 := X.A A310
     clear A310
     replace H := Option.bind_eq_some_iff.mp H
     obtain ⟨⟨t341, t344⟩, A320, H⟩ := H
     replace H : ((laws_eqVoyageS.f k t341 t306).bind fun t345 => (if t345 = true then (if (t344 != t309) = true then (none) else ((laws_heldVoyageS.f k t332 1).bind fun t346 => (if t346 < 0 then (none) else (if t346 = t331 then (some true) else (none))))) else (none))) = some r := H
     have A32 := X.A A320
     clear A320
     replace H := Option.bind_eq_some_iff.mp H
     obtain ⟨t345, A330, H⟩ := H
     replace H : (if t345 = true then (if (t344 != t309) = true then (none) else ((laws_heldVoyageS.f k t332 1).bind fun t346 => (if t346 < 0 then (none) else (if t346 = t331 then (some true) else (none))))) else (none)) = some r := H
     have A33 := X.A A330
     clear A330
     by_cases c34 : t345 = true
     rotate_left
     ·replace c34 := Bool.eq_false_iff.mpr c34
      subst c34
      have H1 : (none) = some r := by rw [if_neg (show ¬ (false = true) by decide)] at H; exact H
      clear H
      have H := H1
      clear H1
      exact absurd H (by simp)
     subst c34
     have H1 : (if (t344 != t309) = true then (none) else ((laws_heldVoyageS.f k t332 1).bind fun t346 => (if t346 < 0 then (none) else (if t346 = t331 then (some true) else (none))))) = some r := by rw [if_pos rfl] at H; exact H
     clear H
     have H := H1
     clear H1
     by_cases c35 : (t344 != t309) = true
     ·rw [if_pos c35] at H
      exact absurd H (by simp)
     ·rw [if_neg c35] at H
      have c35b0 : (t344 != t309) = false := by simpa using c35
      (try (have c35b1 : decide (t344 = t309) = true := by simpa using c35))
      (try (have c35b2 : (t344 == t309) = true := by simpa using c35))
      clear c35
      replace H := Option.bind_eq_some_iff.mp H
      obtain ⟨t346, A360, H⟩ := H
      replace H : (if t346 < 0 then (none) else (if t346 = t331 then (some true) else (none))) = some r := H
      have A36 := X.A A360
      clear A360
      by_cases c37 : t346 < 0
      ·rw [if_pos c37] at H
       exact absurd H (by simp)
      ·rw [if_neg c37] at H
       have c37b0 : decide (t346 < 0) = false := decide_eq_false c37
       clear c37
       by_cases c38 : t346 = t331
       rotate_left
       ·rw [if_neg c38] at H
        exact absurd H (by simp)
       rw [if_pos c38] at H
       have c38b0 : (t346 == t331) = true := beq_iff_eq.mpr c38
       have c38b1 : (t346 != t331) = false := bne_eq_false_iff_eq.mpr c38
       clear c38
       obtain rfl := Option.some.inj H
       go_enter Try.func3, Try.ntmps3
       try go_wp2_with (first | ((with_reducible refine gate_dst (N := 2) rfl ?_); refine box_event ?hg (N := 2) ?hd (cs := #[.int .i64 a0_0, .int .i64 a0_1, .int .i64 a0_2]) (t := 23) ?hr ?_; (case hd => rfl); (case hg => rfl); (case hr => exact X.R); intro gb296 hg w39 hbox hb; have n0_ := X.A (below_step X.G hb); have n1_ := X.A (hbox); have n2_ := X.A ((by rw [hg]; exact (below_size X.G) : w.heap.size ≤ gb296)); have n3_ := X.A ((by rw [hg]; exact (below_size X.G) : w.heap.size ≤ gb296)); clear HB; have HB := n0_; have BK296 := n1_; have GW296 := n2_; have GE296 := n3_; clear n0_ n1_ n2_ n3_; clear hb hbox hg) | ((with_reducible refine gate_dst (N := 3) rfl ?_); refine box_event ?hg (N := 3) ?hd (cs := #[.slice A1_0 l1_0.length c1_0, .int .i64 a1_1]) (t := 26) ?hr ?_; (case hd => rfl); (case hg => rfl); (case hr => exact X.R); intro gb297 hg w40 hbox hb; have n0_ := X.A (X.BB BK296 hb); have n1_ := X.A (below_step X.G hb); have n2_ := X.A (hbox); have n3_ := X.A ((by rw [hg]; exact (below_size X.G) : w.heap.size ≤ gb297)); have n4_ := X.A ((by rw [hg]; exact (below_size X.G) : w.heap.size ≤ gb297)); have n5_ := X.A (X.NL hg BK296); have n6_ := X.A (X.NG hg BK296); clear BK296 HB; have BK296 := n0_; have HB := n1_; have BK297 := n2_; have GW297 := n3_; have GE297 := n4_; have NB296_297 := n5_; have NB297_296 := n6_; clear n0_ n1_ n2_ n3_ n4_ n5_ n6_ hb hbox hg; have hnb41 := NB297_296.out; have hnc41 := NB296_297.out; have hcz42_0 : w40.cell? ⟨gb297, 0, none⟩ = some (.slice A1_0 l1_0.length c1_0) := (blk_cell BK297.out 0).trans rfl; have hcz42_1 : w40.cell? ⟨gb297, 1, none⟩ = some (.int .i64 a1_1) := (blk_cell BK297.out 1).trans rfl; have hfz42_0 := blk_frozen BK297.out 0; have hfz42_1 := blk_frozen BK297.out 1) | ((with_reducible refine gate_callee (f := 4) rfl ?_); refine goesL_ (some 18) rfl rfl Try.func4 (by kernel_rfl) rfl #[.agg #[.slice A1_0 l1_0.length c1_0, .int .i64 a1_1], .int .i64 1048576] rfl X.M ?_; (with_reducible refine (laws_szPlaces.calls _ _ l1_0 a1_1 1048576 t298 _ ?side1 ?side2 A3.out).mono ?_); (case side1 => exact X.C (Kd.C_below HR1_0.out HB.out)); (case side2 => exact HC1_0.out); rintro e w43 ⟨rfl, hb⟩; refine ⟨_, rfl, ?_⟩; have n0_ := X.A (X.BB BK296 hb); have n1_ := X.A (X.BB BK297 hb); have n2_ := X.A (below_step X.G hb); clear BK296 BK297 HB; have BK296 := n0_; have BK297 := n1_; have HB := n2_; clear n0_ n1_ n2_; (try clear hb); (try clear hb2); (try clear hk); (try clear hi)))
       have n0_ := X.A (blk_drew BK296.out)
       have n1_ := X.A (blk_drew BK297.out)
       have n2_ := X.A (below_drew1 HB.out)
       clear BK296 BK297 HB
       have BK296 := n0_
       have BK297 := n1_
       have HB := n2_
       clear n0_ n1_ n2_
       refine start_ (n := 10) (S := fun w' => w'.cell? ⟨gb296, 0, none⟩ = some (.int .i64 a0_0) ∧ w'.cell? ⟨gb296, 1, none⟩ = some (.int .i64 a0_1) ∧ w'.cell? ⟨gb296, 2, none⟩ = some (.int .i64 a0_2) ∧ w'.cell? ⟨gb297, 0, none⟩ = some (.slice A1_0 l1_0.length c1_0) ∧ w'.cell? ⟨gb297, 1, none⟩ = some (.int .i64 a1_1)) (ds := []) #[false, false, false, false, false, false, false, false, false, false] (by kernel_rfl) rfl rfl ⟨(blk_cell BK296.out 0).trans rfl, (blk_cell BK296.out 1).trans rfl, (blk_cell BK296.out 2).trans rfl, (blk_cell BK297.out 0).trans rfl, (blk_cell BK297.out 1).trans rfl⟩ (fun hHeld => ?_); refine with_tabW laws_FnExactVoyagesOf.tab5 laws_FnExactVoyagesOf.bits5 (fun HT_ HW_ => ?_)
       generalize w43.drew = w44 at BK296 BK297 HB hHeld ⊢
       refine take_ (i := 0) (N := some 22) (v := ?_) (a' := ?_) #[true, false, false, false, false, false, false, false, false, false] rfl rfl (take_ofW HT_.out HW_.out (by kernel_rfl)) (fun _ _ _ h => h) (Or.inl ⟨by rfl, ?_⟩) hHeld ?_ ?_
       rotate_left
       ·rintro w' ⟨s0, s1, s2, s3, s4⟩
        go_simp
        with_reducible rfl
       rotate_left
       ·exact X.Pu
       refine take_ (i := 2) (N := some 24) (v := ?_) (a' := ?_) #[true, false, true, false, false, false, false, false, false, false] rfl rfl (take_ofW HT_.out HW_.out (by kernel_rfl)) (fun _ _ _ h => h) (Or.inl ⟨by rfl, ?_⟩) hHeld ?_ ?_
       rotate_left
       ·rintro w' ⟨s0, s1, s2, s3, s4⟩
        go_simp
        with_reducible rfl
       rotate_left
       ·exact X.Pu
       refine one_ (i := 1) (N := some 23) #[true, true, true, false, false, false, false, false, false, false] rfl rfl (one_of HT_.out (by kernel_rfl)) (by decide) (fun K hK => ?_)
       refine goes_ Try.func6 (by kernel_rfl) rfl #[.agg #[.int .i64 a0_0, .int .i64 a0_1, .int .i64 a0_2]] (by rfl) rfl rfl X.M ?_
       with_reducible refine (laws_toIsles.calls a0_0 a0_1 a0_2 t299 t300 t301 _ A10.out).mono ?_
       rintro e w45 ⟨rfl, hb⟩
       refine ⟨_, rfl, ?_⟩
       have n0_ := X.A (X.BB BK296 hb)
       have n1_ := X.A (X.BB BK297 hb)
       have n2_ := X.A (below_step X.G hb)
       clear BK296 BK297 HB
       have BK296 := n0_
       have BK297 := n1_
       have HB := n2_
       clear n0_ n1_ n2_
       (try clear hb)
       (try clear hb2)
       (try clear hk)
       (try clear hi)
       refine hK.out _ _ ⟨(blk_cell BK296.out 0).trans rfl, (blk_cell BK296.out 1).trans rfl, (blk_cell BK296.out 2).trans rfl, (blk_cell BK297.out 0).trans rfl, (blk_cell BK297.out 1).trans rfl⟩ (fun hHeld => ?_)
       clear hK K
       refine norm_ (a' := ?_) ?_ ?_
       rotate_left
       ·exact (show Act.put _ (some 23) _ = _ from X.Pu)
       refine one_ (i := 3) (N := some 25) #[true, true, true, true, false, false, false, false, false, false] rfl rfl (one_of HT_.out (by kernel_rfl)) (by decide) (fun K hK => ?_)
       refine goes_ Try.func7 (by kernel_rfl) rfl #[.agg #[.slice A1_0 l1_0.length c1_0, .int .i64 a1_1]] (by rfl) rfl rfl X.M ?_
       with_reducible refine (laws_toPlaces.calls k _ _ l1_0 a1_1 t302 t305 _ ?side1 ?side2 A11.out).mono ?_
       (case side1 => exact X.C (Kd.C_below HR1_0.out HB.out))
       (case side2 => exact HC1_0.out)
       rintro e w46 ⟨v303, rfl, ho0, hb⟩
       refine ⟨_, rfl, ?_⟩
       have n0_ := X.A (Kd.R_lower ho0 (below_size X.G))
       have n1_ := X.A (X.BB BK296 hb)
       have n2_ := X.A (X.BB BK297 hb)
       have n3_ := X.A (below_step X.G hb)
       clear BK296 BK297 HB
       have HO304 := n0_
       have BK296 := n1_
       have BK297 := n2_
       have HB := n3_
       clear n0_ n1_ n2_ n3_
       (try clear hb)
       (try clear hb2)
       (try clear hk)
       (try clear hi)
       (try clear ho0)
       obtain ⟨Ao47, co47, eo47⟩ := Kd.R_slice HO304.out
       (first | subst eo47 | (injection eo47 with f1_ f2_ f3_; have f4_ := f1_.symm; have f5_ := f3_.symm; clear f1_ f2_ f3_; subst f4_; subst f5_))
       refine hK.out _ _ ⟨(blk_cell BK296.out 0).trans rfl, (blk_cell BK296.out 1).trans rfl, (blk_cell BK296.out 2).trans rfl, (blk_cell BK297.out 0).trans rfl, (blk_cell BK297.out 1).trans rfl⟩ (fun hHeld => ?_)
       clear hK K
       refine norm_ (a' := ?_) ?_ ?_
       rotate_left
       ·exact (show Act.put _ (some 25) _ = _ from X.Pu)
       refine one_ (i := 4) (N := some 26) #[true, true, true, true, true, false, false, false, false, false] rfl rfl (one_of HT_.out (by kernel_rfl)) (by decide) (fun K hK => ?_)
       refine goes_ Try.func5 (by kernel_rfl) rfl #[.agg #[.int .i64 t299, .int .i64 t300, .int .i64 t301], .agg #[.slice Ao47 t302.length co47, .int .i64 t305]] (by rfl) rfl rfl X.M ?_
       with_reducible refine (spec_VoyagesOf.calls k t299 t300 t301 _ _ t302 t305 t306 t309 _ ?side1 ?side2 A12.out).mono ?_
       (case side1 => exact X.C (Kd.R_reads' HO304.out).2.2)
       (case side2 => exact (Kd.R_reads' HO304.out).2.1)
       rintro e w48 ⟨v307, rfl, ho0, hb⟩
       refine ⟨_, rfl, ?_⟩
       have n0_ := X.A (Kd.R_below (X.K HO304) hb)
       have n1_ := X.A (Kd.N_lower (Kd.N_mono (ok' := fun k_ => some k_ ≠ (.slice Ao47 t302.length co47 : Value).ownBlock ∧ k_ ≠ gb296 ∧ k_ ≠ gb297) ho0 (fun k_ hk_ => ⟨(Kd.fresh' (Kd.R_lt (X.K HO304)) k_ hk_), (Kd.freshB (g := gb296) (o := .cells #[.int .i64 a0_0, .int .i64 a0_1, .int .i64 a0_2] 23 (0, 0)) (X.B BK296) k_ hk_), (Kd.freshB (g := gb297) (o := .cells #[.slice A1_0 l1_0.length c1_0, .int .i64 a1_1] 26 (0, 0)) (X.B BK297) k_ hk_)⟩)) (below_size X.G))
       have n2_ := X.A (X.BB BK296 hb)
       have n3_ := X.A (X.BB BK297 hb)
       have n4_ := X.A (below_step X.G hb)
       clear HO304 BK296 BK297 HB
       have HO304 := n0_
       have HO308 := n1_
       have BK296 := n2_
       have BK297 := n3_
       have HB := n4_
       clear n0_ n1_ n2_ n3_ n4_
       (try clear hb)
       (try clear hb2)
       (try clear hk)
       (try clear hi)
       (try clear ho0)
       refine hK.out _ _ ⟨(blk_cell BK296.out 0).trans rfl, (blk_cell BK296.out 1).trans rfl, (blk_cell BK296.out 2).trans rfl, (blk_cell BK297.out 0).trans rfl, (blk_cell BK297.out 1).trans rfl⟩ (fun hHeld => ?_)
       clear hK K
       refine norm_ (a' := ?_) ?_ ?_
       rotate_left
       ·exact (show Act.put _ (some 26) _ = _ from X.Pu)
       refine pure_ (i := 5) (N := some 21) (v := ?_) (a' := ?_) #[true, true, true, true, true, true, false, false, false, false] rfl rfl (any_of HT_.out (by kernel_rfl)) (fun _ _ _ h => h) (Or.inl ⟨by rfl, ?_⟩) ?_ ?_
       rotate_left
       ·intro w'
        go_simp
        with_reducible rfl
       rotate_left
       ·exact X.Pu
       refine pure_ (i := 6) (N := some 27) (v := ?_) (a' := ?_) #[true, true, true, true, true, true, true, false, false, false] rfl rfl (any_of HT_.out (by kernel_rfl)) (fun _ _ _ h => h) (Or.inl ⟨by rfl, ?_⟩) ?_ ?_
       rotate_left
       ·intro w'
        go_simp
        with_reducible rfl
       rotate_left
       ·exact X.Pu
       refine pure_ (i := 7) (N := some 28) (v := ?_) (a' := ?_) #[true, true, true, true, true, true, true, true, false, false] rfl rfl (any_of HT_.out (by kernel_rfl)) (fun _ _ _ h => h) (Or.inl ⟨by rfl, ?_⟩) ?_ ?_
       rotate_left
       ·intro w'
        go_simp
        with_reducible rfl
       rotate_left
       ·exact X.Pu
       refine pure_ (i := 8) (N := some 6) (v := ?_) (a' := ?_) #[true, true, true, true, true, true, true, true, true, false] rfl rfl (any_of HT_.out (by kernel_rfl)) (fun _ _ _ h => h) (Or.inl ⟨by rfl, ?_⟩) ?_ ?_
       rotate_left
       ·intro w'
        go_simp
        with_reducible rfl
       rotate_left
       ·exact X.Pu
       refine pure_ (i := 9) (N := some 7) (v := ?_) (a' := ?_) #[true, true, true, true, true, true, true, true, true, true] rfl rfl (any_of HT_.out (by kernel_rfl)) (fun _ _ _ h => h) (Or.inl ⟨by rfl, ?_⟩) ?_ ?_
       rotate_left
       ·intro w'
        go_simp
        with_reducible rfl
       rotate_left
       ·exact X.Pu
       refine done_ (done_of HT_.out (by kernel_rfl)) ?_
       have hcz49_0 : w48.cell? ⟨gb297, 0, none⟩ = some (.slice A1_0 l1_0.length c1_0) := (blk_cell BK297.out 0).trans rfl
       have hcz49_1 : w48.cell? ⟨gb297, 1, none⟩ = some (.int .i64 a1_1) := (blk_cell BK297.out 1).trans rfl
       have hfz49_0 := blk_frozen BK297.out 0
       have hfz49_1 := blk_frozen BK297.out 1
       try go_wp2_with (first | ((with_reducible refine gate_callee (f := 7) rfl ?_); refine goesL_ (some 30) rfl rfl Try.func7 (by kernel_rfl) rfl #[.agg #[.slice A1_0 l1_0.length c1_0, .int .i64 a1_1]] rfl X.M ?_; (with_reducible refine (laws_toPlaces.calls k _ _ l1_0 a1_1 t310 t313 _ ?side1 ?side2 A13.out).mono ?_); (case side1 => exact X.C (Kd.C_below HR1_0.out HB.out)); (case side2 => exact HC1_0.out); rintro e w50 ⟨v311, rfl, ho0, hb⟩; refine ⟨_, rfl, ?_⟩; have n0_ := X.A (Kd.R_elder' (X.K HO304) (Kd.R_base ho0) hb); have n1_ := X.A (Kd.N_elder' (by (with_reducible repeat (first | apply Kd.N_alloc | apply Kd.N_drewN | apply Kd.N_drew)); exact HO308.out) (Kd.R_base ho0) hb); have n2_ := X.A (Kd.R_lower (Kd.R_new' ho0 (Kd.R_lt (X.K HO304))) (below_size X.G)); have n3_ := X.A (X.BB BK296 hb); have n4_ := X.A (X.BB BK297 hb); have n5_ := X.A (below_step X.G hb); clear HO304 HO308 BK296 BK297 HB; have HO304 := n0_; have HO308 := n1_; have HO312 := n2_; have BK296 := n3_; have BK297 := n4_; have HB := n5_; clear n0_ n1_ n2_ n3_ n4_ n5_; (try clear hb); (try clear hb2); (try clear hk); (try clear hi); (try clear ho0)) | ((with_reducible refine gate_dst (N := 8) rfl ?_); refine box_event ?hg (N := 8) ?hd (cs := #[.slice none 0 0, .int .i64 0]) (t := 33) ?hr ?_; (case hd => rfl); (case hg => rfl); (case hr => exact X.R); intro gb314 hg w51 hbox hb; have n0_ := X.A (Kd.R_below (X.K HO304) hb); have n1_ := X.A (Kd.N_below (X.N_ltb hg.symm (Kd.N_elderB (by (with_reducible repeat (first | apply Kd.N_alloc | apply Kd.N_drewN | apply Kd.N_drew)); exact HO308.out) gb314 (Nat.le_of_eq hg.symm))) hb); have n2_ := X.A (Kd.R_below (X.K HO312) hb); have n3_ := X.A (X.BB BK296 hb); have n4_ := X.A (X.BB BK297 hb); have n5_ := X.A (below_step X.G hb); have n6_ := X.A (hbox); have n7_ := X.A ((by rw [hg]; exact (below_size X.G) : w.heap.size ≤ gb314)); have n8_ := X.A ((by rw [hg]; exact (below_size X.G) : w.heap.size ≤ gb314)); have n9_ := X.A (X.NL hg BK296); have n10_ := X.A (X.NG hg BK296); have n11_ := X.A (X.NL hg BK297); have n12_ := X.A (X.NG hg BK297); clear HO304 HO308 HO312 BK296 BK297 HB; have HO304 := n0_; have HO308 := n1_; have HO312 := n2_; have BK296 := n3_; have BK297 := n4_; have HB := n5_; have BK314 := n6_; have GW314 := n7_; have GE314 := n8_; have NB296_314 := n9_; have NB314_296 := n10_; have NB297_314 := n11_; have NB314_297 := n12_; clear n0_ n1_ n2_ n3_ n4_ n5_ n6_ n7_ n8_ n9_ n10_ n11_ n12_ hb hbox hg; obtain ⟨Ao52, co52, eo52⟩ := Kd.R_slice HO312.out; subst eo52; have hnb53 := NB314_296.out; have hnc53 := NB296_314.out; have hnb54 := NB314_297.out; have hnc54 := NB297_314.out; have hcz55_0 : w51.cell? ⟨gb314, 0, none⟩ = some (.slice none 0 0) := (blk_cell BK314.out 0).trans rfl; have hcz55_1 : w51.cell? ⟨gb314, 1, none⟩ = some (.int .i64 0) := (blk_cell BK314.out 1).trans rfl; have hfz55_0 := blk_frozen BK314.out 0; have hfz55_1 := blk_frozen BK314.out 1))
       have n0_ : Aside0 (Kd.R (Kd.int .i64) 3 ((w51.setCell ⟨gb314, 0, none⟩ (.slice Ao52 t310.length co52)).setCell ⟨gb314, 1, none⟩ (.int .i64 t313)) w.heap.size (fun k_ => some k_ ≠ (.slice Ao52 t310.length co52 : Value).ownBlock) (.slice Ao47 t302.length co47) t302) := ⟨by (with_reducible repeat (first | apply Kd.R_alloc | apply Kd.R_drewN | apply Kd.R_drew)); exact Kd.R_mono (Kd.R_far (p := ⟨gb314, 1, none⟩) (Kd.R_far (p := ⟨gb314, 0, none⟩) (Kd.R_types HO304.out BK314.out (by decide)) (fun _ hk => hk.2) (.slice Ao52 t310.length co52)) (fun _ hk => hk.2) (.int .i64 t313)) (fun _ hk => hk.1.2)⟩
       have n1_ : Aside0 (Kd.N k48 48 ((w51.setCell ⟨gb314, 0, none⟩ (.slice Ao52 t310.length co52)).setCell ⟨gb314, 1, none⟩ (.int .i64 t313)) w.heap.size (fun k_ => some k_ ≠ (.slice Ao47 t302.length co47 : Value).ownBlock ∧ some k_ ≠ (.slice Ao52 t310.length co52 : Value).ownBlock ∧ k_ ≠ gb296 ∧ k_ ≠ gb297 ∧ k_ ≠ gb314 ∧ k_ < gb314) v307 t306) := ⟨by (with_reducible repeat (first | apply Kd.N_alloc | apply Kd.N_drewN | apply Kd.N_drew)); exact Kd.N_mono (Kd.N_far (p := ⟨gb314, 1, none⟩) (Kd.N_far (p := ⟨gb314, 0, none⟩) (Kd.N_mono HO308.out (fun k_ hk => (⟨hk, hk.1.2⟩ : _ ∧ k_ ≠ gb314))) (fun _ hk => hk.2) (.slice Ao52 t310.length co52)) (fun _ hk => hk.2) (.int .i64 t313)) (fun _ hk => ⟨hk.1.1.1.1.1, ⟨hk.1.1.1.2, ⟨hk.1.1.1.1.2.1, ⟨hk.1.1.1.1.2.2, ⟨hk.1.1.2, hk.1.2⟩⟩⟩⟩⟩)⟩
       have n2_ : Aside0 (Kd.R (Kd.int .i64) 3 ((w51.setCell ⟨gb314, 0, none⟩ (.slice Ao52 t310.length co52)).setCell ⟨gb314, 1, none⟩ (.int .i64 t313)) w.heap.size (fun k_ => some k_ ≠ (.slice Ao47 t302.length co47 : Value).ownBlock) (.slice Ao52 t310.length co52) t310) := ⟨by (with_reducible repeat (first | apply Kd.R_alloc | apply Kd.R_drewN | apply Kd.R_drew)); exact Kd.R_mono (Kd.R_far (p := ⟨gb314, 1, none⟩) (Kd.R_far (p := ⟨gb314, 0, none⟩) (Kd.R_types HO312.out BK314.out (by decide)) (fun _ hk => hk.2) (.slice Ao52 t310.length co52)) (fun _ hk => hk.2) (.int .i64 t313)) (fun _ hk => hk.1.2)⟩
       have n3_ : Aside0 (((w51.setCell ⟨gb314, 0, none⟩ (.slice Ao52 t310.length co52)).setCell ⟨gb314, 1, none⟩ (.int .i64 t313)).heap[gb296]? = some (.cells #[.int .i64 a0_0, .int .i64 a0_1, .int .i64 a0_2] 23 (0, 0))) := ⟨by (with_reducible repeat (first | refine blk_drewN ?_ _ | refine blk_drew ?_ | refine blk_alloc ?_ _)); refine blk_far ?_ NB296_314.out _; (with_reducible repeat (first | refine blk_drewN ?_ _ | refine blk_drew ?_ | refine blk_alloc ?_ _)); refine blk_far ?_ NB296_314.out _; (with_reducible repeat (first | refine blk_drewN ?_ _ | refine blk_drew ?_ | refine blk_alloc ?_ _)); exact BK296.out⟩
       have n4_ : Aside0 (((w51.setCell ⟨gb314, 0, none⟩ (.slice Ao52 t310.length co52)).setCell ⟨gb314, 1, none⟩ (.int .i64 t313)).heap[gb297]? = some (.cells #[.slice A1_0 l1_0.length c1_0, .int .i64 a1_1] 26 (0, 0))) := ⟨by (with_reducible repeat (first | refine blk_drewN ?_ _ | refine blk_drew ?_ | refine blk_alloc ?_ _)); refine blk_far ?_ NB297_314.out _; (with_reducible repeat (first | refine blk_drewN ?_ _ | refine blk_drew ?_ | refine blk_alloc ?_ _)); refine blk_far ?_ NB297_314.out _; (with_reducible repeat (first | refine blk_drewN ?_ _ | refine blk_drew ?_ | refine blk_alloc ?_ _)); exact BK297.out⟩
       have n5_ : Aside0 (((w51.setCell ⟨gb314, 0, none⟩ (.slice Ao52 t310.length co52)).setCell ⟨gb314, 1, none⟩ (.int .i64 t313)).heap[gb314]? = some (.cells #[.slice Ao52 t310.length co52, .int .i64 t313] 33 (0, 0))) := ⟨by (with_reducible repeat (first | refine blk_drewN ?_ _ | refine blk_drew ?_ | refine blk_alloc ?_ _)); refine blk_put (cs := #[.slice Ao52 t310.length co52, .int .i64 0]) ?_ 1 _ rfl; (with_reducible repeat (first | refine blk_drewN ?_ _ | refine blk_drew ?_ | refine blk_alloc ?_ _)); refine blk_put (cs := #[.slice none 0 0, .int .i64 0]) ?_ 0 _ rfl; (with_reducible repeat (first | refine blk_drewN ?_ _ | refine blk_drew ?_ | refine blk_alloc ?_ _)); exact BK314.out⟩
       have n6_ : Aside0 (Below w.heap.size w ((w51.setCell ⟨gb314, 0, none⟩ (.slice Ao52 t310.length co52)).setCell ⟨gb314, 1, none⟩ (.int .i64 t313))) := ⟨X.G⟩
       (try clear HO304)
       (try clear HO308)
       (try clear HO312)
       (try clear BK296)
       (try clear BK297)
       (try clear BK314)
       (try clear HB)
       generalize ((w51.setCell ⟨gb314, 0, none⟩ (.slice Ao52 t310.length co52)).setCell ⟨gb314, 1, none⟩ (.int .i64 t313)) = w56 at n0_ n1_ n2_ n3_ n4_ n5_ n6_ ⊢
       have HO304 := n0_
       have HO308 := n1_
       have HO312 := n2_
       have BK296 := n3_
       have BK297 := n4_
       have BK314 := n5_
       have HB := n6_
       clear n0_ n1_ n2_ n3_ n4_ n5_ n6_
       have n0_ := X.A (Kd.R_drew HO304.out)
       have n1_ := X.A (Kd.N_drew HO308.out)
       have n2_ := X.A (Kd.R_drew HO312.out)
       have n3_ := X.A (blk_drew BK296.out)
       have n4_ := X.A (blk_drew BK297.out)
       have n5_ := X.A (blk_drew BK314.out)
       have n6_ := X.A (below_drew1 HB.out)
       clear HO304 HO308 HO312 BK296 BK297 BK314 HB
       have HO304 := n0_
       have HO308 := n1_
       have HO312 := n2_
       have BK296 := n3_
       have BK297 := n4_
       have BK314 := n5_
       have HB := n6_
       clear n0_ n1_ n2_ n3_ n4_ n5_ n6_
       refine start_ (n := 9) (S := fun w' => w'.cell? ⟨gb296, 0, none⟩ = some (.int .i64 a0_0) ∧ w'.cell? ⟨gb296, 1, none⟩ = some (.int .i64 a0_1) ∧ w'.cell? ⟨gb296, 2, none⟩ = some (.int .i64 a0_2) ∧ w'.cell? ⟨gb314, 0, none⟩ = some (.slice Ao52 t310.length co52) ∧ w'.cell? ⟨gb314, 1, none⟩ = some (.int .i64 t313)) (ds := []) #[false, false, false, false, false, false, false, false, false] (by kernel_rfl) rfl rfl ⟨(blk_cell BK296.out 0).trans rfl, (blk_cell BK296.out 1).trans rfl, (blk_cell BK296.out 2).trans rfl, (blk_cell BK314.out 0).trans rfl, (blk_cell BK314.out 1).trans rfl⟩ (fun hHeld => ?_); refine with_tabW laws_FnExactVoyagesOf.tab7 laws_FnExactVoyagesOf.bits7 (fun HT_ HW_ => ?_)
       generalize w56.drew = w57 at HO304 HO308 HO312 BK296 BK297 BK314 HB hHeld ⊢
       refine take_ (i := 0) (N := some 32) (v := ?_) (a' := ?_) #[true, false, false, false, false, false, false, false, false] rfl rfl (take_ofW HT_.out HW_.out (by kernel_rfl)) (fun _ _ _ h => h) (Or.inl ⟨by rfl, ?_⟩) hHeld ?_ ?_
       rotate_left
       ·rintro w' ⟨s0, s1, s2, s3, s4⟩
        go_simp
        with_reducible rfl
       rotate_left
       ·exact X.Pu
       refine take_ (i := 2) (N := some 34) (v := ?_) (a' := ?_) #[true, false, true, false, false, false, false, false, false] rfl rfl (take_ofW HT_.out HW_.out (by kernel_rfl)) (fun _ _ _ h => h) (Or.inl ⟨by rfl, ?_⟩) hHeld ?_ ?_
       rotate_left
       ·rintro w' ⟨s0, s1, s2, s3, s4⟩
        go_simp
        with_reducible rfl
       rotate_left
       ·exact X.Pu
       refine one_ (i := 1) (N := some 33) #[true, true, true, false, false, false, false, false, false] rfl rfl (one_of HT_.out (by kernel_rfl)) (by decide) (fun K hK => ?_)
       refine goes_ Try.func6 (by kernel_rfl) rfl #[.agg #[.int .i64 a0_0, .int .i64 a0_1, .int .i64 a0_2]] (by rfl) rfl rfl X.M ?_
       with_reducible refine (laws_toIsles.calls a0_0 a0_1 a0_2 t315 t316 t317 _ A14.out).mono ?_
       rintro e w58 ⟨rfl, hb⟩
       refine ⟨_, rfl, ?_⟩
       have n0_ := X.A (Kd.R_below (X.K HO304) hb)
       have n1_ := X.A (Kd.N_below (by (with_reducible repeat (first | apply Kd.N_alloc | apply Kd.N_drewN | apply Kd.N_drew)); exact HO308.out) hb)
       have n2_ := X.A (Kd.R_below (X.K HO312) hb)
       have n3_ := X.A (X.BB BK296 hb)
       have n4_ := X.A (X.BB BK297 hb)
       have n5_ := X.A (X.BB BK314 hb)
       have n6_ := X.A (below_step X.G hb)
       clear HO304 HO308 HO312 BK296 BK297 BK314 HB
       have HO304 := n0_
       have HO308 := n1_
       have HO312 := n2_
       have BK296 := n3_
       have BK297 := n4_
       have BK314 := n5_
       have HB := n6_
       clear n0_ n1_ n2_ n3_ n4_ n5_ n6_
       (try clear hb)
       (try clear hb2)
       (try clear hk)
       (try clear hi)
       refine hK.out _ _ ⟨(blk_cell BK296.out 0).trans rfl, (blk_cell BK296.out 1).trans rfl, (blk_cell BK296.out 2).trans rfl, (blk_cell BK314.out 0).trans rfl, (blk_cell BK314.out 1).trans rfl⟩ (fun hHeld => ?_)
       clear hK K
       refine norm_ (a' := ?_) ?_ ?_
       rotate_left
       ·exact (show Act.put _ (some 33) _ = _ from X.Pu)
       refine one_ (i := 3) (N := some 35) #[true, true, true, true, false, false, false, false, false] rfl rfl (one_of HT_.out (by kernel_rfl)) (by decide) (fun K hK => ?_)
       refine goes_ Try.func8 (by kernel_rfl) rfl #[.agg #[.int .i64 t315, .int .i64 t316, .int .i64 t317], .agg #[.slice Ao52 t310.length co52, .int .i64 t313]] (by rfl) rfl rfl X.M ?_
       with_reducible refine (impl_VoyagesOf.calls k t315 t316 t317 _ _ t310 t313 t318 t321 _ ?side1 ?side2 A15.out).mono ?_
       (case side1 => exact X.C (Kd.R_reads' HO312.out).2.2)
       (case side2 => exact (Kd.R_reads' HO312.out).2.1)
       rintro e w59 ⟨v319, rfl, ho0, hb⟩
       refine ⟨_, rfl, ?_⟩
       have n0_ := X.A (Kd.R_below (X.K HO304) hb)
       have n1_ := X.A (Kd.N_elder' (by (with_reducible repeat (first | apply Kd.N_alloc | apply Kd.N_drewN | apply Kd.N_drew)); exact HO308.out) (Kd.S_base ho0) hb)
       have n2_ := X.A (Kd.R_below (X.K HO312) hb)
       have n3_ := X.A (Kd.S_lower (Kd.S_new' (Kd.S_new' (Kd.S_new' (X.S_gtb (X.BL BK314) ho0) (Kd.R_lt (X.K HO304))) (Kd.N_lt (by (with_reducible repeat (first | apply Kd.N_alloc | apply Kd.N_drewN | apply Kd.N_drew)); exact HO308.out))) (Kd.R_lt (X.K HO312))) (below_size X.G))
       have n4_ := X.A (X.BB BK296 hb)
       have n5_ := X.A (X.BB BK297 hb)
       have n6_ := X.A (X.BB BK314 hb)
       have n7_ := X.A (below_step X.G hb)
       clear HO304 HO308 HO312 BK296 BK297 BK314 HB
       have HO304 := n0_
       have HO308 := n1_
       have HO312 := n2_
       have HO320 := n3_
       have BK296 := n4_
       have BK297 := n5_
       have BK314 := n6_
       have HB := n7_
       clear n0_ n1_ n2_ n3_ n4_ n5_ n6_ n7_
       (try clear hb)
       (try clear hb2)
       (try clear hk)
       (try clear hi)
       (try clear ho0)
       refine hK.out _ _ ⟨(blk_cell BK296.out 0).trans rfl, (blk_cell BK296.out 1).trans rfl, (blk_cell BK296.out 2).trans rfl, (blk_cell BK314.out 0).trans rfl, (blk_cell BK314.out 1).trans rfl⟩ (fun hHeld => ?_)
       clear hK K
       refine norm_ (a' := ?_) ?_ ?_
       rotate_left
       ·exact (show Act.put _ (some 35) _ = _ from X.Pu)
       refine pure_ (i := 4) (N := some 31) (v := ?_) (a' := ?_) #[true, true, true, true, true, false, false, false, false] rfl rfl (any_of HT_.out (by kernel_rfl)) (fun _ _ _ h => h) (Or.inl ⟨by rfl, ?_⟩) ?_ ?_
       rotate_left
       ·intro w'
        go_simp
        with_reducible rfl
       rotate_left
       ·exact X.Pu
       refine pure_ (i := 5) (N := some 36) (v := ?_) (a' := ?_) #[true, true, true, true, true, true, false, false, false] rfl rfl (any_of HT_.out (by kernel_rfl)) (fun _ _ _ h => h) (Or.inl ⟨by rfl, ?_⟩) ?_ ?_
       rotate_left
       ·intro w'
        go_simp
        with_reducible rfl
       rotate_left
       ·exact X.Pu
       refine pure_ (i := 6) (N := some 37) (v := ?_) (a' := ?_) #[true, true, true, true, true, true, true, false, false] rfl rfl (any_of HT_.out (by kernel_rfl)) (fun _ _ _ h => h) (Or.inl ⟨by rfl, ?_⟩) ?_ ?_
       rotate_left
       ·intro w'
        go_simp
        with_reducible rfl
       rotate_left
       ·exact X.Pu
       refine pure_ (i := 7) (N := some 9) (v := ?_) (a' := ?_) #[true, true, true, true, true, true, true, true, false] rfl rfl (any_of HT_.out (by kernel_rfl)) (fun _ _ _ h => h) (Or.inl ⟨by rfl, ?_⟩) ?_ ?_
       rotate_left
       ·intro w'
        go_simp
        with_reducible rfl
       rotate_left
       ·exact X.Pu
       refine pure_ (i := 8) (N := some 10) (v := ?_) (a' := ?_) #[true, true, true, true, true, true, true, true, true] rfl rfl (any_of HT_.out (by kernel_rfl)) (fun _ _ _ h => h) (Or.inl ⟨by rfl, ?_⟩) ?_ ?_
       rotate_left
       ·intro w'
        go_simp
        with_reducible rfl
       rotate_left
       ·exact X.Pu
       refine done_ (done_of HT_.out (by kernel_rfl)) ?_
       obtain ⟨Ao60, co60, eo60⟩ := Kd.S_slice HO320.out
       subst eo60
       obtain ⟨Ao61, co61, eo61⟩ := Kd.N_slice HO308.out
       subst eo61
       try go_wp2_with (first | ((with_reducible refine gate_callee (f := 9) rfl ?_); refine goesL_ (some 40) rfl rfl Try.func9 (by kernel_rfl) rfl #[.slice Ao60 t318.length co60, .slice Ao61 t306.length co61] rfl X.M ?_; (with_reducible refine (laws_eqVoyageS.calls k _ _ t318 _ _ t306 true _ ?side1 ?side2 ?side3 ?side4 A16.out).mono ?_); (case side1 => exact X.C (Kd.S_reads' HO320.out).2.2); (case side2 => exact (Kd.S_reads' HO320.out).2.1); (case side3 => exact X.C (Kd.N_reads' HO308.out).2.2); (case side4 => exact (Kd.N_reads' HO308.out).2.1); rintro e w62 ⟨rfl, hb⟩; refine ⟨_, rfl, ?_⟩; have n0_ := X.A (Kd.R_below (X.K HO304) hb); have n1_ := X.A (Kd.N_below (by (with_reducible repeat (first | apply Kd.N_alloc | apply Kd.N_drewN | apply Kd.N_drew)); exact HO308.out) hb); have n2_ := X.A (Kd.R_below (X.K HO312) hb); have n3_ := X.A (Kd.S_below (X.L HO320) hb); have n4_ := X.A (X.BB BK296 hb); have n5_ := X.A (X.BB BK297 hb); have n6_ := X.A (X.BB BK314 hb); have n7_ := X.A (below_step X.G hb); clear HO304 HO308 HO312 HO320 BK296 BK297 BK314 HB; have HO304 := n0_; have HO308 := n1_; have HO312 := n2_; have HO320 := n3_; have BK296 := n4_; have BK297 := n5_; have BK314 := n6_; have HB := n7_; clear n0_ n1_ n2_ n3_ n4_ n5_ n6_ n7_; (try clear hb); (try clear hb2); (try clear hk); (try clear hi)))
       have n0_ := X.A (Kd.R_drew HO304.out)
       have n1_ := X.A (Kd.N_drew HO308.out)
       have n2_ := X.A (Kd.R_drew HO312.out)
       have n3_ := X.A (Kd.S_drew HO320.out)
       have n4_ := X.A (blk_drew BK296.out)
       have n5_ := X.A (blk_drew BK297.out)
       have n6_ := X.A (blk_drew BK314.out)
       have n7_ := X.A (below_drew1 HB.out)
       clear HO304 HO308 HO312 HO320 BK296 BK297 BK314 HB
       have HO304 := n0_
       have HO308 := n1_
       have HO312 := n2_
       have HO320 := n3_
       have BK296 := n4_
       have BK297 := n5_
       have BK314 := n6_
       have HB := n7_
       clear n0_ n1_ n2_ n3_ n4_ n5_ n6_ n7_
       refine start_ (n := 5) (S := fun w' => w'.cell? ⟨gb314, 0, none⟩ = some (.slice Ao52 t310.length co52) ∧ w'.cell? ⟨gb314, 1, none⟩ = some (.int .i64 t313) ∧ w'.cell? ⟨gb297, 0, none⟩ = some (.slice A1_0 l1_0.length c1_0) ∧ w'.cell? ⟨gb297, 1, none⟩ = some (.int .i64 a1_1)) (ds := []) #[false, false, false, false, false] (by kernel_rfl) rfl rfl ⟨(blk_cell BK314.out 0).trans rfl, (blk_cell BK314.out 1).trans rfl, (blk_cell BK297.out 0).trans rfl, (blk_cell BK297.out 1).trans rfl⟩ (fun hHeld => ?_)
       generalize w62.drew = w63 at HO304 HO308 HO312 HO320 BK296 BK297 BK314 HB hHeld ⊢
       refine take_ (i := 0) (N := some 47) (v := ?_) (a' := ?_) #[true, false, false, false, false] rfl rfl (by kernel_rfl) (fun _ _ _ h => h) (Or.inl ⟨by rfl, ?_⟩) hHeld ?_ ?_
       rotate_left
       ·rintro w' ⟨s0, s1, s2, s3⟩
        go_simp
        with_reducible rfl
       rotate_left
       ·exact X.Pu
       refine take_ (i := 1) (N := some 48) (v := ?_) (a' := ?_) #[true, true, false, false, false] rfl rfl (by kernel_rfl) (fun _ _ _ h => h) (Or.inl ⟨by rfl, ?_⟩) hHeld ?_ ?_
       rotate_left
       ·rintro w' ⟨s0, s1, s2, s3⟩
        go_simp
        with_reducible rfl
       rotate_left
       ·exact X.Pu
       refine one_ (i := 2) (N := some 49) #[true, true, true, false, false] rfl rfl (by kernel_rfl) (by decide) (fun K hK => ?_)
       refine goes_ Try.func7 (by kernel_rfl) rfl #[.agg #[.slice A1_0 l1_0.length c1_0, .int .i64 a1_1]] (by rfl) rfl rfl X.M ?_
       with_reducible refine (laws_toPlaces.calls k _ _ l1_0 a1_1 t323 t326 _ ?side1 ?side2 A19.out).mono ?_
       (case side1 => exact X.C (Kd.C_below HR1_0.out HB.out))
       (case side2 => exact HC1_0.out)
       rintro e w64 ⟨v324, rfl, ho0, hb⟩
       refine ⟨_, rfl, ?_⟩
       have n0_ := X.A (Kd.R_elder' (X.K HO304) (Kd.R_base ho0) hb)
       have n1_ := X.A (Kd.N_elder' (by (with_reducible repeat (first | apply Kd.N_alloc | apply Kd.N_drewN | apply Kd.N_drew)); exact HO308.out) (Kd.R_base ho0) hb)
       have n2_ := X.A (Kd.R_elder' (X.K HO312) (Kd.R_base ho0) hb)
       have n3_ := X.A (Kd.S_elder' (X.L HO320) (Kd.R_base ho0) hb)
       have n4_ := X.A (Kd.R_lower (Kd.R_new' (Kd.R_new' ho0 (Kd.R_lt (X.K HO304))) (Kd.R_lt (X.K HO312))) (below_size X.G))
       have n5_ := X.A (X.BB BK296 hb)
       have n6_ := X.A (X.BB BK297 hb)
       have n7_ := X.A (X.BB BK314 hb)
       have n8_ := X.A (below_step X.G hb)
       clear HO304 HO308 HO312 HO320 BK296 BK297 BK314 HB
       have HO304 := n0_
       have HO308 := n1_
       have HO312 := n2_
       have HO320 := n3_
       have HO325 := n4_
       have BK296 := n5_
       have BK297 := n6_
       have BK314 := n7_
       have HB := n8_
       clear n0_ n1_ n2_ n3_ n4_ n5_ n6_ n7_ n8_
       (try clear hb)
       (try clear hb2)
       (try clear hk)
       (try clear hi)
       (try clear ho0)
       obtain ⟨Ao65, co65, eo65⟩ := Kd.R_slice HO325.out
       (first | subst eo65 | (injection eo65 with f1_ f2_ f3_; have f4_ := f1_.symm; have f5_ := f3_.symm; clear f1_ f2_ f3_; subst f4_; subst f5_))
       refine hK.out _ _ ⟨(blk_cell BK314.out 0).trans rfl, (blk_cell BK314.out 1).trans rfl, (blk_cell BK297.out 0).trans rfl, (blk_cell BK297.out 1).trans rfl⟩ (fun hHeld => ?_)
       clear hK K
       refine norm_ (a' := ?_) ?_ ?_
       rotate_left
       ·exact (show Act.put _ (some 49) _ = _ from X.Pu)
       refine one_ (i := 3) (N := some 50) #[true, true, true, true, false] rfl rfl (by kernel_rfl) (by decide) (fun K hK => ?_)
       refine goes_ Try.func10 (by kernel_rfl) rfl #[.agg #[.slice Ao52 t310.length co52, .int .i64 t313], .agg #[.slice Ao65 t323.length co65, .int .i64 t326]] (by rfl) rfl rfl X.M ?_
       with_reducible refine (laws_eqPlaces.calls k _ _ t310 t313 _ _ t323 t326 true _ ?side1 ?side2 ?side3 ?side4 A20.out).mono ?_
       (case side1 => exact X.C (Kd.R_reads' HO312.out).2.2)
       (case side2 => exact (Kd.R_reads' HO312.out).2.1)
       (case side3 => exact X.C (Kd.R_reads' HO325.out).2.2)
       (case side4 => exact (Kd.R_reads' HO325.out).2.1)
       rintro e w66 ⟨rfl, hb⟩
       refine ⟨_, rfl, ?_⟩
       have n0_ := X.A (Kd.R_below (X.K HO304) hb)
       have n1_ := X.A (Kd.N_below (by (with_reducible repeat (first | apply Kd.N_alloc | apply Kd.N_drewN | apply Kd.N_drew)); exact HO308.out) hb)
       have n2_ := X.A (Kd.R_below (X.K HO312) hb)
       have n3_ := X.A (Kd.S_below (X.L HO320) hb)
       have n4_ := X.A (Kd.R_below (X.K HO325) hb)
       have n5_ := X.A (X.BB BK296 hb)
       have n6_ := X.A (X.BB BK297 hb)
       have n7_ := X.A (X.BB BK314 hb)
       have n8_ := X.A (below_step X.G hb)
       clear HO304 HO308 HO312 HO320 HO325 BK296 BK297 BK314 HB
       have HO304 := n0_
       have HO308 := n1_
       have HO312 := n2_
       have HO320 := n3_
       have HO325 := n4_
       have BK296 := n5_
       have BK297 := n6_
       have BK314 := n7_
       have HB := n8_
       clear n0_ n1_ n2_ n3_ n4_ n5_ n6_ n7_ n8_
       (try clear hb)
       (try clear hb2)
       (try clear hk)
       (try clear hi)
       refine hK.out _ _ ⟨(blk_cell BK314.out 0).trans rfl, (blk_cell BK314.out 1).trans rfl, (blk_cell BK297.out 0).trans rfl, (blk_cell BK297.out 1).trans rfl⟩ (fun hHeld => ?_)
       clear hK K
       refine norm_ (a' := ?_) ?_ ?_
       rotate_left
       ·exact (show Act.put _ (some 50) _ = _ from X.Pu)
       refine pure_ (i := 4) (N := some 51) (v := ?_) (a' := ?_) #[true, true, true, true, true] rfl rfl (by kernel_rfl) (fun _ _ _ h => h) (Or.inl ⟨by rfl, ?_⟩) ?_ ?_
       rotate_left
       ·intro w'
        go_simp
        with_reducible rfl
       rotate_left
       ·exact X.Pu
       refine done_ (by kernel_rfl) ?_
       have hcz67_0 : w66.cell? ⟨gb314, 0, none⟩ = some (.slice Ao52 t310.length co52) := (blk_cell BK314.out 0).trans rfl
       have hcz67_1 : w66.cell? ⟨gb314, 1, none⟩ = some (.int .i64 t313) := (blk_cell BK314.out 1).trans rfl
       have hfz67_0 := blk_frozen BK314.out 0
       have hfz67_1 := blk_frozen BK314.out 1
       try go_wp2_with (first | ((with_reducible refine gate_callee (f := 11) rfl ?_); refine goesL_ (some 54) rfl rfl Try.func11 (by kernel_rfl) rfl #[.agg #[.slice Ao52 t310.length co52, .int .i64 t313], .int .i64 1] rfl X.M ?_; (with_reducible refine (laws_markPlaces.calls k (fun k_ => some k_ = (.slice Ao52 t310.length co52 : Value).ownBlock) (.slice Ao52 t310.length co52) t310 t313 1 t328 t329 w _ ?side1 ?side2 A22.out).mono ?_); (case side1 => repeat (first | (with_reducible first | exact HB.out | apply below_alloc | apply pw_below_drewN | apply below_drew1 | refine below_set ?_ GE296.out | refine below_set ?_ GE297.out | refine below_set ?_ GE314.out) | exact HB.out)); (case side2 => exact Kd.R_tight rfl HO312.out); rintro e w68 ⟨rfl, hy0, hb, hkp⟩; refine ⟨_, rfl, ?_⟩; have n0_ := X.A (blk_kept (X.B BK296) hkp (fun hs_ => (fun e_ => (Kd.R_ne HO312.out BK296.out (by decide)) e_) hs_)); have n1_ := X.A (blk_kept (X.B BK297) hkp (fun hs_ => (fun e_ => (Kd.R_ne HO312.out BK297.out (by decide)) e_) hs_)); have n2_ := X.A (Kd.R_mono (ok' := fun k_ => some k_ ≠ (.slice Ao52 t310.length co52 : Value).ownBlock ∧ some k_ ≠ (.slice Ao65 t323.length co65 : Value).ownBlock) (Kd.R_keptB (HO304.out) hkp (fun k_ hk_ hs_ => (hk_.1) hs_)) (fun k_ hk_ => ⟨hk_.1.1, hk_.1.2⟩)); have n3_ := X.A (Kd.N_mono (ok' := fun k_ => some k_ ≠ (.slice Ao47 t302.length co47 : Value).ownBlock ∧ some k_ ≠ (.slice Ao52 t310.length co52 : Value).ownBlock ∧ some k_ ≠ (.slice Ao60 t318.length co60 : Value).ownBlock ∧ some k_ ≠ (.slice Ao65 t323.length co65 : Value).ownBlock ∧ k_ ≠ gb296 ∧ k_ ≠ gb297 ∧ k_ ≠ gb314 ∧ k_ < gb314) (Kd.N_keptB (HO308.out) hkp (fun k_ hk_ hs_ => (hk_.1.1.2.1) hs_)) (fun k_ hk_ => ⟨hk_.1.1.1.1, hk_.1.1.1.2.1, hk_.1.1.2, hk_.1.2, hk_.1.1.1.2.2.1, hk_.1.1.1.2.2.2.1, hk_.1.1.1.2.2.2.2.1, hk_.1.1.1.2.2.2.2.2⟩)); have n4_ := X.A (Kd.R_reok rfl hy0 (fun k_ e_ => HO312.out.1 k_ e_)); have n5_ := X.A (blk_kept (X.B BK314) hkp (fun hs_ => (fun e_ => (Kd.R_ne HO312.out BK314.out (by decide)) e_) hs_)); have n6_ := X.A (Kd.S_mono (ok' := fun k_ => some k_ ≠ (.slice Ao47 t302.length co47 : Value).ownBlock ∧ some k_ ≠ (.slice Ao61 t306.length co61 : Value).ownBlock ∧ some k_ ≠ (.slice Ao52 t310.length co52 : Value).ownBlock ∧ some k_ ≠ (.slice Ao65 t323.length co65 : Value).ownBlock ∧ gb314 < k_) (Kd.S_keptB (HO320.out) hkp (fun k_ hk_ hs_ => (hk_.1.2) hs_)) (fun k_ hk_ => ⟨hk_.1.1.1.1.2, hk_.1.1.1.2, hk_.1.1.2, hk_.1.2, hk_.1.1.1.1.1.2⟩)); have n7_ := X.A (Kd.R_mono (ok' := fun k_ => some k_ ≠ (.slice Ao47 t302.length co47 : Value).ownBlock ∧ some k_ ≠ (.slice Ao52 t310.length co52 : Value).ownBlock) (Kd.R_keptB (HO325.out) hkp (fun k_ hk_ hs_ => (hk_.2) hs_)) (fun k_ hk_ => ⟨hk_.1.1.2, hk_.1.2⟩)); have n8_ := X.A (hb); clear BK296 BK297 HO304 HO308 HO312 BK314 HO320 HO325 HB; have BK296 := n0_; have BK297 := n1_; have HO304 := n2_; have HO308 := n3_; have HO312 := n4_; have BK314 := n5_; have HO320 := n6_; have HO325 := n7_; have HB := n8_; clear n0_ n1_ n2_ n3_ n4_ n5_ n6_ n7_ n8_; (try clear hb); (try clear hkp); (try clear hy0)) | (go_at_call 9; (with_reducible refine (laws_eqVoyageS.calls k _ _ t318 _ _ t306 true _ ?side1 ?side2 ?side3 ?side4 A24.out).mono ?_); (case side1 => exact X.C (Kd.S_reads' HO320.out).2.2); (case side2 => exact (Kd.S_reads' HO320.out).2.1); (case side3 => exact X.C (Kd.N_reads' HO308.out).2.2); (case side4 => exact (Kd.N_reads' HO308.out).2.1); rintro e w69 ⟨rfl, hb⟩; have n0_ := X.A (Kd.R_below (X.K HO304) hb); have n1_ := X.A (Kd.N_below (by (with_reducible repeat (first | apply Kd.N_alloc | apply Kd.N_drewN | apply Kd.N_drew)); exact HO308.out) hb); have n2_ := X.A (Kd.R_below (X.K HO312) hb); have n3_ := X.A (Kd.S_below (X.L HO320) hb); have n4_ := X.A (Kd.R_below (X.K HO325) hb); have n5_ := X.A (X.BB BK296 hb); have n6_ := X.A (X.BB BK297 hb); have n7_ := X.A (X.BB BK314 hb); have n8_ := X.A (below_step X.G hb); clear HO304 HO308 HO312 HO320 HO325 BK296 BK297 BK314 HB; have HO304 := n0_; have HO308 := n1_; have HO312 := n2_; have HO320 := n3_; have HO325 := n4_; have BK296 := n5_; have BK297 := n6_; have BK314 := n7_; have HB := n8_; clear n0_ n1_ n2_ n3_ n4_ n5_ n6_ n7_ n8_; (try clear hb); (try clear hb2); (try clear hk); (try clear hi); obtain ⟨PPHO320, hpp_, hpq_⟩ := X.S_given HO320.out; clear HO320; have HO320 := X.A hpp_; have PQHO320 := X.A hpq_; clear hpp_ hpq_; have NPHO320_296 := X.A (X.box_sepE BK296.out (fun k_ hp_ => (PQHO320.out k_ hp_).2.2.2) (by decide)); have NPHO320_297 := X.A (X.box_sepE BK297.out (fun k_ hp_ => (PQHO320.out k_ hp_).2.2.2) (by decide)); have n_ := X.A (X.R_sepT rfl HO304.out (fun k_ hp_ => (PQHO320.out k_ hp_).1.1)); clear HO304; have HO304 := n_; clear n_; have n_ := X.A (X.N_sep HO308.out (fun k_ h_ hp_ => Nat.lt_asymm h_.2.2.2.2.2.2.2 (PQHO320.out k_ hp_).1.2.2.2.2)); clear HO308; have HO308 := n_; clear n_; have n_ := X.A (X.R_sepT rfl HO312.out (fun k_ hp_ => (PQHO320.out k_ hp_).1.2.2.1)); clear HO312; have HO312 := n_; clear n_; have NPHO320_314 := X.A (X.box_sepE BK314.out (fun k_ hp_ => (PQHO320.out k_ hp_).2.2.2) (by decide)); have n_ := X.A (X.R_sepT rfl HO325.out (fun k_ hp_ => (PQHO320.out k_ hp_).1.2.2.2.1)); clear HO325; have HO325 := n_; clear n_) | ((with_reducible refine gate_callee (f := 12) rfl ?_); refine goesL_ (some 70) rfl rfl Try.func12 (by kernel_rfl) rfl #[.slice Ao60 t318.length co60, .int .i64 1] rfl X.M ?_; (with_reducible refine (laws_markVoyageS.calls k PPHO320 (.slice Ao60 t318.length co60) t318 1 t331 t332 w _ ?side1 ?side2 A26.out).mono ?_); (case side1 => repeat (first | (with_reducible first | exact HB.out | apply below_alloc | apply pw_below_drewN | apply below_drew1 | refine below_set ?_ GE296.out | refine below_set ?_ GE297.out | refine below_set ?_ GE314.out) | exact HB.out)); (case side2 => exact HO320.out); rintro e w70 ⟨rfl, hy0, hb, hkp⟩; refine ⟨_, rfl, ?_⟩; have n0_ := X.A (blk_kept (X.B BK296) hkp (fun hs_ => (fun e_ => NPHO320_296.out e_) hs_)); have n1_ := X.A (blk_kept (X.B BK297) hkp (fun hs_ => (fun e_ => NPHO320_297.out e_) hs_)); have n2_ := X.A (Kd.R_mono (ok' := fun k_ => some k_ ≠ (.slice Ao52 t310.length co52 : Value).ownBlock ∧ some k_ ≠ (.slice Ao65 t323.length co65 : Value).ownBlock) (Kd.R_keptB (HO304.out) hkp (fun k_ hk_ hs_ => (hk_.2) hs_)) (fun k_ hk_ => ⟨hk_.1.1.1, hk_.1.1.2⟩)); have n3_ := X.A (Kd.N_mono (ok' := fun k_ => some k_ ≠ (.slice Ao47 t302.length co47 : Value).ownBlock ∧ some k_ ≠ (.slice Ao52 t310.length co52 : Value).ownBlock ∧ some k_ ≠ (.slice Ao60 t318.length co60 : Value).ownBlock ∧ some k_ ≠ (.slice Ao65 t323.length co65 : Value).ownBlock ∧ k_ ≠ gb296 ∧ k_ ≠ gb297 ∧ k_ ≠ gb314 ∧ k_ < gb314) (Kd.N_keptB (HO308.out) hkp (fun k_ hk_ hs_ => (hk_.2) hs_)) (fun k_ hk_ => ⟨hk_.1.1.1, hk_.1.1.2.1, hk_.1.1.2.2.1, hk_.1.1.2.2.2.1, hk_.1.1.2.2.2.2.1, hk_.1.1.2.2.2.2.2.1, hk_.1.1.2.2.2.2.2.2.1, hk_.1.1.2.2.2.2.2.2.2⟩)); have n4_ := X.A (Kd.R_mono (ok' := fun k_ => some k_ ≠ (.slice Ao47 t302.length co47 : Value).ownBlock ∧ some k_ ≠ (.slice Ao65 t323.length co65 : Value).ownBlock) (Kd.R_keptB (HO312.out) hkp (fun k_ hk_ hs_ => (hk_.2) hs_)) (fun k_ hk_ => ⟨hk_.1.1.1, hk_.1.1.2⟩)); have n5_ := X.A (blk_kept (X.B BK314) hkp (fun hs_ => (fun e_ => NPHO320_314.out e_) hs_)); have n6_ := X.A (Kd.S_mono hy0 (fun k_ h_ => (PQHO320.out k_ h_).1)); have n7_ := X.A (Kd.R_mono (ok' := fun k_ => some k_ ≠ (.slice Ao47 t302.length co47 : Value).ownBlock ∧ some k_ ≠ (.slice Ao52 t310.length co52 : Value).ownBlock) (Kd.R_keptB (HO325.out) hkp (fun k_ hk_ hs_ => (hk_.2) hs_)) (fun k_ hk_ => ⟨hk_.1.1.1, hk_.1.1.2⟩)); have n8_ := X.A (hb); clear BK296 BK297 HO304 HO308 HO312 BK314 HO320 HO325 HB; have BK296 := n0_; have BK297 := n1_; have HO304 := n2_; have HO308 := n3_; have HO312 := n4_; have BK314 := n5_; have HO320 := n6_; have HO325 := n7_; have HB := n8_; clear n0_ n1_ n2_ n3_ n4_ n5_ n6_ n7_ n8_; (try clear hb); (try clear hkp); (try clear hy0)) | ((with_reducible refine gate_callee (f := 13) rfl ?_); refine goesL_ (some 73) rfl rfl Try.func13 (by kernel_rfl) rfl #[.slice Ao60 t332.length co60, .int .i64 1] rfl (by (try simp only [List.map_toArray, List.map_cons, List.map_nil]); first | done | (rw [show t332.length = t318.length from (Kd.S_reads' HO320.out).1.symm] <;> rfl) | rfl | (simp only [List.length_drop, List.length_take]; rfl)) ?_; (with_reducible refine (laws_heldVoyageS.calls k _ _ t332 1 t333 _ ?side1 ?side2 A27.out).mono ?_); (case side1 => exact X.C (Kd.S_reads' HO320.out).2.2); (case side2 => rw [show t332.length = t318.length from (Kd.S_reads' HO320.out).1.symm]; exact (Kd.S_reads' HO320.out).2.1); rintro e w' ⟨rfl, ⟨nd, rfl⟩⟩; refine ⟨_, rfl, ?_⟩))
       (try (rw [drewN_self w70]; generalize hq_ : World.drewN w70 _ = w70; have n0_ : Aside0 (Kd.R (Kd.int .i64) 3 w70 w.heap.size (fun k_ => some k_ ≠ (.slice Ao52 t310.length co52 : Value).ownBlock ∧ some k_ ≠ (.slice Ao65 t323.length co65 : Value).ownBlock) (.slice Ao47 t302.length co47) t302) := ⟨by rw [← hq_]; exact (X.K HO304)⟩; have n1_ : Aside0 (Kd.N k48 48 w70 w.heap.size (fun k_ => some k_ ≠ (.slice Ao47 t302.length co47 : Value).ownBlock ∧ some k_ ≠ (.slice Ao52 t310.length co52 : Value).ownBlock ∧ some k_ ≠ (.slice Ao60 t318.length co60 : Value).ownBlock ∧ some k_ ≠ (.slice Ao65 t323.length co65 : Value).ownBlock ∧ k_ ≠ gb296 ∧ k_ ≠ gb297 ∧ k_ ≠ gb314 ∧ k_ < gb314) (.slice Ao61 t306.length co61) t306) := ⟨by rw [← hq_]; exact (by (with_reducible repeat (first | apply Kd.N_alloc | apply Kd.N_drewN | apply Kd.N_drew)); exact HO308.out)⟩; have n2_ : Aside0 (Kd.R (Kd.int .i64) 3 w70 w.heap.size (fun k_ => some k_ ≠ (.slice Ao47 t302.length co47 : Value).ownBlock ∧ some k_ ≠ (.slice Ao65 t323.length co65 : Value).ownBlock) (.slice Ao52 t310.length co52) t329) := ⟨by rw [← hq_]; exact (X.K HO312)⟩; have n3_ : Aside0 (Kd.S k48 48 w70 w.heap.size (fun k_ => some k_ ≠ (.slice Ao47 t302.length co47 : Value).ownBlock ∧ some k_ ≠ (.slice Ao61 t306.length co61 : Value).ownBlock ∧ some k_ ≠ (.slice Ao52 t310.length co52 : Value).ownBlock ∧ some k_ ≠ (.slice Ao65 t323.length co65 : Value).ownBlock ∧ gb314 < k_) (.slice Ao60 t318.length co60) t332) := ⟨by rw [← hq_]; exact (X.L HO320)⟩; have n4_ : Aside0 (Kd.R (Kd.int .i64) 3 w70 w.heap.size (fun k_ => some k_ ≠ (.slice Ao47 t302.length co47 : Value).ownBlock ∧ some k_ ≠ (.slice Ao52 t310.length co52 : Value).ownBlock) (.slice Ao65 t323.length co65) t323) := ⟨by rw [← hq_]; exact (X.K HO325)⟩; have n5_ : Aside0 (w70.heap[gb296]? = some (.cells #[.int .i64 a0_0, .int .i64 a0_1, .int .i64 a0_2] 23 (0, 0))) := ⟨by rw [← hq_]; exact (X.B BK296)⟩; have n6_ : Aside0 (w70.heap[gb297]? = some (.cells #[.slice A1_0 l1_0.length c1_0, .int .i64 a1_1] 26 (0, 0))) := ⟨by rw [← hq_]; exact (X.B BK297)⟩; have n7_ : Aside0 (w70.heap[gb314]? = some (.cells #[.slice Ao52 t310.length co52, .int .i64 t313] 33 (0, 0))) := ⟨by rw [← hq_]; exact (X.B BK314)⟩; have n8_ : Aside0 (Below w.heap.size w w70) := ⟨by rw [← hq_]; exact X.G⟩; clear HO304 HO308 HO312 HO320 HO325 BK296 BK297 BK314 HB hq_; have HO304 := n0_; have HO308 := n1_; have HO312 := n2_; have HO320 := n3_; have HO325 := n4_; have BK296 := n5_; have BK297 := n6_; have BK314 := n7_; have HB := n8_; clear n0_ n1_ n2_ n3_ n4_ n5_ n6_ n7_ n8_))
       have n0_ := X.A (Kd.R_drew HO304.out)
       have n1_ := X.A (Kd.N_drew HO308.out)
       have n2_ := X.A (Kd.R_drew HO312.out)
       have n3_ := X.A (Kd.S_drew HO320.out)
       have n4_ := X.A (Kd.R_drew HO325.out)
       have n5_ := X.A (blk_drew BK296.out)
       have n6_ := X.A (blk_drew BK297.out)
       have n7_ := X.A (blk_drew BK314.out)
       have n8_ := X.A (below_drew1 HB.out)
       clear HO304 HO308 HO312 HO320 HO325 BK296 BK297 BK314 HB
       have HO304 := n0_
       have HO308 := n1_
       have HO312 := n2_
       have HO320 := n3_
       have HO325 := n4_
       have BK296 := n5_
       have BK297 := n6_
       have BK314 := n7_
       have HB := n8_
       clear n0_ n1_ n2_ n3_ n4_ n5_ n6_ n7_ n8_
       refine start_ (n := 10) (S := fun w' => w'.cell? ⟨gb296, 0, none⟩ = some (.int .i64 a0_0) ∧ w'.cell? ⟨gb296, 1, none⟩ = some (.int .i64 a0_1) ∧ w'.cell? ⟨gb296, 2, none⟩ = some (.int .i64 a0_2) ∧ w'.cell? ⟨gb297, 0, none⟩ = some (.slice A1_0 l1_0.length c1_0) ∧ w'.cell? ⟨gb297, 1, none⟩ = some (.int .i64 a1_1)) (ds := []) #[false, false, false, false, false, false, false, false, false, false] (by kernel_rfl) rfl rfl ⟨(blk_cell BK296.out 0).trans rfl, (blk_cell BK296.out 1).trans rfl, (blk_cell BK296.out 2).trans rfl, (blk_cell BK297.out 0).trans rfl, (blk_cell BK297.out 1).trans rfl⟩ (fun hHeld => ?_); refine with_tabW laws_FnExactVoyagesOf.tab24 laws_FnExactVoyagesOf.bits24 (fun HT_ HW_ => ?_)
       generalize w70.drew = w71 at HO304 HO308 HO312 HO320 HO325 BK296 BK297 BK314 HB hHeld ⊢
       refine take_ (i := 0) (N := some 80) (v := ?_) (a' := ?_) #[true, false, false, false, false, false, false, false, false, false] rfl rfl (take_ofW HT_.out HW_.out (by kernel_rfl)) (fun _ _ _ h => h) (Or.inl ⟨by rfl, ?_⟩) hHeld ?_ ?_
       rotate_left
       ·rintro w' ⟨s0, s1, s2, s3, s4⟩
        go_simp
        with_reducible rfl
       rotate_left
       ·exact X.Pu
       refine take_ (i := 2) (N := some 82) (v := ?_) (a' := ?_) #[true, false, true, false, false, false, false, false, false, false] rfl rfl (take_ofW HT_.out HW_.out (by kernel_rfl)) (fun _ _ _ h => h) (Or.inl ⟨by rfl, ?_⟩) hHeld ?_ ?_
       rotate_left
       ·rintro w' ⟨s0, s1, s2, s3, s4⟩
        go_simp
        with_reducible rfl
       rotate_left
       ·exact X.Pu
       refine one_ (i := 1) (N := some 81) #[true, true, true, false, false, false, false, false, false, false] rfl rfl (one_of HT_.out (by kernel_rfl)) (by decide) (fun K hK => ?_)
       refine goes_ Try.func6 (by kernel_rfl) rfl #[.agg #[.int .i64 a0_0, .int .i64 a0_1, .int .i64 a0_2]] (by rfl) rfl rfl X.M ?_
       with_reducible refine (laws_toIsles.calls a0_0 a0_1 a0_2 t334 t335 t336 _ A30.out).mono ?_
       rintro e w72 ⟨rfl, hb⟩
       refine ⟨_, rfl, ?_⟩
       have n0_ := X.A (Kd.R_below (X.K HO304) hb)
       have n1_ := X.A (Kd.N_below (by (with_reducible repeat (first | apply Kd.N_alloc | apply Kd.N_drewN | apply Kd.N_drew)); exact HO308.out) hb)
       have n2_ := X.A (Kd.R_below (X.K HO312) hb)
       have n3_ := X.A (Kd.S_below (X.L HO320) hb)
       have n4_ := X.A (Kd.R_below (X.K HO325) hb)
       have n5_ := X.A (X.BB BK296 hb)
       have n6_ := X.A (X.BB BK297 hb)
       have n7_ := X.A (X.BB BK314 hb)
       have n8_ := X.A (below_step X.G hb)
       clear HO304 HO308 HO312 HO320 HO325 BK296 BK297 BK314 HB
       have HO304 := n0_
       have HO308 := n1_
       have HO312 := n2_
       have HO320 := n3_
       have HO325 := n4_
       have BK296 := n5_
       have BK297 := n6_
       have BK314 := n7_
       have HB := n8_
       clear n0_ n1_ n2_ n3_ n4_ n5_ n6_ n7_ n8_
       (try clear hb)
       (try clear hb2)
       (try clear hk)
       (try clear hi)
       refine hK.out _ _ ⟨(blk_cell BK296.out 0).trans rfl, (blk_cell BK296.out 1).trans rfl, (blk_cell BK296.out 2).trans rfl, (blk_cell BK297.out 0).trans rfl, (blk_cell BK297.out 1).trans rfl⟩ (fun hHeld => ?_)
       clear hK K
       refine norm_ (a' := ?_) ?_ ?_
       rotate_left
       ·exact (show Act.put _ (some 81) _ = _ from X.Pu)
       refine one_ (i := 3) (N := some 83) #[true, true, true, true, false, false, false, false, false, false] rfl rfl (one_of HT_.out (by kernel_rfl)) (by decide) (fun K hK => ?_)
       refine goes_ Try.func7 (by kernel_rfl) rfl #[.agg #[.slice A1_0 l1_0.length c1_0, .int .i64 a1_1]] (by rfl) rfl rfl X.M ?_
       with_reducible refine (laws_toPlaces.calls k _ _ l1_0 a1_1 t337 t340 _ ?side1 ?side2 A31.out).mono ?_
       (case side1 => exact X.C (Kd.C_below HR1_0.out HB.out))
       (case side2 => exact HC1_0.out)
       rintro e w73 ⟨v338, rfl, ho0, hb⟩
       refine ⟨_, rfl, ?_⟩
       have n0_ := X.A (Kd.R_elder' (X.K HO304) (Kd.R_base ho0) hb)
       have n1_ := X.A (Kd.N_elder' (by (with_reducible repeat (first | apply Kd.N_alloc | apply Kd.N_drewN | apply Kd.N_drew)); exact HO308.out) (Kd.R_base ho0) hb)
       have n2_ := X.A (Kd.R_elder' (X.K HO312) (Kd.R_base ho0) hb)
       have n3_ := X.A (Kd.S_elder' (X.L HO320) (Kd.R_base ho0) hb)
       have n4_ := X.A (Kd.R_elder' (X.K HO325) (Kd.R_base ho0) hb)
       have n5_ := X.A (Kd.R_lower (Kd.R_new' (Kd.R_new' (Kd.R_new' ho0 (Kd.R_lt (X.K HO304))) (Kd.R_lt (X.K HO312))) (Kd.R_lt (X.K HO325))) (below_size X.G))
       have n6_ := X.A (X.BB BK296 hb)
       have n7_ := X.A (X.BB BK297 hb)
       have n8_ := X.A (X.BB BK314 hb)
       have n9_ := X.A (below_step X.G hb)
       clear HO304 HO308 HO312 HO320 HO325 BK296 BK297 BK314 HB
       have HO304 := n0_
       have HO308 := n1_
       have HO312 := n2_
       have HO320 := n3_
       have HO325 := n4_
       have HO339 := n5_
       have BK296 := n6_
       have BK297 := n7_
       have BK314 := n8_
       have HB := n9_
       clear n0_ n1_ n2_ n3_ n4_ n5_ n6_ n7_ n8_ n9_
       (try clear hb)
       (try clear hb2)
       (try clear hk)
       (try clear hi)
       (try clear ho0)
       obtain ⟨Ao74, co74, eo74⟩ := Kd.R_slice HO339.out
       (first | subst eo74 | (injection eo74 with f1_ f2_ f3_; have f4_ := f1_.symm; have f5_ := f3_.symm; clear f1_ f2_ f3_; subst f4_; subst f5_))
       refine hK.out _ _ ⟨(blk_cell BK296.out 0).trans rfl, (blk_cell BK296.out 1).trans rfl, (blk_cell BK296.out 2).trans rfl, (blk_cell BK297.out 0).trans rfl, (blk_cell BK297.out 1).trans rfl⟩ (fun hHeld => ?_)
       clear hK K
       refine norm_ (a' := ?_) ?_ ?_
       rotate_left
       ·exact (show Act.put _ (some 83) _ = _ from X.Pu)
       refine one_ (i := 4) (N := some 84) #[true, true, true, true, true, false, false, false, false, false] rfl rfl (one_of HT_.out (by kernel_rfl)) (by decide) (fun K hK => ?_)
       refine goes_ Try.func8 (by kernel_rfl) rfl #[.agg #[.int .i64 t334, .int .i64 t335, .int .i64 t336], .agg #[.slice Ao74 t337.length co74, .int .i64 t340]] (by rfl) rfl rfl X.M ?_
       with_reducible refine (impl_VoyagesOf.calls k t334 t335 t336 _ _ t337 t340 t341 t344 _ ?side1 ?side2 A32.out).mono ?_
       (case side1 => exact X.C (Kd.R_reads' HO339.out).2.2)
       (case side2 => exact (Kd.R_reads' HO339.out).2.1)
       rintro e w75 ⟨v342, rfl, ho0, hb⟩
       refine ⟨_, rfl, ?_⟩
       have n0_ := X.A (Kd.R_below (X.K HO304) hb)
       have n1_ := X.A (Kd.N_elder' (by (with_reducible repeat (first | apply Kd.N_alloc | apply Kd.N_drewN | apply Kd.N_drew)); exact HO308.out) (Kd.S_base ho0) hb)
       have n2_ := X.A (Kd.R_below (X.K HO312) hb)
       have n3_ := X.A (Kd.S_elder' (X.L HO320) (Kd.S_base ho0) hb)
       have n4_ := X.A (Kd.R_below (X.K HO325) hb)
       have n5_ := X.A (Kd.R_below (X.K HO339) hb)
       have n6_ := X.A (Kd.S_lower (Kd.S_new' (Kd.S_new' (Kd.S_new' (Kd.S_new' (Kd.S_new' (Kd.S_new' (X.S_gtb (X.BL BK314) ho0) (Kd.R_lt (X.K HO304))) (Kd.N_lt (by (with_reducible repeat (first | apply Kd.N_alloc | apply Kd.N_drewN | apply Kd.N_drew)); exact HO308.out))) (Kd.R_lt (X.K HO312))) (Kd.S_lt (X.L HO320))) (Kd.R_lt (X.K HO325))) (Kd.R_lt (X.K HO339))) (below_size X.G))
       have n7_ := X.A (X.BB BK296 hb)
       have n8_ := X.A (X.BB BK297 hb)
       have n9_ := X.A (X.BB BK314 hb)
       have n10_ := X.A (below_step X.G hb)
       clear HO304 HO308 HO312 HO320 HO325 HO339 BK296 BK297 BK314 HB
       have HO304 := n0_
       have HO308 := n1_
       have HO312 := n2_
       have HO320 := n3_
       have HO325 := n4_
       have HO339 := n5_
       have HO343 := n6_
       have BK296 := n7_
       have BK297 := n8_
       have BK314 := n9_
       have HB := n10_
       clear n0_ n1_ n2_ n3_ n4_ n5_ n6_ n7_ n8_ n9_ n10_
       (try clear hb)
       (try clear hb2)
       (try clear hk)
       (try clear hi)
       (try clear ho0)
       refine hK.out _ _ ⟨(blk_cell BK296.out 0).trans rfl, (blk_cell BK296.out 1).trans rfl, (blk_cell BK296.out 2).trans rfl, (blk_cell BK297.out 0).trans rfl, (blk_cell BK297.out 1).trans rfl⟩ (fun hHeld => ?_)
       clear hK K
       refine norm_ (a' := ?_) ?_ ?_
       rotate_left
       ·exact (show Act.put _ (some 84) _ = _ from X.Pu)
       refine pure_ (i := 5) (N := some 79) (v := ?_) (a' := ?_) #[true, true, true, true, true, true, false, false, false, false] rfl rfl (any_of HT_.out (by kernel_rfl)) (fun _ _ _ h => h) (Or.inl ⟨by rfl, ?_⟩) ?_ ?_
       rotate_left
       ·intro w'
        go_simp
        with_reducible rfl
       rotate_left
       ·exact X.Pu
       refine pure_ (i := 6) (N := some 85) (v := ?_) (a' := ?_) #[true, true, true, true, true, true, true, false, false, false] rfl rfl (any_of HT_.out (by kernel_rfl)) (fun _ _ _ h => h) (Or.inl ⟨by rfl, ?_⟩) ?_ ?_
       rotate_left
       ·intro w'
        go_simp
        with_reducible rfl
       rotate_left
       ·exact X.Pu
       refine pure_ (i := 7) (N := some 86) (v := ?_) (a' := ?_) #[true, true, true, true, true, true, true, true, false, false] rfl rfl (any_of HT_.out (by kernel_rfl)) (fun _ _ _ h => h) (Or.inl ⟨by rfl, ?_⟩) ?_ ?_
       rotate_left
       ·intro w'
        go_simp
        with_reducible rfl
       rotate_left
       ·exact X.Pu
       refine pure_ (i := 8) (N := some 14) (v := ?_) (a' := ?_) #[true, true, true, true, true, true, true, true, true, false] rfl rfl (any_of HT_.out (by kernel_rfl)) (fun _ _ _ h => h) (Or.inl ⟨by rfl, ?_⟩) ?_ ?_
       rotate_left
       ·intro w'
        go_simp
        with_reducible rfl
       rotate_left
       ·exact X.Pu
       refine pure_ (i := 9) (N := some 15) (v := ?_) (a' := ?_) #[true, true, true, true, true, true, true, true, true, true] rfl rfl (any_of HT_.out (by kernel_rfl)) (fun _ _ _ h => h) (Or.inl ⟨by rfl, ?_⟩) ?_ ?_
       rotate_left
       ·intro w'
        go_simp
        with_reducible rfl
       rotate_left
       ·exact X.Pu
       refine done_ (done_of HT_.out (by kernel_rfl)) ?_
       obtain ⟨Ao76, co76, eo76⟩ := Kd.S_slice HO343.out
       subst eo76
       try go_wp2_with (first | ((with_reducible refine gate_callee (f := 9) rfl ?_); refine goesL_ (some 89) rfl rfl Try.func9 (by kernel_rfl) rfl #[.slice Ao76 t341.length co76, .slice Ao61 t306.length co61] rfl X.M ?_; (with_reducible refine (laws_eqVoyageS.calls k _ _ t341 _ _ t306 true _ ?side1 ?side2 ?side3 ?side4 A33.out).mono ?_); (case side1 => exact X.C (Kd.S_reads' HO343.out).2.2); (case side2 => exact (Kd.S_reads' HO343.out).2.1); (case side3 => exact X.C (Kd.N_reads' HO308.out).2.2); (case side4 => exact (Kd.N_reads' HO308.out).2.1); rintro e w77 ⟨rfl, hb⟩; refine ⟨_, rfl, ?_⟩; have n0_ := X.A (Kd.R_below (X.K HO304) hb); have n1_ := X.A (Kd.N_below (by (with_reducible repeat (first | apply Kd.N_alloc | apply Kd.N_drewN | apply Kd.N_drew)); exact HO308.out) hb); have n2_ := X.A (Kd.R_below (X.K HO312) hb); have n3_ := X.A (Kd.S_below (X.L HO320) hb); have n4_ := X.A (Kd.R_below (X.K HO325) hb); have n5_ := X.A (Kd.R_below (X.K HO339) hb); have n6_ := X.A (Kd.S_below (X.L HO343) hb); have n7_ := X.A (X.BB BK296 hb); have n8_ := X.A (X.BB BK297 hb); have n9_ := X.A (X.BB BK314 hb); have n10_ := X.A (below_step X.G hb); clear HO304 HO308 HO312 HO320 HO325 HO339 HO343 BK296 BK297 BK314 HB; have HO304 := n0_; have HO308 := n1_; have HO312 := n2_; have HO320 := n3_; have HO325 := n4_; have HO339 := n5_; have HO343 := n6_; have BK296 := n7_; have BK297 := n8_; have BK314 := n9_; have HB := n10_; clear n0_ n1_ n2_ n3_ n4_ n5_ n6_ n7_ n8_ n9_ n10_; (try clear hb); (try clear hb2); (try clear hk); (try clear hi)) | ((with_reducible refine gate_callee (f := 13) rfl ?_); refine goesL_ (some 98) rfl rfl Try.func13 (by kernel_rfl) rfl #[.slice Ao60 t332.length co60, .int .i64 1] rfl (by (try simp only [List.map_toArray, List.map_cons, List.map_nil]); first | done | (rw [show t332.length = t318.length from (Kd.S_reads' HO320.out).1.symm] <;> rfl) | rfl | (simp only [List.length_drop, List.length_take]; rfl)) ?_; (with_reducible refine (laws_heldVoyageS.calls k _ _ t332 1 t346 _ ?side1 ?side2 A36.out).mono ?_); (case side1 => exact X.C (Kd.S_reads' HO320.out).2.2); (case side2 => rw [show t332.length = t318.length from (Kd.S_reads' HO320.out).1.symm]; exact (Kd.S_reads' HO320.out).2.1); rintro e w' ⟨rfl, ⟨nd, rfl⟩⟩; refine ⟨_, rfl, ?_⟩))
       go_ret
       exact ⟨by first | rfl | (simp [errW_none, errW_some] <;> rfl) | (simp [*, errW_none, errW_some] <;> rfl), X.G⟩
/-- THE ONE PURE STATEMENT of laws_FnExactVoyagesOf. -/
def laws_FnExactVoyagesOf.Pure : Prop := ∀ (a0_0 : Int) (a0_1 : Int) (a0_2 : Int) (l1_0 : List Int) (a1_1 : Int), (Lit.int .i64 a0_0).wf = true → (Lit.int .i64 a0_1).wf = true → (Lit.int .i64 a0_2).wf = true → (l1_0.length ≤ maxLen ∧ ∀ z ∈ l1_0, (Lit.int .i64 z).wf = true) → (Lit.int .i64 a1_1).wf = true → ∃ k, laws_FnExactVoyagesOf.f k a0_0 a0_1 a0_2 l1_0 a1_1 = some true

end Go.Proofs.Ytldeaeeolibpjaa.Q
