import Derived.Test.YtjllgibfcnkgpahXShort
import Derived.Test.YtjllgibfcnkgpahQx0
import Derived.Test.YtjllgibfcnkgpahQx1
import Derived.Test.YtjllgibfcnkgpahQx5
import Derived.Test.YtjllgibfcnkgpahQx6
import Derived.Test.YtjllgibfcnkgpahQx18
import Derived.Test.YtjllgibfcnkgpahQx19
import Derived.Test.YtjllgibfcnkgpahQx20
import Derived.Test.YtjllgibfcnkgpahQx21
import Derived.Test.YtjllgibfcnkgpahXMark
-- by wip/xprint.py, a program of this session over the kit's print: not trusted, Lean checks it.
namespace Go.Proofs.Ytjllgibfcnkgpah.Q
open Go.RowKit Go.Proofs.YtjllgibfcnkgpahW.PrintWords Go.Proofs.YtjllgibfcnkgpahW.PrintLast Go.Proofs.YtjllgibfcnkgpahW.PrintMore
attribute [local go_sem] max2_int min2_int max_two min_two max_three min_three max_four min_four   -- for this text's walks alone
set_option linter.unusedVariables false
set_option linter.unusedSimpArgs false

/-! ### laws_FnExactSailAll: function 3 -/
-- IMPORT: Derived.Test.YtjllgibfcnkgpahXMark
def laws_FnExactSailAll.f (k : Nat) (a0_0 : Int) (a0_1 : Int) (a0_2 : Int) (l1_0 : List Int) (a1_1 : Int) (l2 : List (S46)) : Option (Bool) := (laws_szPlaces.f l1_0 a1_1 1048576).bind fun t329 => (if t329 < 0 then (some true) else ((laws_szVoyageS.f k l2 t329).bind fun t330 => (if t330 < 0 then (some true) else ((laws_toIsles.f a0_0 a0_1 a0_2).bind fun bt331 => ((laws_toPlaces.f k l1_0 a1_1).bind fun bt334 => ((laws_toVoyageS.f k l2).bind fun t338 => ((spec_SailAll.f k bt331.1 bt331.2.1 bt331.2.2 bt334.1 bt334.2 t338).bind fun bt341 => ((laws_toPlaces.f k l1_0 a1_1).bind fun bt347 => ((laws_toVoyageS.f k l2).bind fun t352 => ((laws_toIsles.f a0_0 a0_1 a0_2).bind fun bt355 => ((impl_SailAll.f k bt355.1 bt355.2.1 bt355.2.2 bt347.1 bt347.2 t352).bind fun bt358 => ((laws_eqPlaces.f k bt358.1 bt358.2.1 bt341.1 bt341.2.1).bind fun t364 => (if t364 = true then (if (bt358.2.2 != bt341.2.2) = true then (none) else ((laws_toPlaces.f k l1_0 a1_1).bind fun bt365 => ((laws_eqPlaces.f k bt347.1 bt347.2 bt365.1 bt365.2).bind fun t369 => (if t369 = true then ((laws_toVoyageS.f k l2).bind fun t370 => ((laws_eqVoyageS.f k t352 t370).bind fun t373 => (if t373 = true then ((laws_markPlaces.f k bt347.1 bt347.2 1).bind fun bt374 => ((laws_markVoyageS.f k t352 bt374.1).bind fun bt376 => (if bt376.1 < 0 then (none) else ((laws_eqPlaces.f k bt358.1 bt358.2.1 bt341.1 bt341.2.1).bind fun t378 => (if t378 = true then ((laws_markPlaces.f k bt358.1 bt358.2.1 1).bind fun bt379 => ((laws_heldPlaces.f k bt379.2 bt358.2.1 1).bind fun t381 => (if t381 < 0 then (none) else (if t381 = bt379.1 then ((laws_toIsles.f a0_0 a0_1 a0_2).bind fun bt382 => ((laws_toPlaces.f k l1_0 a1_1).bind fun bt385 => ((laws_toVoyageS.f k l2).bind fun t389 => ((impl_SailAll.f k bt382.1 bt382.2.1 bt382.2.2 bt385.1 bt385.2 t389).bind fun bt392 => ((laws_eqPlaces.f k bt392.1 bt392.2.1 bt341.1 bt341.2.1).bind fun t398 => (if t398 = true then (if (bt392.2.2 != bt341.2.2) = true then (none) else ((laws_heldPlaces.f k bt379.2 bt358.2.1 1).bind fun t399 => (if t399 < 0 then (none) else (if t399 = bt379.1 then (some true) else (none))))) else (none))))))) else (none))))) else (none)))))) else (none)))) else (none))))) else (none))))))))))))))
theorem laws_FnExactSailAll.mono : ∀ a0 a1 a2 a3 a4 a5 k, LeO (laws_FnExactSailAll.f k a0 a1 a2 a3 a4 a5) (laws_FnExactSailAll.f (k + 1) a0 a1 a2 a3 a4 a5) := by
 intro a0 a1 a2 a3 a4 a5 k
 unfold laws_FnExactSailAll.f
 repeat' first
   | (with_reducible exact impl_SailAll.mono _ _ _ _ _ _ _)
   | (with_reducible exact laws_eqPlaces.mono _ _ _ _ _)
   | (with_reducible exact laws_eqVoyageS.mono _ _ _)
   | (with_reducible exact laws_heldPlaces.mono _ _ _ _)
   | (with_reducible exact laws_markPlaces.mono _ _ _ _)
   | (with_reducible exact laws_markVoyageS.mono _ _ _)
   | (with_reducible exact laws_szVoyageS.mono _ _ _)
   | (with_reducible exact laws_toPlaces.mono _ _ _)
   | (with_reducible exact laws_toVoyageS.mono _ _)
   | (with_reducible exact spec_SailAll.mono _ _ _ _ _ _ _)
   | (with_reducible exact LeO.refl _)
   | (with_reducible exact LeO.none _)
   | (with_reducible refine LeO.ite ?_ ?_)
   | (with_reducible refine LeO.bind ?_ (fun _ => ?_))
def laws_FnExactSailAll.T8 : Bool × List (List Nat × List Nat) := (true, [([], []), ([0], [0]), ([], []), ([2, 1], [2]), ([], []), ([4, 3], [4]), ([1, 3, 5, 5], [1, 3, 5]), ([6], [6]), ([7], [7]), ([7], [7]), ([], []), ([10, 8, 6, 0, 1, 2, 3, 4, 5, 6, 7, 8, 10], [8, 10]), ([9, 11, 0, 1, 2, 3, 4, 5, 6, 7, 8, 9, 10, 11], [9])])
def laws_FnExactSailAll.B8 : List Nat := [0, 1, 0, 7, 0, 31, 63, 127, 255, 255, 0, 1535, 4095]
theorem laws_FnExactSailAll.tab8 : rtab .any (opsOf Try.f3 8) = laws_FnExactSailAll.T8 := by kernel_rfl
theorem laws_FnExactSailAll.bits8 : waitsOk laws_FnExactSailAll.T8.2 laws_FnExactSailAll.B8 = true := by kernel_rfl
def laws_FnExactSailAll.T11 : Bool × List (List Nat × List Nat) := (true, [([], []), ([0], [0]), ([], []), ([], []), ([1, 2, 3, 1], [1, 2, 3]), ([4], [4]), ([5], [5]), ([5], [5]), ([], []), ([8, 6, 4, 0, 1, 2, 3, 4, 5, 6, 8], [6, 8]), ([7, 9, 0, 1, 2, 3, 4, 5, 6, 7, 8, 9], [7])])
def laws_FnExactSailAll.B11 : List Nat := [0, 1, 0, 0, 15, 31, 63, 63, 0, 383, 1023]
theorem laws_FnExactSailAll.tab11 : rtab .any (opsOf Try.f3 11) = laws_FnExactSailAll.T11 := by kernel_rfl
theorem laws_FnExactSailAll.bits11 : waitsOk laws_FnExactSailAll.T11.2 laws_FnExactSailAll.B11 = true := by kernel_rfl
def laws_FnExactSailAll.T31 : Bool × List (List Nat × List Nat) := (true, [([], []), ([0], [0]), ([], []), ([2, 1], [2]), ([], []), ([4, 3], [4]), ([1, 3, 5, 5], [1, 3, 5]), ([6], [6]), ([7], [7]), ([7], [7]), ([], []), ([10, 8, 6, 0, 1, 2, 3, 4, 5, 6, 7, 8, 10], [8, 10]), ([9, 11, 0, 1, 2, 3, 4, 5, 6, 7, 8, 9, 10, 11], [9])])
def laws_FnExactSailAll.B31 : List Nat := [0, 1, 0, 7, 0, 31, 63, 127, 255, 255, 0, 1535, 4095]
theorem laws_FnExactSailAll.tab31 : rtab .any (opsOf Try.f3 31) = laws_FnExactSailAll.T31 := by kernel_rfl
theorem laws_FnExactSailAll.bits31 : waitsOk laws_FnExactSailAll.T31.2 laws_FnExactSailAll.B31 = true := by kernel_rfl
set_option maxHeartbeats 8000000 in
set_option maxRecDepth 100000 in
noncomputable def laws_FnExactSailAll.callsA : X.Rest (∀ (k : Nat) (a0_0 : Int) (a0_1 : Int) (a0_2 : Int) (A1_0 : Option Addr) (c1_0 : Nat) (l1_0 : List Int) (a1_1 : Int) (A2 : Option Addr) (c2 : Nat) (l2 : List (S46)) (r : Bool) (w : World) (hr1_0 : Kd.C (Kd.int .i64) w A1_0 l1_0.length l1_0) (hc1_0 : l1_0.length ≤ c1_0) (hr2 : Kd.C k46 w A2 l2.length l2) (hc2 : l2.length ≤ c2) (h : laws_FnExactSailAll.f k a0_0 a0_1 a0_2 l1_0 a1_1 l2 = some r), Calls Try.prog 3 #[.agg #[.int .i64 a0_0, .int .i64 a0_1, .int .i64 a0_2], .agg #[.slice A1_0 l1_0.length c1_0, .int .i64 a1_1], .slice A2 l2.length c2] w fun e w' => e = .returned (.bool r) ∧ Below w.heap.size w w') := by
  apply X.Rest.mk
  intro hRest_
  intro k a0_0 a0_1 a0_2 A1_0 c1_0 l1_0 a1_1 A2 c2 l2 r w hr1_0 hc1_0 hr2 hc2 h
  have hu23 := Try.underlying23
  have hu26 := Try.underlying26
  have hu30 := Try.underlying30
  have HR1_0 := X.A hr1_0
  have HC1_0 := X.A hc1_0
  clear hr1_0 hc1_0
  have HR2 := X.A hr2
  have HC2 := X.A hc2
  clear hr2 hc2
  have HB := X.A (Below.refl w.heap.size w)
  have H : ((laws_szPlaces.f l1_0 a1_1 1048576).bind fun t329 => (if t329 < 0 then (some true) else ((laws_szVoyageS.f k l2 t329).bind fun t330 => (if t330 < 0 then (some true) else ((laws_toIsles.f a0_0 a0_1 a0_2).bind fun bt331 => ((laws_toPlaces.f k l1_0 a1_1).bind fun bt334 => ((laws_toVoyageS.f k l2).bind fun t338 => ((spec_SailAll.f k bt331.1 bt331.2.1 bt331.2.2 bt334.1 bt334.2 t338).bind fun bt341 => ((laws_toPlaces.f k l1_0 a1_1).bind fun bt347 => ((laws_toVoyageS.f k l2).bind fun t352 => ((laws_toIsles.f a0_0 a0_1 a0_2).bind fun bt355 => ((impl_SailAll.f k bt355.1 bt355.2.1 bt355.2.2 bt347.1 bt347.2 t352).bind fun bt358 => ((laws_eqPlaces.f k bt358.1 bt358.2.1 bt341.1 bt341.2.1).bind fun t364 => (if t364 = true then (if (bt358.2.2 != bt341.2.2) = true then (none) else ((laws_toPlaces.f k l1_0 a1_1).bind fun bt365 => ((laws_eqPlaces.f k bt347.1 bt347.2 bt365.1 bt365.2).bind fun t369 => (if t369 = true then ((laws_toVoyageS.f k l2).bind fun t370 => ((laws_eqVoyageS.f k t352 t370).bind fun t373 => (if t373 = true then ((laws_markPlaces.f k bt347.1 bt347.2 1).bind fun bt374 => ((laws_markVoyageS.f k t352 bt374.1).bind fun bt376 => (if bt376.1 < 0 then (none) else ((laws_eqPlaces.f k bt358.1 bt358.2.1 bt341.1 bt341.2.1).bind fun t378 => (if t378 = true then ((laws_markPlaces.f k bt358.1 bt358.2.1 1).bind fun bt379 => ((laws_heldPlaces.f k bt379.2 bt358.2.1 1).bind fun t381 => (if t381 < 0 then (none) else (if t381 = bt379.1 then ((laws_toIsles.f a0_0 a0_1 a0_2).bind fun bt382 => ((laws_toPlaces.f k l1_0 a1_1).bind fun bt385 => ((laws_toVoyageS.f k l2).bind fun t389 => ((impl_SailAll.f k bt382.1 bt382.2.1 bt382.2.2 bt385.1 bt385.2 t389).bind fun bt392 => ((laws_eqPlaces.f k bt392.1 bt392.2.1 bt341.1 bt341.2.1).bind fun t398 => (if t398 = true then (if (bt392.2.2 != bt341.2.2) = true then (none) else ((laws_heldPlaces.f k bt379.2 bt358.2.1 1).bind fun t399 => (if t399 < 0 then (none) else (if t399 = bt379.1 then (some true) else (none))))) else (none))))))) else (none))))) else (none)))))) else (none)))) else (none))))) else (none))))))))))))))) = some r := h
  clear h
  replace H := Option.bind_eq_some_iff.mp H
  obtain ⟨t329, A40, H⟩ := H
  replace H : (if t329 < 0 then (some true) else ((laws_szVoyageS.f k l2 t329).bind fun t330 => (if t330 < 0 then (some true) else ((laws_toIsles.f a0_0 a0_1 a0_2).bind fun bt331 => ((laws_toPlaces.f k l1_0 a1_1).bind fun bt334 => ((laws_toVoyageS.f k l2).bind fun t338 => ((spec_SailAll.f k bt331.1 bt331.2.1 bt331.2.2 bt334.1 bt334.2 t338).bind fun bt341 => ((laws_toPlaces.f k l1_0 a1_1).bind fun bt347 => ((laws_toVoyageS.f k l2).bind fun t352 => ((laws_toIsles.f a0_0 a0_1 a0_2).bind fun bt355 => ((impl_SailAll.f k bt355.1 bt355.2.1 bt355.2.2 bt347.1 bt347.2 t352).bind fun bt358 => ((laws_eqPlaces.f k bt358.1 bt358.2.1 bt341.1 bt341.2.1).bind fun t364 => (if t364 = true then (if (bt358.2.2 != bt341.2.2) = true then (none) else ((laws_toPlaces.f k l1_0 a1_1).bind fun bt365 => ((laws_eqPlaces.f k bt347.1 bt347.2 bt365.1 bt365.2).bind fun t369 => (if t369 = true then ((laws_toVoyageS.f k l2).bind fun t370 => ((laws_eqVoyageS.f k t352 t370).bind fun t373 => (if t373 = true then ((laws_markPlaces.f k bt347.1 bt347.2 1).bind fun bt374 => ((laws_markVoyageS.f k t352 bt374.1).bind fun bt376 => (if bt376.1 < 0 then (none) else ((laws_eqPlaces.f k bt358.1 bt358.2.1 bt341.1 bt341.2.1).bind fun t378 => (if t378 = true then ((laws_markPlaces.f k bt358.1 bt358.2.1 1).bind fun bt379 => ((laws_heldPlaces.f k bt379.2 bt358.2.1 1).bind fun t381 => (if t381 < 0 then (none) else (if t381 = bt379.1 then ((laws_toIsles.f a0_0 a0_1 a0_2).bind fun bt382 => ((laws_toPlaces.f k l1_0 a1_1).bind fun bt385 => ((laws_toVoyageS.f k l2).bind fun t389 => ((impl_SailAll.f k bt382.1 bt382.2.1 bt382.2.2 bt385.1 bt385.2 t389).bind fun bt392 => ((laws_eqPlaces.f k bt392.1 bt392.2.1 bt341.1 bt341.2.1).bind fun t398 => (if t398 = true then (if (bt392.2.2 != bt341.2.2) = true then (none) else ((laws_heldPlaces.f k bt379.2 bt358.2.1 1).bind fun t399 => (if t399 < 0 then (none) else (if t399 = bt379.1 then (some true) else (none))))) else (none))))))) else (none))))) else (none)))))) else (none)))) else (none))))) else (none)))))))))))))) = some r := H
  have A4 := X.A A40
  clear A40
  by_cases c5 : t329 < 0
  ·rw [if_pos c5] at H
   have c5b0 : decide (t329 < 0) = true := decide_eq_true c5
   clear c5
   obtain rfl := Option.some.inj H
   go_enter Try.func3, Try.ntmps3
   go_wp2_with (first | ((with_reducible refine gate_dst (N := 3) rfl ?_); refine box_event ?hg (N := 3) ?hd (cs := #[.int .i64 a0_0, .int .i64 a0_1, .int .i64 a0_2]) (t := 23) ?hr ?_; (case hd => rfl); (case hg => rfl); (case hr => exact X.R); intro gb327 hg w6 hbox hb; have n0_ := X.A (below_step X.G hb); have n1_ := X.A (hbox); have n2_ := X.A ((by rw [hg]; exact (below_size X.G) : w.heap.size ≤ gb327)); have n3_ := X.A ((by rw [hg]; exact (below_size X.G) : w.heap.size ≤ gb327)); clear HB; have HB := n0_; have BK327 := n1_; have GW327 := n2_; have GE327 := n3_; clear n0_ n1_ n2_ n3_; clear hb hbox hg) | ((with_reducible refine gate_dst (N := 4) rfl ?_); refine box_event ?hg (N := 4) ?hd (cs := #[.slice A1_0 l1_0.length c1_0, .int .i64 a1_1]) (t := 26) ?hr ?_; (case hd => rfl); (case hg => rfl); (case hr => exact X.R); intro gb328 hg w7 hbox hb; have n0_ := X.A (X.BB BK327 hb); have n1_ := X.A (below_step X.G hb); have n2_ := X.A (hbox); have n3_ := X.A ((by rw [hg]; exact (below_size X.G) : w.heap.size ≤ gb328)); have n4_ := X.A ((by rw [hg]; exact (below_size X.G) : w.heap.size ≤ gb328)); have n5_ := X.A (X.NL hg BK327); have n6_ := X.A (X.NG hg BK327); clear BK327 HB; have BK327 := n0_; have HB := n1_; have BK328 := n2_; have GW328 := n3_; have GE328 := n4_; have NB327_328 := n5_; have NB328_327 := n6_; clear n0_ n1_ n2_ n3_ n4_ n5_ n6_ hb hbox hg; have hnb8 := NB328_327.out; have hnc8 := NB327_328.out; have hcz9_0 : w7.cell? ⟨gb328, 0, none⟩ = some (.slice A1_0 l1_0.length c1_0) := (blk_cell BK328.out 0).trans rfl; have hcz9_1 : w7.cell? ⟨gb328, 1, none⟩ = some (.int .i64 a1_1) := (blk_cell BK328.out 1).trans rfl; have hfz9_0 := blk_frozen BK328.out 0; have hfz9_1 := blk_frozen BK328.out 1) | ((with_reducible refine gate_callee (f := 4) rfl ?_); refine goesL_ (some 21) rfl rfl Try.func4 (by kernel_rfl) rfl #[.agg #[.slice A1_0 l1_0.length c1_0, .int .i64 a1_1], .int .i64 1048576] rfl X.M ?_; (with_reducible refine (laws_szPlaces.calls _ _ l1_0 a1_1 1048576 t329 _ ?side1 ?side2 A4.out).mono ?_); (case side1 => exact X.C (Kd.C_below HR1_0.out HB.out)); (case side2 => exact HC1_0.out); rintro e w10 ⟨rfl, hb⟩; refine ⟨_, rfl, ?_⟩; have n0_ := X.A (X.BB BK327 hb); have n1_ := X.A (X.BB BK328 hb); have n2_ := X.A (below_step X.G hb); clear BK327 BK328 HB; have BK327 := n0_; have BK328 := n1_; have HB := n2_; clear n0_ n1_ n2_; (try clear hb); (try clear hb2); (try clear hk); (try clear hi)))
   go_ret
   exact ⟨by first | rfl | (simp [errW_none, errW_some] <;> rfl) | (simp [*, errW_none, errW_some] <;> rfl), X.G⟩
  ·rw [if_neg c5] at H
   have c5b0 : decide (t329 < 0) = false := decide_eq_false c5
   clear c5
   replace H := Option.bind_eq_some_iff.mp H
   obtain ⟨t330, A110, H⟩ := H
   replace H : (if t330 < 0 then (some true) else ((laws_toIsles.f a0_0 a0_1 a0_2).bind fun bt331 => ((laws_toPlaces.f k l1_0 a1_1).bind fun bt334 => ((laws_toVoyageS.f k l2).bind fun t338 => ((spec_SailAll.f k bt331.1 bt331.2.1 bt331.2.2 bt334.1 bt334.2 t338).bind fun bt341 => ((laws_toPlaces.f k l1_0 a1_1).bind fun bt347 => ((laws_toVoyageS.f k l2).bind fun t352 => ((laws_toIsles.f a0_0 a0_1 a0_2).bind fun bt355 => ((impl_SailAll.f k bt355.1 bt355.2.1 bt355.2.2 bt347.1 bt347.2 t352).bind fun bt358 => ((laws_eqPlaces.f k bt358.1 bt358.2.1 bt341.1 bt341.2.1).bind fun t364 => (if t364 = true then (if (bt358.2.2 != bt341.2.2) = true then (none) else ((laws_toPlaces.f k l1_0 a1_1).bind fun bt365 => ((laws_eqPlaces.f k bt347.1 bt347.2 bt365.1 bt365.2).bind fun t369 => (if t369 = true then ((laws_toVoyageS.f k l2).bind fun t370 => ((laws_eqVoyageS.f k t352 t370).bind fun t373 => (if t373 = true then ((laws_markPlaces.f k bt347.1 bt347.2 1).bind fun bt374 => ((laws_markVoyageS.f k t352 bt374.1).bind fun bt376 => (if bt376.1 < 0 then (none) else ((laws_eqPlaces.f k bt358.1 bt358.2.1 bt341.1 bt341.2.1).bind fun t378 => (if t378 = true then ((laws_markPlaces.f k bt358.1 bt358.2.1 1).bind fun bt379 => ((laws_heldPlaces.f k bt379.2 bt358.2.1 1).bind fun t381 => (if t381 < 0 then (none) else (if t381 = bt379.1 then ((laws_toIsles.f a0_0 a0_1 a0_2).bind fun bt382 => ((laws_toPlaces.f k l1_0 a1_1).bind fun bt385 => ((laws_toVoyageS.f k l2).bind fun t389 => ((impl_SailAll.f k bt382.1 bt382.2.1 bt382.2.2 bt385.1 bt385.2 t389).bind fun bt392 => ((laws_eqPlaces.f k bt392.1 bt392.2.1 bt341.1 bt341.2.1).bind fun t398 => (if t398 = true then (if (bt392.2.2 != bt341.2.2) = true then (none) else ((laws_heldPlaces.f k bt379.2 bt358.2.1 1).bind fun t399 => (if t399 < 0 then (none) else (if t399 = bt379.1 then (some true) else (none))))) else (none))))))) else (none))))) else (none)))))) else (none)))) else (none))))) else (none)))))))))))) = some r := H
   have A11 := X.A A110
   clear A110
   by_cases c12 : t330 < 0
   ·rw [if_pos c12] at H
    have c12b0 : decide (t330 < 0) = true := decide_eq_true c12
    clear c12
    obtain rfl := Option.some.inj H
    go_enter Try.func3, Try.ntmps3
    go_wp2_with (first | ((with_reducible refine gate_dst (N := 3) rfl ?_); refine box_event ?hg (N := 3) ?hd (cs := #[.int .i64 a0_0, .int .i64 a0_1, .int .i64 a0_2]) (t := 23) ?hr ?_; (case hd => rfl); (case hg => rfl); (case hr => exact X.R); intro gb327 hg w13 hbox hb; have n0_ := X.A (below_step X.G hb); have n1_ := X.A (hbox); have n2_ := X.A ((by rw [hg]; exact (below_size X.G) : w.heap.size ≤ gb327)); have n3_ := X.A ((by rw [hg]; exact (below_size X.G) : w.heap.size ≤ gb327)); clear HB; have HB := n0_; have BK327 := n1_; have GW327 := n2_; have GE327 := n3_; clear n0_ n1_ n2_ n3_; clear hb hbox hg) | ((with_reducible refine gate_dst (N := 4) rfl ?_); refine box_event ?hg (N := 4) ?hd (cs := #[.slice A1_0 l1_0.length c1_0, .int .i64 a1_1]) (t := 26) ?hr ?_; (case hd => rfl); (case hg => rfl); (case hr => exact X.R); intro gb328 hg w14 hbox hb; have n0_ := X.A (X.BB BK327 hb); have n1_ := X.A (below_step X.G hb); have n2_ := X.A (hbox); have n3_ := X.A ((by rw [hg]; exact (below_size X.G) : w.heap.size ≤ gb328)); have n4_ := X.A ((by rw [hg]; exact (below_size X.G) : w.heap.size ≤ gb328)); have n5_ := X.A (X.NL hg BK327); have n6_ := X.A (X.NG hg BK327); clear BK327 HB; have BK327 := n0_; have HB := n1_; have BK328 := n2_; have GW328 := n3_; have GE328 := n4_; have NB327_328 := n5_; have NB328_327 := n6_; clear n0_ n1_ n2_ n3_ n4_ n5_ n6_ hb hbox hg; have hnb15 := NB328_327.out; have hnc15 := NB327_328.out; have hcz16_0 : w14.cell? ⟨gb328, 0, none⟩ = some (.slice A1_0 l1_0.length c1_0) := (blk_cell BK328.out 0).trans rfl; have hcz16_1 : w14.cell? ⟨gb328, 1, none⟩ = some (.int .i64 a1_1) := (blk_cell BK328.out 1).trans rfl; have hfz16_0 := blk_frozen BK328.out 0; have hfz16_1 := blk_frozen BK328.out 1) | ((with_reducible refine gate_callee (f := 4) rfl ?_); refine goesL_ (some 21) rfl rfl Try.func4 (by kernel_rfl) rfl #[.agg #[.slice A1_0 l1_0.length c1_0, .int .i64 a1_1], .int .i64 1048576] rfl X.M ?_; (with_reducible refine (laws_szPlaces.calls _ _ l1_0 a1_1 1048576 t329 _ ?side1 ?side2 A4.out).mono ?_); (case side1 => exact X.C (Kd.C_below HR1_0.out HB.out)); (case side2 => exact HC1_0.out); rintro e w17 ⟨rfl, hb⟩; refine ⟨_, rfl, ?_⟩; have n0_ := X.A (X.BB BK327 hb); have n1_ := X.A (X.BB BK328 hb); have n2_ := X.A (below_step X.G hb); clear BK327 BK328 HB; have BK327 := n0_; have BK328 := n1_; have HB := n2_; clear n0_ n1_ n2_; (try clear hb); (try clear hb2); (try clear hk); (try clear hi)) | ((with_reducible refine gate_callee (f := 5) rfl ?_); refine goesL_ (some 26) rfl rfl Try.func5 (by kernel_rfl) rfl #[.slice A2 l2.length c2, .int .i64 t329] rfl X.M ?_; (with_reducible refine (laws_szVoyageS.calls k _ _ l2 t329 t330 _ ?side1 ?side2 A11.out).mono ?_); (case side1 => exact X.C (Kd.C_below HR2.out HB.out)); (case side2 => exact HC2.out); rintro e w18 ⟨rfl, hb⟩; refine ⟨_, rfl, ?_⟩; have n0_ := X.A (X.BB BK327 hb); have n1_ := X.A (X.BB BK328 hb); have n2_ := X.A (below_step X.G hb); clear BK327 BK328 HB; have BK327 := n0_; have BK328 := n1_; have HB := n2_; clear n0_ n1_ n2_; (try clear hb); (try clear hb2); (try clear hk); (try clear hi)))
    go_ret
    exact ⟨by first | rfl | (simp [errW_none, errW_some] <;> rfl) | (simp [*, errW_none, errW_some] <;> rfl), X.G⟩
   ·rw [if_neg c12] at H
    have c12b0 : decide (t330 < 0) = false := decide_eq_false c12
    clear c12
    replace H := Option.bind_eq_some_iff.mp H
    obtain ⟨⟨t331, t332, t333⟩, A190, H⟩ := H
    replace H : ((laws_toPlaces.f k l1_0 a1_1).bind fun bt334 => ((laws_toVoyageS.f k l2).bind fun t338 => ((spec_SailAll.f k t331 t332 t333 bt334.1 bt334.2 t338).bind fun bt341 => ((laws_toPlaces.f k l1_0 a1_1).bind fun bt347 => ((laws_toVoyageS.f k l2).bind fun t352 => ((laws_toIsles.f a0_0 a0_1 a0_2).bind fun bt355 => ((impl_SailAll.f k bt355.1 bt355.2.1 bt355.2.2 bt347.1 bt347.2 t352).bind fun bt358 => ((laws_eqPlaces.f k bt358.1 bt358.2.1 bt341.1 bt341.2.1).bind fun t364 => (if t364 = true then (if (bt358.2.2 != bt341.2.2) = true then (none) else ((laws_toPlaces.f k l1_0 a1_1).bind fun bt365 => ((laws_eqPlaces.f k bt347.1 bt347.2 bt365.1 bt365.2).bind fun t369 => (if t369 = true then ((laws_toVoyageS.f k l2).bind fun t370 => ((laws_eqVoyageS.f k t352 t370).bind fun t373 => (if t373 = true then ((laws_markPlaces.f k bt347.1 bt347.2 1).bind fun bt374 => ((laws_markVoyageS.f k t352 bt374.1).bind fun bt376 => (if bt376.1 < 0 then (none) else ((laws_eqPlaces.f k bt358.1 bt358.2.1 bt341.1 bt341.2.1).bind fun t378 => (if t378 = true then ((laws_markPlaces.f k bt358.1 bt358.2.1 1).bind fun bt379 => ((laws_heldPlaces.f k bt379.2 bt358.2.1 1).bind fun t381 => (if t381 < 0 then (none) else (if t381 = bt379.1 then ((laws_toIsles.f a0_0 a0_1 a0_2).bind fun bt382 => ((laws_toPlaces.f k l1_0 a1_1).bind fun bt385 => ((laws_toVoyageS.f k l2).bind fun t389 => ((impl_SailAll.f k bt382.1 bt382.2.1 bt382.2.2 bt385.1 bt385.2 t389).bind fun bt392 => ((laws_eqPlaces.f k bt392.1 bt392.2.1 bt341.1 bt341.2.1).bind fun t398 => (if t398 = true then (if (bt392.2.2 != bt341.2.2) = true then (none) else ((laws_heldPlaces.f k bt379.2 bt358.2.1 1).bind fun t399 => (if t399 < 0 then (none) else (if t399 = bt379.1 then (some true) else (none))))) else (none))))))) else (none))))) else (none)))))) else (none)))) else (none))))) else (none)))))))))) = some r := H
    have A19 := X.A A190
    clear A190
    replace H := Option.bind_eq_some_iff.mp H
    obtain ⟨⟨t334, t337⟩, A200, H⟩ := H
    replace H : ((laws_toVoyageS.f k l2).bind fun t338 => ((spec_SailAll.f k t331 t332 t333 t334 t337 t338).bind fun bt341 => ((laws_toPlaces.f k l1_0 a1_1).bind fun bt347 => ((laws_toVoyageS.f k l2).bind fun t352 => ((laws_toIsles.f a0_0 a0_1 a0_2).bind fun bt355 => ((impl_SailAll.f k bt355.1 bt355.2.1 bt355.2.2 bt347.1 bt347.2 t352).bind fun bt358 => ((laws_eqPlaces.f k bt358.1 bt358.2.1 bt341.1 bt341.2.1).bind fun t364 => (if t364 = true then (if (bt358.2.2 != bt341.2.2) = true then (none) else ((laws_toPlaces.f k l1_0 a1_1).bind fun bt365 => ((laws_eqPlaces.f k bt347.1 bt347.2 bt365.1 bt365.2).bind fun t369 => (if t369 = true then ((laws_toVoyageS.f k l2).bind fun t370 => ((laws_eqVoyageS.f k t352 t370).bind fun t373 => (if t373 = true then ((laws_markPlaces.f k bt347.1 bt347.2 1).bind fun bt374 => ((laws_markVoyageS.f k t352 bt374.1).bind fun bt376 => (if bt376.1 < 0 then (none) else ((laws_eqPlaces.f k bt358.1 bt358.2.1 bt341.1 bt341.2.1).bind fun t378 => (if t378 = true then ((laws_markPlaces.f k bt358.1 bt358.2.1 1).bind fun bt379 => ((laws_heldPlaces.f k bt379.2 bt358.2.1 1).bind fun t381 => (if t381 < 0 then (none) else (if t381 = bt379.1 then ((laws_toIsles.f a0_0 a0_1 a0_2).bind fun bt382 => ((laws_toPlaces.f k l1_0 a1_1).bind fun bt385 => ((laws_toVoyageS.f k l2).bind fun t389 => ((impl_SailAll.f k bt382.1 bt382.2.1 bt382.2.2 bt385.1 bt385.2 t389).bind fun bt392 => ((laws_eqPlaces.f k bt392.1 bt392.2.1 bt341.1 bt341.2.1).bind fun t398 => (if t398 = true then (if (bt392.2.2 != bt341.2.2) = true then (none) else ((laws_heldPlaces.f k bt379.2 bt358.2.1 1).bind fun t399 => (if t399 < 0 then (none) else (if t399 = bt379.1 then (some true) else (none))))) else (none))))))) else (none))))) else (none)))))) else (none)))) else (none))))) else (none))))))))) = some r := H
    have A20 := X.A A200
    clear A200
    replace H := Option.bind_eq_some_iff.mp H
    obtain ⟨t338, A210, H⟩ := H
    replace H : ((spec_SailAll.f k t331 t332 t333 t334 t337 t338).bind fun bt341 => ((laws_toPlaces.f k l1_0 a1_1).bind fun bt347 => ((laws_toVoyageS.f k l2).bind fun t352 => ((laws_toIsles.f a0_0 a0_1 a0_2).bind fun bt355 => ((impl_SailAll.f k bt355.1 bt355.2.1 bt355.2.2 bt347.1 bt347.2 t352).bind fun bt358 => ((laws_eqPlaces.f k bt358.1 bt358.2.1 bt341.1 bt341.2.1).bind fun t364 => (if t364 = true then (if (bt358.2.2 != bt341.2.2) = true then (none) else ((laws_toPlaces.f k l1_0 a1_1).bind fun bt365 => ((laws_eqPlaces.f k bt347.1 bt347.2 bt365.1 bt365.2).bind fun t369 => (if t369 = true then ((laws_toVoyageS.f k l2).bind fun t370 => ((laws_eqVoyageS.f k t352 t370).bind fun t373 => (if t373 = true then ((laws_markPlaces.f k bt347.1 bt347.2 1).bind fun bt374 => ((laws_markVoyageS.f k t352 bt374.1).bind fun bt376 => (if bt376.1 < 0 then (none) else ((laws_eqPlaces.f k bt358.1 bt358.2.1 bt341.1 bt341.2.1).bind fun t378 => (if t378 = true then ((laws_markPlaces.f k bt358.1 bt358.2.1 1).bind fun bt379 => ((laws_heldPlaces.f k bt379.2 bt358.2.1 1).bind fun t381 => (if t381 < 0 then (none) else (if t381 = bt379.1 then ((laws_toIsles.f a0_0 a0_1 a0_2).bind fun bt382 => ((laws_toPlaces.f k l1_0 a1_1).bind fun bt385 => ((laws_toVoyageS.f k l2).bind fun t389 => ((impl_SailAll.f k bt382.1 bt382.2.1 bt382.2.2 bt385.1 bt385.2 t389).bind fun bt392 => ((laws_eqPlaces.f k bt392.1 bt392.2.1 bt341.1 bt341.2.1).bind fun t398 => (if t398 = true then (if (bt392.2.2 != bt341.2.2) = true then (none) else ((laws_heldPlaces.f k bt379.2 bt358.2.1 1).bind fun t399 => (if t399 < 0 then (none) else (if t399 = bt379.1 then (some true) else (none))))) else (none))))))) else (none))))) else (none)))))) else (none)))) else (none))))) else (none)))))))) = some r := H
    have A21 := X.A A210
    clear A210
    replace H := Option.bind_eq_some_iff.mp H
    obtain ⟨⟨t341, t344, t345⟩, A220, H⟩ := H
    replace H : ((laws_toPlaces.f k l1_0 a1_1).bind fun bt347 => ((laws_toVoyageS.f k l2).bind fun t352 => ((laws_toIsles.f a0_0 a0_1 a0_2).bind fun bt355 => ((impl_SailAll.f k bt355.1 bt355.2.1 bt355.2.2 bt347.1 bt347.2 t352).bind fun bt358 => ((laws_eqPlaces.f k bt358.1 bt358.2.1 t341 t344).bind fun t364 => (if t364 = true then (if (bt358.2.2 != t345) = true then (none) else ((laws_toPlaces.f k l1_0 a1_1).bind fun bt365 => ((laws_eqPlaces.f k bt347.1 bt347.2 bt365.1 bt365.2).bind fun t369 => (if t369 = true then ((laws_toVoyageS.f k l2).bind fun t370 => ((laws_eqVoyageS.f k t352 t370).bind fun t373 => (if t373 = true then ((laws_markPlaces.f k bt347.1 bt347.2 1).bind fun bt374 => ((laws_markVoyageS.f k t352 bt374.1).bind fun bt376 => (if bt376.1 < 0 then (none) else ((laws_eqPlaces.f k bt358.1 bt358.2.1 t341 t344).bind fun t378 => (if t378 = true then ((laws_markPlaces.f k bt358.1 bt358.2.1 1).bind fun bt379 => ((laws_heldPlaces.f k bt379.2 bt358.2.1 1).bind fun t381 => (if t381 < 0 then (none) else (if t381 = bt379.1 then ((laws_toIsles.f a0_0 a0_1 a0_2).bind fun bt382 => ((laws_toPlaces.f k l1_0 a1_1).bind fun bt385 => ((laws_toVoyageS.f k l2).bind fun t389 => ((impl_SailAll.f k bt382.1 bt382.2.1 bt382.2.2 bt385.1 bt385.2 t389).bind fun bt392 => ((laws_eqPlaces.f k bt392.1 bt392.2.1 t341 t344).bind fun t398 => (if t398 = true then (if (bt392.2.2 != t345) = true then (none) else ((laws_heldPlaces.f k bt379.2 bt358.2.1 1).bind fun t399 => (if t399 < 0 then (none) else (if t399 = bt379.1 then (some true) else (none))))) else (none))))))) else (none))))) else (none)))))) else (none)))) else (none))))) else (none))))))) = some r := H
    have A22 := X.A A220
    clear A220
    replace H := Option.bind_eq_some_iff.mp H
    obtain ⟨⟨t347, t350⟩, A230, H⟩ := H
    replace H : ((laws_toVoyageS.f k l2).bind fun t352 => ((laws_toIsles.f a0_0 a0_1 a0_2).bind fun bt355 => ((impl_SailAll.f k bt355.1 bt355.2.1 bt355.2.2 t347 t350 t352).bind fun bt358 => ((laws_eqPlaces.f k bt358.1 bt358.2.1 t341 t344).bind fun t364 => (if t364 = true then (if (bt358.2.2 != t345) = true then (none) else ((laws_toPlaces.f k l1_0 a1_1).bind fun bt365 => ((laws_eqPlaces.f k t347 t350 bt365.1 bt365.2).bind fun t369 => (if t369 = true then ((laws_toVoyageS.f k l2).bind fun t370 => ((laws_eqVoyageS.f k t352 t370).bind fun t373 => (if t373 = true then ((laws_markPlaces.f k t347 t350 1).bind fun bt374 => ((laws_markVoyageS.f k t352 bt374.1).bind fun bt376 => (if bt376.1 < 0 then (none) else ((laws_eqPlaces.f k bt358.1 bt358.2.1 t341 t344).bind fun t378 => (if t378 = true then ((laws_markPlaces.f k bt358.1 bt358.2.1 1).bind fun bt379 => ((laws_heldPlaces.f k bt379.2 bt358.2.1 1).bind fun t381 => (if t381 < 0 then (none) else (if t381 = bt379.1 then ((laws_toIsles.f a0_0 a0_1 a0_2).bind fun bt382 => ((laws_toPlaces.f k l1_0 a1_1).bind fun bt385 => ((laws_toVoyageS.f k l2).bind fun t389 => ((impl_SailAll.f k bt382.1 bt382.2.1 bt382.2.2 bt385.1 bt385.2 t389).bind fun bt392 => ((laws_eqPlaces.f k bt392.1 bt392.2.1 t341 t344).bind fun t398 => (if t398 = true then (if (bt392.2.2 != t345) = true then (none) else ((laws_heldPlaces.f k bt379.2 bt358.2.1 1).bind fun t399 => (if t399 < 0 then (none) else (if t399 = bt379.1 then (some true) else (none))))) else (none))))))) else (none))))) else (none)))))) else (none)))) else (none))))) else (none)))))) = some r := H
    have A23 := X.A A230
    clear A230
    replace H := Option.bind_eq_some_iff.mp H
    obtain ⟨t352, A240, H⟩ := H
    replace H : ((laws_toIsles.f a0_0 a0_1 a0_2).bind fun bt355 => ((impl_SailAll.f k bt355.1 bt355.2.1 bt355.2.2 t347 t350 t352).bind fun bt358 => ((laws_eqPlaces.f k bt358.1 bt358.2.1 t341 t344).bind fun t364 => (if t364 = true then (if (bt358.2.2 != t345) = true then (none) else ((laws_toPlaces.f k l1_0 a1_1).bind fun bt365 => ((laws_eqPlaces.f k t347 t350 bt365.1 bt365.2).bind fun t369 => (if t369 = true then ((laws_toVoyageS.f k l2).bind fun t370 => ((laws_eqVoyageS.f k t352 t370).bind fun t373 => (if t373 = true then ((laws_markPlaces.f k t347 t350 1).bind fun bt374 => ((laws_markVoyageS.f k t352 bt374.1).bind fun bt376 => (if bt376.1 < 0 then (none) else ((laws_eqPlaces.f k bt358.1 bt358.2.1 t341 t344).bind fun t378 => (if t378 = true then ((laws_markPlaces.f k bt358.1 bt358.2.1 1).bind fun bt379 => ((laws_heldPlaces.f k bt379.2 bt358.2.1 1).bind fun t381 => (if t381 < 0 then (none) else (if t381 = bt379.1 then ((laws_toIsles.f a0_0 a0_1 a0_2).bind fun bt382 => ((laws_toPlaces.f k l1_0 a1_1).bind fun bt385 => ((laws_toVoyageS.f k l2).bind fun t389 => ((impl_SailAll.f k bt382.1 bt382.2.1 bt382.2.2 bt385.1 bt385.2 t389).bind fun bt392 => ((laws_eqPlaces.f k bt392.1 bt392.2.1 t341 t344).bind fun t398 => (if t398 = true then (if (bt392.2.2 != t345) = true then (none) else ((laws_heldPlaces.f k bt379.2 bt358.2.1 1).bind fun t399 => (if t399 < 0 then (none) else (if t399 = bt379.1 then (some true) else (none))))) else (none))))))) else (none))))) else (none)))))) else (none)))) else (none))))) else (none))))) = some r := H
    have A24 := X.A A240
    clear A240
    replace H := Option.bind_eq_some_iff.mp H
    obtain ⟨⟨t355, t356, t357⟩, A250, H⟩ := H
    replace H : ((impl_SailAll.f k t355 t356 t357 t347 t350 t352).bind fun bt358 => ((laws_eqPlaces.f k bt358.1 bt358.2.1 t341 t344).bind fun t364 => (if t364 = true then (if (bt358.2.2 != t345) = true then (none) else ((laws_toPlaces.f k l1_0 a1_1).bind fun bt365 => ((laws_eqPlaces.f k t347 t350 bt365.1 bt365.2).bind fun t369 => (if t369 = true then ((laws_toVoyageS.f k l2).bind fun t370 => ((laws_eqVoyageS.f k t352 t370).bind fun t373 => (if t373 = true then ((laws_markPlaces.f k t347 t350 1).bind fun bt374 => ((laws_markVoyageS.f k t352 bt374.1).bind fun bt376 => (if bt376.1 < 0 then (none) else ((laws_eqPlaces.f k bt358.1 bt358.2.1 t341 t344).bind fun t378 => (if t378 = true then ((laws_markPlaces.f k bt358.1 bt358.2.1 1).bind fun bt379 => ((laws_heldPlaces.f k bt379.2 bt358.2.1 1).bind fun t381 => (if t381 < 0 then (none) else (if t381 = bt379.1 then ((laws_toIsles.f a0_0 a0_1 a0_2).bind fun bt382 => ((laws_toPlaces.f k l1_0 a1_1).bind fun bt385 => ((laws_toVoyageS.f k l2).bind fun t389 => ((impl_SailAll.f k bt382.1 bt382.2.1 bt382.2.2 bt385.1 bt385.2 t389).bind fun bt392 => ((laws_eqPlaces.f k bt392.1 bt392.2.1 t341 t344).bind fun t398 => (if t398 = true then (if (bt392.2.2 != t345) = true then (none) else ((laws_heldPlaces.f k bt379.2 bt358.2.1 1).bind fun t399 => (if t399 < 0 then (none) else (if t399 = bt379.1 then (some true) else (none))))) else (none))))))) else (none))))) else (none)))))) else (none)))) else (none))))) else (none)))) = some r := H
    have A25 := X.A A250
    clear A250
    replace H := Option.bind_eq_some_iff.mp H
    obtain ⟨⟨t358, t361, t362⟩, A260, H⟩ := H
    replace H : ((laws_eqPlaces.f k t358 t361 t341 t344).bind fun t364 => (if t364 = true then (if (t362 != t345) = true then (none) else ((laws_toPlaces.f k l1_0 a1_1).bind fun bt365 => ((laws_eqPlaces.f k t347 t350 bt365.1 bt365.2).bind fun t369 => (if t369 = true then ((laws_toVoyageS.f k l2).bind fun t370 => ((laws_eqVoyageS.f k t352 t370).bind fun t373 => (if t373 = true then ((laws_markPlaces.f k t347 t350 1).bind fun bt374 => ((laws_markVoyageS.f k t352 bt374.1).bind fun bt376 => (if bt376.1 < 0 then (none) else ((laws_eqPlaces.f k t358 t361 t341 t344).bind fun t378 => (if t378 = true then ((laws_markPlaces.f k t358 t361 1).bind fun bt379 => ((laws_heldPlaces.f k bt379.2 t361 1).bind fun t381 => (if t381 < 0 then (none) else (if t381 = bt379.1 then ((laws_toIsles.f a0_0 a0_1 a0_2).bind fun bt382 => ((laws_toPlaces.f k l1_0 a1_1).bind fun bt385 => ((laws_toVoyageS.f k l2).bind fun t389 => ((impl_SailAll.f k bt382.1 bt382.2.1 bt382.2.2 bt385.1 bt385.2 t389).bind fun bt392 => ((laws_eqPlaces.f k bt392.1 bt392.2.1 t341 t344).bind fun t398 => (if t398 = true then (if (bt392.2.2 != t345) = true then (none) else ((laws_heldPlaces.f k bt379.2 t361 1).bind fun t399 => (if t399 < 0 then (none) else (if t399 = bt379.1 then (some true) else (none))))) else (none))))))) else (none))))) else (none)))))) else (none)))) else (none))))) else (none))) = some r := H
    have A26 := X.A A260
    clear A260
    replace H := Option.bind_eq_some_iff.mp H
    obtain ⟨t364, A270, H⟩ := H
    replace H : (if t364 = true then (if (t362 != t345) = true then (none) else ((laws_toPlaces.f k l1_0 a1_1).bind fun bt365 => ((laws_eqPlaces.f k t347 t350 bt365.1 bt365.2).bind fun t369 => (if t369 = true then ((laws_toVoyageS.f k l2).bind fun t370 => ((laws_eqVoyageS.f k t352 t370).bind fun t373 => (if t373 = true then ((laws_markPlaces.f k t347 t350 1).bind fun bt374 => ((laws_markVoyageS.f k t352 bt374.1).bind fun bt376 => (if bt376.1 < 0 then (none) else ((laws_eqPlaces.f k t358 t361 t341 t344).bind fun t378 => (if t378 = true then ((laws_markPlaces.f k t358 t361 1).bind fun bt379 => ((laws_heldPlaces.f k bt379.2 t361 1).bind fun t381 => (if t381 < 0 then (none) else (if t381 = bt379.1 then ((laws_toIsles.f a0_0 a0_1 a0_2).bind fun bt382 => ((laws_toPlaces.f k l1_0 a1_1).bind fun bt385 => ((laws_toVoyageS.f k l2).bind fun t389 => ((impl_SailAll.f k bt382.1 bt382.2.1 bt382.2.2 bt385.1 bt385.2 t389).bind fun bt392 => ((laws_eqPlaces.f k bt392.1 bt392.2.1 t341 t344).bind fun t398 => (if t398 = true then (if (bt392.2.2 != t345) = true then (none) else ((laws_heldPlaces.f k bt379.2 t361 1).bind fun t399 => (if t399 < 0 then (none) else (if t399 = bt379.1 then (some true) else (none))))) else (none))))))) else (none))))) else (none)))))) else (none)))) else (none))))) else (none)) = some r := H
    have A27 := X.A A270
    clear A270
    by_cases c28 : t364 = true
    rotate_left
    ·replace c28 := Bool.eq_false_iff.mpr c28
     subst c28
     have H1 : (none) = some r := by rw [if_neg (show ¬ (false = true) by decide)] at H; exact H
     clear H
     have H := H1
     clear H1
     exact absurd H (by simp)
    subst c28
    have H1 : (if (t362 != t345) = true then (none) else ((laws_toPlaces.f k l1_0 a1_1).bind fun bt365 => ((laws_eqPlaces.f k t347 t350 bt365.1 bt365.2).bind fun t369 => (if t369 = true then ((laws_toVoyageS.f k l2).bind fun t370 => ((laws_eqVoyageS.f k t352 t370).bind fun t373 => (if t373 = true then ((laws_markPlaces.f k t347 t350 1).bind fun bt374 => ((laws_markVoyageS.f k t352 bt374.1).bind fun bt376 => (if bt376.1 < 0 then (none) else ((laws_eqPlaces.f k t358 t361 t341 t344).bind fun t378 => (if t378 = true then ((laws_markPlaces.f k t358 t361 1).bind fun bt379 => ((laws_heldPlaces.f k bt379.2 t361 1).bind fun t381 => (if t381 < 0 then (none) else (if t381 = bt379.1 then ((laws_toIsles.f a0_0 a0_1 a0_2).bind fun bt382 => ((laws_toPlaces.f k l1_0 a1_1).bind fun bt385 => ((laws_toVoyageS.f k l2).bind fun t389 => ((impl_SailAll.f k bt382.1 bt382.2.1 bt382.2.2 bt385.1 bt385.2 t389).bind fun bt392 => ((laws_eqPlaces.f k bt392.1 bt392.2.1 t341 t344).bind fun t398 => (if t398 = true then (if (bt392.2.2 != t345) = true then (none) else ((laws_heldPlaces.f k bt379.2 t361 1).bind fun t399 => (if t399 < 0 then (none) else (if t399 = bt379.1 then (some true) else (none))))) else (none))))))) else (none))))) else (none)))))) else (none)))) else (none))))) = some r := by rw [if_pos rfl] at H; exact H
    clear H
    have H := H1
    clear H1
    by_cases c29 : (t362 != t345) = true
    ·rw [if_pos c29] at H
     exact absurd H (by simp)
    ·rw [if_neg c29] at H
     have c29b0 : (t362 != t345) = false := by simpa using c29
     (try (have c29b1 : decide (t362 = t345) = true := by simpa using c29))
     (try (have c29b2 : (t362 == t345) = true := by simpa using c29))
     clear c29
     replace H := Option.bind_eq_some_iff.mp H
     obtain ⟨⟨t365, t368⟩, A300, H⟩ := H
     replace H : ((laws_eqPlaces.f k t347 t350 t365 t368).bind fun t369 => (if t369 = true then ((laws_toVoyageS.f k l2).bind fun t370 => ((laws_eqVoyageS.f k t352 t370).bind fun t373 => (if t373 = true then ((laws_markPlaces.f k t347 t350 1).bind fun bt374 => ((laws_markVoyageS.f k t352 bt374.1).bind fun bt376 => (if bt376.1 < 0 then (none) else ((laws_eqPlaces.f k t358 t361 t341 t344).bind fun t378 => (if t378 = true then ((laws_markPlaces.f k t358 t361 1).bind fun bt379 => ((laws_heldPlaces.f k bt379.2 t361 1).bind fun t381 => (if t381 < 0 then (none) else (if t381 = bt379.1 then ((laws_toIsles.f a0_0 a0_1 a0_2).bind fun bt382 => ((laws_toPlaces.f k l1_0 a1_1).bind fun bt385 => ((laws_toVoyageS.f k l2).bind fun t389 => ((impl_SailAll.f k bt382.1 bt382.2.1 bt382.2.2 bt385.1 bt385.2 t389).bind fun bt392 => ((laws_eqPlaces.f k bt392.1 bt392.2.1 t341 t344).bind fun t398 => (if t398 = true then (if (bt392.2.2 != t345) = true then (none) else ((laws_heldPlaces.f k bt379.2 t361 1).bind fun t399 => (if t399 < 0 then (none) else (if t399 = bt379.1 then (some true) else (none))))) else (none))))))) else (none))))) else (none)))))) else (none)))) else (none))) = some r := H
     have A30 := X.A A300
     clear A300
     replace H := Option.bind_eq_some_iff.mp H
     obtain ⟨t369, A310, H⟩ := H
     replace H : (if t369 = true then ((laws_toVoyageS.f k l2).bind fun t370 => ((laws_eqVoyageS.f k t352 t370).bind fun t373 => (if t373 = true then ((laws_markPlaces.f k t347 t350 1).bind fun bt374 => ((laws_markVoyageS.f k t352 bt374.1).bind fun bt376 => (if bt376.1 < 0 then (none) else ((laws_eqPlaces.f k t358 t361 t341 t344).bind fun t378 => (if t378 = true then ((laws_markPlaces.f k t358 t361 1).bind fun bt379 => ((laws_heldPlaces.f k bt379.2 t361 1).bind fun t381 => (if t381 < 0 then (none) else (if t381 = bt379.1 then ((laws_toIsles.f a0_0 a0_1 a0_2).bind fun bt382 => ((laws_toPlaces.f k l1_0 a1_1).bind fun bt385 => ((laws_toVoyageS.f k l2).bind fun t389 => ((impl_SailAll.f k bt382.1 bt382.2.1 bt382.2.2 bt385.1 bt385.2 t389).bind fun bt392 => ((laws_eqPlaces.f k bt392.1 bt392.2.1 t341 t344).bind fun t398 => (if t398 = true then (if (bt392.2.2 != t345) = true then (none) else ((laws_heldPlaces.f k bt379.2 t361 1).bind fun t399 => (if t399 < 0 then (none) else (if t399 = bt379.1 then (some true) else (none))))) else (none))))))) else (none))))) else (none)))))) else (none)))) else (none)) = some r := H
     have A31 := X.A A310
     clear A310
     by_cases c32 : t369 = true
     rotate_left
     ·replace c32 := Bool.eq_false_iff.mpr c32
      subst c32
      have H1 : (none) = some r := by rw [if_neg (show ¬ (false = true) by decide)] at H; exact H
      clear H
      have H := H1
      clear H1
      exact absurd H (by simp)
     subst c32
     have H1 : ((laws_toVoyageS.f k l2).bind fun t370 => ((laws_eqVoyageS.f k t352 t370).bind fun t373 => (if t373 = true then ((laws_markPlaces.f k t347 t350 1).bind fun bt374 => ((laws_markVoyageS.f k t352 bt374.1).bind fun bt376 => (if bt376.1 < 0 then (none) else ((laws_eqPlaces.f k t358 t361 t341 t344).bind fun t378 => (if t378 = true then ((laws_markPlaces.f k t358 t361 1).bind fun bt379 => ((laws_heldPlaces.f k bt379.2 t361 1).bind fun t381 => (if t381 < 0 then (none) else (if t381 = bt379.1 then ((laws_toIsles.f a0_0 a0_1 a0_2).bind fun bt382 => ((laws_toPlaces.f k l1_0 a1_1).bind fun bt385 => ((laws_toVoyageS.f k l2).bind fun t389 => ((impl_SailAll.f k bt382.1 bt382.2.1 bt382.2.2 bt385.1 bt385.2 t389).bind fun bt392 => ((laws_eqPlaces.f k bt392.1 bt392.2.1 t341 t344).bind fun t398 => (if t398 = true then (if (bt392.2.2 != t345) = true then (none) else ((laws_heldPlaces.f k bt379.2 t361 1).bind fun t399 => (if t399 < 0 then (none) else (if t399 = bt379.1 then (some true) else (none))))) else (none))))))) else (none))))) else (none)))))) else (none)))) = some r := by rw [if_pos rfl] at H; exact H
     clear H
     have H := H1
     clear H1
     replace H := Option.bind_eq_some_iff.mp H
     obtain ⟨t370, A330, H⟩ := H
     replace H : ((laws_eqVoyageS.f k t352 t370).bind fun t373 => (if t373 = true then ((laws_markPlaces.f k t347 t350 1).bind fun bt374 => ((laws_markVoyageS.f k t352 bt374.1).bind fun bt376 => (if bt376.1 < 0 then (none) else ((laws_eqPlaces.f k t358 t361 t341 t344).bind fun t378 => (if t378 = true then ((laws_markPlaces.f k t358 t361 1).bind fun bt379 => ((laws_heldPlaces.f k bt379.2 t361 1).bind fun t381 => (if t381 < 0 then (none) else (if t381 = bt379.1 then ((laws_toIsles.f a0_0 a0_1 a0_2).bind fun bt382 => ((laws_toPlaces.f k l1_0 a1_1).bind fun bt385 => ((laws_toVoyageS.f k l2).bind fun t389 => ((impl_SailAll.f k bt382.1 bt382.2.1 bt382.2.2 bt385.1 bt385.2 t389).bind fun bt392 => ((laws_eqPlaces.f k bt392.1 bt392.2.1 t341 t344).bind fun t398 => (if t398 = true then (if (bt392.2.2 != t345) = true then (none) else ((laws_heldPlaces.f k bt379.2 t361 1).bind fun t399 => (if t399 < 0 then (none) else (if t399 = bt379.1 then (some true) else (none))))) else (none))))))) else (none))))) else (none)))))) else (none))) = some r := H
     have A33 := X.A A330
     clear A330
     replace H := Option.bind_eq_some_iff.mp H
     obtain ⟨t373, A340, H⟩ := H
     replace H : (if t373 = true then ((laws_markPlaces.f k t347 t350 1).bind fun bt374 => ((laws_markVoyageS.f k t352 bt374.1).bind fun bt376 => (if bt376.1 < 0 then (none) else ((laws_eqPlaces.f k t358 t361 t341 t344).bind fun t378 => (if t378 = true then ((laws_markPlaces.f k t358 t361 1).bind fun bt379 => ((laws_heldPlaces.f k bt379.2 t361 1).bind fun t381 => (if t381 < 0 then (none) else (if t381 = bt379.1 then ((laws_toIsles.f a0_0 a0_1 a0_2).bind fun bt382 => ((laws_toPlaces.f k l1_0 a1_1).bind fun bt385 => ((laws_toVoyageS.f k l2).bind fun t389 => ((impl_SailAll.f k bt382.1 bt382.2.1 bt382.2.2 bt385.1 bt385.2 t389).bind fun bt392 => ((laws_eqPlaces.f k bt392.1 bt392.2.1 t341 t344).bind fun t398 => (if t398 = true then (if (bt392.2.2 != t345) = true then (none) else ((laws_heldPlaces.f k bt379.2 t361 1).bind fun t399 => (if t399 < 0 then (none) else (if t399 = bt379.1 then (some true) else (none))))) else (none))))))) else (none))))) else (none)))))) else (none)) = some r := H
     have A34 := X.A A340
     clear A340
     by_cases c35 : t373 = true
     rotate_left
     ·replace c35 := Bool.eq_false_iff.mpr c35
      subst c35
      have H1 : (none) = some r := by rw [if_neg (show ¬ (false = true) by decide)] at H; exact H
      clear H
      have H := H1
      clear H1
      exact absurd H (by simp)
     subst c35
     have H1 : ((laws_markPlaces.f k t347 t350 1).bind fun bt374 => ((laws_markVoyageS.f k t352 bt374.1).bind fun bt376 => (if bt376.1 < 0 then (none) else ((laws_eqPlaces.f k t358 t361 t341 t344).bind fun t378 => (if t378 = true then ((laws_markPlaces.f k t358 t361 1).bind fun bt379 => ((laws_heldPlaces.f k bt379.2 t361 1).bind fun t381 => (if t381 < 0 then (none) else (if t381 = bt379.1 then ((laws_toIsles.f a0_0 a0_1 a0_2).bind fun bt382 => ((laws_toPlaces.f k l1_0 a1_1).bind fun bt385 => ((laws_toVoyageS.f k l2).bind fun t389 => ((impl_SailAll.f k bt382.1 bt382.2.1 bt382.2.2 bt385.1 bt385.2 t389).bind fun bt392 => ((laws_eqPlaces.f k bt392.1 bt392.2.1 t341 t344).bind fun t398 => (if t398 = true then (if (bt392.2.2 != t345) = true then (none) else ((laws_heldPlaces.f k bt379.2 t361 1).bind fun t399 => (if t399 < 0 then (none) else (if t399 = bt379.1 then (some true) else (none))))) else (none))))))) else (none))))) else (none)))))) = some r := by rw [if_pos rfl] at H; exact H
     clear H
     have H := H1
     clear H1
     replace H := Option.bind_eq_some_iff.mp H
     obtain ⟨⟨t374, t375⟩, A360, H⟩ := H
     replace H : ((laws_markVoyageS.f k t352 t374).bind fun bt376 => (if bt376.1 < 0 then (none) else ((laws_eqPlaces.f k t358 t361 t341 t344).bind fun t378 => (if t378 = true then ((laws_markPlaces.f k t358 t361 1).bind fun bt379 => ((laws_heldPlaces.f k bt379.2 t361 1).bind fun t381 => (if t381 < 0 then (none) else (if t381 = bt379.1 then ((laws_toIsles.f a0_0 a0_1 a0_2).bind fun bt382 => ((laws_toPlaces.f k l1_0 a1_1).bind fun bt385 => ((laws_toVoyageS.f k l2).bind fun t389 => ((impl_SailAll.f k bt382.1 bt382.2.1 bt382.2.2 bt385.1 bt385.2 t389).bind fun bt392 => ((laws_eqPlaces.f k bt392.1 bt392.2.1 t341 t344).bind fun t398 => (if t398 = true then (if (bt392.2.2 != t345) = true then (none) else ((laws_heldPlaces.f k bt379.2 t361 1).bind fun t399 => (if t399 < 0 then (none) else (if t399 = bt379.1 then (some true) else (none))))) else (none))))))) else (none))))) else (none))))) = some r := H
     have A36 := X.A A360
     clear A360
     replace H := Option.bind_eq_some_iff.mp H
     obtain ⟨⟨t376, t377⟩, A370, H⟩ := H
     replace H : (if t376 < 0 then (none) else ((laws_eqPlaces.f k t358 t361 t341 t344).bind fun t378 => (if t378 = true then ((laws_markPlaces.f k t358 t361 1).bind fun bt379 => ((laws_heldPlaces.f k bt379.2 t361 1).bind fun t381 => (if t381 < 0 then (none) else (if t381 = bt379.1 then ((laws_toIsles.f a0_0 a0_1 a0_2).bind fun bt382 => ((laws_toPlaces.f k l1_0 a1_1).bind fun bt385 => ((laws_toVoyageS.f k l2).bind fun t389 => ((impl_SailAll.f k bt382.1 bt382.2.1 bt382.2.2 bt385.1 bt385.2 t389).bind fun bt392 => ((laws_eqPlaces.f k bt392.1 bt392.2.1 t341 t344).bind fun t398 => (if t398 = true then (if (bt392.2.2 != t345) = true then (none) else ((laws_heldPlaces.f k bt379.2 t361 1).bind fun t399 => (if t399 < 0 then (none) else (if t399 = bt379.1 then (some true) else (none))))) else (none))))))) else (none))))) else (none)))) = some r := H
     have A37 := X.A A370
     clear A370
     by_cases c38 : t376 < 0
     ·rw [if_pos c38] at H
      exact absurd H (by simp)
     ·rw [if_neg c38] at H
      have c38b0 : decide (t376 < 0) = false := decide_eq_false c38
      clear c38
      replace H := Option.bind_eq_some_iff.mp H
      obtain ⟨t378, A390, H⟩ := H
      replace H : (if t378 = true then ((laws_markPlaces.f k t358 t361 1).bind fun bt379 => ((laws_heldPlaces.f k bt379.2 t361 1).bind fun t381 => (if t381 < 0 then (none) else (if t381 = bt379.1 then ((laws_toIsles.f a0_0 a0_1 a0_2).bind fun bt382 => ((laws_toPlaces.f k l1_0 a1_1).bind fun bt385 => ((laws_toVoyageS.f k l2).bind fun t389 => ((impl_SailAll.f k bt382.1 bt382.2.1 bt382.2.2 bt385.1 bt385.2 t389).bind fun bt392 => ((laws_eqPlaces.f k bt392.1 bt392.2.1 t341 t344).bind fun t398 => (if t398 = true then (if (bt392.2.2 != t345) = true then (none) else ((laws_heldPlaces.f k bt379.2 t361 1).bind fun t399 => (if t399 < 0 then (none) else (if t399 = bt379.1 then (some true) else (none))))) else (none))))))) else (none))))) else (none)) = some r := H
      have A39 := X.A A390
      clear A390
      by_cases c40 : t378 = true
      rotate_left
      ·replace c40 := Bool.eq_false_iff.mpr c40
       subst c40
       have H1 : (none) = some r := by rw [if_neg (show ¬ (false = true) by decide)] at H; exact H
       clear H
       have H := H1
       clear H1
       exact absurd H (by simp)
      subst c40
      have H1 : ((laws_markPlaces.f k t358 t361 1).bind fun bt379 => ((laws_heldPlaces.f k bt379.2 t361 1).bind fun t381 => (if t381 < 0 then (none) else (if t381 = bt379.1 then ((laws_toIsles.f a0_0 a0_1 a0_2).bind fun bt382 => ((laws_toPlaces.f k l1_0 a1_1).bind fun bt385 => ((laws_toVoyageS.f k l2).bind fun t389 => ((impl_SailAll.f k bt382.1 bt382.2.1 bt382.2.2 bt385.1 bt385.2 t389).bind fun bt392 => ((laws_eqPlaces.f k bt392.1 bt392.2.1 t341 t344).bind fun t398 => (if t398 = true then (if (bt392.2.2 != t345) = true then (none) else ((laws_heldPlaces.f k bt379.2 t361 1).bind fun t399 => (if t399 < 0 then (none) else (if t399 = bt379.1 then (some true) else (none))))) else (none))))))) else (none))))) = some r := by rw [if_pos rfl] at H; exact H
      clear H
      have H := H1
      clear H1
      replace H := Option.bind_eq_some_iff.mp H
      obtain ⟨⟨t379, t380⟩, A410, H⟩ := H
      replace H : ((laws_heldPlaces.f k t380 t361 1).bind fun t381 => (if t381 < 0 then (none) else (if t381 = t379 then ((laws_toIsles.f a0_0 a0_1 a0_2).bind fun bt382 => ((laws_toPlaces.f k l1_0 a1_1).bind fun bt385 => ((laws_toVoyageS.f k l2).bind fun t389 => ((impl_SailAll.f k bt382.1 bt382.2.1 bt382.2.2 bt385.1 bt385.2 t389).bind fun bt392 => ((laws_eqPlaces.f k bt392.1 bt392.2.1 t341 t344).bind fun t398 => (if t398 = true then (if (bt392.2.2 != t345) = true then (none) else ((laws_heldPlaces.f k t380 t361 1).bind fun t399 => (if t399 < 0 then (none) else (if t399 = t379 then (some true) else (none))))) else (none))))))) else (none)))) = some r := H
      have A41 := X.A A410
      clear A410
      replace H := Option.bind_eq_some_iff.mp H
      obtain ⟨t381, A420, H⟩ := H
      replace H : (if t381 < 0 then (none) else (if t381 = t379 then ((laws_toIsles.f a0_0 a0_1 a0_2).bind fun bt382 => ((laws_toPlaces.f k l1_0 a1_1).bind fun bt385 => ((laws_toVoyageS.f k l2).bind fun t389 => ((impl_SailAll.f k bt382.1 bt382.2.1 bt382.2.2 bt385.1 bt385.2 t389).bind fun bt392 => ((laws_eqPlaces.f k bt392.1 bt392.2.1 t341 t344).bind fun t398 => (if t398 = true then (if (bt392.2.2 != t345) = true then (none) else ((laws_heldPlaces.f k t380 t361 1).bind fun t399 => (if t399 < 0 then (none) else (if t399 = t379 then (some true) else (none))))) else (none))))))) else (none))) = some r := H
      have A42 := X.A A420
      clear A420
      by_cases c43 : t381 < 0
      ·rw [if_pos c43] at H
       exact absurd H (by simp)
      ·rw [if_neg c43] at H
       have c43b0 : decide (t381 < 0) = false := decide_eq_false c43
       clear c43
       by_cases c44 : t381 = t379
       rotate_left
       ·rw [if_neg c44] at H
        exact absurd H (by simp)
       rw [if_pos c44] at H
       have c44b0 : (t381 == t379) = true := beq_iff_eq.mpr c44
       have c44b1 : (t381 != t379) = false := bne_eq_false_iff_eq.mpr c44
       clear c44
       replace H := Option.bind_eq_some_iff.mp H
       obtain ⟨⟨t382, t383, t384⟩, A450, H⟩ := H
       replace H : ((laws_toPlaces.f k l1_0 a1_1).bind fun bt385 => ((laws_toVoyageS.f k l2).bind fun t389 => ((impl_SailAll.f k t382 t383 t384 bt385.1 bt385.2 t389).bind fun bt392 => ((laws_eqPlaces.f k bt392.1 bt392.2.1 t341 t344).bind fun t398 => (if t398 = true then (if (bt392.2.2 != t345) = true then (none) else ((laws_heldPlaces.f k t380 t361 1).bind fun t399 => (if t399 < 0 then (none) else (if t399 = t379 then (some true) else (none))))) else (none)))))) = some r := H
       have A45 := X.A A450
       clear A450
       replace H := Option.bind_eq_some_iff.mp H
       obtain ⟨⟨t385, t388⟩, A460, H⟩ := H
       replace H : ((laws_toVoyageS.f k l2).bind fun t389 => ((impl_SailAll.f k t382 t383 t384 t385 t388 t389).bind fun bt392 => ((laws_eqPlaces.f k bt392.1 bt392.2.1 t341 t344).bind fun t398 => (if t398 = true then (if (bt392.2.2 != t345) = true then (none) else ((laws_heldPlaces.f k t380 t361 1).bind fun t399 => (if t399 < 0 then (none) else (if t399 = t379 then (some true) else (none))))) else (none))))) = some r := H
       have A46 := X.A A460
       clear A460
       replace H := Option.bind_eq_some_iff.mp H
       obtain ⟨t389, A470, H⟩ := H
       replace H : ((impl_SailAll.f k t382 t383 t384 t385 t388 t389).bind fun bt392 => ((laws_eqPlaces.f k bt392.1 bt392.2.1 t341 t344).bind fun t398 => (if t398 = true then (if (bt392.2.2 != t345) = true then (none) else ((laws_heldPlaces.f k t380 t361 1).bind fun t399 => (if t399 < 0 then (none) else (if t399 = t379 then (some true) else (none))))) else (none)))) = some r := H
       have A47 := X.A A470
       clear A470
       replace H := Option.bind_eq_some_iff.mp H
       obtain ⟨⟨t392, t395, t396⟩, A480, H⟩ := H
       replace H : ((laws_eqPlaces.f k t392 t395 t341 t344).bind fun t398 => (if t398 = true then (if (t396 != t345) = true then (none) else ((laws_heldPlaces.f k t380 t361 1).bind fun t399 => (if t399 < 0 then (none) else (if t399 = t379 then (some true) else (none))))) else (none))) = some r := H
       have A48 := X.A A480
       clear A480
       replace H := Option.bind_eq_some_iff.mp H
       obtain ⟨t398, A490, H⟩ := H
       replace H : (if t398 = true then (if (t396 != t345) = true then (none) else ((laws_heldPlaces.f k t380 t361 1).bind fun t399 => (if t399 < 0 then (none) else (if t399 = t379 then (some true) else (none))))) else (none)) = some r := H
       have A49 := X.A A490
       clear A490
       by_cases c50 : t398 = true
       rotate_left
       ·replace c50 := Bool.eq_false_iff.mpr c50
        subst c50
        have H1 : (none) = some r := by rw [if_neg (show ¬ (false = true) by decide)] at H; exact H
        clear H
        have H := H1
        clear H1
        exact absurd H (by simp)
       subst c50
       have H1 : (if (t396 != t345) = true then (none) else ((laws_heldPlaces.f k t380 t361 1).bind fun t399 => (if t399 < 0 then (none) else (if t399 = t379 then (some true) else (none))))) = some r := by rw [if_pos rfl] at H; exact H
       clear H
       have H := H1
       clear H1
       by_cases c51 : (t396 != t345) = true
       ·rw [if_pos c51] at H
        exact absurd H (by simp)
       ·rw [if_neg c51] at H
        have c51b0 : (t396 != t345) = false := by simpa using c51
        (try (have c51b1 : decide (t396 = t345) = true := by simpa using c51))
        (try (have c51b2 : (t396 == t345) = true := by simpa using c51))
        clear c51
        replace H := Option.bind_eq_some_iff.mp H
        obtain ⟨t399, A520, H⟩ := H
        replace H : (if t399 < 0 then (none) else (if t399 = t379 then (some true) else (none))) = some r := H
        have A52 := X.A A520
        clear A520
        by_cases c53 : t399 < 0
        ·rw [if_pos c53] at H
         exact absurd H (by simp)
        ·rw [if_neg c53] at H
         have c53b0 : decide (t399 < 0) = false := decide_eq_false c53
         clear c53
         by_cases c54 : t399 = t379
         rotate_left
         ·rw [if_neg c54] at H
          exact absurd H (by simp)
         rw [if_pos c54] at H
         have c54b0 : (t399 == t379) = true := beq_iff_eq.mpr c54
         have c54b1 : (t399 != t379) = false := bne_eq_false_iff_eq.mpr c54
         clear c54
         obtain rfl := Option.some.inj H
         go_enter Try.func3, Try.ntmps3
         try go_wp2_with (first | ((with_reducible refine gate_dst (N := 3) rfl ?_); refine box_event ?hg (N := 3) ?hd (cs := #[.int .i64 a0_0, .int .i64 a0_1, .int .i64 a0_2]) (t := 23) ?hr ?_; (case hd => rfl); (case hg => rfl); (case hr => exact X.R); intro gb327 hg w55 hbox hb; have n0_ := X.A (below_step X.G hb); have n1_ := X.A (hbox); have n2_ := X.A ((by rw [hg]; exact (below_size X.G) : w.heap.size ≤ gb327)); have n3_ := X.A ((by rw [hg]; exact (below_size X.G) : w.heap.size ≤ gb327)); clear HB; have HB := n0_; have BK327 := n1_; have GW327 := n2_; have GE327 := n3_; clear n0_ n1_ n2_ n3_; clear hb hbox hg) | ((with_reducible refine gate_dst (N := 4) rfl ?_); refine box_event ?hg (N := 4) ?hd (cs := #[.slice A1_0 l1_0.length c1_0, .int .i64 a1_1]) (t := 26) ?hr ?_; (case hd => rfl); (case hg => rfl); (case hr => exact X.R); intro gb328 hg w56 hbox hb; have n0_ := X.A (X.BB BK327 hb); have n1_ := X.A (below_step X.G hb); have n2_ := X.A (hbox); have n3_ := X.A ((by rw [hg]; exact (below_size X.G) : w.heap.size ≤ gb328)); have n4_ := X.A ((by rw [hg]; exact (below_size X.G) : w.heap.size ≤ gb328)); have n5_ := X.A (X.NL hg BK327); have n6_ := X.A (X.NG hg BK327); clear BK327 HB; have BK327 := n0_; have HB := n1_; have BK328 := n2_; have GW328 := n3_; have GE328 := n4_; have NB327_328 := n5_; have NB328_327 := n6_; clear n0_ n1_ n2_ n3_ n4_ n5_ n6_ hb hbox hg; have hnb57 := NB328_327.out; have hnc57 := NB327_328.out; have hcz58_0 : w56.cell? ⟨gb328, 0, none⟩ = some (.slice A1_0 l1_0.length c1_0) := (blk_cell BK328.out 0).trans rfl; have hcz58_1 : w56.cell? ⟨gb328, 1, none⟩ = some (.int .i64 a1_1) := (blk_cell BK328.out 1).trans rfl; have hfz58_0 := blk_frozen BK328.out 0; have hfz58_1 := blk_frozen BK328.out 1) | ((with_reducible refine gate_callee (f := 4) rfl ?_); refine goesL_ (some 21) rfl rfl Try.func4 (by kernel_rfl) rfl #[.agg #[.slice A1_0 l1_0.length c1_0, .int .i64 a1_1], .int .i64 1048576] rfl X.M ?_; (with_reducible refine (laws_szPlaces.calls _ _ l1_0 a1_1 1048576 t329 _ ?side1 ?side2 A4.out).mono ?_); (case side1 => exact X.C (Kd.C_below HR1_0.out HB.out)); (case side2 => exact HC1_0.out); rintro e w59 ⟨rfl, hb⟩; refine ⟨_, rfl, ?_⟩; have n0_ := X.A (X.BB BK327 hb); have n1_ := X.A (X.BB BK328 hb); have n2_ := X.A (below_step X.G hb); clear BK327 BK328 HB; have BK327 := n0_; have BK328 := n1_; have HB := n2_; clear n0_ n1_ n2_; (try clear hb); (try clear hb2); (try clear hk); (try clear hi)) | ((with_reducible refine gate_callee (f := 5) rfl ?_); refine goesL_ (some 26) rfl rfl Try.func5 (by kernel_rfl) rfl #[.slice A2 l2.length c2, .int .i64 t329] rfl X.M ?_; (with_reducible refine (laws_szVoyageS.calls k _ _ l2 t329 t330 _ ?side1 ?side2 A11.out).mono ?_); (case side1 => exact X.C (Kd.C_below HR2.out HB.out)); (case side2 => exact HC2.out); rintro e w60 ⟨rfl, hb⟩; refine ⟨_, rfl, ?_⟩; have n0_ := X.A (X.BB BK327 hb); have n1_ := X.A (X.BB BK328 hb); have n2_ := X.A (below_step X.G hb); clear BK327 BK328 HB; have BK327 := n0_; have BK328 := n1_; have HB := n2_; clear n0_ n1_ n2_; (try clear hb); (try clear hb2); (try clear hk); (try clear hi)))
         have n0_ := X.A (blk_drew BK327.out)
         have n1_ := X.A (blk_drew BK328.out)
         have n2_ := X.A (below_drew1 HB.out)
         clear BK327 BK328 HB
         have BK327 := n0_
         have BK328 := n1_
         have HB := n2_
         clear n0_ n1_ n2_
         refine start_ (n := 13) (S := fun w' => w'.cell? ⟨gb327, 0, none⟩ = some (.int .i64 a0_0) ∧ w'.cell? ⟨gb327, 1, none⟩ = some (.int .i64 a0_1) ∧ w'.cell? ⟨gb327, 2, none⟩ = some (.int .i64 a0_2) ∧ w'.cell? ⟨gb328, 0, none⟩ = some (.slice A1_0 l1_0.length c1_0) ∧ w'.cell? ⟨gb328, 1, none⟩ = some (.int .i64 a1_1)) (ds := []) #[false, false, false, false, false, false, false, false, false, false, false, false, false] (by kernel_rfl) rfl rfl ⟨(blk_cell BK327.out 0).trans rfl, (blk_cell BK327.out 1).trans rfl, (blk_cell BK327.out 2).trans rfl, (blk_cell BK328.out 0).trans rfl, (blk_cell BK328.out 1).trans rfl⟩ (fun hHeld => ?_); refine with_tabW laws_FnExactSailAll.tab8 laws_FnExactSailAll.bits8 (fun HT_ HW_ => ?_)
         generalize w60.drew = w61 at BK327 BK328 HB hHeld ⊢
         refine pure_ (i := 4) (N := some 34) (v := ?_) (a' := ?_) #[false, false, false, false, true, false, false, false, false, false, false, false, false] rfl rfl (any_of HT_.out (by kernel_rfl)) (fun _ _ _ h => h) (Or.inl ⟨by rfl, ?_⟩) ?_ ?_
         rotate_left
         ·intro w'
          go_simp
          with_reducible rfl
         rotate_left
         ·exact X.Pu
         refine take_ (i := 0) (N := some 30) (v := ?_) (a' := ?_) #[true, false, false, false, true, false, false, false, false, false, false, false, false] rfl rfl (take_ofW HT_.out HW_.out (by kernel_rfl)) (fun _ _ _ h => h) (Or.inl ⟨by rfl, ?_⟩) hHeld ?_ ?_
         rotate_left
         ·rintro w' ⟨s0, s1, s2, s3, s4⟩
          go_simp
          with_reducible rfl
         rotate_left
         ·exact X.Pu
         refine take_ (i := 2) (N := some 32) (v := ?_) (a' := ?_) #[true, false, true, false, true, false, false, false, false, false, false, false, false] rfl rfl (take_ofW HT_.out HW_.out (by kernel_rfl)) (fun _ _ _ h => h) (Or.inl ⟨by rfl, ?_⟩) hHeld ?_ ?_
         rotate_left
         ·rintro w' ⟨s0, s1, s2, s3, s4⟩
          go_simp
          with_reducible rfl
         rotate_left
         ·exact X.Pu
         refine join_ (σ := Value × Value × Value × Nat) 2 #[true, true, true, true, true, true, true, true, true, true, true, false, false] (fun s_ => [(31, .agg #[.int .i64 t331, .int .i64 t332, .int .i64 t333]), (33, .agg #[s_.1, .int .i64 t337]), (35, s_.2.1), (36, .tuple #[.agg #[s_.2.2.1, .int .i64 t344], .bool t345]), (8, .pointer (some ⟨s_.2.2.2, 0, none⟩)), (29, .tuple #[.agg #[s_.2.2.1, .int .i64 t344], .bool t345]), (37, .agg #[s_.2.2.1, .int .i64 t344]), (38, .bool t345)]) (fun s_ w' => (w'.cell? ⟨gb327, 0, none⟩ = some (.int .i64 a0_0) ∧ w'.cell? ⟨gb327, 1, none⟩ = some (.int .i64 a0_1) ∧ w'.cell? ⟨gb327, 2, none⟩ = some (.int .i64 a0_2) ∧ w'.cell? ⟨gb328, 0, none⟩ = some (.slice A1_0 l1_0.length c1_0) ∧ w'.cell? ⟨gb328, 1, none⟩ = some (.int .i64 a1_1)) ∧ (Kd.R (Kd.int .i64) 3 w' w.heap.size (fun k_ => some k_ ≠ (s_.2.2.1 : Value).ownBlock) s_.1 t334) ∧ (Kd.S k51 51 w' w.heap.size (fun k_ => some k_ ≠ (s_.1 : Value).ownBlock ∧ some k_ ≠ (s_.2.2.1 : Value).ownBlock) s_.2.1 t338) ∧ (Kd.R (Kd.int .i64) 3 w' w.heap.size (fun k_ => some k_ ≠ (s_.1 : Value).ownBlock) s_.2.2.1 t341) ∧ (w'.heap[gb327]? = some (.cells #[.int .i64 a0_0, .int .i64 a0_1, .int .i64 a0_2] 23 (0, 0))) ∧ (w'.heap[gb328]? = some (.cells #[.slice A1_0 l1_0.length c1_0, .int .i64 a1_1] 26 (0, 0))) ∧ (w'.heap[s_.2.2.2]? = some (.cells #[.slice none 0 0, .int .i64 0] 30 (0, 0))) ∧ (w.heap.size ≤ s_.2.2.2) ∧ (w.heap.size ≤ s_.2.2.2) ∧ (gb327 ≠ s_.2.2.2) ∧ (s_.2.2.2 ≠ gb327) ∧ (gb328 ≠ s_.2.2.2) ∧ (s_.2.2.2 ≠ gb328) ∧ (Below w.heap.size w w')) ?_ ?_
         rotate_left
         ·intro hJ1_3_5_6_10
          refine join_ (σ := Value × Value × Value) 3 #[true, true, true, true, true, true, true, true, true, true, false, false, false] (fun s_ => [(31, .agg #[.int .i64 t331, .int .i64 t332, .int .i64 t333]), (33, .agg #[s_.1, .int .i64 t337]), (35, s_.2.1), (36, .tuple #[.agg #[s_.2.2, .int .i64 t344], .bool t345]), (29, .tuple #[.agg #[s_.2.2, .int .i64 t344], .bool t345]), (37, .agg #[s_.2.2, .int .i64 t344]), (38, .bool t345)]) (fun s_ w' => (w'.cell? ⟨gb327, 0, none⟩ = some (.int .i64 a0_0) ∧ w'.cell? ⟨gb327, 1, none⟩ = some (.int .i64 a0_1) ∧ w'.cell? ⟨gb327, 2, none⟩ = some (.int .i64 a0_2) ∧ w'.cell? ⟨gb328, 0, none⟩ = some (.slice A1_0 l1_0.length c1_0) ∧ w'.cell? ⟨gb328, 1, none⟩ = some (.int .i64 a1_1)) ∧ (Kd.R (Kd.int .i64) 3 w' w.heap.size (fun k_ => some k_ ≠ (s_.2.2 : Value).ownBlock) s_.1 t334) ∧ (Kd.S k51 51 w' w.heap.size (fun k_ => some k_ ≠ (s_.1 : Value).ownBlock ∧ some k_ ≠ (s_.2.2 : Value).ownBlock) s_.2.1 t338) ∧ (Kd.R (Kd.int .i64) 3 w' w.heap.size (fun k_ => some k_ ≠ (s_.1 : Value).ownBlock) s_.2.2 t341) ∧ (w'.heap[gb327]? = some (.cells #[.int .i64 a0_0, .int .i64 a0_1, .int .i64 a0_2] 23 (0, 0))) ∧ (w'.heap[gb328]? = some (.cells #[.slice A1_0 l1_0.length c1_0, .int .i64 a1_1] 26 (0, 0))) ∧ (Below w.heap.size w w')) ?_ ?_
          rotate_left
          ·intro hJ1_3_5_6
           refine join_ (σ := Value × Value × Nat) 6 #[true, true, true, true, true, true, false, false, false, false, true, false, false] (fun s_ => [(31, .agg #[.int .i64 t331, .int .i64 t332, .int .i64 t333]), (33, .agg #[s_.1, .int .i64 t337]), (35, s_.2.1), (8, .pointer (some ⟨s_.2.2, 0, none⟩))]) (fun s_ w' => (w'.cell? ⟨gb327, 0, none⟩ = some (.int .i64 a0_0) ∧ w'.cell? ⟨gb327, 1, none⟩ = some (.int .i64 a0_1) ∧ w'.cell? ⟨gb327, 2, none⟩ = some (.int .i64 a0_2) ∧ w'.cell? ⟨gb328, 0, none⟩ = some (.slice A1_0 l1_0.length c1_0) ∧ w'.cell? ⟨gb328, 1, none⟩ = some (.int .i64 a1_1)) ∧ (Kd.R (Kd.int .i64) 3 w' w.heap.size (fun _ => True) s_.1 t334) ∧ (Kd.S k51 51 w' w.heap.size (fun k_ => some k_ ≠ (s_.1 : Value).ownBlock) s_.2.1 t338) ∧ (w'.heap[gb327]? = some (.cells #[.int .i64 a0_0, .int .i64 a0_1, .int .i64 a0_2] 23 (0, 0))) ∧ (w'.heap[gb328]? = some (.cells #[.slice A1_0 l1_0.length c1_0, .int .i64 a1_1] 26 (0, 0))) ∧ (w'.heap[s_.2.2]? = some (.cells #[.slice none 0 0, .int .i64 0] 30 (0, 0))) ∧ (w.heap.size ≤ s_.2.2) ∧ (w.heap.size ≤ s_.2.2) ∧ (gb327 ≠ s_.2.2) ∧ (s_.2.2 ≠ gb327) ∧ (gb328 ≠ s_.2.2) ∧ (s_.2.2 ≠ gb328) ∧ (Below w.heap.size w w')) ?_ ?_
           rotate_left
           ·intro hJ1_3_5_10
            refine join_ (σ := Value × Value) 7 #[true, true, true, true, true, true, false, false, false, false, false, false, false] (fun s_ => [(31, .agg #[.int .i64 t331, .int .i64 t332, .int .i64 t333]), (33, .agg #[s_.1, .int .i64 t337]), (35, s_.2)]) (fun s_ w' => (w'.cell? ⟨gb327, 0, none⟩ = some (.int .i64 a0_0) ∧ w'.cell? ⟨gb327, 1, none⟩ = some (.int .i64 a0_1) ∧ w'.cell? ⟨gb327, 2, none⟩ = some (.int .i64 a0_2) ∧ w'.cell? ⟨gb328, 0, none⟩ = some (.slice A1_0 l1_0.length c1_0) ∧ w'.cell? ⟨gb328, 1, none⟩ = some (.int .i64 a1_1)) ∧ (Kd.R (Kd.int .i64) 3 w' w.heap.size (fun _ => True) s_.1 t334) ∧ (Kd.S k51 51 w' w.heap.size (fun k_ => some k_ ≠ (s_.1 : Value).ownBlock) s_.2 t338) ∧ (w'.heap[gb327]? = some (.cells #[.int .i64 a0_0, .int .i64 a0_1, .int .i64 a0_2] 23 (0, 0))) ∧ (w'.heap[gb328]? = some (.cells #[.slice A1_0 l1_0.length c1_0, .int .i64 a1_1] 26 (0, 0))) ∧ (Below w.heap.size w w')) ?_ ?_
            rotate_left
            ·intro hJ1_3_5
             refine join_ (σ := Value × Nat) 7 #[true, true, true, true, true, false, false, false, false, false, true, false, false] (fun s_ => [(31, .agg #[.int .i64 t331, .int .i64 t332, .int .i64 t333]), (33, .agg #[s_.1, .int .i64 t337]), (8, .pointer (some ⟨s_.2, 0, none⟩))]) (fun s_ w' => (w'.cell? ⟨gb327, 0, none⟩ = some (.int .i64 a0_0) ∧ w'.cell? ⟨gb327, 1, none⟩ = some (.int .i64 a0_1) ∧ w'.cell? ⟨gb327, 2, none⟩ = some (.int .i64 a0_2) ∧ w'.cell? ⟨gb328, 0, none⟩ = some (.slice A1_0 l1_0.length c1_0) ∧ w'.cell? ⟨gb328, 1, none⟩ = some (.int .i64 a1_1)) ∧ (Kd.R (Kd.int .i64) 3 w' w.heap.size (fun _ => True) s_.1 t334) ∧ (w'.heap[gb327]? = some (.cells #[.int .i64 a0_0, .int .i64 a0_1, .int .i64 a0_2] 23 (0, 0))) ∧ (w'.heap[gb328]? = some (.cells #[.slice A1_0 l1_0.length c1_0, .int .i64 a1_1] 26 (0, 0))) ∧ (w'.heap[s_.2]? = some (.cells #[.slice none 0 0, .int .i64 0] 30 (0, 0))) ∧ (w.heap.size ≤ s_.2) ∧ (w.heap.size ≤ s_.2) ∧ (gb327 ≠ s_.2) ∧ (s_.2 ≠ gb327) ∧ (gb328 ≠ s_.2) ∧ (s_.2 ≠ gb328) ∧ (Below w.heap.size w w')) ?_ ?_
             rotate_left
             ·intro hJ1_3_10
              refine join_ (σ := Value) 8 #[true, true, true, true, true, false, false, false, false, false, false, false, false] (fun s_ => [(31, .agg #[.int .i64 t331, .int .i64 t332, .int .i64 t333]), (33, .agg #[s_, .int .i64 t337])]) (fun s_ w' => (w'.cell? ⟨gb327, 0, none⟩ = some (.int .i64 a0_0) ∧ w'.cell? ⟨gb327, 1, none⟩ = some (.int .i64 a0_1) ∧ w'.cell? ⟨gb327, 2, none⟩ = some (.int .i64 a0_2) ∧ w'.cell? ⟨gb328, 0, none⟩ = some (.slice A1_0 l1_0.length c1_0) ∧ w'.cell? ⟨gb328, 1, none⟩ = some (.int .i64 a1_1)) ∧ (Kd.R (Kd.int .i64) 3 w' w.heap.size (fun _ => True) s_ t334) ∧ (w'.heap[gb327]? = some (.cells #[.int .i64 a0_0, .int .i64 a0_1, .int .i64 a0_2] 23 (0, 0))) ∧ (w'.heap[gb328]? = some (.cells #[.slice A1_0 l1_0.length c1_0, .int .i64 a1_1] 26 (0, 0))) ∧ (Below w.heap.size w w')) ?_ ?_
              rotate_left
              ·intro hJ1_3
               refine join_ (σ := Nat) 8 #[true, true, true, false, true, false, false, false, false, false, true, false, false] (fun s_ => [(31, .agg #[.int .i64 t331, .int .i64 t332, .int .i64 t333]), (8, .pointer (some ⟨s_, 0, none⟩))]) (fun s_ w' => (w'.cell? ⟨gb327, 0, none⟩ = some (.int .i64 a0_0) ∧ w'.cell? ⟨gb327, 1, none⟩ = some (.int .i64 a0_1) ∧ w'.cell? ⟨gb327, 2, none⟩ = some (.int .i64 a0_2) ∧ w'.cell? ⟨gb328, 0, none⟩ = some (.slice A1_0 l1_0.length c1_0) ∧ w'.cell? ⟨gb328, 1, none⟩ = some (.int .i64 a1_1)) ∧ (w'.heap[gb327]? = some (.cells #[.int .i64 a0_0, .int .i64 a0_1, .int .i64 a0_2] 23 (0, 0))) ∧ (w'.heap[gb328]? = some (.cells #[.slice A1_0 l1_0.length c1_0, .int .i64 a1_1] 26 (0, 0))) ∧ (w'.heap[s_]? = some (.cells #[.slice none 0 0, .int .i64 0] 30 (0, 0))) ∧ (w.heap.size ≤ s_) ∧ (w.heap.size ≤ s_) ∧ (gb327 ≠ s_) ∧ (s_ ≠ gb327) ∧ (gb328 ≠ s_) ∧ (s_ ≠ gb328) ∧ (Below w.heap.size w w')) ?_ ?_
               rotate_left
               ·intro hJ1_10
                refine join_ (σ := Unit) 9 #[true, true, true, false, true, false, false, false, false, false, false, false, false] (fun s_ => [(31, .agg #[.int .i64 t331, .int .i64 t332, .int .i64 t333])]) (fun s_ w' => (w'.cell? ⟨gb327, 0, none⟩ = some (.int .i64 a0_0) ∧ w'.cell? ⟨gb327, 1, none⟩ = some (.int .i64 a0_1) ∧ w'.cell? ⟨gb327, 2, none⟩ = some (.int .i64 a0_2) ∧ w'.cell? ⟨gb328, 0, none⟩ = some (.slice A1_0 l1_0.length c1_0) ∧ w'.cell? ⟨gb328, 1, none⟩ = some (.int .i64 a1_1)) ∧ (w'.heap[gb327]? = some (.cells #[.int .i64 a0_0, .int .i64 a0_1, .int .i64 a0_2] 23 (0, 0))) ∧ (w'.heap[gb328]? = some (.cells #[.slice A1_0 l1_0.length c1_0, .int .i64 a1_1] 26 (0, 0))) ∧ (Below w.heap.size w w')) ?_ ?_
                rotate_left
                ·intro hJ1
                 refine join_ (σ := Nat) 9 #[true, false, true, false, true, false, false, false, false, false, true, false, false] (fun s_ => [(8, .pointer (some ⟨s_, 0, none⟩))]) (fun s_ w' => (w'.cell? ⟨gb327, 0, none⟩ = some (.int .i64 a0_0) ∧ w'.cell? ⟨gb327, 1, none⟩ = some (.int .i64 a0_1) ∧ w'.cell? ⟨gb327, 2, none⟩ = some (.int .i64 a0_2) ∧ w'.cell? ⟨gb328, 0, none⟩ = some (.slice A1_0 l1_0.length c1_0) ∧ w'.cell? ⟨gb328, 1, none⟩ = some (.int .i64 a1_1)) ∧ (w'.heap[gb327]? = some (.cells #[.int .i64 a0_0, .int .i64 a0_1, .int .i64 a0_2] 23 (0, 0))) ∧ (w'.heap[gb328]? = some (.cells #[.slice A1_0 l1_0.length c1_0, .int .i64 a1_1] 26 (0, 0))) ∧ (w'.heap[s_]? = some (.cells #[.slice none 0 0, .int .i64 0] 30 (0, 0))) ∧ (w.heap.size ≤ s_) ∧ (w.heap.size ≤ s_) ∧ (gb327 ≠ s_) ∧ (s_ ≠ gb327) ∧ (gb328 ≠ s_) ∧ (s_ ≠ gb328) ∧ (Below w.heap.size w w')) ?_ ?_
                 rotate_left
                 ·intro hJ10
                  refine two_ (i := 1) (j := 10) (Ni := some 31) (Nj := some 8) #[true, true, true, false, true, false, false, false, false, false, false, false, false] #[true, false, true, false, true, false, false, false, false, false, true, false, false] rfl rfl rfl rfl (two_of HT_.out (by kernel_rfl)) (by decide) (by decide) (fun K hK => ?_) (fun K hK => ?_)
                  ·skip
                   refine goes_ Try.func7 (by kernel_rfl) rfl #[.agg #[.int .i64 a0_0, .int .i64 a0_1, .int .i64 a0_2]] (by rfl) rfl rfl X.M ?_
                   with_reducible refine (laws_toIsles.calls a0_0 a0_1 a0_2 t331 t332 t333 _ A19.out).mono ?_
                   rintro e w62 ⟨rfl, hb⟩
                   refine ⟨_, rfl, ?_⟩
                   have n0_ := X.A (X.BB BK327 hb)
                   have n1_ := X.A (X.BB BK328 hb)
                   have n2_ := X.A (below_step X.G hb)
                   clear BK327 BK328 HB
                   have BK327 := n0_
                   have BK328 := n1_
                   have HB := n2_
                   clear n0_ n1_ n2_
                   (try clear hb)
                   (try clear hb2)
                   (try clear hk)
                   (try clear hi)
                   refine hK.out _ _ ⟨(blk_cell BK327.out 0).trans rfl, (blk_cell BK327.out 1).trans rfl, (blk_cell BK327.out 2).trans rfl, (blk_cell BK328.out 0).trans rfl, (blk_cell BK328.out 1).trans rfl⟩ (fun hHeld => ?_)
                   clear hK K
                   refine norm_ (a' := ?_) ?_ ?_
                   rotate_left
                   ·exact (show Act.put _ (some 31) _ = _ from X.Pu)
                   exact norm_ X.S (hJ1 () _ ⟨hHeld, (X.B BK327), (X.B BK328), X.G⟩)
                  ·skip
                   refine box_step ?hg (N := 8) ?hd (cs := #[.slice none 0 0, .int .i64 0]) (t := 30) ?hr ?_; (case hd => rfl); (case hg => rfl); (case hr => exact X.R)
                   intro gb346 hg w62 hbox hb
                   have n0_ := X.A (X.BB BK327 hb)
                   have n1_ := X.A (X.BB BK328 hb)
                   have n2_ := X.A (below_step X.G hb)
                   have n3_ := X.A (hbox)
                   have n4_ := X.A ((by rw [hg]; exact (below_size X.G) : w.heap.size ≤ gb346))
                   have n5_ := X.A ((by rw [hg]; exact (below_size X.G) : w.heap.size ≤ gb346))
                   have n6_ := X.A (X.NL hg BK327)
                   have n7_ := X.A (X.NG hg BK327)
                   have n8_ := X.A (X.NL hg BK328)
                   have n9_ := X.A (X.NG hg BK328)
                   clear BK327 BK328 HB
                   have BK327 := n0_
                   have BK328 := n1_
                   have HB := n2_
                   have BK346 := n3_
                   have GW346 := n4_
                   have GE346 := n5_
                   have NB327_346 := n6_
                   have NB346_327 := n7_
                   have NB328_346 := n8_
                   have NB346_328 := n9_
                   clear n0_ n1_ n2_ n3_ n4_ n5_ n6_ n7_ n8_ n9_ hb hbox hg
                   refine hK.out _ _ ⟨(blk_cell BK327.out 0).trans rfl, (blk_cell BK327.out 1).trans rfl, (blk_cell BK327.out 2).trans rfl, (blk_cell BK328.out 0).trans rfl, (blk_cell BK328.out 1).trans rfl⟩ (fun hHeld => ?_)
                   clear hK K
                   refine norm_ (a' := ?_) ?_ ?_
                   rotate_left
                   ·exact (show Act.put _ (some 8) _ = _ from X.Pu)
                   exact norm_ X.S (hJ10 (gb346) _ ⟨hHeld, (X.B BK327), (X.B BK328), (X.B BK346), GW346.out, GE346.out, NB327_346.out, NB346_327.out, NB328_346.out, NB346_328.out, X.G⟩)
                 ·skip
                  rintro gb346 w63 ⟨hS_, h0_, h1_, h2_, h3_, h4_, h5_, h6_, h7_, h8_, h9_⟩
                  have n0_ : Aside0 (w63.heap[gb327]? = some (.cells #[.int .i64 a0_0, .int .i64 a0_1, .int .i64 a0_2] 23 (0, 0))) := ⟨h0_⟩
                  have n1_ : Aside0 (w63.heap[gb328]? = some (.cells #[.slice A1_0 l1_0.length c1_0, .int .i64 a1_1] 26 (0, 0))) := ⟨h1_⟩
                  have n2_ : Aside0 (w63.heap[gb346]? = some (.cells #[.slice none 0 0, .int .i64 0] 30 (0, 0))) := ⟨h2_⟩
                  have n3_ : Aside0 (w.heap.size ≤ gb346) := ⟨h3_⟩
                  have n4_ : Aside0 (w.heap.size ≤ gb346) := ⟨h4_⟩
                  have n5_ : Aside0 (gb327 ≠ gb346) := ⟨h5_⟩
                  have n6_ : Aside0 (gb346 ≠ gb327) := ⟨h6_⟩
                  have n7_ : Aside0 (gb328 ≠ gb346) := ⟨h7_⟩
                  have n8_ : Aside0 (gb346 ≠ gb328) := ⟨h8_⟩
                  have n9_ : Aside0 (Below w.heap.size w w63) := ⟨h9_⟩
                  clear BK327 BK328 HB h0_ h1_ h2_ h3_ h4_ h5_ h6_ h7_ h8_ h9_
                  have BK327 := n0_
                  have BK328 := n1_
                  have BK346 := n2_
                  have GW346 := n3_
                  have GE346 := n4_
                  have NB327_346 := n5_
                  have NB346_327 := n6_
                  have NB328_346 := n7_
                  have NB346_328 := n8_
                  have HB := n9_
                  clear n0_ n1_ n2_ n3_ n4_ n5_ n6_ n7_ n8_ n9_
                  have hHeld : w63.cell? ⟨gb327, 0, none⟩ = some (.int .i64 a0_0) ∧ w63.cell? ⟨gb327, 1, none⟩ = some (.int .i64 a0_1) ∧ w63.cell? ⟨gb327, 2, none⟩ = some (.int .i64 a0_2) ∧ w63.cell? ⟨gb328, 0, none⟩ = some (.slice A1_0 l1_0.length c1_0) ∧ w63.cell? ⟨gb328, 1, none⟩ = some (.int .i64 a1_1) := hS_
                  refine norm_ (a' := ?_) ?_ ?_
                  rotate_left
                  ·simp only [putAll, Act.put, List.setIfInBounds_toArray, List.set_cons_zero, List.set_cons_succ]
                   rfl
                  refine one_ (i := 1) (N := some 31) #[true, true, true, false, true, false, false, false, false, false, true, false, false] rfl rfl (one_of HT_.out (by kernel_rfl)) (by decide) (fun K hK => ?_)
                  refine goes_ Try.func7 (by kernel_rfl) rfl #[.agg #[.int .i64 a0_0, .int .i64 a0_1, .int .i64 a0_2]] (by rfl) rfl rfl X.M ?_
                  with_reducible refine (laws_toIsles.calls a0_0 a0_1 a0_2 t331 t332 t333 _ A19.out).mono ?_
                  rintro e w64 ⟨rfl, hb⟩
                  refine ⟨_, rfl, ?_⟩
                  have n0_ := X.A (X.BB BK327 hb)
                  have n1_ := X.A (X.BB BK328 hb)
                  have n2_ := X.A (X.BB BK346 hb)
                  have n3_ := X.A (below_step X.G hb)
                  clear BK327 BK328 BK346 HB
                  have BK327 := n0_
                  have BK328 := n1_
                  have BK346 := n2_
                  have HB := n3_
                  clear n0_ n1_ n2_ n3_
                  (try clear hb)
                  (try clear hb2)
                  (try clear hk)
                  (try clear hi)
                  refine hK.out _ _ ⟨(blk_cell BK327.out 0).trans rfl, (blk_cell BK327.out 1).trans rfl, (blk_cell BK327.out 2).trans rfl, (blk_cell BK328.out 0).trans rfl, (blk_cell BK328.out 1).trans rfl⟩ (fun hHeld => ?_)
                  clear hK K
                  refine norm_ (a' := ?_) ?_ ?_
                  rotate_left
                  ·exact (show Act.put _ (some 31) _ = _ from X.Pu)
                  exact norm_ X.S (hJ1_10 (gb346) _ ⟨hHeld, (X.B BK327), (X.B BK328), (X.B BK346), GW346.out, GE346.out, NB327_346.out, NB346_327.out, NB328_346.out, NB346_328.out, X.G⟩)
                ·skip
                 rintro _ w63 ⟨hS_, h0_, h1_, h2_⟩
                 have n0_ : Aside0 (w63.heap[gb327]? = some (.cells #[.int .i64 a0_0, .int .i64 a0_1, .int .i64 a0_2] 23 (0, 0))) := ⟨h0_⟩
                 have n1_ : Aside0 (w63.heap[gb328]? = some (.cells #[.slice A1_0 l1_0.length c1_0, .int .i64 a1_1] 26 (0, 0))) := ⟨h1_⟩
                 have n2_ : Aside0 (Below w.heap.size w w63) := ⟨h2_⟩
                 clear BK327 BK328 HB h0_ h1_ h2_
                 have BK327 := n0_
                 have BK328 := n1_
                 have HB := n2_
                 clear n0_ n1_ n2_
                 have hHeld : w63.cell? ⟨gb327, 0, none⟩ = some (.int .i64 a0_0) ∧ w63.cell? ⟨gb327, 1, none⟩ = some (.int .i64 a0_1) ∧ w63.cell? ⟨gb327, 2, none⟩ = some (.int .i64 a0_2) ∧ w63.cell? ⟨gb328, 0, none⟩ = some (.slice A1_0 l1_0.length c1_0) ∧ w63.cell? ⟨gb328, 1, none⟩ = some (.int .i64 a1_1) := hS_
                 refine norm_ (a' := ?_) ?_ ?_
                 rotate_left
                 ·simp only [putAll, Act.put, List.setIfInBounds_toArray, List.set_cons_zero, List.set_cons_succ]
                  rfl
                 refine two_ (i := 3) (j := 10) (Ni := some 33) (Nj := some 8) #[true, true, true, true, true, false, false, false, false, false, false, false, false] #[true, true, true, false, true, false, false, false, false, false, true, false, false] rfl rfl rfl rfl (two_of HT_.out (by kernel_rfl)) (by decide) (by decide) (fun K hK => ?_) (fun K hK => ?_)
                 ·skip
                  refine goes_ Try.func8 (by kernel_rfl) rfl #[.agg #[.slice A1_0 l1_0.length c1_0, .int .i64 a1_1]] (by rfl) rfl rfl X.M ?_
                  with_reducible refine (laws_toPlaces.calls k _ _ l1_0 a1_1 t334 t337 _ ?side1 ?side2 A20.out).mono ?_
                  (case side1 => exact X.C (Kd.C_below HR1_0.out HB.out))
                  (case side2 => exact HC1_0.out)
                  rintro e w64 ⟨v335, rfl, ho0, hb⟩
                  refine ⟨_, rfl, ?_⟩
                  have n0_ := X.A (Kd.R_lower ho0 (below_size X.G))
                  have n1_ := X.A (X.BB BK327 hb)
                  have n2_ := X.A (X.BB BK328 hb)
                  have n3_ := X.A (below_step X.G hb)
                  clear BK327 BK328 HB
                  have HO336 := n0_
                  have BK327 := n1_
                  have BK328 := n2_
                  have HB := n3_
                  clear n0_ n1_ n2_ n3_
                  (try clear hb)
                  (try clear hb2)
                  (try clear hk)
                  (try clear hi)
                  (try clear ho0)
                  refine hK.out _ _ ⟨(blk_cell BK327.out 0).trans rfl, (blk_cell BK327.out 1).trans rfl, (blk_cell BK327.out 2).trans rfl, (blk_cell BK328.out 0).trans rfl, (blk_cell BK328.out 1).trans rfl⟩ (fun hHeld => ?_)
                  clear hK K
                  refine norm_ (a' := ?_) ?_ ?_
                  rotate_left
                  ·exact (show Act.put _ (some 33) _ = _ from X.Pu)
                  exact norm_ X.S (hJ1_3 (v335) _ ⟨hHeld, (X.K HO336), (X.B BK327), (X.B BK328), X.G⟩)
                 ·skip
                  refine box_step ?hg (N := 8) ?hd (cs := #[.slice none 0 0, .int .i64 0]) (t := 30) ?hr ?_; (case hd => rfl); (case hg => rfl); (case hr => exact X.R)
                  intro gb346 hg w64 hbox hb
                  have n0_ := X.A (X.BB BK327 hb)
                  have n1_ := X.A (X.BB BK328 hb)
                  have n2_ := X.A (below_step X.G hb)
                  have n3_ := X.A (hbox)
                  have n4_ := X.A ((by rw [hg]; exact (below_size X.G) : w.heap.size ≤ gb346))
                  have n5_ := X.A ((by rw [hg]; exact (below_size X.G) : w.heap.size ≤ gb346))
                  have n6_ := X.A (X.NL hg BK327)
                  have n7_ := X.A (X.NG hg BK327)
                  have n8_ := X.A (X.NL hg BK328)
                  have n9_ := X.A (X.NG hg BK328)
                  clear BK327 BK328 HB
                  have BK327 := n0_
                  have BK328 := n1_
                  have HB := n2_
                  have BK346 := n3_
                  have GW346 := n4_
                  have GE346 := n5_
                  have NB327_346 := n6_
                  have NB346_327 := n7_
                  have NB328_346 := n8_
                  have NB346_328 := n9_
                  clear n0_ n1_ n2_ n3_ n4_ n5_ n6_ n7_ n8_ n9_ hb hbox hg
                  refine hK.out _ _ ⟨(blk_cell BK327.out 0).trans rfl, (blk_cell BK327.out 1).trans rfl, (blk_cell BK327.out 2).trans rfl, (blk_cell BK328.out 0).trans rfl, (blk_cell BK328.out 1).trans rfl⟩ (fun hHeld => ?_)
                  clear hK K
                  refine norm_ (a' := ?_) ?_ ?_
                  rotate_left
                  ·exact (show Act.put _ (some 8) _ = _ from X.Pu)
                  exact norm_ X.S (hJ1_10 (gb346) _ ⟨hHeld, (X.B BK327), (X.B BK328), (X.B BK346), GW346.out, GE346.out, NB327_346.out, NB346_327.out, NB328_346.out, NB346_328.out, X.G⟩)
               ·skip
                rintro gb346 w64 ⟨hS_, h0_, h1_, h2_, h3_, h4_, h5_, h6_, h7_, h8_, h9_⟩
                have n0_ : Aside0 (w64.heap[gb327]? = some (.cells #[.int .i64 a0_0, .int .i64 a0_1, .int .i64 a0_2] 23 (0, 0))) := ⟨h0_⟩
                have n1_ : Aside0 (w64.heap[gb328]? = some (.cells #[.slice A1_0 l1_0.length c1_0, .int .i64 a1_1] 26 (0, 0))) := ⟨h1_⟩
                have n2_ : Aside0 (w64.heap[gb346]? = some (.cells #[.slice none 0 0, .int .i64 0] 30 (0, 0))) := ⟨h2_⟩
                have n3_ : Aside0 (w.heap.size ≤ gb346) := ⟨h3_⟩
                have n4_ : Aside0 (w.heap.size ≤ gb346) := ⟨h4_⟩
                have n5_ : Aside0 (gb327 ≠ gb346) := ⟨h5_⟩
                have n6_ : Aside0 (gb346 ≠ gb327) := ⟨h6_⟩
                have n7_ : Aside0 (gb328 ≠ gb346) := ⟨h7_⟩
                have n8_ : Aside0 (gb346 ≠ gb328) := ⟨h8_⟩
                have n9_ : Aside0 (Below w.heap.size w w64) := ⟨h9_⟩
                clear BK327 BK328 HB h0_ h1_ h2_ h3_ h4_ h5_ h6_ h7_ h8_ h9_
                have BK327 := n0_
                have BK328 := n1_
                have BK346 := n2_
                have GW346 := n3_
                have GE346 := n4_
                have NB327_346 := n5_
                have NB346_327 := n6_
                have NB328_346 := n7_
                have NB346_328 := n8_
                have HB := n9_
                clear n0_ n1_ n2_ n3_ n4_ n5_ n6_ n7_ n8_ n9_
                have hHeld : w64.cell? ⟨gb327, 0, none⟩ = some (.int .i64 a0_0) ∧ w64.cell? ⟨gb327, 1, none⟩ = some (.int .i64 a0_1) ∧ w64.cell? ⟨gb327, 2, none⟩ = some (.int .i64 a0_2) ∧ w64.cell? ⟨gb328, 0, none⟩ = some (.slice A1_0 l1_0.length c1_0) ∧ w64.cell? ⟨gb328, 1, none⟩ = some (.int .i64 a1_1) := hS_
                refine norm_ (a' := ?_) ?_ ?_
                rotate_left
                ·simp only [putAll, Act.put, List.setIfInBounds_toArray, List.set_cons_zero, List.set_cons_succ]
                 rfl
                refine one_ (i := 3) (N := some 33) #[true, true, true, true, true, false, false, false, false, false, true, false, false] rfl rfl (one_of HT_.out (by kernel_rfl)) (by decide) (fun K hK => ?_)
                refine goes_ Try.func8 (by kernel_rfl) rfl #[.agg #[.slice A1_0 l1_0.length c1_0, .int .i64 a1_1]] (by rfl) rfl rfl X.M ?_
                with_reducible refine (laws_toPlaces.calls k _ _ l1_0 a1_1 t334 t337 _ ?side1 ?side2 A20.out).mono ?_
                (case side1 => exact X.C (Kd.C_below HR1_0.out HB.out))
                (case side2 => exact HC1_0.out)
                rintro e w65 ⟨v335, rfl, ho0, hb⟩
                refine ⟨_, rfl, ?_⟩
                have n0_ := X.A (Kd.R_lower ho0 (below_size X.G))
                have n1_ := X.A (X.BB BK327 hb)
                have n2_ := X.A (X.BB BK328 hb)
                have n3_ := X.A (X.BB BK346 hb)
                have n4_ := X.A (below_step X.G hb)
                clear BK327 BK328 BK346 HB
                have HO336 := n0_
                have BK327 := n1_
                have BK328 := n2_
                have BK346 := n3_
                have HB := n4_
                clear n0_ n1_ n2_ n3_ n4_
                (try clear hb)
                (try clear hb2)
                (try clear hk)
                (try clear hi)
                (try clear ho0)
                refine hK.out _ _ ⟨(blk_cell BK327.out 0).trans rfl, (blk_cell BK327.out 1).trans rfl, (blk_cell BK327.out 2).trans rfl, (blk_cell BK328.out 0).trans rfl, (blk_cell BK328.out 1).trans rfl⟩ (fun hHeld => ?_)
                clear hK K
                refine norm_ (a' := ?_) ?_ ?_
                rotate_left
                ·exact (show Act.put _ (some 33) _ = _ from X.Pu)
                exact norm_ X.S (hJ1_3_10 (v335, gb346) _ ⟨hHeld, (X.K HO336), (X.B BK327), (X.B BK328), (X.B BK346), GW346.out, GE346.out, NB327_346.out, NB346_327.out, NB328_346.out, NB346_328.out, X.G⟩)
              ·skip
               rintro v335 w64 ⟨hS_, h0_, h1_, h2_, h3_⟩
               have n0_ : Aside0 (Kd.R (Kd.int .i64) 3 w64 w.heap.size (fun _ => True) v335 t334) := ⟨h0_⟩
               have n1_ : Aside0 (w64.heap[gb327]? = some (.cells #[.int .i64 a0_0, .int .i64 a0_1, .int .i64 a0_2] 23 (0, 0))) := ⟨h1_⟩
               have n2_ : Aside0 (w64.heap[gb328]? = some (.cells #[.slice A1_0 l1_0.length c1_0, .int .i64 a1_1] 26 (0, 0))) := ⟨h2_⟩
               have n3_ : Aside0 (Below w.heap.size w w64) := ⟨h3_⟩
               clear BK327 BK328 HB h0_ h1_ h2_ h3_
               have HO336 := n0_
               have BK327 := n1_
               have BK328 := n2_
               have HB := n3_
               clear n0_ n1_ n2_ n3_
               have hHeld : w64.cell? ⟨gb327, 0, none⟩ = some (.int .i64 a0_0) ∧ w64.cell? ⟨gb327, 1, none⟩ = some (.int .i64 a0_1) ∧ w64.cell? ⟨gb327, 2, none⟩ = some (.int .i64 a0_2) ∧ w64.cell? ⟨gb328, 0, none⟩ = some (.slice A1_0 l1_0.length c1_0) ∧ w64.cell? ⟨gb328, 1, none⟩ = some (.int .i64 a1_1) := hS_
               refine norm_ (a' := ?_) ?_ ?_
               rotate_left
               ·simp only [putAll, Act.put, List.setIfInBounds_toArray, List.set_cons_zero, List.set_cons_succ]
                rfl
               refine two_ (i := 5) (j := 10) (Ni := some 35) (Nj := some 8) #[true, true, true, true, true, true, false, false, false, false, false, false, false] #[true, true, true, true, true, false, false, false, false, false, true, false, false] rfl rfl rfl rfl (two_of HT_.out (by kernel_rfl)) (by decide) (by decide) (fun K hK => ?_) (fun K hK => ?_)
               ·skip
                refine goes_ Try.func9 (by kernel_rfl) rfl #[.slice A2 l2.length c2] (by rfl) rfl rfl X.M ?_
                with_reducible refine (laws_toVoyageS.calls k _ _ l2 t338 _ ?side1 ?side2 A21.out).mono ?_
                (case side1 => exact X.C (Kd.C_below HR2.out HB.out))
                (case side2 => exact HC2.out)
                rintro e w65 ⟨v339, rfl, ho0, hb⟩
                refine ⟨_, rfl, ?_⟩
                have n0_ := X.A (Kd.R_below (X.K HO336) hb)
                have n1_ := X.A (Kd.S_lower (Kd.S_new' ho0 (Kd.R_lt (X.K HO336))) (below_size X.G))
                have n2_ := X.A (X.BB BK327 hb)
                have n3_ := X.A (X.BB BK328 hb)
                have n4_ := X.A (below_step X.G hb)
                clear HO336 BK327 BK328 HB
                have HO336 := n0_
                have HO340 := n1_
                have BK327 := n2_
                have BK328 := n3_
                have HB := n4_
                clear n0_ n1_ n2_ n3_ n4_
                (try clear hb)
                (try clear hb2)
                (try clear hk)
                (try clear hi)
                (try clear ho0)
                refine hK.out _ _ ⟨(blk_cell BK327.out 0).trans rfl, (blk_cell BK327.out 1).trans rfl, (blk_cell BK327.out 2).trans rfl, (blk_cell BK328.out 0).trans rfl, (blk_cell BK328.out 1).trans rfl⟩ (fun hHeld => ?_)
                clear hK K
                refine norm_ (a' := ?_) ?_ ?_
                rotate_left
                ·exact (show Act.put _ (some 35) _ = _ from X.Pu)
                exact norm_ X.S (hJ1_3_5 (v335, v339) _ ⟨hHeld, (X.K HO336), (by (with_reducible repeat (first | apply Kd.S_alloc | apply Kd.S_drewN | apply Kd.S_drew)); exact Kd.S_mono HO340.out (fun _ hk => hk.2)), (X.B BK327), (X.B BK328), X.G⟩)
               ·skip
                refine box_step ?hg (N := 8) ?hd (cs := #[.slice none 0 0, .int .i64 0]) (t := 30) ?hr ?_; (case hd => rfl); (case hg => rfl); (case hr => exact X.R)
                intro gb346 hg w65 hbox hb
                have n0_ := X.A (Kd.R_below (X.K HO336) hb)
                have n1_ := X.A (X.BB BK327 hb)
                have n2_ := X.A (X.BB BK328 hb)
                have n3_ := X.A (below_step X.G hb)
                have n4_ := X.A (hbox)
                have n5_ := X.A ((by rw [hg]; exact (below_size X.G) : w.heap.size ≤ gb346))
                have n6_ := X.A ((by rw [hg]; exact (below_size X.G) : w.heap.size ≤ gb346))
                have n7_ := X.A (X.NL hg BK327)
                have n8_ := X.A (X.NG hg BK327)
                have n9_ := X.A (X.NL hg BK328)
                have n10_ := X.A (X.NG hg BK328)
                clear HO336 BK327 BK328 HB
                have HO336 := n0_
                have BK327 := n1_
                have BK328 := n2_
                have HB := n3_
                have BK346 := n4_
                have GW346 := n5_
                have GE346 := n6_
                have NB327_346 := n7_
                have NB346_327 := n8_
                have NB328_346 := n9_
                have NB346_328 := n10_
                clear n0_ n1_ n2_ n3_ n4_ n5_ n6_ n7_ n8_ n9_ n10_ hb hbox hg
                refine hK.out _ _ ⟨(blk_cell BK327.out 0).trans rfl, (blk_cell BK327.out 1).trans rfl, (blk_cell BK327.out 2).trans rfl, (blk_cell BK328.out 0).trans rfl, (blk_cell BK328.out 1).trans rfl⟩ (fun hHeld => ?_)
                clear hK K
                refine norm_ (a' := ?_) ?_ ?_
                rotate_left
                ·exact (show Act.put _ (some 8) _ = _ from X.Pu)
                exact norm_ X.S (hJ1_3_10 (v335, gb346) _ ⟨hHeld, (X.K HO336), (X.B BK327), (X.B BK328), (X.B BK346), GW346.out, GE346.out, NB327_346.out, NB346_327.out, NB328_346.out, NB346_328.out, X.G⟩)
             ·skip
              rintro ⟨v335, gb346⟩ w65 ⟨hS_, h0_, h1_, h2_, h3_, h4_, h5_, h6_, h7_, h8_, h9_, h10_⟩
              have n0_ : Aside0 (Kd.R (Kd.int .i64) 3 w65 w.heap.size (fun _ => True) v335 t334) := ⟨h0_⟩
              have n1_ : Aside0 (w65.heap[gb327]? = some (.cells #[.int .i64 a0_0, .int .i64 a0_1, .int .i64 a0_2] 23 (0, 0))) := ⟨h1_⟩
              have n2_ : Aside0 (w65.heap[gb328]? = some (.cells #[.slice A1_0 l1_0.length c1_0, .int .i64 a1_1] 26 (0, 0))) := ⟨h2_⟩
              have n3_ : Aside0 (w65.heap[gb346]? = some (.cells #[.slice none 0 0, .int .i64 0] 30 (0, 0))) := ⟨h3_⟩
              have n4_ : Aside0 (w.heap.size ≤ gb346) := ⟨h4_⟩
              have n5_ : Aside0 (w.heap.size ≤ gb346) := ⟨h5_⟩
              have n6_ : Aside0 (gb327 ≠ gb346) := ⟨h6_⟩
              have n7_ : Aside0 (gb346 ≠ gb327) := ⟨h7_⟩
              have n8_ : Aside0 (gb328 ≠ gb346) := ⟨h8_⟩
              have n9_ : Aside0 (gb346 ≠ gb328) := ⟨h9_⟩
              have n10_ : Aside0 (Below w.heap.size w w65) := ⟨h10_⟩
              clear BK327 BK328 HB h0_ h1_ h2_ h3_ h4_ h5_ h6_ h7_ h8_ h9_ h10_
              have HO336 := n0_
              have BK327 := n1_
              have BK328 := n2_
              have BK346 := n3_
              have GW346 := n4_
              have GE346 := n5_
              have NB327_346 := n6_
              have NB346_327 := n7_
              have NB328_346 := n8_
              have NB346_328 := n9_
              have HB := n10_
              clear n0_ n1_ n2_ n3_ n4_ n5_ n6_ n7_ n8_ n9_ n10_
              have hHeld : w65.cell? ⟨gb327, 0, none⟩ = some (.int .i64 a0_0) ∧ w65.cell? ⟨gb327, 1, none⟩ = some (.int .i64 a0_1) ∧ w65.cell? ⟨gb327, 2, none⟩ = some (.int .i64 a0_2) ∧ w65.cell? ⟨gb328, 0, none⟩ = some (.slice A1_0 l1_0.length c1_0) ∧ w65.cell? ⟨gb328, 1, none⟩ = some (.int .i64 a1_1) := hS_
              refine norm_ (a' := ?_) ?_ ?_
              rotate_left
              ·simp only [putAll, Act.put, List.setIfInBounds_toArray, List.set_cons_zero, List.set_cons_succ]
               rfl
              refine one_ (i := 5) (N := some 35) #[true, true, true, true, true, true, false, false, false, false, true, false, false] rfl rfl (one_of HT_.out (by kernel_rfl)) (by decide) (fun K hK => ?_)
              refine goes_ Try.func9 (by kernel_rfl) rfl #[.slice A2 l2.length c2] (by rfl) rfl rfl X.M ?_
              with_reducible refine (laws_toVoyageS.calls k _ _ l2 t338 _ ?side1 ?side2 A21.out).mono ?_
              (case side1 => exact X.C (Kd.C_below HR2.out HB.out))
              (case side2 => exact HC2.out)
              rintro e w66 ⟨v339, rfl, ho0, hb⟩
              refine ⟨_, rfl, ?_⟩
              have n0_ := X.A (Kd.R_below (X.K HO336) hb)
              have n1_ := X.A (Kd.S_lower (Kd.S_new' ho0 (Kd.R_lt (X.K HO336))) (below_size X.G))
              have n2_ := X.A (X.BB BK327 hb)
              have n3_ := X.A (X.BB BK328 hb)
              have n4_ := X.A (X.BB BK346 hb)
              have n5_ := X.A (below_step X.G hb)
              clear HO336 BK327 BK328 BK346 HB
              have HO336 := n0_
              have HO340 := n1_
              have BK327 := n2_
              have BK328 := n3_
              have BK346 := n4_
              have HB := n5_
              clear n0_ n1_ n2_ n3_ n4_ n5_
              (try clear hb)
              (try clear hb2)
              (try clear hk)
              (try clear hi)
              (try clear ho0)
              refine hK.out _ _ ⟨(blk_cell BK327.out 0).trans rfl, (blk_cell BK327.out 1).trans rfl, (blk_cell BK327.out 2).trans rfl, (blk_cell BK328.out 0).trans rfl, (blk_cell BK328.out 1).trans rfl⟩ (fun hHeld => ?_)
              clear hK K
              refine norm_ (a' := ?_) ?_ ?_
              rotate_left
              ·exact (show Act.put _ (some 35) _ = _ from X.Pu)
              exact norm_ X.S (hJ1_3_5_10 (v335, v339, gb346) _ ⟨hHeld, (X.K HO336), (by (with_reducible repeat (first | apply Kd.S_alloc | apply Kd.S_drewN | apply Kd.S_drew)); exact Kd.S_mono HO340.out (fun _ hk => hk.2)), (X.B BK327), (X.B BK328), (X.B BK346), GW346.out, GE346.out, NB327_346.out, NB346_327.out, NB328_346.out, NB346_328.out, X.G⟩)
            ·skip
             rintro ⟨v335, v339⟩ w65 ⟨hS_, h0_, h1_, h2_, h3_, h4_⟩
             have n0_ : Aside0 (Kd.R (Kd.int .i64) 3 w65 w.heap.size (fun _ => True) v335 t334) := ⟨h0_⟩
             have n1_ : Aside0 (Kd.S k51 51 w65 w.heap.size (fun k_ => some k_ ≠ (v335 : Value).ownBlock) v339 t338) := ⟨h1_⟩
             have n2_ : Aside0 (w65.heap[gb327]? = some (.cells #[.int .i64 a0_0, .int .i64 a0_1, .int .i64 a0_2] 23 (0, 0))) := ⟨h2_⟩
             have n3_ : Aside0 (w65.heap[gb328]? = some (.cells #[.slice A1_0 l1_0.length c1_0, .int .i64 a1_1] 26 (0, 0))) := ⟨h3_⟩
             have n4_ : Aside0 (Below w.heap.size w w65) := ⟨h4_⟩
             clear BK327 BK328 HB h0_ h1_ h2_ h3_ h4_
             have HO336 := n0_
             have HO340 := n1_
             have BK327 := n2_
             have BK328 := n3_
             have HB := n4_
             clear n0_ n1_ n2_ n3_ n4_
             have hHeld : w65.cell? ⟨gb327, 0, none⟩ = some (.int .i64 a0_0) ∧ w65.cell? ⟨gb327, 1, none⟩ = some (.int .i64 a0_1) ∧ w65.cell? ⟨gb327, 2, none⟩ = some (.int .i64 a0_2) ∧ w65.cell? ⟨gb328, 0, none⟩ = some (.slice A1_0 l1_0.length c1_0) ∧ w65.cell? ⟨gb328, 1, none⟩ = some (.int .i64 a1_1) := hS_
             obtain ⟨Ao66, co66, eo66⟩ := Kd.R_slice HO336.out
             (first | subst eo66 | (injection eo66 with f1_ f2_ f3_; have f4_ := f1_.symm; have f5_ := f3_.symm; clear f1_ f2_ f3_; subst f4_; subst f5_))
             obtain ⟨Ao67, co67, eo67⟩ := Kd.S_slice HO340.out
             (first | subst eo67 | (injection eo67 with f1_ f2_ f3_; have f4_ := f1_.symm; have f5_ := f3_.symm; clear f1_ f2_ f3_; subst f4_; subst f5_))
             refine norm_ (a' := ?_) ?_ ?_
             rotate_left
             ·simp only [putAll, Act.put, List.setIfInBounds_toArray, List.set_cons_zero, List.set_cons_succ]
              rfl
             refine two_ (i := 6) (j := 10) (Ni := some 36) (Nj := some 8) #[true, true, true, true, true, true, true, false, false, false, false, false, false] #[true, true, true, true, true, true, false, false, false, false, true, false, false] rfl rfl rfl rfl (two_of HT_.out (by kernel_rfl)) (by decide) (by decide) (fun K hK => ?_) (fun K hK => ?_)
             ·skip
              refine goes_ Try.func6 (by kernel_rfl) rfl #[.agg #[.int .i64 t331, .int .i64 t332, .int .i64 t333], .agg #[.slice Ao66 t334.length co66, .int .i64 t337], .slice Ao67 t338.length co67] (by rfl) rfl rfl X.M ?_
              with_reducible refine (spec_SailAll.calls k t331 t332 t333 _ _ t334 t337 _ _ t338 t341 t344 t345 _ ?side1 ?side2 ?side3 ?side4 A22.out).mono ?_
              (case side1 => exact X.C (Kd.R_reads' HO336.out).2.2)
              (case side2 => exact (Kd.R_reads' HO336.out).2.1)
              (case side3 => exact X.C (Kd.S_reads' HO340.out).2.2)
              (case side4 => exact (Kd.S_reads' HO340.out).2.1)
              rintro e w68 ⟨v342, rfl, ho0, hb⟩
              refine ⟨_, rfl, ?_⟩
              have n0_ := X.A (Kd.R_elder' (X.K HO336) (Kd.R_base ho0) hb)
              have n1_ := X.A (Kd.S_elder' (X.L HO340) (Kd.R_base ho0) hb)
              have n2_ := X.A (Kd.R_lower (Kd.R_new' ho0 (Kd.R_lt (X.K HO336))) (below_size X.G))
              have n3_ := X.A (X.BB BK327 hb)
              have n4_ := X.A (X.BB BK328 hb)
              have n5_ := X.A (below_step X.G hb)
              clear HO336 HO340 BK327 BK328 HB
              have HO336 := n0_
              have HO340 := n1_
              have HO343 := n2_
              have BK327 := n3_
              have BK328 := n4_
              have HB := n5_
              clear n0_ n1_ n2_ n3_ n4_ n5_
              (try clear hb)
              (try clear hb2)
              (try clear hk)
              (try clear hi)
              (try clear ho0)
              refine hK.out _ _ ⟨(blk_cell BK327.out 0).trans rfl, (blk_cell BK327.out 1).trans rfl, (blk_cell BK327.out 2).trans rfl, (blk_cell BK328.out 0).trans rfl, (blk_cell BK328.out 1).trans rfl⟩ (fun hHeld => ?_)
              clear hK K
              refine norm_ (a' := ?_) ?_ ?_
              rotate_left
              ·exact (show Act.put _ (some 36) _ = _ from X.Pu)
              refine pure_ (i := 7) (N := some 29) (v := ?_) (a' := ?_) #[true, true, true, true, true, true, true, true, false, false, false, false, false] rfl rfl (any_of HT_.out (by kernel_rfl)) (fun _ _ _ h => h) (Or.inl ⟨by rfl, ?_⟩) ?_ ?_
              rotate_left
              ·intro w'
               go_simp
               with_reducible rfl
              rotate_left
              ·exact X.Pu
              refine pure_ (i := 8) (N := some 37) (v := ?_) (a' := ?_) #[true, true, true, true, true, true, true, true, true, false, false, false, false] rfl rfl (any_of HT_.out (by kernel_rfl)) (fun _ _ _ h => h) (Or.inl ⟨by rfl, ?_⟩) ?_ ?_
              rotate_left
              ·intro w'
               go_simp
               with_reducible rfl
              rotate_left
              ·exact X.Pu
              refine pure_ (i := 9) (N := some 38) (v := ?_) (a' := ?_) #[true, true, true, true, true, true, true, true, true, true, false, false, false] rfl rfl (any_of HT_.out (by kernel_rfl)) (fun _ _ _ h => h) (Or.inl ⟨by rfl, ?_⟩) ?_ ?_
              rotate_left
              ·intro w'
               go_simp
               with_reducible rfl
              rotate_left
              ·exact X.Pu
              exact norm_ X.S (hJ1_3_5_6 (.slice Ao66 t334.length co66, .slice Ao67 t338.length co67, v342) _ ⟨hHeld, (by (with_reducible repeat (first | apply Kd.R_alloc | apply Kd.R_drewN | apply Kd.R_drew)); exact Kd.R_mono HO336.out (fun _ hk => hk.2)), (X.L HO340), (by (with_reducible repeat (first | apply Kd.R_alloc | apply Kd.R_drewN | apply Kd.R_drew)); exact Kd.R_mono HO343.out (fun _ hk => hk.2)), (X.B BK327), (X.B BK328), X.G⟩)
             ·skip
              refine box_step ?hg (N := 8) ?hd (cs := #[.slice none 0 0, .int .i64 0]) (t := 30) ?hr ?_; (case hd => rfl); (case hg => rfl); (case hr => exact X.R)
              intro gb346 hg w66 hbox hb
              have n0_ := X.A (Kd.R_below (X.K HO336) hb)
              have n1_ := X.A (Kd.S_below (X.L HO340) hb)
              have n2_ := X.A (X.BB BK327 hb)
              have n3_ := X.A (X.BB BK328 hb)
              have n4_ := X.A (below_step X.G hb)
              have n5_ := X.A (hbox)
              have n6_ := X.A ((by rw [hg]; exact (below_size X.G) : w.heap.size ≤ gb346))
              have n7_ := X.A ((by rw [hg]; exact (below_size X.G) : w.heap.size ≤ gb346))
              have n8_ := X.A (X.NL hg BK327)
              have n9_ := X.A (X.NG hg BK327)
              have n10_ := X.A (X.NL hg BK328)
              have n11_ := X.A (X.NG hg BK328)
              clear HO336 HO340 BK327 BK328 HB
              have HO336 := n0_
              have HO340 := n1_
              have BK327 := n2_
              have BK328 := n3_
              have HB := n4_
              have BK346 := n5_
              have GW346 := n6_
              have GE346 := n7_
              have NB327_346 := n8_
              have NB346_327 := n9_
              have NB328_346 := n10_
              have NB346_328 := n11_
              clear n0_ n1_ n2_ n3_ n4_ n5_ n6_ n7_ n8_ n9_ n10_ n11_ hb hbox hg
              refine hK.out _ _ ⟨(blk_cell BK327.out 0).trans rfl, (blk_cell BK327.out 1).trans rfl, (blk_cell BK327.out 2).trans rfl, (blk_cell BK328.out 0).trans rfl, (blk_cell BK328.out 1).trans rfl⟩ (fun hHeld => ?_)
              clear hK K
              refine norm_ (a' := ?_) ?_ ?_
              rotate_left
              ·exact (show Act.put _ (some 8) _ = _ from X.Pu)
              exact norm_ X.S (hJ1_3_5_10 ((.slice Ao66 t334.length co66), (.slice Ao67 t338.length co67), gb346) _ ⟨hHeld, (X.K HO336), (X.L HO340), (X.B BK327), (X.B BK328), (X.B BK346), GW346.out, GE346.out, NB327_346.out, NB346_327.out, NB328_346.out, NB346_328.out, X.G⟩)
           ·skip
            rintro ⟨v335, v339, gb346⟩ w66 ⟨hS_, h0_, h1_, h2_, h3_, h4_, h5_, h6_, h7_, h8_, h9_, h10_, h11_⟩
            have n0_ : Aside0 (Kd.R (Kd.int .i64) 3 w66 w.heap.size (fun _ => True) v335 t334) := ⟨h0_⟩
            have n1_ : Aside0 (Kd.S k51 51 w66 w.heap.size (fun k_ => some k_ ≠ (v335 : Value).ownBlock) v339 t338) := ⟨h1_⟩
            have n2_ : Aside0 (w66.heap[gb327]? = some (.cells #[.int .i64 a0_0, .int .i64 a0_1, .int .i64 a0_2] 23 (0, 0))) := ⟨h2_⟩
            have n3_ : Aside0 (w66.heap[gb328]? = some (.cells #[.slice A1_0 l1_0.length c1_0, .int .i64 a1_1] 26 (0, 0))) := ⟨h3_⟩
            have n4_ : Aside0 (w66.heap[gb346]? = some (.cells #[.slice none 0 0, .int .i64 0] 30 (0, 0))) := ⟨h4_⟩
            have n5_ : Aside0 (w.heap.size ≤ gb346) := ⟨h5_⟩
            have n6_ : Aside0 (w.heap.size ≤ gb346) := ⟨h6_⟩
            have n7_ : Aside0 (gb327 ≠ gb346) := ⟨h7_⟩
            have n8_ : Aside0 (gb346 ≠ gb327) := ⟨h8_⟩
            have n9_ : Aside0 (gb328 ≠ gb346) := ⟨h9_⟩
            have n10_ : Aside0 (gb346 ≠ gb328) := ⟨h10_⟩
            have n11_ : Aside0 (Below w.heap.size w w66) := ⟨h11_⟩
            clear BK327 BK328 HB h0_ h1_ h2_ h3_ h4_ h5_ h6_ h7_ h8_ h9_ h10_ h11_
            have HO336 := n0_
            have HO340 := n1_
            have BK327 := n2_
            have BK328 := n3_
            have BK346 := n4_
            have GW346 := n5_
            have GE346 := n6_
            have NB327_346 := n7_
            have NB346_327 := n8_
            have NB328_346 := n9_
            have NB346_328 := n10_
            have HB := n11_
            clear n0_ n1_ n2_ n3_ n4_ n5_ n6_ n7_ n8_ n9_ n10_ n11_
            have hHeld : w66.cell? ⟨gb327, 0, none⟩ = some (.int .i64 a0_0) ∧ w66.cell? ⟨gb327, 1, none⟩ = some (.int .i64 a0_1) ∧ w66.cell? ⟨gb327, 2, none⟩ = some (.int .i64 a0_2) ∧ w66.cell? ⟨gb328, 0, none⟩ = some (.slice A1_0 l1_0.length c1_0) ∧ w66.cell? ⟨gb328, 1, none⟩ = some (.int .i64 a1_1) := hS_
            obtain ⟨Ao67, co67, eo67⟩ := Kd.R_slice HO336.out
            (first | subst eo67 | (injection eo67 with f1_ f2_ f3_; have f4_ := f1_.symm; have f5_ := f3_.symm; clear f1_ f2_ f3_; subst f4_; subst f5_))
            obtain ⟨Ao68, co68, eo68⟩ := Kd.S_slice HO340.out
            (first | subst eo68 | (injection eo68 with f1_ f2_ f3_; have f4_ := f1_.symm; have f5_ := f3_.symm; clear f1_ f2_ f3_; subst f4_; subst f5_))
            refine norm_ (a' := ?_) ?_ ?_
            rotate_left
            ·simp only [putAll, Act.put, List.setIfInBounds_toArray, List.set_cons_zero, List.set_cons_succ]
             rfl
            refine one_ (i := 6) (N := some 36) #[true, true, true, true, true, true, true, false, false, false, true, false, false] rfl rfl (one_of HT_.out (by kernel_rfl)) (by decide) (fun K hK => ?_)
            refine goes_ Try.func6 (by kernel_rfl) rfl #[.agg #[.int .i64 t331, .int .i64 t332, .int .i64 t333], .agg #[.slice Ao67 t334.length co67, .int .i64 t337], .slice Ao68 t338.length co68] (by rfl) rfl rfl X.M ?_
            with_reducible refine (spec_SailAll.calls k t331 t332 t333 _ _ t334 t337 _ _ t338 t341 t344 t345 _ ?side1 ?side2 ?side3 ?side4 A22.out).mono ?_
            (case side1 => exact X.C (Kd.R_reads' HO336.out).2.2)
            (case side2 => exact (Kd.R_reads' HO336.out).2.1)
            (case side3 => exact X.C (Kd.S_reads' HO340.out).2.2)
            (case side4 => exact (Kd.S_reads' HO340.out).2.1)
            rintro e w69 ⟨v342, rfl, ho0, hb⟩
            refine ⟨_, rfl, ?_⟩
            have n0_ := X.A (Kd.R_elder' (X.K HO336) (Kd.R_base ho0) hb)
            have n1_ := X.A (Kd.S_elder' (X.L HO340) (Kd.R_base ho0) hb)
            have n2_ := X.A (Kd.R_lower (Kd.R_new' ho0 (Kd.R_lt (X.K HO336))) (below_size X.G))
            have n3_ := X.A (X.BB BK327 hb)
            have n4_ := X.A (X.BB BK328 hb)
            have n5_ := X.A (X.BB BK346 hb)
            have n6_ := X.A (below_step X.G hb)
            clear HO336 HO340 BK327 BK328 BK346 HB
            have HO336 := n0_
            have HO340 := n1_
            have HO343 := n2_
            have BK327 := n3_
            have BK328 := n4_
            have BK346 := n5_
            have HB := n6_
            clear n0_ n1_ n2_ n3_ n4_ n5_ n6_
            (try clear hb)
            (try clear hb2)
            (try clear hk)
            (try clear hi)
            (try clear ho0)
            refine hK.out _ _ ⟨(blk_cell BK327.out 0).trans rfl, (blk_cell BK327.out 1).trans rfl, (blk_cell BK327.out 2).trans rfl, (blk_cell BK328.out 0).trans rfl, (blk_cell BK328.out 1).trans rfl⟩ (fun hHeld => ?_)
            clear hK K
            refine norm_ (a' := ?_) ?_ ?_
            rotate_left
            ·exact (show Act.put _ (some 36) _ = _ from X.Pu)
            refine pure_ (i := 7) (N := some 29) (v := ?_) (a' := ?_) #[true, true, true, true, true, true, true, true, false, false, true, false, false] rfl rfl (any_of HT_.out (by kernel_rfl)) (fun _ _ _ h => h) (Or.inl ⟨by rfl, ?_⟩) ?_ ?_
            rotate_left
            ·intro w'
             go_simp
             with_reducible rfl
            rotate_left
            ·exact X.Pu
            refine pure_ (i := 8) (N := some 37) (v := ?_) (a' := ?_) #[true, true, true, true, true, true, true, true, true, false, true, false, false] rfl rfl (any_of HT_.out (by kernel_rfl)) (fun _ _ _ h => h) (Or.inl ⟨by rfl, ?_⟩) ?_ ?_
            rotate_left
            ·intro w'
             go_simp
             with_reducible rfl
            rotate_left
            ·exact X.Pu
            refine pure_ (i := 9) (N := some 38) (v := ?_) (a' := ?_) #[true, true, true, true, true, true, true, true, true, true, true, false, false] rfl rfl (any_of HT_.out (by kernel_rfl)) (fun _ _ _ h => h) (Or.inl ⟨by rfl, ?_⟩) ?_ ?_
            rotate_left
            ·intro w'
             go_simp
             with_reducible rfl
            rotate_left
            ·exact X.Pu
            exact norm_ X.S (hJ1_3_5_6_10 (.slice Ao67 t334.length co67, .slice Ao68 t338.length co68, v342, gb346) _ ⟨hHeld, (by (with_reducible repeat (first | apply Kd.R_alloc | apply Kd.R_drewN | apply Kd.R_drew)); exact Kd.R_mono HO336.out (fun _ hk => hk.2)), (X.L HO340), (by (with_reducible repeat (first | apply Kd.R_alloc | apply Kd.R_drewN | apply Kd.R_drew)); exact Kd.R_mono HO343.out (fun _ hk => hk.2)), (X.B BK327), (X.B BK328), (X.B BK346), GW346.out, GE346.out, NB327_346.out, NB346_327.out, NB328_346.out, NB346_328.out, X.G⟩)
          ·skip
           rintro ⟨v335, v339, v342⟩ w68 ⟨hS_, h0_, h1_, h2_, h3_, h4_, h5_⟩
           have n0_ : Aside0 (Kd.R (Kd.int .i64) 3 w68 w.heap.size (fun k_ => some k_ ≠ (v342 : Value).ownBlock) v335 t334) := ⟨h0_⟩
           have n1_ : Aside0 (Kd.S k51 51 w68 w.heap.size (fun k_ => some k_ ≠ (v335 : Value).ownBlock ∧ some k_ ≠ (v342 : Value).ownBlock) v339 t338) := ⟨h1_⟩
           have n2_ : Aside0 (Kd.R (Kd.int .i64) 3 w68 w.heap.size (fun k_ => some k_ ≠ (v335 : Value).ownBlock) v342 t341) := ⟨h2_⟩
           have n3_ : Aside0 (w68.heap[gb327]? = some (.cells #[.int .i64 a0_0, .int .i64 a0_1, .int .i64 a0_2] 23 (0, 0))) := ⟨h3_⟩
           have n4_ : Aside0 (w68.heap[gb328]? = some (.cells #[.slice A1_0 l1_0.length c1_0, .int .i64 a1_1] 26 (0, 0))) := ⟨h4_⟩
           have n5_ : Aside0 (Below w.heap.size w w68) := ⟨h5_⟩
           clear BK327 BK328 HB h0_ h1_ h2_ h3_ h4_ h5_
           have HO336 := n0_
           have HO340 := n1_
           have HO343 := n2_
           have BK327 := n3_
           have BK328 := n4_
           have HB := n5_
           clear n0_ n1_ n2_ n3_ n4_ n5_
           have hHeld : w68.cell? ⟨gb327, 0, none⟩ = some (.int .i64 a0_0) ∧ w68.cell? ⟨gb327, 1, none⟩ = some (.int .i64 a0_1) ∧ w68.cell? ⟨gb327, 2, none⟩ = some (.int .i64 a0_2) ∧ w68.cell? ⟨gb328, 0, none⟩ = some (.slice A1_0 l1_0.length c1_0) ∧ w68.cell? ⟨gb328, 1, none⟩ = some (.int .i64 a1_1) := hS_
           refine norm_ (a' := ?_) ?_ ?_
           rotate_left
           ·simp only [putAll, Act.put, List.setIfInBounds_toArray, List.set_cons_zero, List.set_cons_succ]
            rfl
           refine one_ (i := 10) (N := some 8) #[true, true, true, true, true, true, true, true, true, true, true, false, false] rfl rfl (one_of HT_.out (by kernel_rfl)) (by decide) (fun K hK => ?_)
           refine box_step ?hg (N := 8) ?hd (cs := #[.slice none 0 0, .int .i64 0]) (t := 30) ?hr ?_; (case hd => rfl); (case hg => rfl); (case hr => exact X.R)
           intro gb346 hg w69 hbox hb
           have n0_ := X.A (Kd.R_below (X.K HO336) hb)
           have n1_ := X.A (Kd.S_below (X.L HO340) hb)
           have n2_ := X.A (Kd.R_below (X.K HO343) hb)
           have n3_ := X.A (X.BB BK327 hb)
           have n4_ := X.A (X.BB BK328 hb)
           have n5_ := X.A (below_step X.G hb)
           have n6_ := X.A (hbox)
           have n7_ := X.A ((by rw [hg]; exact (below_size X.G) : w.heap.size ≤ gb346))
           have n8_ := X.A ((by rw [hg]; exact (below_size X.G) : w.heap.size ≤ gb346))
           have n9_ := X.A (X.NL hg BK327)
           have n10_ := X.A (X.NG hg BK327)
           have n11_ := X.A (X.NL hg BK328)
           have n12_ := X.A (X.NG hg BK328)
           clear HO336 HO340 HO343 BK327 BK328 HB
           have HO336 := n0_
           have HO340 := n1_
           have HO343 := n2_
           have BK327 := n3_
           have BK328 := n4_
           have HB := n5_
           have BK346 := n6_
           have GW346 := n7_
           have GE346 := n8_
           have NB327_346 := n9_
           have NB346_327 := n10_
           have NB328_346 := n11_
           have NB346_328 := n12_
           clear n0_ n1_ n2_ n3_ n4_ n5_ n6_ n7_ n8_ n9_ n10_ n11_ n12_ hb hbox hg
           refine hK.out _ _ ⟨(blk_cell BK327.out 0).trans rfl, (blk_cell BK327.out 1).trans rfl, (blk_cell BK327.out 2).trans rfl, (blk_cell BK328.out 0).trans rfl, (blk_cell BK328.out 1).trans rfl⟩ (fun hHeld => ?_)
           clear hK K
           refine norm_ (a' := ?_) ?_ ?_
           rotate_left
           ·exact (show Act.put _ (some 8) _ = _ from X.Pu)
           exact norm_ X.S (hJ1_3_5_6_10 (v335, v339, v342, gb346) _ ⟨hHeld, (X.K HO336), (X.L HO340), (X.K HO343), (X.B BK327), (X.B BK328), (X.B BK346), GW346.out, GE346.out, NB327_346.out, NB346_327.out, NB328_346.out, NB346_328.out, X.G⟩)
         rintro ⟨v335, v339, v342, gb346⟩ w69 ⟨hS_, h0_, h1_, h2_, h3_, h4_, h5_, h6_, h7_, h8_, h9_, h10_, h11_, h12_⟩
         have n0_ : Aside0 (Kd.R (Kd.int .i64) 3 w69 w.heap.size (fun k_ => some k_ ≠ (v342 : Value).ownBlock) v335 t334) := ⟨h0_⟩
         have n1_ : Aside0 (Kd.S k51 51 w69 w.heap.size (fun k_ => some k_ ≠ (v335 : Value).ownBlock ∧ some k_ ≠ (v342 : Value).ownBlock) v339 t338) := ⟨h1_⟩
         have n2_ : Aside0 (Kd.R (Kd.int .i64) 3 w69 w.heap.size (fun k_ => some k_ ≠ (v335 : Value).ownBlock) v342 t341) := ⟨h2_⟩
         have n3_ : Aside0 (w69.heap[gb327]? = some (.cells #[.int .i64 a0_0, .int .i64 a0_1, .int .i64 a0_2] 23 (0, 0))) := ⟨h3_⟩
         have n4_ : Aside0 (w69.heap[gb328]? = some (.cells #[.slice A1_0 l1_0.length c1_0, .int .i64 a1_1] 26 (0, 0))) := ⟨h4_⟩
         have n5_ : Aside0 (w69.heap[gb346]? = some (.cells #[.slice none 0 0, .int .i64 0] 30 (0, 0))) := ⟨h5_⟩
         have n6_ : Aside0 (w.heap.size ≤ gb346) := ⟨h6_⟩
         have n7_ : Aside0 (w.heap.size ≤ gb346) := ⟨h7_⟩
         have n8_ : Aside0 (gb327 ≠ gb346) := ⟨h8_⟩
         have n9_ : Aside0 (gb346 ≠ gb327) := ⟨h9_⟩
         have n10_ : Aside0 (gb328 ≠ gb346) := ⟨h10_⟩
         have n11_ : Aside0 (gb346 ≠ gb328) := ⟨h11_⟩
         have n12_ : Aside0 (Below w.heap.size w w69) := ⟨h12_⟩
         clear BK327 BK328 HB h0_ h1_ h2_ h3_ h4_ h5_ h6_ h7_ h8_ h9_ h10_ h11_ h12_
         have HO336 := n0_
         have HO340 := n1_
         have HO343 := n2_
         have BK327 := n3_
         have BK328 := n4_
         have BK346 := n5_
         have GW346 := n6_
         have GE346 := n7_
         have NB327_346 := n8_
         have NB346_327 := n9_
         have NB328_346 := n10_
         have NB346_328 := n11_
         have HB := n12_
         clear n0_ n1_ n2_ n3_ n4_ n5_ n6_ n7_ n8_ n9_ n10_ n11_ n12_
         have hHeld : w69.cell? ⟨gb327, 0, none⟩ = some (.int .i64 a0_0) ∧ w69.cell? ⟨gb327, 1, none⟩ = some (.int .i64 a0_1) ∧ w69.cell? ⟨gb327, 2, none⟩ = some (.int .i64 a0_2) ∧ w69.cell? ⟨gb328, 0, none⟩ = some (.slice A1_0 l1_0.length c1_0) ∧ w69.cell? ⟨gb328, 1, none⟩ = some (.int .i64 a1_1) := hS_
         obtain ⟨Ao70, co70, eo70⟩ := Kd.R_slice HO343.out
         (first | subst eo70 | (injection eo70 with f1_ f2_ f3_; have f4_ := f1_.symm; have f5_ := f3_.symm; clear f1_ f2_ f3_; subst f4_; subst f5_))
         refine norm_ (a' := ?_) ?_ ?_
         rotate_left
         ·simp only [putAll, Act.put, List.setIfInBounds_toArray, List.set_cons_zero, List.set_cons_succ]
          rfl
         refine one_ (i := 11) (N := none) #[true, true, true, true, true, true, true, true, true, true, true, true, false] rfl rfl (one_of HT_.out (by kernel_rfl)) (by decide) (fun K hK => ?_)
         have hs71 : w69.cell? ⟨gb346, 0, none⟩ = some (.slice none 0 0) := (blk_cell BK346.out 0).trans rfl
         have hfs71 := blk_frozen BK346.out 0
         have hns71_0 := NB327_346.out
         have hns71_1 := NB328_346.out
         have hms71_0 := NB346_327.out
         have hms71_1 := NB346_328.out
         have hs72 : w69.cell? ⟨gb346, 1, none⟩ = some (.int .i64 0) := (blk_cell BK346.out 1).trans rfl
         have hfs72 := blk_frozen BK346.out 1
         have hns72_0 := NB327_346.out
         have hns72_1 := NB328_346.out
         have hms72_0 := NB346_327.out
         have hms72_1 := NB346_328.out
         refine skip_ (w1 := ?_) (by rfl) rfl ?_ ?_
         rotate_left
         ·go_simp
          rfl
         refine hK.out _ _ ⟨((cell_far (p := ⟨gb346, _, none⟩) NB327_346.out _).trans (((cell_far (p := ⟨gb346, _, none⟩) NB327_346.out _).trans (hHeld.1)))), ((cell_far (p := ⟨gb346, _, none⟩) NB327_346.out _).trans (((cell_far (p := ⟨gb346, _, none⟩) NB327_346.out _).trans (hHeld.2.1)))), ((cell_far (p := ⟨gb346, _, none⟩) NB327_346.out _).trans (((cell_far (p := ⟨gb346, _, none⟩) NB327_346.out _).trans (hHeld.2.2.1)))), ((cell_far (p := ⟨gb346, _, none⟩) NB328_346.out _).trans (((cell_far (p := ⟨gb346, _, none⟩) NB328_346.out _).trans (hHeld.2.2.2.1)))), ((cell_far (p := ⟨gb346, _, none⟩) NB328_346.out _).trans (((cell_far (p := ⟨gb346, _, none⟩) NB328_346.out _).trans (hHeld.2.2.2.2))))⟩ (fun hHeld => ?_)
         clear hK K
         refine pure_ (i := 12) (N := some 9) (v := ?_) (a' := ?_) #[true, true, true, true, true, true, true, true, true, true, true, true, true] rfl rfl (any_of HT_.out (by kernel_rfl)) (fun _ _ _ h => h) (Or.inl ⟨by rfl, ?_⟩) ?_ ?_
         rotate_left
         ·intro w'
          go_simp
          with_reducible rfl
         rotate_left
         ·exact X.Pu
         refine done_ (done_of HT_.out (by kernel_rfl)) ?_
         have hnb73 := NB328_346.out
         have hnc73 := NB346_328.out
         have hcz74_0 : w69.cell? ⟨gb328, 0, none⟩ = some (.slice A1_0 l1_0.length c1_0) := (blk_cell BK328.out 0).trans rfl
         have hcz74_1 : w69.cell? ⟨gb328, 1, none⟩ = some (.int .i64 a1_1) := (blk_cell BK328.out 1).trans rfl
         have hfz74_0 := blk_frozen BK328.out 0
         have hfz74_1 := blk_frozen BK328.out 1
         try go_wp2_with (first | ((with_reducible refine gate_callee (f := 8) rfl ?_); refine goesL_ (some 40) rfl rfl Try.func8 (by kernel_rfl) rfl #[.agg #[.slice A1_0 l1_0.length c1_0, .int .i64 a1_1]] rfl X.M ?_; (with_reducible refine (laws_toPlaces.calls k _ _ l1_0 a1_1 t347 t350 _ ?side1 ?side2 A23.out).mono ?_); (case side1 => exact Kd.C_below HR1_0.out X.G); (case side2 => exact HC1_0.out); rintro e w75 ⟨v348, rfl, ho0, hb⟩; refine ⟨_, rfl, ?_⟩; have n0_ := X.A (Kd.R_elder' (by (with_reducible repeat (first | apply Kd.R_alloc | apply Kd.R_drewN | apply Kd.R_drew)); exact (Kd.R_mono (Kd.R_far (p := ⟨gb346, 1, none⟩) (Kd.R_far (p := ⟨gb346, 0, none⟩) (Kd.R_types HO336.out BK346.out (by decide)) (fun _ hk => hk.2) (.slice Ao70 t341.length co70)) (fun _ hk => hk.2) (.int .i64 t344)) (fun _ h_ => h_.1))) (Kd.R_base ho0) hb); have n1_ := X.A (Kd.S_elder' (by (with_reducible repeat (first | apply Kd.S_alloc | apply Kd.S_drewN | apply Kd.S_drew)); exact (Kd.S_mono (Kd.S_far (p := ⟨gb346, 1, none⟩) (Kd.S_far (p := ⟨gb346, 0, none⟩) (Kd.S_types HO340.out BK346.out (by decide)) (fun _ hk => hk.2) (.slice Ao70 t341.length co70)) (fun _ hk => hk.2) (.int .i64 t344)) (fun _ h_ => h_.1))) (Kd.R_base ho0) hb); have n2_ := X.A (Kd.R_elder' (by (with_reducible repeat (first | apply Kd.R_alloc | apply Kd.R_drewN | apply Kd.R_drew)); exact (Kd.R_mono (Kd.R_far (p := ⟨gb346, 1, none⟩) (Kd.R_far (p := ⟨gb346, 0, none⟩) (Kd.R_types HO343.out BK346.out (by decide)) (fun _ hk => hk.2) (.slice Ao70 t341.length co70)) (fun _ hk => hk.2) (.int .i64 t344)) (fun _ h_ => h_.1))) (Kd.R_base ho0) hb); have n3_ := X.A (Kd.R_lower (Kd.R_new' (Kd.R_new' ho0 (Kd.R_lt (by (with_reducible repeat (first | apply Kd.R_alloc | apply Kd.R_drewN | apply Kd.R_drew)); exact (Kd.R_mono (Kd.R_far (p := ⟨gb346, 1, none⟩) (Kd.R_far (p := ⟨gb346, 0, none⟩) (Kd.R_types HO336.out BK346.out (by decide)) (fun _ hk => hk.2) (.slice Ao70 t341.length co70)) (fun _ hk => hk.2) (.int .i64 t344)) (fun _ h_ => h_.1))))) (Kd.R_lt (by (with_reducible repeat (first | apply Kd.R_alloc | apply Kd.R_drewN | apply Kd.R_drew)); exact (Kd.R_mono (Kd.R_far (p := ⟨gb346, 1, none⟩) (Kd.R_far (p := ⟨gb346, 0, none⟩) (Kd.R_types HO343.out BK346.out (by decide)) (fun _ hk => hk.2) (.slice Ao70 t341.length co70)) (fun _ hk => hk.2) (.int .i64 t344)) (fun _ h_ => h_.1))))) (below_size X.G)); have n4_ := X.A (blk_below (g := gb327) (o := .cells #[.int .i64 a0_0, .int .i64 a0_1, .int .i64 a0_2] 23 (0, 0)) (by (with_reducible repeat (first | refine blk_drewN ?_ _ | refine blk_drew ?_ | refine blk_alloc ?_ _)); refine blk_far ?_ NB327_346.out _; (with_reducible repeat (first | refine blk_drewN ?_ _ | refine blk_drew ?_ | refine blk_alloc ?_ _)); refine blk_far ?_ NB327_346.out _; (with_reducible repeat (first | refine blk_drewN ?_ _ | refine blk_drew ?_ | refine blk_alloc ?_ _)); exact BK327.out) hb); have n5_ := X.A (blk_below (g := gb328) (o := .cells #[.slice A1_0 l1_0.length c1_0, .int .i64 a1_1] 26 (0, 0)) (by (with_reducible repeat (first | refine blk_drewN ?_ _ | refine blk_drew ?_ | refine blk_alloc ?_ _)); refine blk_far ?_ NB328_346.out _; (with_reducible repeat (first | refine blk_drewN ?_ _ | refine blk_drew ?_ | refine blk_alloc ?_ _)); refine blk_far ?_ NB328_346.out _; (with_reducible repeat (first | refine blk_drewN ?_ _ | refine blk_drew ?_ | refine blk_alloc ?_ _)); exact BK328.out) hb); have n6_ := X.A (blk_below (g := gb346) (o := .cells #[.slice Ao70 t341.length co70, .int .i64 t344] 30 (0, 0)) (by (with_reducible repeat (first | refine blk_drewN ?_ _ | refine blk_drew ?_ | refine blk_alloc ?_ _)); refine blk_put (cs := #[.slice Ao70 t341.length co70, .int .i64 0]) ?_ 1 _ rfl; (with_reducible repeat (first | refine blk_drewN ?_ _ | refine blk_drew ?_ | refine blk_alloc ?_ _)); refine blk_put (cs := #[.slice none 0 0, .int .i64 0]) ?_ 0 _ rfl; (with_reducible repeat (first | refine blk_drewN ?_ _ | refine blk_drew ?_ | refine blk_alloc ?_ _)); exact BK346.out) hb); have n7_ := X.A (below_step X.G hb); clear HO336 HO340 HO343 BK327 BK328 BK346 HB; have HO336 := n0_; have HO340 := n1_; have HO343 := n2_; have HO349 := n3_; have BK327 := n4_; have BK328 := n5_; have BK346 := n6_; have HB := n7_; clear n0_ n1_ n2_ n3_ n4_ n5_ n6_ n7_; (try clear hb); (try clear hb2); (try clear hk); (try clear hi); (try clear ho0)) | ((with_reducible refine gate_dst (N := 10) rfl ?_); refine box_event ?hg (N := 10) ?hd (cs := #[.slice none 0 0, .int .i64 0]) (t := 30) ?hr ?_; (case hd => rfl); (case hg => rfl); (case hr => exact X.R); intro gb351 hg w76 hbox hb; have n0_ := X.A (Kd.R_below (X.K HO336) hb); have n1_ := X.A (Kd.S_below (X.L HO340) hb); have n2_ := X.A (Kd.R_below (X.K HO343) hb); have n3_ := X.A (Kd.R_below (X.K HO349) hb); have n4_ := X.A (X.BB BK327 hb); have n5_ := X.A (X.BB BK328 hb); have n6_ := X.A (X.BB BK346 hb); have n7_ := X.A (below_step X.G hb); have n8_ := X.A (hbox); have n9_ := X.A ((by rw [hg]; exact (below_size X.G) : w.heap.size ≤ gb351)); have n10_ := X.A ((by rw [hg]; exact (below_size X.G) : w.heap.size ≤ gb351)); have n11_ := X.A (X.NL hg BK327); have n12_ := X.A (X.NG hg BK327); have n13_ := X.A (X.NL hg BK328); have n14_ := X.A (X.NG hg BK328); have n15_ := X.A (X.NL hg BK346); have n16_ := X.A (X.NG hg BK346); clear HO336 HO340 HO343 HO349 BK327 BK328 BK346 HB; have HO336 := n0_; have HO340 := n1_; have HO343 := n2_; have HO349 := n3_; have BK327 := n4_; have BK328 := n5_; have BK346 := n6_; have HB := n7_; have BK351 := n8_; have GW351 := n9_; have GE351 := n10_; have NB327_351 := n11_; have NB351_327 := n12_; have NB328_351 := n13_; have NB351_328 := n14_; have NB346_351 := n15_; have NB351_346 := n16_; clear n0_ n1_ n2_ n3_ n4_ n5_ n6_ n7_ n8_ n9_ n10_ n11_ n12_ n13_ n14_ n15_ n16_ hb hbox hg; obtain ⟨Ao77, co77, eo77⟩ := Kd.R_slice HO349.out; subst eo77; have hnb78 := NB351_327.out; have hnc78 := NB327_351.out; have hnb79 := NB351_328.out; have hnc79 := NB328_351.out; have hnb80 := NB351_346.out; have hnc80 := NB346_351.out; have hcz81_0 : w76.cell? ⟨gb351, 0, none⟩ = some (.slice none 0 0) := (blk_cell BK351.out 0).trans rfl; have hcz81_1 : w76.cell? ⟨gb351, 1, none⟩ = some (.int .i64 0) := (blk_cell BK351.out 1).trans rfl; have hfz81_0 := blk_frozen BK351.out 0; have hfz81_1 := blk_frozen BK351.out 1) | ((with_reducible refine gate_callee (f := 9) rfl ?_); refine goesL_ (some 42) rfl rfl Try.func9 (by kernel_rfl) rfl #[.slice A2 l2.length c2] rfl X.M ?_; (with_reducible refine (laws_toVoyageS.calls k _ _ l2 t352 _ ?side1 ?side2 A24.out).mono ?_); (case side1 => exact Kd.C_below HR2.out X.G); (case side2 => exact HC2.out); rintro e w82 ⟨v353, rfl, ho0, hb⟩; refine ⟨_, rfl, ?_⟩; obtain ⟨nb83, hnb83⟩ := X.nb_of hb; have n0_ := X.A (Kd.R_below (by (with_reducible repeat (first | apply Kd.R_alloc | apply Kd.R_drewN | apply Kd.R_drew)); exact (Kd.R_mono (Kd.R_far (p := ⟨gb351, 1, none⟩) (Kd.R_far (p := ⟨gb351, 0, none⟩) (Kd.R_types HO336.out BK351.out (by decide)) (fun _ hk => hk.2) (.slice Ao77 t347.length co77)) (fun _ hk => hk.2) (.int .i64 t350)) (fun _ h_ => h_.1))) hb); have n1_ := X.A (Kd.S_elder' ((X.S_ltb hnb83 (by (with_reducible repeat (first | apply Kd.S_alloc | apply Kd.S_drewN | apply Kd.S_drew)); exact (Kd.S_mono (Kd.S_far (p := ⟨gb351, 1, none⟩) (Kd.S_far (p := ⟨gb351, 0, none⟩) (Kd.S_types HO340.out BK351.out (by decide)) (fun _ hk => hk.2) (.slice Ao77 t347.length co77)) (fun _ hk => hk.2) (.int .i64 t350)) (fun _ h_ => h_.1))))) (Kd.S_base ho0) hb); have n2_ := X.A (Kd.R_below (by (with_reducible repeat (first | apply Kd.R_alloc | apply Kd.R_drewN | apply Kd.R_drew)); exact (Kd.R_mono (Kd.R_far (p := ⟨gb351, 1, none⟩) (Kd.R_far (p := ⟨gb351, 0, none⟩) (Kd.R_types HO343.out BK351.out (by decide)) (fun _ hk => hk.2) (.slice Ao77 t347.length co77)) (fun _ hk => hk.2) (.int .i64 t350)) (fun _ h_ => h_.1))) hb); have n3_ := X.A (Kd.R_below (by (with_reducible repeat (first | apply Kd.R_alloc | apply Kd.R_drewN | apply Kd.R_drew)); exact (Kd.R_mono (Kd.R_far (p := ⟨gb351, 1, none⟩) (Kd.R_far (p := ⟨gb351, 0, none⟩) (Kd.R_types HO349.out BK351.out (by decide)) (fun _ hk => hk.2) (.slice Ao77 t347.length co77)) (fun _ hk => hk.2) (.int .i64 t350)) (fun _ h_ => h_.1))) hb); have n4_ := X.A (Kd.S_lower (Kd.S_new' (Kd.S_new' (Kd.S_new' (Kd.S_new' (X.S_geb hnb83 ho0) (Kd.R_lt (by (with_reducible repeat (first | apply Kd.R_alloc | apply Kd.R_drewN | apply Kd.R_drew)); exact (Kd.R_mono (Kd.R_far (p := ⟨gb351, 1, none⟩) (Kd.R_far (p := ⟨gb351, 0, none⟩) (Kd.R_types HO336.out BK351.out (by decide)) (fun _ hk => hk.2) (.slice Ao77 t347.length co77)) (fun _ hk => hk.2) (.int .i64 t350)) (fun _ h_ => h_.1))))) (Kd.S_lt (by (with_reducible repeat (first | apply Kd.S_alloc | apply Kd.S_drewN | apply Kd.S_drew)); exact (Kd.S_mono (Kd.S_far (p := ⟨gb351, 1, none⟩) (Kd.S_far (p := ⟨gb351, 0, none⟩) (Kd.S_types HO340.out BK351.out (by decide)) (fun _ hk => hk.2) (.slice Ao77 t347.length co77)) (fun _ hk => hk.2) (.int .i64 t350)) (fun _ h_ => h_.1))))) (Kd.R_lt (by (with_reducible repeat (first | apply Kd.R_alloc | apply Kd.R_drewN | apply Kd.R_drew)); exact (Kd.R_mono (Kd.R_far (p := ⟨gb351, 1, none⟩) (Kd.R_far (p := ⟨gb351, 0, none⟩) (Kd.R_types HO343.out BK351.out (by decide)) (fun _ hk => hk.2) (.slice Ao77 t347.length co77)) (fun _ hk => hk.2) (.int .i64 t350)) (fun _ h_ => h_.1))))) (Kd.R_lt (by (with_reducible repeat (first | apply Kd.R_alloc | apply Kd.R_drewN | apply Kd.R_drew)); exact (Kd.R_mono (Kd.R_far (p := ⟨gb351, 1, none⟩) (Kd.R_far (p := ⟨gb351, 0, none⟩) (Kd.R_types HO349.out BK351.out (by decide)) (fun _ hk => hk.2) (.slice Ao77 t347.length co77)) (fun _ hk => hk.2) (.int .i64 t350)) (fun _ h_ => h_.1))))) (below_size X.G)); have n5_ := X.A (blk_below (g := gb327) (o := .cells #[.int .i64 a0_0, .int .i64 a0_1, .int .i64 a0_2] 23 (0, 0)) (by (with_reducible repeat (first | refine blk_drewN ?_ _ | refine blk_drew ?_ | refine blk_alloc ?_ _)); refine blk_far ?_ NB327_351.out _; (with_reducible repeat (first | refine blk_drewN ?_ _ | refine blk_drew ?_ | refine blk_alloc ?_ _)); refine blk_far ?_ NB327_351.out _; (with_reducible repeat (first | refine blk_drewN ?_ _ | refine blk_drew ?_ | refine blk_alloc ?_ _)); exact BK327.out) hb); have n6_ := X.A (blk_below (g := gb328) (o := .cells #[.slice A1_0 l1_0.length c1_0, .int .i64 a1_1] 26 (0, 0)) (by (with_reducible repeat (first | refine blk_drewN ?_ _ | refine blk_drew ?_ | refine blk_alloc ?_ _)); refine blk_far ?_ NB328_351.out _; (with_reducible repeat (first | refine blk_drewN ?_ _ | refine blk_drew ?_ | refine blk_alloc ?_ _)); refine blk_far ?_ NB328_351.out _; (with_reducible repeat (first | refine blk_drewN ?_ _ | refine blk_drew ?_ | refine blk_alloc ?_ _)); exact BK328.out) hb); have n7_ := X.A (blk_below (g := gb346) (o := .cells #[.slice Ao70 t341.length co70, .int .i64 t344] 30 (0, 0)) (by (with_reducible repeat (first | refine blk_drewN ?_ _ | refine blk_drew ?_ | refine blk_alloc ?_ _)); refine blk_far ?_ NB346_351.out _; (with_reducible repeat (first | refine blk_drewN ?_ _ | refine blk_drew ?_ | refine blk_alloc ?_ _)); refine blk_far ?_ NB346_351.out _; (with_reducible repeat (first | refine blk_drewN ?_ _ | refine blk_drew ?_ | refine blk_alloc ?_ _)); exact BK346.out) hb); have n8_ := X.A (blk_below (g := gb351) (o := .cells #[.slice Ao77 t347.length co77, .int .i64 t350] 30 (0, 0)) (by (with_reducible repeat (first | refine blk_drewN ?_ _ | refine blk_drew ?_ | refine blk_alloc ?_ _)); refine blk_put (cs := #[.slice Ao77 t347.length co77, .int .i64 0]) ?_ 1 _ rfl; (with_reducible repeat (first | refine blk_drewN ?_ _ | refine blk_drew ?_ | refine blk_alloc ?_ _)); refine blk_put (cs := #[.slice none 0 0, .int .i64 0]) ?_ 0 _ rfl; (with_reducible repeat (first | refine blk_drewN ?_ _ | refine blk_drew ?_ | refine blk_alloc ?_ _)); exact BK351.out) hb); have n9_ := X.A (below_step X.G hb); clear HO336 HO340 HO343 HO349 BK327 BK328 BK346 BK351 HB; have HO336 := n0_; have HO340 := n1_; have HO343 := n2_; have HO349 := n3_; have HO354 := n4_; have BK327 := n5_; have BK328 := n6_; have BK346 := n7_; have BK351 := n8_; have HB := n9_; clear n0_ n1_ n2_ n3_ n4_ n5_ n6_ n7_ n8_ n9_; (try clear hb); (try clear hb2); (try clear hk); (try clear hi); (try clear ho0); obtain ⟨Ao84, co84, eo84⟩ := Kd.S_slice HO354.out; subst eo84))
         have n0_ := X.A (Kd.R_drew HO336.out)
         have n1_ := X.A (Kd.S_drew HO340.out)
         have n2_ := X.A (Kd.R_drew HO343.out)
         have n3_ := X.A (Kd.R_drew HO349.out)
         have n4_ := X.A (Kd.S_drew HO354.out)
         have n5_ := X.A (blk_drew BK327.out)
         have n6_ := X.A (blk_drew BK328.out)
         have n7_ := X.A (blk_drew BK346.out)
         have n8_ := X.A (blk_drew BK351.out)
         have n9_ := X.A (below_drew1 HB.out)
         clear HO336 HO340 HO343 HO349 HO354 BK327 BK328 BK346 BK351 HB
         have HO336 := n0_
         have HO340 := n1_
         have HO343 := n2_
         have HO349 := n3_
         have HO354 := n4_
         have BK327 := n5_
         have BK328 := n6_
         have BK346 := n7_
         have BK351 := n8_
         have HB := n9_
         clear n0_ n1_ n2_ n3_ n4_ n5_ n6_ n7_ n8_ n9_
         refine start_ (n := 11) (S := fun w' => w'.cell? ⟨gb327, 0, none⟩ = some (.int .i64 a0_0) ∧ w'.cell? ⟨gb327, 1, none⟩ = some (.int .i64 a0_1) ∧ w'.cell? ⟨gb327, 2, none⟩ = some (.int .i64 a0_2) ∧ w'.cell? ⟨gb351, 0, none⟩ = some (.slice Ao77 t347.length co77) ∧ w'.cell? ⟨gb351, 1, none⟩ = some (.int .i64 t350)) (ds := []) #[false, false, false, false, false, false, false, false, false, false, false] (by kernel_rfl) rfl rfl ⟨(blk_cell BK327.out 0).trans rfl, (blk_cell BK327.out 1).trans rfl, (blk_cell BK327.out 2).trans rfl, (blk_cell BK351.out 0).trans rfl, (blk_cell BK351.out 1).trans rfl⟩ (fun hHeld => ?_); refine with_tabW laws_FnExactSailAll.tab11 laws_FnExactSailAll.bits11 (fun HT_ HW_ => ?_)
         generalize w82.drew = w85 at HO336 HO340 HO343 HO349 HO354 BK327 BK328 BK346 BK351 HB hHeld ⊢
         refine pure_ (i := 3) (N := some 47) (v := ?_) (a' := ?_) #[false, false, false, true, false, false, false, false, false, false, false] rfl rfl (any_of HT_.out (by kernel_rfl)) (fun _ _ _ h => h) (Or.inl ⟨by rfl, ?_⟩) ?_ ?_
         rotate_left
         ·intro w'
          go_simp
          with_reducible rfl
         rotate_left
         ·exact X.Pu
         refine take_ (i := 0) (N := some 44) (v := ?_) (a' := ?_) #[true, false, false, true, false, false, false, false, false, false, false] rfl rfl (take_ofW HT_.out HW_.out (by kernel_rfl)) (fun _ _ _ h => h) (Or.inl ⟨by rfl, ?_⟩) hHeld ?_ ?_
         rotate_left
         ·rintro w' ⟨s0, s1, s2, s3, s4⟩
          go_simp
          with_reducible rfl
         rotate_left
         ·exact X.Pu
         refine take_ (i := 2) (N := some 46) (v := ?_) (a' := ?_) #[true, false, true, true, false, false, false, false, false, false, false] rfl rfl (take_ofW HT_.out HW_.out (by kernel_rfl)) (fun _ _ _ h => h) (Or.inl ⟨by rfl, ?_⟩) hHeld ?_ ?_
         rotate_left
         ·rintro w' ⟨s0, s1, s2, s3, s4⟩
          go_simp
          with_reducible rfl
         rotate_left
         ·exact X.Pu
         refine join_ (σ := Value × Nat) 2 #[true, true, true, true, true, true, true, true, true, false, false] (fun s_ => [(45, .agg #[.int .i64 t355, .int .i64 t356, .int .i64 t357]), (48, .tuple #[.agg #[s_.1, .int .i64 t361], .bool t362]), (12, .pointer (some ⟨s_.2, 0, none⟩)), (43, .tuple #[.agg #[s_.1, .int .i64 t361], .bool t362]), (49, .agg #[s_.1, .int .i64 t361]), (50, .bool t362)]) (fun s_ w' => (w'.cell? ⟨gb327, 0, none⟩ = some (.int .i64 a0_0) ∧ w'.cell? ⟨gb327, 1, none⟩ = some (.int .i64 a0_1) ∧ w'.cell? ⟨gb327, 2, none⟩ = some (.int .i64 a0_2) ∧ w'.cell? ⟨gb351, 0, none⟩ = some (.slice Ao77 t347.length co77) ∧ w'.cell? ⟨gb351, 1, none⟩ = some (.int .i64 t350)) ∧ (Kd.R (Kd.int .i64) 3 w' w.heap.size (fun k_ => some k_ ≠ (.slice Ao70 t341.length co70 : Value).ownBlock ∧ some k_ ≠ (.slice Ao77 t347.length co77 : Value).ownBlock ∧ some k_ ≠ (s_.1 : Value).ownBlock) v335 t334) ∧ (Kd.S k51 51 w' w.heap.size (fun k_ => some k_ ≠ (v335 : Value).ownBlock ∧ some k_ ≠ (.slice Ao70 t341.length co70 : Value).ownBlock ∧ some k_ ≠ (.slice Ao77 t347.length co77 : Value).ownBlock ∧ some k_ ≠ (.slice Ao84 t352.length co84 : Value).ownBlock ∧ some k_ ≠ (s_.1 : Value).ownBlock ∧ k_ < nb83) v339 t338) ∧ (Kd.R (Kd.int .i64) 3 w' w.heap.size (fun k_ => some k_ ≠ (v335 : Value).ownBlock ∧ some k_ ≠ (.slice Ao77 t347.length co77 : Value).ownBlock ∧ some k_ ≠ (s_.1 : Value).ownBlock) (.slice Ao70 t341.length co70) t341) ∧ (Kd.R (Kd.int .i64) 3 w' w.heap.size (fun k_ => some k_ ≠ (v335 : Value).ownBlock ∧ some k_ ≠ (.slice Ao70 t341.length co70 : Value).ownBlock ∧ some k_ ≠ (s_.1 : Value).ownBlock) (.slice Ao77 t347.length co77) t347) ∧ (Kd.S k51 51 w' w.heap.size (fun k_ => some k_ ≠ (v335 : Value).ownBlock ∧ some k_ ≠ (v339 : Value).ownBlock ∧ some k_ ≠ (.slice Ao70 t341.length co70 : Value).ownBlock ∧ some k_ ≠ (.slice Ao77 t347.length co77 : Value).ownBlock ∧ some k_ ≠ (s_.1 : Value).ownBlock ∧ nb83 ≤ k_) (.slice Ao84 t352.length co84) t352) ∧ (Kd.R (Kd.int .i64) 3 w' w.heap.size (fun k_ => some k_ ≠ (v335 : Value).ownBlock ∧ some k_ ≠ (.slice Ao70 t341.length co70 : Value).ownBlock ∧ some k_ ≠ (.slice Ao77 t347.length co77 : Value).ownBlock) s_.1 t358) ∧ (w'.heap[gb327]? = some (.cells #[.int .i64 a0_0, .int .i64 a0_1, .int .i64 a0_2] 23 (0, 0))) ∧ (w'.heap[gb328]? = some (.cells #[.slice A1_0 l1_0.length c1_0, .int .i64 a1_1] 26 (0, 0))) ∧ (w'.heap[gb346]? = some (.cells #[.slice Ao70 t341.length co70, .int .i64 t344] 30 (0, 0))) ∧ (w'.heap[gb351]? = some (.cells #[.slice Ao77 t347.length co77, .int .i64 t350] 30 (0, 0))) ∧ (w'.heap[s_.2]? = some (.cells #[.slice none 0 0, .int .i64 0] 30 (0, 0))) ∧ (w.heap.size ≤ s_.2) ∧ (w.heap.size ≤ s_.2) ∧ (gb327 ≠ s_.2) ∧ (s_.2 ≠ gb327) ∧ (gb328 ≠ s_.2) ∧ (s_.2 ≠ gb328) ∧ (gb346 ≠ s_.2) ∧ (s_.2 ≠ gb346) ∧ (gb351 ≠ s_.2) ∧ (s_.2 ≠ gb351) ∧ (Below w.heap.size w w')) ?_ ?_
         rotate_left
         ·intro hCont
          refine two_ (i := 1) (j := 8) (Ni := some 45) (Nj := some 12) #[true, true, true, true, false, false, false, false, false, false, false] #[true, false, true, true, false, false, false, false, true, false, false] rfl rfl rfl rfl (two_of HT_.out (by kernel_rfl)) (by decide) (by decide) (fun K hK => ?_) (fun K hK => ?_)
          ·skip
           refine goes_ Try.func7 (by kernel_rfl) rfl #[.agg #[.int .i64 a0_0, .int .i64 a0_1, .int .i64 a0_2]] (by rfl) rfl rfl X.M ?_
           with_reducible refine (laws_toIsles.calls a0_0 a0_1 a0_2 t355 t356 t357 _ A25.out).mono ?_
           rintro e w86 ⟨rfl, hb⟩
           refine ⟨_, rfl, ?_⟩
           have n0_ := X.A (Kd.R_below (X.K HO336) hb)
           have n1_ := X.A (Kd.S_below (X.L HO340) hb)
           have n2_ := X.A (Kd.R_below (X.K HO343) hb)
           have n3_ := X.A (Kd.R_below (X.K HO349) hb)
           have n4_ := X.A (Kd.S_below (X.L HO354) hb)
           have n5_ := X.A (X.BB BK327 hb)
           have n6_ := X.A (X.BB BK328 hb)
           have n7_ := X.A (X.BB BK346 hb)
           have n8_ := X.A (X.BB BK351 hb)
           have n9_ := X.A (below_step X.G hb)
           clear HO336 HO340 HO343 HO349 HO354 BK327 BK328 BK346 BK351 HB
           have HO336 := n0_
           have HO340 := n1_
           have HO343 := n2_
           have HO349 := n3_
           have HO354 := n4_
           have BK327 := n5_
           have BK328 := n6_
           have BK346 := n7_
           have BK351 := n8_
           have HB := n9_
           clear n0_ n1_ n2_ n3_ n4_ n5_ n6_ n7_ n8_ n9_
           (try clear hb)
           (try clear hb2)
           (try clear hk)
           (try clear hi)
           refine hK.out _ _ ⟨(blk_cell BK327.out 0).trans rfl, (blk_cell BK327.out 1).trans rfl, (blk_cell BK327.out 2).trans rfl, (blk_cell BK351.out 0).trans rfl, (blk_cell BK351.out 1).trans rfl⟩ (fun hHeld => ?_)
           clear hK K
           refine norm_ (a' := ?_) ?_ ?_
           rotate_left
           ·exact (show Act.put _ (some 45) _ = _ from X.Pu)
           refine two_ (i := 4) (j := 8) (Ni := some 48) (Nj := some 12) #[true, true, true, true, true, false, false, false, false, false, false] #[true, true, true, true, false, false, false, false, true, false, false] rfl rfl rfl rfl (two_of HT_.out (by kernel_rfl)) (by decide) (by decide) (fun K hK => ?_) (fun K hK => ?_)
           ·skip
            refine goes_ Try.func10 (by kernel_rfl) rfl #[.agg #[.int .i64 t355, .int .i64 t356, .int .i64 t357], .agg #[.slice Ao77 t347.length co77, .int .i64 t350], .slice Ao84 t352.length co84] (by rfl) rfl rfl X.M ?_
            with_reducible refine (impl_SailAll.calls k t355 t356 t357 (fun k_ => some k_ = (.slice Ao77 t347.length co77 : Value).ownBlock) _ _ t347 t350 _ _ t352 t358 t361 t362 _ ?side1 ?side2 ?side3 A26.out).mono ?_
            (case side1 => exact Kd.R_V (Kd.R_tight rfl (Kd.R_types (Kd.R_types (Kd.R_types (Kd.R_types (Kd.R_apart' (Kd.R_apart' (HO349.out) (Kd.S_typed HO340.out) (by decide)) (Kd.S_typed HO354.out) (by decide)) BK327.out (by decide)) BK328.out (by decide)) BK346.out (by decide)) BK351.out (by decide))))
            (case side2 => exact X.C (Kd.S_reads' HO354.out).2.2)
            (case side3 => exact (Kd.S_reads' HO354.out).2.1)
            rintro e w87 ⟨v359, rfl, ho0, hb⟩
            refine ⟨_, rfl, ?_⟩
            have n0_ := X.A (Kd.R_elder' (X.K HO336) (Kd.R_base ho0) hb)
            have n1_ := X.A (Kd.S_elder' (X.L HO340) (Kd.R_base ho0) hb)
            have n2_ := X.A (Kd.R_elder' (X.K HO343) (Kd.R_base ho0) hb)
            have n3_ := X.A (Kd.R_elder' (X.K HO349) (Kd.R_base ho0) hb)
            have n4_ := X.A (Kd.S_elder' (X.L HO354) (Kd.R_base ho0) hb)
            have n5_ := X.A (Kd.R_lower (Kd.R_new' (Kd.R_new' (Kd.R_new' (Kd.R_mono (ok' := fun k_ => True) ho0 (fun _ hk_ => trivial)) (Kd.R_lt (X.K HO336))) (Kd.R_lt (X.K HO343))) (Kd.R_lt (X.K HO349))) (below_size X.G))
            have n6_ := X.A (X.BB BK327 hb)
            have n7_ := X.A (X.BB BK328 hb)
            have n8_ := X.A (X.BB BK346 hb)
            have n9_ := X.A (X.BB BK351 hb)
            have n10_ := X.A (below_step X.G hb)
            clear HO336 HO340 HO343 HO349 HO354 BK327 BK328 BK346 BK351 HB
            have HO336 := n0_
            have HO340 := n1_
            have HO343 := n2_
            have HO349 := n3_
            have HO354 := n4_
            have HO360 := n5_
            have BK327 := n6_
            have BK328 := n7_
            have BK346 := n8_
            have BK351 := n9_
            have HB := n10_
            clear n0_ n1_ n2_ n3_ n4_ n5_ n6_ n7_ n8_ n9_ n10_
            (try clear hb)
            (try clear hb2)
            (try clear hk)
            (try clear hi)
            (try clear ho0)
            refine hK.out _ _ ⟨(blk_cell BK327.out 0).trans rfl, (blk_cell BK327.out 1).trans rfl, (blk_cell BK327.out 2).trans rfl, (blk_cell BK351.out 0).trans rfl, (blk_cell BK351.out 1).trans rfl⟩ (fun hHeld => ?_)
            clear hK K
            refine norm_ (a' := ?_) ?_ ?_
            rotate_left
            ·exact (show Act.put _ (some 48) _ = _ from X.Pu)
            refine pure_ (i := 5) (N := some 43) (v := ?_) (a' := ?_) #[true, true, true, true, true, true, false, false, false, false, false] rfl rfl (any_of HT_.out (by kernel_rfl)) (fun _ _ _ h => h) (Or.inl ⟨by rfl, ?_⟩) ?_ ?_
            rotate_left
            ·intro w'
             go_simp
             with_reducible rfl
            rotate_left
            ·exact X.Pu
            refine pure_ (i := 6) (N := some 49) (v := ?_) (a' := ?_) #[true, true, true, true, true, true, true, false, false, false, false] rfl rfl (any_of HT_.out (by kernel_rfl)) (fun _ _ _ h => h) (Or.inl ⟨by rfl, ?_⟩) ?_ ?_
            rotate_left
            ·intro w'
             go_simp
             with_reducible rfl
            rotate_left
            ·exact X.Pu
            refine pure_ (i := 7) (N := some 50) (v := ?_) (a' := ?_) #[true, true, true, true, true, true, true, true, false, false, false] rfl rfl (any_of HT_.out (by kernel_rfl)) (fun _ _ _ h => h) (Or.inl ⟨by rfl, ?_⟩) ?_ ?_
            rotate_left
            ·intro w'
             go_simp
             with_reducible rfl
            rotate_left
            ·exact X.Pu
            refine one_ (i := 8) (N := some 12) #[true, true, true, true, true, true, true, true, true, false, false] rfl rfl (one_of HT_.out (by kernel_rfl)) (by decide) (fun K hK => ?_)
            refine box_step ?hg (N := 12) ?hd (cs := #[.slice none 0 0, .int .i64 0]) (t := 30) ?hr ?_; (case hd => rfl); (case hg => rfl); (case hr => exact X.R)
            intro gb363 hg w88 hbox hb
            have n0_ := X.A (Kd.R_below (X.K HO336) hb)
            have n1_ := X.A (Kd.S_below (X.L HO340) hb)
            have n2_ := X.A (Kd.R_below (X.K HO343) hb)
            have n3_ := X.A (Kd.R_below (X.K HO349) hb)
            have n4_ := X.A (Kd.S_below (X.L HO354) hb)
            have n5_ := X.A (Kd.R_below (X.K HO360) hb)
            have n6_ := X.A (X.BB BK327 hb)
            have n7_ := X.A (X.BB BK328 hb)
            have n8_ := X.A (X.BB BK346 hb)
            have n9_ := X.A (X.BB BK351 hb)
            have n10_ := X.A (below_step X.G hb)
            have n11_ := X.A (hbox)
            have n12_ := X.A ((by rw [hg]; exact (below_size X.G) : w.heap.size ≤ gb363))
            have n13_ := X.A ((by rw [hg]; exact (below_size X.G) : w.heap.size ≤ gb363))
            have n14_ := X.A (X.NL hg BK327)
            have n15_ := X.A (X.NG hg BK327)
            have n16_ := X.A (X.NL hg BK328)
            have n17_ := X.A (X.NG hg BK328)
            have n18_ := X.A (X.NL hg BK346)
            have n19_ := X.A (X.NG hg BK346)
            have n20_ := X.A (X.NL hg BK351)
            have n21_ := X.A (X.NG hg BK351)
            clear HO336 HO340 HO343 HO349 HO354 HO360 BK327 BK328 BK346 BK351 HB
            have HO336 := n0_
            have HO340 := n1_
            have HO343 := n2_
            have HO349 := n3_
            have HO354 := n4_
            have HO360 := n5_
            have BK327 := n6_
            have BK328 := n7_
            have BK346 := n8_
            have BK351 := n9_
            have HB := n10_
            have BK363 := n11_
            have GW363 := n12_
            have GE363 := n13_
            have NB327_363 := n14_
            have NB363_327 := n15_
            have NB328_363 := n16_
            have NB363_328 := n17_
            have NB346_363 := n18_
            have NB363_346 := n19_
            have NB351_363 := n20_
            have NB363_351 := n21_
            clear n0_ n1_ n2_ n3_ n4_ n5_ n6_ n7_ n8_ n9_ n10_ n11_ n12_ n13_ n14_ n15_ n16_ n17_ n18_ n19_ n20_ n21_ hb hbox hg
            refine hK.out _ _ ⟨(blk_cell BK327.out 0).trans rfl, (blk_cell BK327.out 1).trans rfl, (blk_cell BK327.out 2).trans rfl, (blk_cell BK351.out 0).trans rfl, (blk_cell BK351.out 1).trans rfl⟩ (fun hHeld => ?_)
            clear hK K
            refine norm_ (a' := ?_) ?_ ?_
            rotate_left
            ·exact (show Act.put _ (some 12) _ = _ from X.Pu)
            exact norm_ (by simp only [putAll, Act.put, List.setIfInBounds_toArray, List.set_cons_zero, List.set_cons_succ]) (hCont (v359, gb363) _ ⟨hHeld, (by (with_reducible repeat (first | apply Kd.R_alloc | apply Kd.R_drewN | apply Kd.R_drew)); exact Kd.R_mono HO336.out (fun _ hk => ⟨hk.1.1, ⟨hk.1.2, hk.2⟩⟩)), (by (with_reducible repeat (first | apply Kd.S_alloc | apply Kd.S_drewN | apply Kd.S_drew)); exact Kd.S_mono HO340.out (fun _ hk => ⟨hk.1.1.1.1.1, ⟨hk.1.1.1.1.2, ⟨hk.1.1.1.2, ⟨hk.1.2, ⟨hk.2, hk.1.1.2⟩⟩⟩⟩⟩)), (by (with_reducible repeat (first | apply Kd.R_alloc | apply Kd.R_drewN | apply Kd.R_drew)); exact Kd.R_mono HO343.out (fun _ hk => ⟨hk.1.1, ⟨hk.1.2, hk.2⟩⟩)), (by (with_reducible repeat (first | apply Kd.R_alloc | apply Kd.R_drewN | apply Kd.R_drew)); exact Kd.R_mono HO349.out (fun _ hk => ⟨hk.1.1.2, ⟨hk.1.2, hk.2⟩⟩)), (by (with_reducible repeat (first | apply Kd.S_alloc | apply Kd.S_drewN | apply Kd.S_drew)); exact Kd.S_mono HO354.out (fun _ hk => ⟨hk.1.1.1.1.2, ⟨hk.1.1.1.2, ⟨hk.1.1.2, ⟨hk.1.2, ⟨hk.2, hk.1.1.1.1.1.2⟩⟩⟩⟩⟩)), (by (with_reducible repeat (first | apply Kd.R_alloc | apply Kd.R_drewN | apply Kd.R_drew)); exact Kd.R_mono HO360.out (fun _ hk => ⟨hk.1.1.2, ⟨hk.1.2, hk.2⟩⟩)), (X.B BK327), (X.B BK328), (X.B BK346), (X.B BK351), (X.B BK363), GW363.out, GE363.out, NB327_363.out, NB363_327.out, NB328_363.out, NB363_328.out, NB346_363.out, NB363_346.out, NB351_363.out, NB363_351.out, X.G⟩)
           ·skip
            refine box_step ?hg (N := 12) ?hd (cs := #[.slice none 0 0, .int .i64 0]) (t := 30) ?hr ?_; (case hd => rfl); (case hg => rfl); (case hr => exact X.R)
            intro gb363 hg w87 hbox hb
            have n0_ := X.A (Kd.R_below (X.K HO336) hb)
            have n1_ := X.A (Kd.S_below (X.L HO340) hb)
            have n2_ := X.A (Kd.R_below (X.K HO343) hb)
            have n3_ := X.A (Kd.R_below (X.K HO349) hb)
            have n4_ := X.A (Kd.S_below (X.L HO354) hb)
            have n5_ := X.A (X.BB BK327 hb)
            have n6_ := X.A (X.BB BK328 hb)
            have n7_ := X.A (X.BB BK346 hb)
            have n8_ := X.A (X.BB BK351 hb)
            have n9_ := X.A (below_step X.G hb)
            have n10_ := X.A (hbox)
            have n11_ := X.A ((by rw [hg]; exact (below_size X.G) : w.heap.size ≤ gb363))
            have n12_ := X.A ((by rw [hg]; exact (below_size X.G) : w.heap.size ≤ gb363))
            have n13_ := X.A (X.NL hg BK327)
            have n14_ := X.A (X.NG hg BK327)
            have n15_ := X.A (X.NL hg BK328)
            have n16_ := X.A (X.NG hg BK328)
            have n17_ := X.A (X.NL hg BK346)
            have n18_ := X.A (X.NG hg BK346)
            have n19_ := X.A (X.NL hg BK351)
            have n20_ := X.A (X.NG hg BK351)
            clear HO336 HO340 HO343 HO349 HO354 BK327 BK328 BK346 BK351 HB
            have HO336 := n0_
            have HO340 := n1_
            have HO343 := n2_
            have HO349 := n3_
            have HO354 := n4_
            have BK327 := n5_
            have BK328 := n6_
            have BK346 := n7_
            have BK351 := n8_
            have HB := n9_
            have BK363 := n10_
            have GW363 := n11_
            have GE363 := n12_
            have NB327_363 := n13_
            have NB363_327 := n14_
            have NB328_363 := n15_
            have NB363_328 := n16_
            have NB346_363 := n17_
            have NB363_346 := n18_
            have NB351_363 := n19_
            have NB363_351 := n20_
            clear n0_ n1_ n2_ n3_ n4_ n5_ n6_ n7_ n8_ n9_ n10_ n11_ n12_ n13_ n14_ n15_ n16_ n17_ n18_ n19_ n20_ hb hbox hg
            refine hK.out _ _ ⟨(blk_cell BK327.out 0).trans rfl, (blk_cell BK327.out 1).trans rfl, (blk_cell BK327.out 2).trans rfl, (blk_cell BK351.out 0).trans rfl, (blk_cell BK351.out 1).trans rfl⟩ (fun hHeld => ?_)
            clear hK K
            refine norm_ (a' := ?_) ?_ ?_
            rotate_left
            ·exact (show Act.put _ (some 12) _ = _ from X.Pu)
            refine one_ (i := 4) (N := some 48) #[true, true, true, true, true, false, false, false, true, false, false] rfl rfl (one_of HT_.out (by kernel_rfl)) (by decide) (fun K hK => ?_)
            refine goes_ Try.func10 (by kernel_rfl) rfl #[.agg #[.int .i64 t355, .int .i64 t356, .int .i64 t357], .agg #[.slice Ao77 t347.length co77, .int .i64 t350], .slice Ao84 t352.length co84] (by rfl) rfl rfl X.M ?_
            with_reducible refine (impl_SailAll.calls k t355 t356 t357 (fun k_ => some k_ = (.slice Ao77 t347.length co77 : Value).ownBlock) _ _ t347 t350 _ _ t352 t358 t361 t362 _ ?side1 ?side2 ?side3 A26.out).mono ?_
            (case side1 => exact Kd.R_V (Kd.R_tight rfl (Kd.R_types (Kd.R_types (Kd.R_types (Kd.R_types (Kd.R_types (Kd.R_apart' (Kd.R_apart' (HO349.out) (Kd.S_typed HO340.out) (by decide)) (Kd.S_typed HO354.out) (by decide)) BK327.out (by decide)) BK328.out (by decide)) BK346.out (by decide)) BK351.out (by decide)) BK363.out (by decide))))
            (case side2 => exact X.C (Kd.S_reads' HO354.out).2.2)
            (case side3 => exact (Kd.S_reads' HO354.out).2.1)
            rintro e w88 ⟨v359, rfl, ho0, hb⟩
            refine ⟨_, rfl, ?_⟩
            have n0_ := X.A (Kd.R_elder' (X.K HO336) (Kd.R_base ho0) hb)
            have n1_ := X.A (Kd.S_elder' (X.L HO340) (Kd.R_base ho0) hb)
            have n2_ := X.A (Kd.R_elder' (X.K HO343) (Kd.R_base ho0) hb)
            have n3_ := X.A (Kd.R_elder' (X.K HO349) (Kd.R_base ho0) hb)
            have n4_ := X.A (Kd.S_elder' (X.L HO354) (Kd.R_base ho0) hb)
            have n5_ := X.A (Kd.R_lower (Kd.R_new' (Kd.R_new' (Kd.R_new' (Kd.R_mono (ok' := fun k_ => True) ho0 (fun _ hk_ => trivial)) (Kd.R_lt (X.K HO336))) (Kd.R_lt (X.K HO343))) (Kd.R_lt (X.K HO349))) (below_size X.G))
            have n6_ := X.A (X.BB BK327 hb)
            have n7_ := X.A (X.BB BK328 hb)
            have n8_ := X.A (X.BB BK346 hb)
            have n9_ := X.A (X.BB BK351 hb)
            have n10_ := X.A (X.BB BK363 hb)
            have n11_ := X.A (below_step X.G hb)
            clear HO336 HO340 HO343 HO349 HO354 BK327 BK328 BK346 BK351 BK363 HB
            have HO336 := n0_
            have HO340 := n1_
            have HO343 := n2_
            have HO349 := n3_
            have HO354 := n4_
            have HO360 := n5_
            have BK327 := n6_
            have BK328 := n7_
            have BK346 := n8_
            have BK351 := n9_
            have BK363 := n10_
            have HB := n11_
            clear n0_ n1_ n2_ n3_ n4_ n5_ n6_ n7_ n8_ n9_ n10_ n11_
            (try clear hb)
            (try clear hb2)
            (try clear hk)
            (try clear hi)
            (try clear ho0)
            refine hK.out _ _ ⟨(blk_cell BK327.out 0).trans rfl, (blk_cell BK327.out 1).trans rfl, (blk_cell BK327.out 2).trans rfl, (blk_cell BK351.out 0).trans rfl, (blk_cell BK351.out 1).trans rfl⟩ (fun hHeld => ?_)
            clear hK K
            refine norm_ (a' := ?_) ?_ ?_
            rotate_left
            ·exact (show Act.put _ (some 48) _ = _ from X.Pu)
            refine pure_ (i := 5) (N := some 43) (v := ?_) (a' := ?_) #[true, true, true, true, true, true, false, false, true, false, false] rfl rfl (any_of HT_.out (by kernel_rfl)) (fun _ _ _ h => h) (Or.inl ⟨by rfl, ?_⟩) ?_ ?_
            rotate_left
            ·intro w'
             go_simp
             with_reducible rfl
            rotate_left
            ·exact X.Pu
            refine pure_ (i := 6) (N := some 49) (v := ?_) (a' := ?_) #[true, true, true, true, true, true, true, false, true, false, false] rfl rfl (any_of HT_.out (by kernel_rfl)) (fun _ _ _ h => h) (Or.inl ⟨by rfl, ?_⟩) ?_ ?_
            rotate_left
            ·intro w'
             go_simp
             with_reducible rfl
            rotate_left
            ·exact X.Pu
            refine pure_ (i := 7) (N := some 50) (v := ?_) (a' := ?_) #[true, true, true, true, true, true, true, true, true, false, false] rfl rfl (any_of HT_.out (by kernel_rfl)) (fun _ _ _ h => h) (Or.inl ⟨by rfl, ?_⟩) ?_ ?_
            rotate_left
            ·intro w'
             go_simp
             with_reducible rfl
            rotate_left
            ·exact X.Pu
            exact norm_ (by simp only [putAll, Act.put, List.setIfInBounds_toArray, List.set_cons_zero, List.set_cons_succ]) (hCont (v359, gb363) _ ⟨hHeld, (by (with_reducible repeat (first | apply Kd.R_alloc | apply Kd.R_drewN | apply Kd.R_drew)); exact Kd.R_mono HO336.out (fun _ hk => ⟨hk.1.1, ⟨hk.1.2, hk.2⟩⟩)), (by (with_reducible repeat (first | apply Kd.S_alloc | apply Kd.S_drewN | apply Kd.S_drew)); exact Kd.S_mono HO340.out (fun _ hk => ⟨hk.1.1.1.1.1, ⟨hk.1.1.1.1.2, ⟨hk.1.1.1.2, ⟨hk.1.2, ⟨hk.2, hk.1.1.2⟩⟩⟩⟩⟩)), (by (with_reducible repeat (first | apply Kd.R_alloc | apply Kd.R_drewN | apply Kd.R_drew)); exact Kd.R_mono HO343.out (fun _ hk => ⟨hk.1.1, ⟨hk.1.2, hk.2⟩⟩)), (by (with_reducible repeat (first | apply Kd.R_alloc | apply Kd.R_drewN | apply Kd.R_drew)); exact Kd.R_mono HO349.out (fun _ hk => ⟨hk.1.1.2, ⟨hk.1.2, hk.2⟩⟩)), (by (with_reducible repeat (first | apply Kd.S_alloc | apply Kd.S_drewN | apply Kd.S_drew)); exact Kd.S_mono HO354.out (fun _ hk => ⟨hk.1.1.1.1.2, ⟨hk.1.1.1.2, ⟨hk.1.1.2, ⟨hk.1.2, ⟨hk.2, hk.1.1.1.1.1.2⟩⟩⟩⟩⟩)), (by (with_reducible repeat (first | apply Kd.R_alloc | apply Kd.R_drewN | apply Kd.R_drew)); exact Kd.R_mono HO360.out (fun _ hk => ⟨hk.1.1.2, ⟨hk.1.2, hk.2⟩⟩)), (X.B BK327), (X.B BK328), (X.B BK346), (X.B BK351), (X.B BK363), GW363.out, GE363.out, NB327_363.out, NB363_327.out, NB328_363.out, NB363_328.out, NB346_363.out, NB363_346.out, NB351_363.out, NB363_351.out, X.G⟩)
          ·skip
           refine box_step ?hg (N := 12) ?hd (cs := #[.slice none 0 0, .int .i64 0]) (t := 30) ?hr ?_; (case hd => rfl); (case hg => rfl); (case hr => exact X.R)
           intro gb363 hg w86 hbox hb
           have n0_ := X.A (Kd.R_below (X.K HO336) hb)
           have n1_ := X.A (Kd.S_below (X.L HO340) hb)
           have n2_ := X.A (Kd.R_below (X.K HO343) hb)
           have n3_ := X.A (Kd.R_below (X.K HO349) hb)
           have n4_ := X.A (Kd.S_below (X.L HO354) hb)
           have n5_ := X.A (X.BB BK327 hb)
           have n6_ := X.A (X.BB BK328 hb)
           have n7_ := X.A (X.BB BK346 hb)
           have n8_ := X.A (X.BB BK351 hb)
           have n9_ := X.A (below_step X.G hb)
           have n10_ := X.A (hbox)
           have n11_ := X.A ((by rw [hg]; exact (below_size X.G) : w.heap.size ≤ gb363))
           have n12_ := X.A ((by rw [hg]; exact (below_size X.G) : w.heap.size ≤ gb363))
           have n13_ := X.A (X.NL hg BK327)
           have n14_ := X.A (X.NG hg BK327)
           have n15_ := X.A (X.NL hg BK328)
           have n16_ := X.A (X.NG hg BK328)
           have n17_ := X.A (X.NL hg BK346)
           have n18_ := X.A (X.NG hg BK346)
           have n19_ := X.A (X.NL hg BK351)
           have n20_ := X.A (X.NG hg BK351)
           clear HO336 HO340 HO343 HO349 HO354 BK327 BK328 BK346 BK351 HB
           have HO336 := n0_
           have HO340 := n1_
           have HO343 := n2_
           have HO349 := n3_
           have HO354 := n4_
           have BK327 := n5_
           have BK328 := n6_
           have BK346 := n7_
           have BK351 := n8_
           have HB := n9_
           have BK363 := n10_
           have GW363 := n11_
           have GE363 := n12_
           have NB327_363 := n13_
           have NB363_327 := n14_
           have NB328_363 := n15_
           have NB363_328 := n16_
           have NB346_363 := n17_
           have NB363_346 := n18_
           have NB351_363 := n19_
           have NB363_351 := n20_
           clear n0_ n1_ n2_ n3_ n4_ n5_ n6_ n7_ n8_ n9_ n10_ n11_ n12_ n13_ n14_ n15_ n16_ n17_ n18_ n19_ n20_ hb hbox hg
           refine hK.out _ _ ⟨(blk_cell BK327.out 0).trans rfl, (blk_cell BK327.out 1).trans rfl, (blk_cell BK327.out 2).trans rfl, (blk_cell BK351.out 0).trans rfl, (blk_cell BK351.out 1).trans rfl⟩ (fun hHeld => ?_)
           clear hK K
           refine norm_ (a' := ?_) ?_ ?_
           rotate_left
           ·exact (show Act.put _ (some 12) _ = _ from X.Pu)
           refine one_ (i := 1) (N := some 45) #[true, true, true, true, false, false, false, false, true, false, false] rfl rfl (one_of HT_.out (by kernel_rfl)) (by decide) (fun K hK => ?_)
           refine goes_ Try.func7 (by kernel_rfl) rfl #[.agg #[.int .i64 a0_0, .int .i64 a0_1, .int .i64 a0_2]] (by rfl) rfl rfl X.M ?_
           with_reducible refine (laws_toIsles.calls a0_0 a0_1 a0_2 t355 t356 t357 _ A25.out).mono ?_
           rintro e w87 ⟨rfl, hb⟩
           refine ⟨_, rfl, ?_⟩
           have n0_ := X.A (Kd.R_below (X.K HO336) hb)
           have n1_ := X.A (Kd.S_below (X.L HO340) hb)
           have n2_ := X.A (Kd.R_below (X.K HO343) hb)
           have n3_ := X.A (Kd.R_below (X.K HO349) hb)
           have n4_ := X.A (Kd.S_below (X.L HO354) hb)
           have n5_ := X.A (X.BB BK327 hb)
           have n6_ := X.A (X.BB BK328 hb)
           have n7_ := X.A (X.BB BK346 hb)
           have n8_ := X.A (X.BB BK351 hb)
           have n9_ := X.A (X.BB BK363 hb)
           have n10_ := X.A (below_step X.G hb)
           clear HO336 HO340 HO343 HO349 HO354 BK327 BK328 BK346 BK351 BK363 HB
           have HO336 := n0_
           have HO340 := n1_
           have HO343 := n2_
           have HO349 := n3_
           have HO354 := n4_
           have BK327 := n5_
           have BK328 := n6_
           have BK346 := n7_
           have BK351 := n8_
           have BK363 := n9_
           have HB := n10_
           clear n0_ n1_ n2_ n3_ n4_ n5_ n6_ n7_ n8_ n9_ n10_
           (try clear hb)
           (try clear hb2)
           (try clear hk)
           (try clear hi)
           refine hK.out _ _ ⟨(blk_cell BK327.out 0).trans rfl, (blk_cell BK327.out 1).trans rfl, (blk_cell BK327.out 2).trans rfl, (blk_cell BK351.out 0).trans rfl, (blk_cell BK351.out 1).trans rfl⟩ (fun hHeld => ?_)
           clear hK K
           refine norm_ (a' := ?_) ?_ ?_
           rotate_left
           ·exact (show Act.put _ (some 45) _ = _ from X.Pu)
           refine one_ (i := 4) (N := some 48) #[true, true, true, true, true, false, false, false, true, false, false] rfl rfl (one_of HT_.out (by kernel_rfl)) (by decide) (fun K hK => ?_)
           refine goes_ Try.func10 (by kernel_rfl) rfl #[.agg #[.int .i64 t355, .int .i64 t356, .int .i64 t357], .agg #[.slice Ao77 t347.length co77, .int .i64 t350], .slice Ao84 t352.length co84] (by rfl) rfl rfl X.M ?_
           with_reducible refine (impl_SailAll.calls k t355 t356 t357 (fun k_ => some k_ = (.slice Ao77 t347.length co77 : Value).ownBlock) _ _ t347 t350 _ _ t352 t358 t361 t362 _ ?side1 ?side2 ?side3 A26.out).mono ?_
           (case side1 => exact Kd.R_V (Kd.R_tight rfl (Kd.R_types (Kd.R_types (Kd.R_types (Kd.R_types (Kd.R_types (Kd.R_apart' (Kd.R_apart' (HO349.out) (Kd.S_typed HO340.out) (by decide)) (Kd.S_typed HO354.out) (by decide)) BK327.out (by decide)) BK328.out (by decide)) BK346.out (by decide)) BK351.out (by decide)) BK363.out (by decide))))
           (case side2 => exact X.C (Kd.S_reads' HO354.out).2.2)
           (case side3 => exact (Kd.S_reads' HO354.out).2.1)
           rintro e w88 ⟨v359, rfl, ho0, hb⟩
           refine ⟨_, rfl, ?_⟩
           have n0_ := X.A (Kd.R_elder' (X.K HO336) (Kd.R_base ho0) hb)
           have n1_ := X.A (Kd.S_elder' (X.L HO340) (Kd.R_base ho0) hb)
           have n2_ := X.A (Kd.R_elder' (X.K HO343) (Kd.R_base ho0) hb)
           have n3_ := X.A (Kd.R_elder' (X.K HO349) (Kd.R_base ho0) hb)
           have n4_ := X.A (Kd.S_elder' (X.L HO354) (Kd.R_base ho0) hb)
           have n5_ := X.A (Kd.R_lower (Kd.R_new' (Kd.R_new' (Kd.R_new' (Kd.R_mono (ok' := fun k_ => True) ho0 (fun _ hk_ => trivial)) (Kd.R_lt (X.K HO336))) (Kd.R_lt (X.K HO343))) (Kd.R_lt (X.K HO349))) (below_size X.G))
           have n6_ := X.A (X.BB BK327 hb)
           have n7_ := X.A (X.BB BK328 hb)
           have n8_ := X.A (X.BB BK346 hb)
           have n9_ := X.A (X.BB BK351 hb)
           have n10_ := X.A (X.BB BK363 hb)
           have n11_ := X.A (below_step X.G hb)
           clear HO336 HO340 HO343 HO349 HO354 BK327 BK328 BK346 BK351 BK363 HB
           have HO336 := n0_
           have HO340 := n1_
           have HO343 := n2_
           have HO349 := n3_
           have HO354 := n4_
           have HO360 := n5_
           have BK327 := n6_
           have BK328 := n7_
           have BK346 := n8_
           have BK351 := n9_
           have BK363 := n10_
           have HB := n11_
           clear n0_ n1_ n2_ n3_ n4_ n5_ n6_ n7_ n8_ n9_ n10_ n11_
           (try clear hb)
           (try clear hb2)
           (try clear hk)
           (try clear hi)
           (try clear ho0)
           refine hK.out _ _ ⟨(blk_cell BK327.out 0).trans rfl, (blk_cell BK327.out 1).trans rfl, (blk_cell BK327.out 2).trans rfl, (blk_cell BK351.out 0).trans rfl, (blk_cell BK351.out 1).trans rfl⟩ (fun hHeld => ?_)
           clear hK K
           refine norm_ (a' := ?_) ?_ ?_
           rotate_left
           ·exact (show Act.put _ (some 48) _ = _ from X.Pu)
           refine pure_ (i := 5) (N := some 43) (v := ?_) (a' := ?_) #[true, true, true, true, true, true, false, false, true, false, false] rfl rfl (any_of HT_.out (by kernel_rfl)) (fun _ _ _ h => h) (Or.inl ⟨by rfl, ?_⟩) ?_ ?_
           rotate_left
           ·intro w'
            go_simp
            with_reducible rfl
           rotate_left
           ·exact X.Pu
           refine pure_ (i := 6) (N := some 49) (v := ?_) (a' := ?_) #[true, true, true, true, true, true, true, false, true, false, false] rfl rfl (any_of HT_.out (by kernel_rfl)) (fun _ _ _ h => h) (Or.inl ⟨by rfl, ?_⟩) ?_ ?_
           rotate_left
           ·intro w'
            go_simp
            with_reducible rfl
           rotate_left
           ·exact X.Pu
           refine pure_ (i := 7) (N := some 50) (v := ?_) (a' := ?_) #[true, true, true, true, true, true, true, true, true, false, false] rfl rfl (any_of HT_.out (by kernel_rfl)) (fun _ _ _ h => h) (Or.inl ⟨by rfl, ?_⟩) ?_ ?_
           rotate_left
           ·intro w'
            go_simp
            with_reducible rfl
           rotate_left
           ·exact X.Pu
           exact norm_ (by simp only [putAll, Act.put, List.setIfInBounds_toArray, List.set_cons_zero, List.set_cons_succ]) (hCont (v359, gb363) _ ⟨hHeld, (by (with_reducible repeat (first | apply Kd.R_alloc | apply Kd.R_drewN | apply Kd.R_drew)); exact Kd.R_mono HO336.out (fun _ hk => ⟨hk.1.1, ⟨hk.1.2, hk.2⟩⟩)), (by (with_reducible repeat (first | apply Kd.S_alloc | apply Kd.S_drewN | apply Kd.S_drew)); exact Kd.S_mono HO340.out (fun _ hk => ⟨hk.1.1.1.1.1, ⟨hk.1.1.1.1.2, ⟨hk.1.1.1.2, ⟨hk.1.2, ⟨hk.2, hk.1.1.2⟩⟩⟩⟩⟩)), (by (with_reducible repeat (first | apply Kd.R_alloc | apply Kd.R_drewN | apply Kd.R_drew)); exact Kd.R_mono HO343.out (fun _ hk => ⟨hk.1.1, ⟨hk.1.2, hk.2⟩⟩)), (by (with_reducible repeat (first | apply Kd.R_alloc | apply Kd.R_drewN | apply Kd.R_drew)); exact Kd.R_mono HO349.out (fun _ hk => ⟨hk.1.1.2, ⟨hk.1.2, hk.2⟩⟩)), (by (with_reducible repeat (first | apply Kd.S_alloc | apply Kd.S_drewN | apply Kd.S_drew)); exact Kd.S_mono HO354.out (fun _ hk => ⟨hk.1.1.1.1.2, ⟨hk.1.1.1.2, ⟨hk.1.1.2, ⟨hk.1.2, ⟨hk.2, hk.1.1.1.1.1.2⟩⟩⟩⟩⟩)), (by (with_reducible repeat (first | apply Kd.R_alloc | apply Kd.R_drewN | apply Kd.R_drew)); exact Kd.R_mono HO360.out (fun _ hk => ⟨hk.1.1.2, ⟨hk.1.2, hk.2⟩⟩)), (X.B BK327), (X.B BK328), (X.B BK346), (X.B BK351), (X.B BK363), GW363.out, GE363.out, NB327_363.out, NB363_327.out, NB328_363.out, NB363_328.out, NB346_363.out, NB363_346.out, NB351_363.out, NB363_351.out, X.G⟩)
         rintro ⟨v359, gb363⟩ w89 ⟨hS_, h0_, h1_, h2_, h3_, h4_, h5_, h6_, h7_, h8_, h9_, h10_, h11_, h12_, h13_, h14_, h15_, h16_, h17_, h18_, h19_, h20_, h21_⟩
         have n0_ : Aside0 (Kd.R (Kd.int .i64) 3 w89 w.heap.size (fun k_ => some k_ ≠ (.slice Ao70 t341.length co70 : Value).ownBlock ∧ some k_ ≠ (.slice Ao77 t347.length co77 : Value).ownBlock ∧ some k_ ≠ (v359 : Value).ownBlock) v335 t334) := ⟨h0_⟩
         have n1_ : Aside0 (Kd.S k51 51 w89 w.heap.size (fun k_ => some k_ ≠ (v335 : Value).ownBlock ∧ some k_ ≠ (.slice Ao70 t341.length co70 : Value).ownBlock ∧ some k_ ≠ (.slice Ao77 t347.length co77 : Value).ownBlock ∧ some k_ ≠ (.slice Ao84 t352.length co84 : Value).ownBlock ∧ some k_ ≠ (v359 : Value).ownBlock ∧ k_ < nb83) v339 t338) := ⟨h1_⟩
         have n2_ : Aside0 (Kd.R (Kd.int .i64) 3 w89 w.heap.size (fun k_ => some k_ ≠ (v335 : Value).ownBlock ∧ some k_ ≠ (.slice Ao77 t347.length co77 : Value).ownBlock ∧ some k_ ≠ (v359 : Value).ownBlock) (.slice Ao70 t341.length co70) t341) := ⟨h2_⟩
         have n3_ : Aside0 (Kd.R (Kd.int .i64) 3 w89 w.heap.size (fun k_ => some k_ ≠ (v335 : Value).ownBlock ∧ some k_ ≠ (.slice Ao70 t341.length co70 : Value).ownBlock ∧ some k_ ≠ (v359 : Value).ownBlock) (.slice Ao77 t347.length co77) t347) := ⟨h3_⟩
         have n4_ : Aside0 (Kd.S k51 51 w89 w.heap.size (fun k_ => some k_ ≠ (v335 : Value).ownBlock ∧ some k_ ≠ (v339 : Value).ownBlock ∧ some k_ ≠ (.slice Ao70 t341.length co70 : Value).ownBlock ∧ some k_ ≠ (.slice Ao77 t347.length co77 : Value).ownBlock ∧ some k_ ≠ (v359 : Value).ownBlock ∧ nb83 ≤ k_) (.slice Ao84 t352.length co84) t352) := ⟨h4_⟩
         have n5_ : Aside0 (Kd.R (Kd.int .i64) 3 w89 w.heap.size (fun k_ => some k_ ≠ (v335 : Value).ownBlock ∧ some k_ ≠ (.slice Ao70 t341.length co70 : Value).ownBlock ∧ some k_ ≠ (.slice Ao77 t347.length co77 : Value).ownBlock) v359 t358) := ⟨h5_⟩
         have n6_ : Aside0 (w89.heap[gb327]? = some (.cells #[.int .i64 a0_0, .int .i64 a0_1, .int .i64 a0_2] 23 (0, 0))) := ⟨h6_⟩
         have n7_ : Aside0 (w89.heap[gb328]? = some (.cells #[.slice A1_0 l1_0.length c1_0, .int .i64 a1_1] 26 (0, 0))) := ⟨h7_⟩
         have n8_ : Aside0 (w89.heap[gb346]? = some (.cells #[.slice Ao70 t341.length co70, .int .i64 t344] 30 (0, 0))) := ⟨h8_⟩
         have n9_ : Aside0 (w89.heap[gb351]? = some (.cells #[.slice Ao77 t347.length co77, .int .i64 t350] 30 (0, 0))) := ⟨h9_⟩
         have n10_ : Aside0 (w89.heap[gb363]? = some (.cells #[.slice none 0 0, .int .i64 0] 30 (0, 0))) := ⟨h10_⟩
         have n11_ : Aside0 (w.heap.size ≤ gb363) := ⟨h11_⟩
         have n12_ : Aside0 (w.heap.size ≤ gb363) := ⟨h12_⟩
         have n13_ : Aside0 (gb327 ≠ gb363) := ⟨h13_⟩
         have n14_ : Aside0 (gb363 ≠ gb327) := ⟨h14_⟩
         have n15_ : Aside0 (gb328 ≠ gb363) := ⟨h15_⟩
         have n16_ : Aside0 (gb363 ≠ gb328) := ⟨h16_⟩
         have n17_ : Aside0 (gb346 ≠ gb363) := ⟨h17_⟩
         have n18_ : Aside0 (gb363 ≠ gb346) := ⟨h18_⟩
         have n19_ : Aside0 (gb351 ≠ gb363) := ⟨h19_⟩
         have n20_ : Aside0 (gb363 ≠ gb351) := ⟨h20_⟩
         have n21_ : Aside0 (Below w.heap.size w w89) := ⟨h21_⟩
         clear HO336 HO340 HO343 HO349 HO354 BK327 BK328 BK346 BK351 HB h0_ h1_ h2_ h3_ h4_ h5_ h6_ h7_ h8_ h9_ h10_ h11_ h12_ h13_ h14_ h15_ h16_ h17_ h18_ h19_ h20_ h21_
         have HO336 := n0_
         have HO340 := n1_
         have HO343 := n2_
         have HO349 := n3_
         have HO354 := n4_
         have HO360 := n5_
         have BK327 := n6_
         have BK328 := n7_
         have BK346 := n8_
         have BK351 := n9_
         have BK363 := n10_
         have GW363 := n11_
         have GE363 := n12_
         have NB327_363 := n13_
         have NB363_327 := n14_
         have NB328_363 := n15_
         have NB363_328 := n16_
         have NB346_363 := n17_
         have NB363_346 := n18_
         have NB351_363 := n19_
         have NB363_351 := n20_
         have HB := n21_
         clear n0_ n1_ n2_ n3_ n4_ n5_ n6_ n7_ n8_ n9_ n10_ n11_ n12_ n13_ n14_ n15_ n16_ n17_ n18_ n19_ n20_ n21_
         have hHeld : w89.cell? ⟨gb327, 0, none⟩ = some (.int .i64 a0_0) ∧ w89.cell? ⟨gb327, 1, none⟩ = some (.int .i64 a0_1) ∧ w89.cell? ⟨gb327, 2, none⟩ = some (.int .i64 a0_2) ∧ w89.cell? ⟨gb351, 0, none⟩ = some (.slice Ao77 t347.length co77) ∧ w89.cell? ⟨gb351, 1, none⟩ = some (.int .i64 t350) := hS_
         obtain ⟨Ao90, co90, eo90⟩ := Kd.R_slice HO360.out
         (first | subst eo90 | (injection eo90 with f1_ f2_ f3_; have f4_ := f1_.symm; have f5_ := f3_.symm; clear f1_ f2_ f3_; subst f4_; subst f5_))
         refine norm_ (a' := ?_) ?_ ?_
         rotate_left
         ·simp only [putAll, Act.put, List.setIfInBounds_toArray, List.set_cons_zero, List.set_cons_succ]
          rfl
         refine one_ (i := 9) (N := none) #[true, true, true, true, true, true, true, true, true, true, false] rfl rfl (one_of HT_.out (by kernel_rfl)) (by decide) (fun K hK => ?_)
         have hs91 : w89.cell? ⟨gb363, 0, none⟩ = some (.slice none 0 0) := (blk_cell BK363.out 0).trans rfl
         have hfs91 := blk_frozen BK363.out 0
         have hns91_0 := NB327_363.out
         have hns91_1 := NB328_363.out
         have hns91_2 := NB346_363.out
         have hns91_3 := NB351_363.out
         have hms91_0 := NB363_327.out
         have hms91_1 := NB363_328.out
         have hms91_2 := NB363_346.out
         have hms91_3 := NB363_351.out
         have hs92 : w89.cell? ⟨gb363, 1, none⟩ = some (.int .i64 0) := (blk_cell BK363.out 1).trans rfl
         have hfs92 := blk_frozen BK363.out 1
         have hns92_0 := NB327_363.out
         have hns92_1 := NB328_363.out
         have hns92_2 := NB346_363.out
         have hns92_3 := NB351_363.out
         have hms92_0 := NB363_327.out
         have hms92_1 := NB363_328.out
         have hms92_2 := NB363_346.out
         have hms92_3 := NB363_351.out
         refine skip_ (w1 := ?_) (by rfl) rfl ?_ ?_
         rotate_left
         ·go_simp
          rfl
         refine hK.out _ _ ⟨((cell_far (p := ⟨gb363, _, none⟩) NB327_363.out _).trans (((cell_far (p := ⟨gb363, _, none⟩) NB327_363.out _).trans (hHeld.1)))), ((cell_far (p := ⟨gb363, _, none⟩) NB327_363.out _).trans (((cell_far (p := ⟨gb363, _, none⟩) NB327_363.out _).trans (hHeld.2.1)))), ((cell_far (p := ⟨gb363, _, none⟩) NB327_363.out _).trans (((cell_far (p := ⟨gb363, _, none⟩) NB327_363.out _).trans (hHeld.2.2.1)))), ((cell_far (p := ⟨gb363, _, none⟩) NB351_363.out _).trans (((cell_far (p := ⟨gb363, _, none⟩) NB351_363.out _).trans (hHeld.2.2.2.1)))), ((cell_far (p := ⟨gb363, _, none⟩) NB351_363.out _).trans (((cell_far (p := ⟨gb363, _, none⟩) NB351_363.out _).trans (hHeld.2.2.2.2))))⟩ (fun hHeld => ?_)
         clear hK K
         refine pure_ (i := 10) (N := some 13) (v := ?_) (a' := ?_) #[true, true, true, true, true, true, true, true, true, true, true] rfl rfl (any_of HT_.out (by kernel_rfl)) (fun _ _ _ h => h) (Or.inl ⟨by rfl, ?_⟩) ?_ ?_
         rotate_left
         ·intro w'
          go_simp
          with_reducible rfl
         rotate_left
         ·exact X.Pu
         refine done_ (done_of HT_.out (by kernel_rfl)) ?_
         have hnb93 := NB363_327.out
         have hnc93 := NB327_363.out
         have hnb94 := NB363_328.out
         have hnc94 := NB328_363.out
         have hnb95 := NB363_346.out
         have hnc95 := NB346_363.out
         have hnb96 := NB363_351.out
         have hnc96 := NB351_363.out
         have hcz97_0 : w89.cell? ⟨gb363, 0, none⟩ = some (.slice none 0 0) := (blk_cell BK363.out 0).trans rfl
         have hcz97_1 : w89.cell? ⟨gb363, 1, none⟩ = some (.int .i64 0) := (blk_cell BK363.out 1).trans rfl
         have hfz97_0 := blk_frozen BK363.out 0
         have hfz97_1 := blk_frozen BK363.out 1
         have hnb98 := NB346_327.out
         have hnc98 := NB327_346.out
         have hcz99_0 : w89.cell? ⟨gb346, 0, none⟩ = some (.slice Ao70 t341.length co70) := (blk_cell BK346.out 0).trans rfl
         have hcz99_1 : w89.cell? ⟨gb346, 1, none⟩ = some (.int .i64 t344) := (blk_cell BK346.out 1).trans rfl
         have hfz99_0 := blk_frozen BK346.out 0
         have hfz99_1 := blk_frozen BK346.out 1
         try go_wp2_with (first | ((with_reducible refine gate_callee (f := 11) rfl ?_); refine goesL_ (some 53) rfl rfl Try.func11 (by kernel_rfl) rfl #[.agg #[.slice Ao90 t358.length co90, .int .i64 t361], .agg #[.slice Ao70 t341.length co70, .int .i64 t344]] rfl X.M ?_; (with_reducible refine (laws_eqPlaces.calls k _ _ t358 t361 _ _ t341 t344 true _ ?side1 ?side2 ?side3 ?side4 A27.out).mono ?_); (case side1 => refine (Kd.R_reads' (e := 3) (base := w.heap.size) (ok := fun k_ => (some k_ ≠ (v335 : Value).ownBlock ∧ (some k_ ≠ (.slice Ao70 t341.length co70 : Value).ownBlock ∧ some k_ ≠ (.slice Ao77 t347.length co77 : Value).ownBlock))) (n := t358.length) (c := co90) ?_).2.2; exact (by (with_reducible repeat (first | apply Kd.R_alloc | apply Kd.R_drewN | apply Kd.R_drew)); exact (Kd.R_mono (Kd.R_far (p := ⟨gb363, 1, none⟩) (Kd.R_far (p := ⟨gb363, 0, none⟩) (Kd.R_types HO360.out BK363.out (by decide)) (fun _ hk => hk.2) (.slice Ao90 t358.length co90)) (fun _ hk => hk.2) (.int .i64 t361)) (fun _ h_ => h_.1)))); (case side2 => exact (Kd.R_reads' HO360.out).2.1); (case side3 => refine (Kd.R_reads' (e := 3) (base := w.heap.size) (ok := fun k_ => (some k_ ≠ (v335 : Value).ownBlock ∧ (some k_ ≠ (.slice Ao77 t347.length co77 : Value).ownBlock ∧ some k_ ≠ (.slice Ao90 t358.length co90 : Value).ownBlock))) (n := t341.length) (c := co70) ?_).2.2; exact (by (with_reducible repeat (first | apply Kd.R_alloc | apply Kd.R_drewN | apply Kd.R_drew)); exact (Kd.R_mono (Kd.R_far (p := ⟨gb363, 1, none⟩) (Kd.R_far (p := ⟨gb363, 0, none⟩) (Kd.R_types HO343.out BK363.out (by decide)) (fun _ hk => hk.2) (.slice Ao90 t358.length co90)) (fun _ hk => hk.2) (.int .i64 t361)) (fun _ h_ => h_.1)))); (case side4 => exact (Kd.R_reads' HO343.out).2.1); rintro e w100 ⟨rfl, hb⟩; refine ⟨_, rfl, ?_⟩; have n0_ := X.A (Kd.R_below (by (with_reducible repeat (first | apply Kd.R_alloc | apply Kd.R_drewN | apply Kd.R_drew)); exact (Kd.R_mono (Kd.R_far (p := ⟨gb363, 1, none⟩) (Kd.R_far (p := ⟨gb363, 0, none⟩) (Kd.R_types HO336.out BK363.out (by decide)) (fun _ hk => hk.2) (.slice Ao90 t358.length co90)) (fun _ hk => hk.2) (.int .i64 t361)) (fun _ h_ => h_.1))) hb); have n1_ := X.A (Kd.S_below (by (with_reducible repeat (first | apply Kd.S_alloc | apply Kd.S_drewN | apply Kd.S_drew)); exact (Kd.S_mono (Kd.S_far (p := ⟨gb363, 1, none⟩) (Kd.S_far (p := ⟨gb363, 0, none⟩) (Kd.S_types HO340.out BK363.out (by decide)) (fun _ hk => hk.2) (.slice Ao90 t358.length co90)) (fun _ hk => hk.2) (.int .i64 t361)) (fun _ h_ => h_.1))) hb); have n2_ := X.A (Kd.R_below (by (with_reducible repeat (first | apply Kd.R_alloc | apply Kd.R_drewN | apply Kd.R_drew)); exact (Kd.R_mono (Kd.R_far (p := ⟨gb363, 1, none⟩) (Kd.R_far (p := ⟨gb363, 0, none⟩) (Kd.R_types HO343.out BK363.out (by decide)) (fun _ hk => hk.2) (.slice Ao90 t358.length co90)) (fun _ hk => hk.2) (.int .i64 t361)) (fun _ h_ => h_.1))) hb); have n3_ := X.A (Kd.R_below (by (with_reducible repeat (first | apply Kd.R_alloc | apply Kd.R_drewN | apply Kd.R_drew)); exact (Kd.R_mono (Kd.R_far (p := ⟨gb363, 1, none⟩) (Kd.R_far (p := ⟨gb363, 0, none⟩) (Kd.R_types HO349.out BK363.out (by decide)) (fun _ hk => hk.2) (.slice Ao90 t358.length co90)) (fun _ hk => hk.2) (.int .i64 t361)) (fun _ h_ => h_.1))) hb); have n4_ := X.A (Kd.S_below (by (with_reducible repeat (first | apply Kd.S_alloc | apply Kd.S_drewN | apply Kd.S_drew)); exact (Kd.S_mono (Kd.S_far (p := ⟨gb363, 1, none⟩) (Kd.S_far (p := ⟨gb363, 0, none⟩) (Kd.S_types HO354.out BK363.out (by decide)) (fun _ hk => hk.2) (.slice Ao90 t358.length co90)) (fun _ hk => hk.2) (.int .i64 t361)) (fun _ h_ => h_.1))) hb); have n5_ := X.A (Kd.R_below (by (with_reducible repeat (first | apply Kd.R_alloc | apply Kd.R_drewN | apply Kd.R_drew)); exact (Kd.R_mono (Kd.R_far (p := ⟨gb363, 1, none⟩) (Kd.R_far (p := ⟨gb363, 0, none⟩) (Kd.R_types HO360.out BK363.out (by decide)) (fun _ hk => hk.2) (.slice Ao90 t358.length co90)) (fun _ hk => hk.2) (.int .i64 t361)) (fun _ h_ => h_.1))) hb); have n6_ := X.A (blk_below (g := gb327) (o := .cells #[.int .i64 a0_0, .int .i64 a0_1, .int .i64 a0_2] 23 (0, 0)) (by (with_reducible repeat (first | refine blk_drewN ?_ _ | refine blk_drew ?_ | refine blk_alloc ?_ _)); refine blk_far ?_ NB327_363.out _; (with_reducible repeat (first | refine blk_drewN ?_ _ | refine blk_drew ?_ | refine blk_alloc ?_ _)); refine blk_far ?_ NB327_363.out _; (with_reducible repeat (first | refine blk_drewN ?_ _ | refine blk_drew ?_ | refine blk_alloc ?_ _)); exact BK327.out) hb); have n7_ := X.A (blk_below (g := gb328) (o := .cells #[.slice A1_0 l1_0.length c1_0, .int .i64 a1_1] 26 (0, 0)) (by (with_reducible repeat (first | refine blk_drewN ?_ _ | refine blk_drew ?_ | refine blk_alloc ?_ _)); refine blk_far ?_ NB328_363.out _; (with_reducible repeat (first | refine blk_drewN ?_ _ | refine blk_drew ?_ | refine blk_alloc ?_ _)); refine blk_far ?_ NB328_363.out _; (with_reducible repeat (first | refine blk_drewN ?_ _ | refine blk_drew ?_ | refine blk_alloc ?_ _)); exact BK328.out) hb); have n8_ := X.A (blk_below (g := gb346) (o := .cells #[.slice Ao70 t341.length co70, .int .i64 t344] 30 (0, 0)) (by (with_reducible repeat (first | refine blk_drewN ?_ _ | refine blk_drew ?_ | refine blk_alloc ?_ _)); refine blk_far ?_ NB346_363.out _; (with_reducible repeat (first | refine blk_drewN ?_ _ | refine blk_drew ?_ | refine blk_alloc ?_ _)); refine blk_far ?_ NB346_363.out _; (with_reducible repeat (first | refine blk_drewN ?_ _ | refine blk_drew ?_ | refine blk_alloc ?_ _)); exact BK346.out) hb); have n9_ := X.A (blk_below (g := gb351) (o := .cells #[.slice Ao77 t347.length co77, .int .i64 t350] 30 (0, 0)) (by (with_reducible repeat (first | refine blk_drewN ?_ _ | refine blk_drew ?_ | refine blk_alloc ?_ _)); refine blk_far ?_ NB351_363.out _; (with_reducible repeat (first | refine blk_drewN ?_ _ | refine blk_drew ?_ | refine blk_alloc ?_ _)); refine blk_far ?_ NB351_363.out _; (with_reducible repeat (first | refine blk_drewN ?_ _ | refine blk_drew ?_ | refine blk_alloc ?_ _)); exact BK351.out) hb); have n10_ := X.A (blk_below (g := gb363) (o := .cells #[.slice Ao90 t358.length co90, .int .i64 t361] 30 (0, 0)) (by (with_reducible repeat (first | refine blk_drewN ?_ _ | refine blk_drew ?_ | refine blk_alloc ?_ _)); refine blk_put (cs := #[.slice Ao90 t358.length co90, .int .i64 0]) ?_ 1 _ rfl; (with_reducible repeat (first | refine blk_drewN ?_ _ | refine blk_drew ?_ | refine blk_alloc ?_ _)); refine blk_put (cs := #[.slice none 0 0, .int .i64 0]) ?_ 0 _ rfl; (with_reducible repeat (first | refine blk_drewN ?_ _ | refine blk_drew ?_ | refine blk_alloc ?_ _)); exact BK363.out) hb); have n11_ := X.A (below_step X.G hb); clear HO336 HO340 HO343 HO349 HO354 HO360 BK327 BK328 BK346 BK351 BK363 HB; have HO336 := n0_; have HO340 := n1_; have HO343 := n2_; have HO349 := n3_; have HO354 := n4_; have HO360 := n5_; have BK327 := n6_; have BK328 := n7_; have BK346 := n8_; have BK351 := n9_; have BK363 := n10_; have HB := n11_; clear n0_ n1_ n2_ n3_ n4_ n5_ n6_ n7_ n8_ n9_ n10_ n11_; (try clear hb); (try clear hb2); (try clear hk); (try clear hi)))
         have n0_ := X.A (Kd.R_drew HO336.out)
         have n1_ := X.A (Kd.S_drew HO340.out)
         have n2_ := X.A (Kd.R_drew HO343.out)
         have n3_ := X.A (Kd.R_drew HO349.out)
         have n4_ := X.A (Kd.S_drew HO354.out)
         have n5_ := X.A (Kd.R_drew HO360.out)
         have n6_ := X.A (blk_drew BK327.out)
         have n7_ := X.A (blk_drew BK328.out)
         have n8_ := X.A (blk_drew BK346.out)
         have n9_ := X.A (blk_drew BK351.out)
         have n10_ := X.A (blk_drew BK363.out)
         have n11_ := X.A (below_drew1 HB.out)
         clear HO336 HO340 HO343 HO349 HO354 HO360 BK327 BK328 BK346 BK351 BK363 HB
         have HO336 := n0_
         have HO340 := n1_
         have HO343 := n2_
         have HO349 := n3_
         have HO354 := n4_
         have HO360 := n5_
         have BK327 := n6_
         have BK328 := n7_
         have BK346 := n8_
         have BK351 := n9_
         have BK363 := n10_
         have HB := n11_
         clear n0_ n1_ n2_ n3_ n4_ n5_ n6_ n7_ n8_ n9_ n10_ n11_
         refine start_ (n := 5) (S := fun w' => w'.cell? ⟨gb351, 0, none⟩ = some (.slice Ao77 t347.length co77) ∧ w'.cell? ⟨gb351, 1, none⟩ = some (.int .i64 t350) ∧ w'.cell? ⟨gb328, 0, none⟩ = some (.slice A1_0 l1_0.length c1_0) ∧ w'.cell? ⟨gb328, 1, none⟩ = some (.int .i64 a1_1)) (ds := []) #[false, false, false, false, false] (by kernel_rfl) rfl rfl ⟨(blk_cell BK351.out 0).trans rfl, (blk_cell BK351.out 1).trans rfl, (blk_cell BK328.out 0).trans rfl, (blk_cell BK328.out 1).trans rfl⟩ (fun hHeld => ?_)
         generalize w100.drew = w101 at HO336 HO340 HO343 HO349 HO354 HO360 BK327 BK328 BK346 BK351 BK363 HB hHeld ⊢
         refine take_ (i := 0) (N := some 60) (v := ?_) (a' := ?_) #[true, false, false, false, false] rfl rfl (by kernel_rfl) (fun _ _ _ h => h) (Or.inl ⟨by rfl, ?_⟩) hHeld ?_ ?_
         rotate_left
         ·rintro w' ⟨s0, s1, s2, s3⟩
          go_simp
          with_reducible rfl
         rotate_left
         ·exact X.Pu
         refine take_ (i := 1) (N := some 61) (v := ?_) (a' := ?_) #[true, true, false, false, false] rfl rfl (by kernel_rfl) (fun _ _ _ h => h) (Or.inl ⟨by rfl, ?_⟩) hHeld ?_ ?_
         rotate_left
         ·rintro w' ⟨s0, s1, s2, s3⟩
          go_simp
          with_reducible rfl
         rotate_left
         ·exact X.Pu
         refine one_ (i := 2) (N := some 62) #[true, true, true, false, false] rfl rfl (by kernel_rfl) (by decide) (fun K hK => ?_)
         refine goes_ Try.func8 (by kernel_rfl) rfl #[.agg #[.slice A1_0 l1_0.length c1_0, .int .i64 a1_1]] (by rfl) rfl rfl X.M ?_
         with_reducible refine (laws_toPlaces.calls k _ _ l1_0 a1_1 t365 t368 _ ?side1 ?side2 A30.out).mono ?_
         (case side1 => exact X.C (Kd.C_below HR1_0.out HB.out))
         (case side2 => exact HC1_0.out)
         rintro e w102 ⟨v366, rfl, ho0, hb⟩
         refine ⟨_, rfl, ?_⟩
         have n0_ := X.A (Kd.R_elder' (X.K HO336) (Kd.R_base ho0) hb)
         have n1_ := X.A (Kd.S_elder' (X.L HO340) (Kd.R_base ho0) hb)
         have n2_ := X.A (Kd.R_elder' (X.K HO343) (Kd.R_base ho0) hb)
         have n3_ := X.A (Kd.R_elder' (X.K HO349) (Kd.R_base ho0) hb)
         have n4_ := X.A (Kd.S_elder' (X.L HO354) (Kd.R_base ho0) hb)
         have n5_ := X.A (Kd.R_elder' (X.K HO360) (Kd.R_base ho0) hb)
         have n6_ := X.A (Kd.R_lower (Kd.R_new' (Kd.R_new' (Kd.R_new' (Kd.R_new' ho0 (Kd.R_lt (X.K HO336))) (Kd.R_lt (X.K HO343))) (Kd.R_lt (X.K HO349))) (Kd.R_lt (X.K HO360))) (below_size X.G))
         have n7_ := X.A (X.BB BK327 hb)
         have n8_ := X.A (X.BB BK328 hb)
         have n9_ := X.A (X.BB BK346 hb)
         have n10_ := X.A (X.BB BK351 hb)
         have n11_ := X.A (X.BB BK363 hb)
         have n12_ := X.A (below_step X.G hb)
         clear HO336 HO340 HO343 HO349 HO354 HO360 BK327 BK328 BK346 BK351 BK363 HB
         have HO336 := n0_
         have HO340 := n1_
         have HO343 := n2_
         have HO349 := n3_
         have HO354 := n4_
         have HO360 := n5_
         have HO367 := n6_
         have BK327 := n7_
         have BK328 := n8_
         have BK346 := n9_
         have BK351 := n10_
         have BK363 := n11_
         have HB := n12_
         clear n0_ n1_ n2_ n3_ n4_ n5_ n6_ n7_ n8_ n9_ n10_ n11_ n12_
         (try clear hb)
         (try clear hb2)
         (try clear hk)
         (try clear hi)
         (try clear ho0)
         obtain ⟨Ao103, co103, eo103⟩ := Kd.R_slice HO367.out
         (first | subst eo103 | (injection eo103 with f1_ f2_ f3_; have f4_ := f1_.symm; have f5_ := f3_.symm; clear f1_ f2_ f3_; subst f4_; subst f5_))
         refine hK.out _ _ ⟨(blk_cell BK351.out 0).trans rfl, (blk_cell BK351.out 1).trans rfl, (blk_cell BK328.out 0).trans rfl, (blk_cell BK328.out 1).trans rfl⟩ (fun hHeld => ?_)
         clear hK K
         refine norm_ (a' := ?_) ?_ ?_
         rotate_left
         ·exact (show Act.put _ (some 62) _ = _ from X.Pu)
         refine one_ (i := 3) (N := some 63) #[true, true, true, true, false] rfl rfl (by kernel_rfl) (by decide) (fun K hK => ?_)
         refine goes_ Try.func11 (by kernel_rfl) rfl #[.agg #[.slice Ao77 t347.length co77, .int .i64 t350], .agg #[.slice Ao103 t365.length co103, .int .i64 t368]] (by rfl) rfl rfl X.M ?_
         with_reducible refine (laws_eqPlaces.calls k _ _ t347 t350 _ _ t365 t368 true _ ?side1 ?side2 ?side3 ?side4 A31.out).mono ?_
         (case side1 => exact X.C (Kd.R_reads' HO349.out).2.2)
         (case side2 => exact (Kd.R_reads' HO349.out).2.1)
         (case side3 => exact X.C (Kd.R_reads' HO367.out).2.2)
         (case side4 => exact (Kd.R_reads' HO367.out).2.1)
         rintro e w104 ⟨rfl, hb⟩
         refine ⟨_, rfl, ?_⟩
         have n0_ := X.A (Kd.R_below (X.K HO336) hb)
         have n1_ := X.A (Kd.S_below (X.L HO340) hb)
         have n2_ := X.A (Kd.R_below (X.K HO343) hb)
         have n3_ := X.A (Kd.R_below (X.K HO349) hb)
         have n4_ := X.A (Kd.S_below (X.L HO354) hb)
         have n5_ := X.A (Kd.R_below (X.K HO360) hb)
         have n6_ := X.A (Kd.R_below (X.K HO367) hb)
         have n7_ := X.A (X.BB BK327 hb)
         have n8_ := X.A (X.BB BK328 hb)
         have n9_ := X.A (X.BB BK346 hb)
         have n10_ := X.A (X.BB BK351 hb)
         have n11_ := X.A (X.BB BK363 hb)
         have n12_ := X.A (below_step X.G hb)
         clear HO336 HO340 HO343 HO349 HO354 HO360 HO367 BK327 BK328 BK346 BK351 BK363 HB
         have HO336 := n0_
         have HO340 := n1_
         have HO343 := n2_
         have HO349 := n3_
         have HO354 := n4_
         have HO360 := n5_
         have HO367 := n6_
         have BK327 := n7_
         have BK328 := n8_
         have BK346 := n9_
         have BK351 := n10_
         have BK363 := n11_
         have HB := n12_
         clear n0_ n1_ n2_ n3_ n4_ n5_ n6_ n7_ n8_ n9_ n10_ n11_ n12_
         (try clear hb)
         (try clear hb2)
         (try clear hk)
         (try clear hi)
         refine hK.out _ _ ⟨(blk_cell BK351.out 0).trans rfl, (blk_cell BK351.out 1).trans rfl, (blk_cell BK328.out 0).trans rfl, (blk_cell BK328.out 1).trans rfl⟩ (fun hHeld => ?_)
         clear hK K
         refine norm_ (a' := ?_) ?_ ?_
         rotate_left
         ·exact (show Act.put _ (some 63) _ = _ from X.Pu)
         refine pure_ (i := 4) (N := some 64) (v := ?_) (a' := ?_) #[true, true, true, true, true] rfl rfl (by kernel_rfl) (fun _ _ _ h => h) (Or.inl ⟨by rfl, ?_⟩) ?_ ?_
         rotate_left
         ·intro w'
          go_simp
          with_reducible rfl
         rotate_left
         ·exact X.Pu
         refine done_ (by kernel_rfl) ?_
         expose_names
         revert k a0_0 a0_1 a0_2 A1_0 c1_0 l1_0 a1_1 A2 c2 l2 w hu23 hu26 hu30 HR1_0 HC1_0 HR2 HC2 t329 A4 c5b0 t330 A11 c12b0 t331 t332 t333 A19 t334 t337 A20 t338 A21 t341 t344 t345 A22 t347 t350 A23 t352 A24 t355 t356 t357 A25 t358 t361 t362 A26 A27 c29b0 c29b1 c29b2 t365 t368 A30 A31 t370 A33 A34 t374 t375 A36 t376 t377 A37 c38b0 A39 t379 t380 A41 t381 A42 c43b0 c44b0 c44b1 t382 t383 t384 A45 t385 t388 A46 t389 A47 t392 t395 t396 A48 A49 c51b0 c51b1 c51b2 t399 A52 c53b0 c54b0 c54b1 Q' gb327 w55 GW327 GE327 gb328 w56 GW328 GE328 NB327_328 NB328_327 hnb57 hnc57 hcz58_0 hcz58_1 hfz58_0 hfz58_1 w59 w60 H HT__1 HW__1 w61 hHeld_1 v335 v339 gb346 w69 hS__1 GW346 GE346 NB327_346 NB346_327 NB328_346 NB346_328 hHeld_2 Ao70 co70 hs71 hfs71 hns71_0 hns71_1 hms71_0 hms71_1 hs72 hfs72 hns72_0 hns72_1 hms72_0 hms72_1 hHeld_3 hnb73 hnc73 hcz74_0 hcz74_1 hfz74_0 hfz74_1 w75 gb351 w76 GW351 GE351 NB327_351 NB351_327 NB328_351 NB351_328 NB346_351 NB351_346 Ao77 co77 hnb78 hnc78 hnb79 hnc79 hnb80 hnc80 hcz81_0 hcz81_1 hfz81_0 hfz81_1 w82 nb83 hnb83 Ao84 co84 HT_ HW_ w85 hHeld_4 gb363 w89 hS_ GW363 GE363 NB327_363 NB363_327 NB328_363 NB363_328 NB346_363 NB363_346 NB351_363 NB363_351 hHeld_5 Ao90 co90 hs91 hfs91 hns91_0 hns91_1 hns91_2 hns91_3 hms91_0 hms91_1 hms91_2 hms91_3 hs92 hfs92 hns92_0 hns92_1 hns92_2 hns92_3 hms92_0 hms92_1 hms92_2 hms92_3 hHeld_6 hnb93 hnc93 hnb94 hnc94 hnb95 hnc95 hnb96 hnc96 hcz97_0 hcz97_1 hfz97_0 hfz97_1 hnb98 hnc98 hcz99_0 hcz99_1 hfz99_0 hfz99_1 w100 K h K_1 h_1 w101 hHeld_7 w102 Ao103 co103 hHeld_8 w104 HO336 HO340 HO343 HO349 HO354 HO360 HO367 BK327 BK328 BK346 BK351 BK363 HB hHeld
         exact hRest_.out

end Go.Proofs.Ytjllgibfcnkgpah.Q
