import Derived.Test.YtjllgibfcnkgpafXShort
import Derived.Test.YtjllgibfcnkgpafQx0
import Derived.Test.YtjllgibfcnkgpafQx1
import Derived.Test.YtjllgibfcnkgpafQx5
import Derived.Test.YtjllgibfcnkgpafQx17
-- by wip/xprint.py, a program of this session over the kit's print: not trusted, Lean checks it.
namespace Go.Proofs.Ytjllgibfcnkgpaf.Q
open Go.RowKit Go.Proofs.YtjllgibfcnkgpafW.PrintWords Go.Proofs.YtjllgibfcnkgpafW.PrintLast Go.Proofs.YtjllgibfcnkgpafW.PrintMore
attribute [local go_sem] max2_int min2_int max_two min_two max_three min_three max_four min_four   -- for this text's walks alone
set_option linter.unusedVariables false
set_option linter.unusedSimpArgs false

/-! ### laws_FnExactSail: function 3 -/
mutual
def laws_FnExactSail.j0 : Nat → Bool → Bool → Bool → Int → Int → Int → List Int → Int → Int → List Int → List Int → Int → List Int → Int → Int → List Int → List Int → Int → Option (Bool)
 | 0, _, _, _, _, _, _, _, _, _, _, _, _, _, _, _, _, _, _ => none
 | k + 1, x9, x13, x59, x290000, x290001, x290002, x291000, x291001, x292000, x292001, x311000, x311001, x316000, x316001, x321000, x321001, x330000, x330001 => if x59 = true then (some false) else ((laws_toPlaces.f k x291000 x291001).bind fun bt331 => ((laws_eqPlaces.f k x316000 x316001 bt331.1 bt331.2).bind fun t335 => (if t335 = true then ((laws_toVoyage.f k x292000 x292001).bind fun bt336 => ((laws_eqVoyage.f k x321000 x321001 bt336.1 bt336.2).bind fun t340 => (if t340 = true then ((laws_markPlaces.f k x316000 x316001 1).bind fun bt341 => ((laws_markVoyage.f k x321000 x321001 bt341.1).bind fun bt343 => (if bt343.1 < 0 then (laws_FnExactSail.j1 k x9 true x290000 x290001 x290002 x291000 x291001 x292000 x292001 x311000 x311001 x330000 x330001) else ((laws_eqPlaces.f k x330000 x330001 x311000 x311001).bind fun t345 => (if t345 = true then (laws_FnExactSail.j1 k x9 (x13 != x9) x290000 x290001 x290002 x291000 x291001 x292000 x292001 x311000 x311001 x330000 x330001) else (laws_FnExactSail.j1 k x9 true x290000 x290001 x290002 x291000 x291001 x292000 x292001 x311000 x311001 x330000 x330001)))))) else (some false)))) else (some false))))
def laws_FnExactSail.j1 : Nat → Bool → Bool → Int → Int → Int → List Int → Int → Int → List Int → List Int → Int → List Int → Int → Option (Bool)
 | 0, _, _, _, _, _, _, _, _, _, _, _, _, _ => none
 | k + 1, x9, x88, x290000, x290001, x290002, x291000, x291001, x292000, x292001, x311000, x311001, x330000, x330001 => if x88 = true then (some false) else ((laws_markPlaces.f k x330000 x330001 1).bind fun bt346 => ((laws_heldPlaces.f k bt346.2 x330001 1).bind fun t348 => (if t348 < 0 then (some false) else (if t348 = bt346.1 then ((laws_toIsles.f x290000 x290001 x290002).bind fun bt349 => ((laws_toPlaces.f k x291000 x291001).bind fun bt352 => ((laws_toVoyage.f k x292000 x292001).bind fun bt356 => ((impl_Sail.f k bt349.1 bt349.2.1 bt349.2.2 bt352.1 bt352.2 bt356.1 bt356.2).bind fun bt360 => ((laws_eqPlaces.f k bt360.1 bt360.2.1 x311000 x311001).bind fun t366 => (if t366 = true then (laws_FnExactSail.j2 k bt346.1 (bt360.2.2 != x9) bt346.2 x330001) else (laws_FnExactSail.j2 k bt346.1 true bt346.2 x330001))))))) else (some false)))))
def laws_FnExactSail.j2 : Nat → Int → Bool → List Int → Int → Option (Bool)
 | 0, _, _, _, _ => none
 | k + 1, x15, x118, x330000, x330001 => if x118 = true then (some false) else ((laws_heldPlaces.f k x330000 x330001 1).bind fun t367 => (if t367 < 0 then (some false) else (if t367 = x15 then (some true) else (some false))))
end
def laws_FnExactSail.f (k : Nat) (a0_0 : Int) (a0_1 : Int) (a0_2 : Int) (l1_0 : List Int) (a1_1 : Int) (a2_0 : Int) (l2_1 : List Int) : Option (Bool) := (laws_szPlaces.f l1_0 a1_1 1048576).bind fun t292 => (if t292 < 0 then (some true) else ((laws_szVoyage.f a2_0 l2_1 t292).bind fun t293 => (if t293 < 0 then (some true) else ((laws_toIsles.f a0_0 a0_1 a0_2).bind fun bt294 => ((laws_toPlaces.f k l1_0 a1_1).bind fun bt297 => ((laws_toVoyage.f k a2_0 l2_1).bind fun bt301 => ((spec_Sail.f k bt294.1 bt294.2.1 bt294.2.2 bt297.1 bt297.2 bt301.1 bt301.2).bind fun bt305 => ((laws_toPlaces.f k l1_0 a1_1).bind fun bt311 => ((laws_toVoyage.f k a2_0 l2_1).bind fun bt316 => ((laws_toIsles.f a0_0 a0_1 a0_2).bind fun bt321 => ((impl_Sail.f k bt321.1 bt321.2.1 bt321.2.2 bt311.1 bt311.2 bt316.1 bt316.2).bind fun bt324 => ((laws_eqPlaces.f k bt324.1 bt324.2.1 bt305.1 bt305.2.1).bind fun t330 => (if t330 = true then (laws_FnExactSail.j0 k bt305.2.2 bt324.2.2 (bt324.2.2 != bt305.2.2) a0_0 a0_1 a0_2 l1_0 a1_1 a2_0 l2_1 bt305.1 bt305.2.1 bt311.1 bt311.2 bt316.1 bt316.2 bt324.1 bt324.2.1) else (laws_FnExactSail.j0 k bt305.2.2 bt324.2.2 true a0_0 a0_1 a0_2 l1_0 a1_1 a2_0 l2_1 bt305.1 bt305.2.1 bt311.1 bt311.2 bt316.1 bt316.2 bt324.1 bt324.2.1))))))))))))))
theorem laws_FnExactSail.mono_l : ∀ k, (∀ y0 y1 y2 y3 y4 y5 y6 y7 y8 y9 y10 y11 y12 y13 y14 y15 y16 y17, LeO (laws_FnExactSail.j0 k y0 y1 y2 y3 y4 y5 y6 y7 y8 y9 y10 y11 y12 y13 y14 y15 y16 y17) (laws_FnExactSail.j0 (k + 1) y0 y1 y2 y3 y4 y5 y6 y7 y8 y9 y10 y11 y12 y13 y14 y15 y16 y17)) ∧ (∀ y0 y1 y2 y3 y4 y5 y6 y7 y8 y9 y10 y11 y12, LeO (laws_FnExactSail.j1 k y0 y1 y2 y3 y4 y5 y6 y7 y8 y9 y10 y11 y12) (laws_FnExactSail.j1 (k + 1) y0 y1 y2 y3 y4 y5 y6 y7 y8 y9 y10 y11 y12)) ∧ (∀ y0 y1 y2 y3, LeO (laws_FnExactSail.j2 k y0 y1 y2 y3) (laws_FnExactSail.j2 (k + 1) y0 y1 y2 y3))
 | 0 => ⟨fun _ _ _ _ _ _ _ _ _ _ _ _ _ _ _ _ _ _ r h => by simp [laws_FnExactSail.j0] at h, fun _ _ _ _ _ _ _ _ _ _ _ _ _ r h => by simp [laws_FnExactSail.j1] at h, fun _ _ _ _ r h => by simp [laws_FnExactSail.j2] at h⟩
 | k + 1 => by
  obtain ⟨ih0, ih1, ih2⟩ := laws_FnExactSail.mono_l k
  refine ⟨?_, ?_, ?_⟩
  ·intro y0 y1 y2 y3 y4 y5 y6 y7 y8 y9 y10 y11 y12 y13 y14 y15 y16 y17
   unfold laws_FnExactSail.j0
   repeat' first
   | (with_reducible exact ih0 _ _ _ _ _ _ _ _ _ _ _ _ _ _ _ _ _ _)
   | (with_reducible exact ih1 _ _ _ _ _ _ _ _ _ _ _ _ _)
   | (with_reducible exact ih2 _ _ _ _)
   | (with_reducible exact impl_Sail.mono _ _ _ _ _ _ _ _)
   | (with_reducible exact laws_eqPlaces.mono _ _ _ _ _)
   | (with_reducible exact laws_eqVoyage.mono _ _ _ _ _)
   | (with_reducible exact laws_heldPlaces.mono _ _ _ _)
   | (with_reducible exact laws_markPlaces.mono _ _ _ _)
   | (with_reducible exact laws_markVoyage.mono _ _ _ _)
   | (with_reducible exact laws_toPlaces.mono _ _ _)
   | (with_reducible exact laws_toVoyage.mono _ _ _)
   | (with_reducible exact spec_Sail.mono _ _ _ _ _ _ _ _)
   | (with_reducible exact LeO.refl _)
   | (with_reducible exact LeO.none _)
   | (with_reducible refine LeO.ite ?_ ?_)
   | (with_reducible refine LeO.bind ?_ (fun _ => ?_))
   | exact ih0 _ _ _ _ _ _ _ _ _ _ _ _ _ _ _ _ _ _
   | exact ih1 _ _ _ _ _ _ _ _ _ _ _ _ _
   | exact ih2 _ _ _ _
   | exact impl_Sail.mono _ _ _ _ _ _ _ _
   | exact laws_eqPlaces.mono _ _ _ _ _
   | exact laws_eqVoyage.mono _ _ _ _ _
   | exact laws_heldPlaces.mono _ _ _ _
   | exact laws_markPlaces.mono _ _ _ _
   | exact laws_markVoyage.mono _ _ _ _
   | exact laws_toPlaces.mono _ _ _
   | exact laws_toVoyage.mono _ _ _
   | exact spec_Sail.mono _ _ _ _ _ _ _ _
   | exact LeO.none _
   | refine LeO.ite ?_ ?_
   | refine LeO.bind ?_ (fun _ => ?_)
  ·intro y0 y1 y2 y3 y4 y5 y6 y7 y8 y9 y10 y11 y12
   unfold laws_FnExactSail.j1
   repeat' first
   | (with_reducible exact ih0 _ _ _ _ _ _ _ _ _ _ _ _ _ _ _ _ _ _)
   | (with_reducible exact ih1 _ _ _ _ _ _ _ _ _ _ _ _ _)
   | (with_reducible exact ih2 _ _ _ _)
   | (with_reducible exact impl_Sail.mono _ _ _ _ _ _ _ _)
   | (with_reducible exact laws_eqPlaces.mono _ _ _ _ _)
   | (with_reducible exact laws_eqVoyage.mono _ _ _ _ _)
   | (with_reducible exact laws_heldPlaces.mono _ _ _ _)
   | (with_reducible exact laws_markPlaces.mono _ _ _ _)
   | (with_reducible exact laws_markVoyage.mono _ _ _ _)
   | (with_reducible exact laws_toPlaces.mono _ _ _)
   | (with_reducible exact laws_toVoyage.mono _ _ _)
   | (with_reducible exact spec_Sail.mono _ _ _ _ _ _ _ _)
   | (with_reducible exact LeO.refl _)
   | (with_reducible exact LeO.none _)
   | (with_reducible refine LeO.ite ?_ ?_)
   | (with_reducible refine LeO.bind ?_ (fun _ => ?_))
   | exact ih0 _ _ _ _ _ _ _ _ _ _ _ _ _ _ _ _ _ _
   | exact ih1 _ _ _ _ _ _ _ _ _ _ _ _ _
   | exact ih2 _ _ _ _
   | exact impl_Sail.mono _ _ _ _ _ _ _ _
   | exact laws_eqPlaces.mono _ _ _ _ _
   | exact laws_eqVoyage.mono _ _ _ _ _
   | exact laws_heldPlaces.mono _ _ _ _
   | exact laws_markPlaces.mono _ _ _ _
   | exact laws_markVoyage.mono _ _ _ _
   | exact laws_toPlaces.mono _ _ _
   | exact laws_toVoyage.mono _ _ _
   | exact spec_Sail.mono _ _ _ _ _ _ _ _
   | exact LeO.none _
   | refine LeO.ite ?_ ?_
   | refine LeO.bind ?_ (fun _ => ?_)
  ·intro y0 y1 y2 y3
   unfold laws_FnExactSail.j2
   repeat' first
   | (with_reducible exact ih0 _ _ _ _ _ _ _ _ _ _ _ _ _ _ _ _ _ _)
   | (with_reducible exact ih1 _ _ _ _ _ _ _ _ _ _ _ _ _)
   | (with_reducible exact ih2 _ _ _ _)
   | (with_reducible exact impl_Sail.mono _ _ _ _ _ _ _ _)
   | (with_reducible exact laws_eqPlaces.mono _ _ _ _ _)
   | (with_reducible exact laws_eqVoyage.mono _ _ _ _ _)
   | (with_reducible exact laws_heldPlaces.mono _ _ _ _)
   | (with_reducible exact laws_markPlaces.mono _ _ _ _)
   | (with_reducible exact laws_markVoyage.mono _ _ _ _)
   | (with_reducible exact laws_toPlaces.mono _ _ _)
   | (with_reducible exact laws_toVoyage.mono _ _ _)
   | (with_reducible exact spec_Sail.mono _ _ _ _ _ _ _ _)
   | (with_reducible exact LeO.refl _)
   | (with_reducible exact LeO.none _)
   | (with_reducible refine LeO.ite ?_ ?_)
   | (with_reducible refine LeO.bind ?_ (fun _ => ?_))
   | exact ih0 _ _ _ _ _ _ _ _ _ _ _ _ _ _ _ _ _ _
   | exact ih1 _ _ _ _ _ _ _ _ _ _ _ _ _
   | exact ih2 _ _ _ _
   | exact impl_Sail.mono _ _ _ _ _ _ _ _
   | exact laws_eqPlaces.mono _ _ _ _ _
   | exact laws_eqVoyage.mono _ _ _ _ _
   | exact laws_heldPlaces.mono _ _ _ _
   | exact laws_markPlaces.mono _ _ _ _
   | exact laws_markVoyage.mono _ _ _ _
   | exact laws_toPlaces.mono _ _ _
   | exact laws_toVoyage.mono _ _ _
   | exact spec_Sail.mono _ _ _ _ _ _ _ _
   | exact LeO.none _
   | refine LeO.ite ?_ ?_
   | refine LeO.bind ?_ (fun _ => ?_)
theorem laws_FnExactSail.mono : ∀ a0 a1 a2 a3 a4 a5 a6 k, LeO (laws_FnExactSail.f k a0 a1 a2 a3 a4 a5 a6) (laws_FnExactSail.f (k + 1) a0 a1 a2 a3 a4 a5 a6) := by
 intro a0 a1 a2 a3 a4 a5 a6 k
 obtain ⟨ih0, ih1, ih2⟩ := laws_FnExactSail.mono_l k
 unfold laws_FnExactSail.f
 repeat' first
   | (with_reducible exact ih0 _ _ _ _ _ _ _ _ _ _ _ _ _ _ _ _ _ _)
   | (with_reducible exact ih1 _ _ _ _ _ _ _ _ _ _ _ _ _)
   | (with_reducible exact ih2 _ _ _ _)
   | (with_reducible exact impl_Sail.mono _ _ _ _ _ _ _ _)
   | (with_reducible exact laws_eqPlaces.mono _ _ _ _ _)
   | (with_reducible exact laws_eqVoyage.mono _ _ _ _ _)
   | (with_reducible exact laws_heldPlaces.mono _ _ _ _)
   | (with_reducible exact laws_markPlaces.mono _ _ _ _)
   | (with_reducible exact laws_markVoyage.mono _ _ _ _)
   | (with_reducible exact laws_toPlaces.mono _ _ _)
   | (with_reducible exact laws_toVoyage.mono _ _ _)
   | (with_reducible exact spec_Sail.mono _ _ _ _ _ _ _ _)
   | (with_reducible exact LeO.refl _)
   | (with_reducible exact LeO.none _)
   | (with_reducible refine LeO.ite ?_ ?_)
   | (with_reducible refine LeO.bind ?_ (fun _ => ?_))
   | exact ih0 _ _ _ _ _ _ _ _ _ _ _ _ _ _ _ _ _ _
   | exact ih1 _ _ _ _ _ _ _ _ _ _ _ _ _
   | exact ih2 _ _ _ _
   | exact impl_Sail.mono _ _ _ _ _ _ _ _
   | exact laws_eqPlaces.mono _ _ _ _ _
   | exact laws_eqVoyage.mono _ _ _ _ _
   | exact laws_heldPlaces.mono _ _ _ _
   | exact laws_markPlaces.mono _ _ _ _
   | exact laws_markVoyage.mono _ _ _ _
   | exact laws_toPlaces.mono _ _ _
   | exact laws_toVoyage.mono _ _ _
   | exact spec_Sail.mono _ _ _ _ _ _ _ _
   | exact LeO.none _
   | refine LeO.ite ?_ ?_
   | refine LeO.bind ?_ (fun _ => ?_)
def laws_FnExactSail.T8 : Bool × List (List Nat × List Nat) := (true, [([], []), ([0], [0]), ([], []), ([2, 1], [2]), ([], []), ([4, 3], [4]), ([1, 3, 5, 5], [1, 3, 5]), ([6], [6]), ([7], [7]), ([7], [7]), ([], []), ([10, 8, 6, 0, 1, 2, 3, 4, 5, 6, 7, 8, 10], [8, 10]), ([9, 11, 0, 1, 2, 3, 4, 5, 6, 7, 8, 9, 10, 11], [9])])
def laws_FnExactSail.B8 : List Nat := [0, 1, 0, 7, 0, 31, 63, 127, 255, 255, 0, 1535, 4095]
theorem laws_FnExactSail.tab8 : rtab .any (opsOf Try.f3 8) = laws_FnExactSail.T8 := by kernel_rfl
theorem laws_FnExactSail.bits8 : waitsOk laws_FnExactSail.T8.2 laws_FnExactSail.B8 = true := by kernel_rfl
def laws_FnExactSail.T11 : Bool × List (List Nat × List Nat) := (true, [([], []), ([0], [0]), ([], []), ([], []), ([1, 2, 3, 1], [1, 2, 3]), ([4], [4]), ([5], [5]), ([5], [5]), ([], []), ([8, 6, 4, 0, 1, 2, 3, 4, 5, 6, 8], [6, 8]), ([7, 9, 0, 1, 2, 3, 4, 5, 6, 7, 8, 9], [7])])
def laws_FnExactSail.B11 : List Nat := [0, 1, 0, 0, 15, 31, 63, 63, 0, 383, 1023]
theorem laws_FnExactSail.tab11 : rtab .any (opsOf Try.f3 11) = laws_FnExactSail.T11 := by kernel_rfl
theorem laws_FnExactSail.bits11 : waitsOk laws_FnExactSail.T11.2 laws_FnExactSail.B11 = true := by kernel_rfl
def laws_FnExactSail.T31 : Bool × List (List Nat × List Nat) := (true, [([], []), ([0], [0]), ([], []), ([2, 1], [2]), ([], []), ([4, 3], [4]), ([1, 3, 5, 5], [1, 3, 5]), ([6], [6]), ([7], [7]), ([7], [7]), ([], []), ([10, 8, 6, 0, 1, 2, 3, 4, 5, 6, 7, 8, 10], [8, 10]), ([9, 11, 0, 1, 2, 3, 4, 5, 6, 7, 8, 9, 10, 11], [9])])
def laws_FnExactSail.B31 : List Nat := [0, 1, 0, 7, 0, 31, 63, 127, 255, 255, 0, 1535, 4095]
theorem laws_FnExactSail.tab31 : rtab .any (opsOf Try.f3 31) = laws_FnExactSail.T31 := by kernel_rfl
theorem laws_FnExactSail.bits31 : waitsOk laws_FnExactSail.T31.2 laws_FnExactSail.B31 = true := by kernel_rfl
set_option maxHeartbeats 8000000 in
set_option maxRecDepth 100000 in
noncomputable def laws_FnExactSail.callsA : X.Rest (∀ (k : Nat) (a0_0 : Int) (a0_1 : Int) (a0_2 : Int) (A1_0 : Option Addr) (c1_0 : Nat) (l1_0 : List Int) (a1_1 : Int) (a2_0 : Int) (A2_1 : Option Addr) (c2_1 : Nat) (l2_1 : List Int) (r : Bool) (w : World) (hr1_0 : Kd.C (Kd.int .i64) w A1_0 l1_0.length l1_0) (hc1_0 : l1_0.length ≤ c1_0) (hr2_1 : Kd.C (Kd.int .i64) w A2_1 l2_1.length l2_1) (hc2_1 : l2_1.length ≤ c2_1) (h : laws_FnExactSail.f k a0_0 a0_1 a0_2 l1_0 a1_1 a2_0 l2_1 = some r), Calls Try.prog 3 #[.agg #[.int .i64 a0_0, .int .i64 a0_1, .int .i64 a0_2], .agg #[.slice A1_0 l1_0.length c1_0, .int .i64 a1_1], .agg #[.int .i64 a2_0, .slice A2_1 l2_1.length c2_1]] w fun e w' => e = .returned (.bool r) ∧ Below w.heap.size w w') := by
  apply X.Rest.mk
  intro hRest_
  intro k a0_0 a0_1 a0_2 A1_0 c1_0 l1_0 a1_1 a2_0 A2_1 c2_1 l2_1 r w hr1_0 hc1_0 hr2_1 hc2_1 h
  have hu23 := Try.underlying23
  have hu26 := Try.underlying26
  have hu28 := Try.underlying28
  have hu31 := Try.underlying31
  have hu37 := Try.underlying37
  have HR1_0 := Aside0.mk hr1_0
  have HC1_0 := Aside0.mk hc1_0
  clear hr1_0 hc1_0
  have HR2_1 := Aside0.mk hr2_1
  have HC2_1 := Aside0.mk hc2_1
  clear hr2_1 hc2_1
  have HB := Aside0.mk (Below.refl w.heap.size w)
  have H : ((laws_szPlaces.f l1_0 a1_1 1048576).bind fun t292 => (if t292 < 0 then (some true) else ((laws_szVoyage.f a2_0 l2_1 t292).bind fun t293 => (if t293 < 0 then (some true) else ((laws_toIsles.f a0_0 a0_1 a0_2).bind fun bt294 => ((laws_toPlaces.f k l1_0 a1_1).bind fun bt297 => ((laws_toVoyage.f k a2_0 l2_1).bind fun bt301 => ((spec_Sail.f k bt294.1 bt294.2.1 bt294.2.2 bt297.1 bt297.2 bt301.1 bt301.2).bind fun bt305 => ((laws_toPlaces.f k l1_0 a1_1).bind fun bt311 => ((laws_toVoyage.f k a2_0 l2_1).bind fun bt316 => ((laws_toIsles.f a0_0 a0_1 a0_2).bind fun bt321 => ((impl_Sail.f k bt321.1 bt321.2.1 bt321.2.2 bt311.1 bt311.2 bt316.1 bt316.2).bind fun bt324 => ((laws_eqPlaces.f k bt324.1 bt324.2.1 bt305.1 bt305.2.1).bind fun t330 => (if t330 = true then (laws_FnExactSail.j0 k bt305.2.2 bt324.2.2 (bt324.2.2 != bt305.2.2) a0_0 a0_1 a0_2 l1_0 a1_1 a2_0 l2_1 bt305.1 bt305.2.1 bt311.1 bt311.2 bt316.1 bt316.2 bt324.1 bt324.2.1) else (laws_FnExactSail.j0 k bt305.2.2 bt324.2.2 true a0_0 a0_1 a0_2 l1_0 a1_1 a2_0 l2_1 bt305.1 bt305.2.1 bt311.1 bt311.2 bt316.1 bt316.2 bt324.1 bt324.2.1))))))))))))))) = some r := h
  clear h
  replace H := Option.bind_eq_some_iff.mp H
  obtain ⟨t292, A40, H⟩ := H
  replace H : (if t292 < 0 then (some true) else ((laws_szVoyage.f a2_0 l2_1 t292).bind fun t293 => (if t293 < 0 then (some true) else ((laws_toIsles.f a0_0 a0_1 a0_2).bind fun bt294 => ((laws_toPlaces.f k l1_0 a1_1).bind fun bt297 => ((laws_toVoyage.f k a2_0 l2_1).bind fun bt301 => ((spec_Sail.f k bt294.1 bt294.2.1 bt294.2.2 bt297.1 bt297.2 bt301.1 bt301.2).bind fun bt305 => ((laws_toPlaces.f k l1_0 a1_1).bind fun bt311 => ((laws_toVoyage.f k a2_0 l2_1).bind fun bt316 => ((laws_toIsles.f a0_0 a0_1 a0_2).bind fun bt321 => ((impl_Sail.f k bt321.1 bt321.2.1 bt321.2.2 bt311.1 bt311.2 bt316.1 bt316.2).bind fun bt324 => ((laws_eqPlaces.f k bt324.1 bt324.2.1 bt305.1 bt305.2.1).bind fun t330 => (if t330 = true then (laws_FnExactSail.j0 k bt305.2.2 bt324.2.2 (bt324.2.2 != bt305.2.2) a0_0 a0_1 a0_2 l1_0 a1_1 a2_0 l2_1 bt305.1 bt305.2.1 bt311.1 bt311.2 bt316.1 bt316.2 bt324.1 bt324.2.1) else (laws_FnExactSail.j0 k bt305.2.2 bt324.2.2 true a0_0 a0_1 a0_2 l1_0 a1_1 a2_0 l2_1 bt305.1 bt305.2.1 bt311.1 bt311.2 bt316.1 bt316.2 bt324.1 bt324.2.1)))))))))))))) = some r := H
  have A4 := Aside0.mk A40
  clear A40
  by_cases c5 : t292 < 0
  ·rw [if_pos c5] at H
   have c5b0 : decide (t292 < 0) = true := decide_eq_true c5
   clear c5
   obtain rfl := Option.some.inj H
   go_enter Try.func3, Try.ntmps3
   go_wp2_with (first | ((with_reducible refine gate_dst (N := 3) rfl ?_); refine box_event ?hg (N := 3) ?hd (cs := #[.int .i64 a0_0, .int .i64 a0_1, .int .i64 a0_2]) (t := 23) ?hr ?_; (case hd => rfl); (case hg => rfl); (case hr => exact X.R); intro gb289 hg w6 hbox hb; have n0_ := Aside0.mk (below_step X.G hb); have n1_ := Aside0.mk (hbox); have n2_ := Aside0.mk ((by rw [hg]; exact (below_size X.G) : w.heap.size ≤ gb289)); have n3_ := Aside0.mk ((by rw [hg]; exact (below_size X.G) : w.heap.size ≤ gb289)); clear HB; have HB := n0_; have BK289 := n1_; have GW289 := n2_; have GE289 := n3_; clear n0_ n1_ n2_ n3_; clear hb hbox hg) | ((with_reducible refine gate_dst (N := 4) rfl ?_); refine box_event ?hg (N := 4) ?hd (cs := #[.slice A1_0 l1_0.length c1_0, .int .i64 a1_1]) (t := 26) ?hr ?_; (case hd => rfl); (case hg => rfl); (case hr => exact X.R); intro gb290 hg w7 hbox hb; have n0_ := Aside0.mk (X.BB BK289 hb); have n1_ := Aside0.mk (below_step X.G hb); have n2_ := Aside0.mk (hbox); have n3_ := Aside0.mk ((by rw [hg]; exact (below_size X.G) : w.heap.size ≤ gb290)); have n4_ := Aside0.mk ((by rw [hg]; exact (below_size X.G) : w.heap.size ≤ gb290)); have n5_ := Aside0.mk ((by rw [hg]; exact Nat.ne_of_lt (X.BL BK289) : gb289 ≠ gb290)); have n6_ := Aside0.mk ((by rw [hg]; exact Nat.ne_of_gt (X.BL BK289) : gb290 ≠ gb289)); clear BK289; clear HB; have BK289 := n0_; have HB := n1_; have BK290 := n2_; have GW290 := n3_; have GE290 := n4_; have NB289_290 := n5_; have NB290_289 := n6_; clear n0_ n1_ n2_ n3_ n4_ n5_ n6_; clear hb hbox hg) | ((with_reducible refine gate_dst (N := 5) rfl ?_); refine box_event ?hg (N := 5) ?hd (cs := #[.int .i64 a2_0, .slice A2_1 l2_1.length c2_1]) (t := 28) ?hr ?_; (case hd => rfl); (case hg => rfl); (case hr => exact X.R); intro gb291 hg w8 hbox hb; have n0_ := Aside0.mk (X.BB BK289 hb); have n1_ := Aside0.mk (X.BB BK290 hb); have n2_ := Aside0.mk (below_step X.G hb); have n3_ := Aside0.mk (hbox); have n4_ := Aside0.mk ((by rw [hg]; exact (below_size X.G) : w.heap.size ≤ gb291)); have n5_ := Aside0.mk ((by rw [hg]; exact (below_size X.G) : w.heap.size ≤ gb291)); have n6_ := Aside0.mk ((by rw [hg]; exact Nat.ne_of_lt (X.BL BK289) : gb289 ≠ gb291)); have n7_ := Aside0.mk ((by rw [hg]; exact Nat.ne_of_gt (X.BL BK289) : gb291 ≠ gb289)); have n8_ := Aside0.mk ((by rw [hg]; exact Nat.ne_of_lt (X.BL BK290) : gb290 ≠ gb291)); have n9_ := Aside0.mk ((by rw [hg]; exact Nat.ne_of_gt (X.BL BK290) : gb291 ≠ gb290)); clear BK289; clear BK290; clear HB; have BK289 := n0_; have BK290 := n1_; have HB := n2_; have BK291 := n3_; have GW291 := n4_; have GE291 := n5_; have NB289_291 := n6_; have NB291_289 := n7_; have NB290_291 := n8_; have NB291_290 := n9_; clear n0_ n1_ n2_ n3_ n4_ n5_ n6_ n7_ n8_ n9_; clear hb hbox hg; have hnb9 := NB290_289.out; have hnc9 := NB289_290.out; have hnb10 := NB290_291.out; have hnc10 := NB291_290.out; have hcz11_0 : w8.cell? ⟨gb290, 0, none⟩ = some (.slice A1_0 l1_0.length c1_0) := (blk_cell BK290.out 0).trans rfl; have hcz11_1 : w8.cell? ⟨gb290, 1, none⟩ = some (.int .i64 a1_1) := (blk_cell BK290.out 1).trans rfl; have hfz11_0 := blk_frozen BK290.out 0; have hfz11_1 := blk_frozen BK290.out 1) | ((with_reducible refine gate_callee (f := 4) rfl ?_); refine goesL_ (some 21) rfl rfl Try.func4 (by kernel_rfl) rfl #[.agg #[.slice A1_0 l1_0.length c1_0, .int .i64 a1_1], .int .i64 1048576] rfl X.M ?_; (with_reducible refine (laws_szPlaces.calls _ _ l1_0 a1_1 1048576 t292 _ ?side1 ?side2 A4.out).mono ?_); (case side1 => exact X.C (Kd.C_below HR1_0.out HB.out)); (case side2 => exact HC1_0.out); rintro e w12 ⟨rfl, hb⟩; refine ⟨_, rfl, ?_⟩; have n0_ := Aside0.mk (X.BB BK289 hb); have n1_ := Aside0.mk (X.BB BK290 hb); have n2_ := Aside0.mk (X.BB BK291 hb); have n3_ := Aside0.mk (below_step X.G hb); clear BK289; clear BK290; clear BK291; clear HB; have BK289 := n0_; have BK290 := n1_; have BK291 := n2_; have HB := n3_; clear n0_ n1_ n2_ n3_; (try clear hb); (try clear hb2); (try clear hk); (try clear hi)))
   go_ret
   exact ⟨by first | rfl | (simp [errW_none, errW_some] <;> rfl) | (simp [*, errW_none, errW_some] <;> rfl), X.G⟩
  ·rw [if_neg c5] at H
   have c5b0 : decide (t292 < 0) = false := decide_eq_false c5
   clear c5
   replace H := Option.bind_eq_some_iff.mp H
   obtain ⟨t293, A130, H⟩ := H
   replace H : (if t293 < 0 then (some true) else ((laws_toIsles.f a0_0 a0_1 a0_2).bind fun bt294 => ((laws_toPlaces.f k l1_0 a1_1).bind fun bt297 => ((laws_toVoyage.f k a2_0 l2_1).bind fun bt301 => ((spec_Sail.f k bt294.1 bt294.2.1 bt294.2.2 bt297.1 bt297.2 bt301.1 bt301.2).bind fun bt305 => ((laws_toPlaces.f k l1_0 a1_1).bind fun bt311 => ((laws_toVoyage.f k a2_0 l2_1).bind fun bt316 => ((laws_toIsles.f a0_0 a0_1 a0_2).bind fun bt321 => ((impl_Sail.f k bt321.1 bt321.2.1 bt321.2.2 bt311.1 bt311.2 bt316.1 bt316.2).bind fun bt324 => ((laws_eqPlaces.f k bt324.1 bt324.2.1 bt305.1 bt305.2.1).bind fun t330 => (if t330 = true then (laws_FnExactSail.j0 k bt305.2.2 bt324.2.2 (bt324.2.2 != bt305.2.2) a0_0 a0_1 a0_2 l1_0 a1_1 a2_0 l2_1 bt305.1 bt305.2.1 bt311.1 bt311.2 bt316.1 bt316.2 bt324.1 bt324.2.1) else (laws_FnExactSail.j0 k bt305.2.2 bt324.2.2 true a0_0 a0_1 a0_2 l1_0 a1_1 a2_0 l2_1 bt305.1 bt305.2.1 bt311.1 bt311.2 bt316.1 bt316.2 bt324.1 bt324.2.1)))))))))))) = some r := H
   have A13 := Aside0.mk A130
   clear A130
   by_cases c14 : t293 < 0
   ·rw [if_pos c14] at H
    have c14b0 : decide (t293 < 0) = true := decide_eq_true c14
    clear c14
    obtain rfl := Option.some.inj H
    go_enter Try.func3, Try.ntmps3
    go_wp2_with (first | ((with_reducible refine gate_dst (N := 3) rfl ?_); refine box_event ?hg (N := 3) ?hd (cs := #[.int .i64 a0_0, .int .i64 a0_1, .int .i64 a0_2]) (t := 23) ?hr ?_; (case hd => rfl); (case hg => rfl); (case hr => exact X.R); intro gb289 hg w15 hbox hb; have n0_ := Aside0.mk (below_step X.G hb); have n1_ := Aside0.mk (hbox); have n2_ := Aside0.mk ((by rw [hg]; exact (below_size X.G) : w.heap.size ≤ gb289)); have n3_ := Aside0.mk ((by rw [hg]; exact (below_size X.G) : w.heap.size ≤ gb289)); clear HB; have HB := n0_; have BK289 := n1_; have GW289 := n2_; have GE289 := n3_; clear n0_ n1_ n2_ n3_; clear hb hbox hg) | ((with_reducible refine gate_dst (N := 4) rfl ?_); refine box_event ?hg (N := 4) ?hd (cs := #[.slice A1_0 l1_0.length c1_0, .int .i64 a1_1]) (t := 26) ?hr ?_; (case hd => rfl); (case hg => rfl); (case hr => exact X.R); intro gb290 hg w16 hbox hb; have n0_ := Aside0.mk (X.BB BK289 hb); have n1_ := Aside0.mk (below_step X.G hb); have n2_ := Aside0.mk (hbox); have n3_ := Aside0.mk ((by rw [hg]; exact (below_size X.G) : w.heap.size ≤ gb290)); have n4_ := Aside0.mk ((by rw [hg]; exact (below_size X.G) : w.heap.size ≤ gb290)); have n5_ := Aside0.mk ((by rw [hg]; exact Nat.ne_of_lt (X.BL BK289) : gb289 ≠ gb290)); have n6_ := Aside0.mk ((by rw [hg]; exact Nat.ne_of_gt (X.BL BK289) : gb290 ≠ gb289)); clear BK289; clear HB; have BK289 := n0_; have HB := n1_; have BK290 := n2_; have GW290 := n3_; have GE290 := n4_; have NB289_290 := n5_; have NB290_289 := n6_; clear n0_ n1_ n2_ n3_ n4_ n5_ n6_; clear hb hbox hg) | ((with_reducible refine gate_dst (N := 5) rfl ?_); refine box_event ?hg (N := 5) ?hd (cs := #[.int .i64 a2_0, .slice A2_1 l2_1.length c2_1]) (t := 28) ?hr ?_; (case hd => rfl); (case hg => rfl); (case hr => exact X.R); intro gb291 hg w17 hbox hb; have n0_ := Aside0.mk (X.BB BK289 hb); have n1_ := Aside0.mk (X.BB BK290 hb); have n2_ := Aside0.mk (below_step X.G hb); have n3_ := Aside0.mk (hbox); have n4_ := Aside0.mk ((by rw [hg]; exact (below_size X.G) : w.heap.size ≤ gb291)); have n5_ := Aside0.mk ((by rw [hg]; exact (below_size X.G) : w.heap.size ≤ gb291)); have n6_ := Aside0.mk ((by rw [hg]; exact Nat.ne_of_lt (X.BL BK289) : gb289 ≠ gb291)); have n7_ := Aside0.mk ((by rw [hg]; exact Nat.ne_of_gt (X.BL BK289) : gb291 ≠ gb289)); have n8_ := Aside0.mk ((by rw [hg]; exact Nat.ne_of_lt (X.BL BK290) : gb290 ≠ gb291)); have n9_ := Aside0.mk ((by rw [hg]; exact Nat.ne_of_gt (X.BL BK290) : gb291 ≠ gb290)); clear BK289; clear BK290; clear HB; have BK289 := n0_; have BK290 := n1_; have HB := n2_; have BK291 := n3_; have GW291 := n4_; have GE291 := n5_; have NB289_291 := n6_; have NB291_289 := n7_; have NB290_291 := n8_; have NB291_290 := n9_; clear n0_ n1_ n2_ n3_ n4_ n5_ n6_ n7_ n8_ n9_; clear hb hbox hg; have hnb18 := NB290_289.out; have hnc18 := NB289_290.out; have hnb19 := NB290_291.out; have hnc19 := NB291_290.out; have hcz20_0 : w17.cell? ⟨gb290, 0, none⟩ = some (.slice A1_0 l1_0.length c1_0) := (blk_cell BK290.out 0).trans rfl; have hcz20_1 : w17.cell? ⟨gb290, 1, none⟩ = some (.int .i64 a1_1) := (blk_cell BK290.out 1).trans rfl; have hfz20_0 := blk_frozen BK290.out 0; have hfz20_1 := blk_frozen BK290.out 1) | ((with_reducible refine gate_callee (f := 4) rfl ?_); refine goesL_ (some 21) rfl rfl Try.func4 (by kernel_rfl) rfl #[.agg #[.slice A1_0 l1_0.length c1_0, .int .i64 a1_1], .int .i64 1048576] rfl X.M ?_; (with_reducible refine (laws_szPlaces.calls _ _ l1_0 a1_1 1048576 t292 _ ?side1 ?side2 A4.out).mono ?_); (case side1 => exact X.C (Kd.C_below HR1_0.out HB.out)); (case side2 => exact HC1_0.out); rintro e w21 ⟨rfl, hb⟩; refine ⟨_, rfl, ?_⟩; have n0_ := Aside0.mk (X.BB BK289 hb); have n1_ := Aside0.mk (X.BB BK290 hb); have n2_ := Aside0.mk (X.BB BK291 hb); have n3_ := Aside0.mk (below_step X.G hb); clear BK289; clear BK290; clear BK291; clear HB; have BK289 := n0_; have BK290 := n1_; have BK291 := n2_; have HB := n3_; clear n0_ n1_ n2_ n3_; (try clear hb); (try clear hb2); (try clear hk); (try clear hi); have hnb22 := NB291_289.out; have hnc22 := NB289_291.out; have hcz23_0 : w21.cell? ⟨gb291, 0, none⟩ = some (.int .i64 a2_0) := (blk_cell BK291.out 0).trans rfl; have hcz23_1 : w21.cell? ⟨gb291, 1, none⟩ = some (.slice A2_1 l2_1.length c2_1) := (blk_cell BK291.out 1).trans rfl; have hfz23_0 := blk_frozen BK291.out 0; have hfz23_1 := blk_frozen BK291.out 1) | ((with_reducible refine gate_callee (f := 5) rfl ?_); refine goesL_ (some 26) rfl rfl Try.func5 (by kernel_rfl) rfl #[.agg #[.int .i64 a2_0, .slice A2_1 l2_1.length c2_1], .int .i64 t292] rfl X.M ?_; (with_reducible refine (laws_szVoyage.calls a2_0 _ _ l2_1 t292 t293 _ ?side1 ?side2 A13.out).mono ?_); (case side1 => exact X.C (Kd.C_below HR2_1.out HB.out)); (case side2 => exact HC2_1.out); rintro e w24 ⟨rfl, hb⟩; refine ⟨_, rfl, ?_⟩; have n0_ := Aside0.mk (X.BB BK289 hb); have n1_ := Aside0.mk (X.BB BK290 hb); have n2_ := Aside0.mk (X.BB BK291 hb); have n3_ := Aside0.mk (below_step X.G hb); clear BK289; clear BK290; clear BK291; clear HB; have BK289 := n0_; have BK290 := n1_; have BK291 := n2_; have HB := n3_; clear n0_ n1_ n2_ n3_; (try clear hb); (try clear hb2); (try clear hk); (try clear hi)))
    go_ret
    exact ⟨by first | rfl | (simp [errW_none, errW_some] <;> rfl) | (simp [*, errW_none, errW_some] <;> rfl), X.G⟩
   ·rw [if_neg c14] at H
    have c14b0 : decide (t293 < 0) = false := decide_eq_false c14
    clear c14
    replace H := Option.bind_eq_some_iff.mp H
    obtain ⟨⟨t294, t295, t296⟩, A250, H⟩ := H
    replace H : ((laws_toPlaces.f k l1_0 a1_1).bind fun bt297 => ((laws_toVoyage.f k a2_0 l2_1).bind fun bt301 => ((spec_Sail.f k t294 t295 t296 bt297.1 bt297.2 bt301.1 bt301.2).bind fun bt305 => ((laws_toPlaces.f k l1_0 a1_1).bind fun bt311 => ((laws_toVoyage.f k a2_0 l2_1).bind fun bt316 => ((laws_toIsles.f a0_0 a0_1 a0_2).bind fun bt321 => ((impl_Sail.f k bt321.1 bt321.2.1 bt321.2.2 bt311.1 bt311.2 bt316.1 bt316.2).bind fun bt324 => ((laws_eqPlaces.f k bt324.1 bt324.2.1 bt305.1 bt305.2.1).bind fun t330 => (if t330 = true then (laws_FnExactSail.j0 k bt305.2.2 bt324.2.2 (bt324.2.2 != bt305.2.2) a0_0 a0_1 a0_2 l1_0 a1_1 a2_0 l2_1 bt305.1 bt305.2.1 bt311.1 bt311.2 bt316.1 bt316.2 bt324.1 bt324.2.1) else (laws_FnExactSail.j0 k bt305.2.2 bt324.2.2 true a0_0 a0_1 a0_2 l1_0 a1_1 a2_0 l2_1 bt305.1 bt305.2.1 bt311.1 bt311.2 bt316.1 bt316.2 bt324.1 bt324.2.1)))))))))) = some r := H
    have A25 := Aside0.mk A250
    clear A250
    replace H := Option.bind_eq_some_iff.mp H
    obtain ⟨⟨t297, t300⟩, A260, H⟩ := H
    replace H : ((laws_toVoyage.f k a2_0 l2_1).bind fun bt301 => ((spec_Sail.f k t294 t295 t296 t297 t300 bt301.1 bt301.2).bind fun bt305 => ((laws_toPlaces.f k l1_0 a1_1).bind fun bt311 => ((laws_toVoyage.f k a2_0 l2_1).bind fun bt316 => ((laws_toIsles.f a0_0 a0_1 a0_2).bind fun bt321 => ((impl_Sail.f k bt321.1 bt321.2.1 bt321.2.2 bt311.1 bt311.2 bt316.1 bt316.2).bind fun bt324 => ((laws_eqPlaces.f k bt324.1 bt324.2.1 bt305.1 bt305.2.1).bind fun t330 => (if t330 = true then (laws_FnExactSail.j0 k bt305.2.2 bt324.2.2 (bt324.2.2 != bt305.2.2) a0_0 a0_1 a0_2 l1_0 a1_1 a2_0 l2_1 bt305.1 bt305.2.1 bt311.1 bt311.2 bt316.1 bt316.2 bt324.1 bt324.2.1) else (laws_FnExactSail.j0 k bt305.2.2 bt324.2.2 true a0_0 a0_1 a0_2 l1_0 a1_1 a2_0 l2_1 bt305.1 bt305.2.1 bt311.1 bt311.2 bt316.1 bt316.2 bt324.1 bt324.2.1))))))))) = some r := H
    have A26 := Aside0.mk A260
    clear A260
    replace H := Option.bind_eq_some_iff.mp H
    obtain ⟨⟨t301, t302⟩, A270, H⟩ := H
    replace H : ((spec_Sail.f k t294 t295 t296 t297 t300 t301 t302).bind fun bt305 => ((laws_toPlaces.f k l1_0 a1_1).bind fun bt311 => ((laws_toVoyage.f k a2_0 l2_1).bind fun bt316 => ((laws_toIsles.f a0_0 a0_1 a0_2).bind fun bt321 => ((impl_Sail.f k bt321.1 bt321.2.1 bt321.2.2 bt311.1 bt311.2 bt316.1 bt316.2).bind fun bt324 => ((laws_eqPlaces.f k bt324.1 bt324.2.1 bt305.1 bt305.2.1).bind fun t330 => (if t330 = true then (laws_FnExactSail.j0 k bt305.2.2 bt324.2.2 (bt324.2.2 != bt305.2.2) a0_0 a0_1 a0_2 l1_0 a1_1 a2_0 l2_1 bt305.1 bt305.2.1 bt311.1 bt311.2 bt316.1 bt316.2 bt324.1 bt324.2.1) else (laws_FnExactSail.j0 k bt305.2.2 bt324.2.2 true a0_0 a0_1 a0_2 l1_0 a1_1 a2_0 l2_1 bt305.1 bt305.2.1 bt311.1 bt311.2 bt316.1 bt316.2 bt324.1 bt324.2.1)))))))) = some r := H
    have A27 := Aside0.mk A270
    clear A270
    replace H := Option.bind_eq_some_iff.mp H
    obtain ⟨⟨t305, t308, t309⟩, A280, H⟩ := H
    replace H : ((laws_toPlaces.f k l1_0 a1_1).bind fun bt311 => ((laws_toVoyage.f k a2_0 l2_1).bind fun bt316 => ((laws_toIsles.f a0_0 a0_1 a0_2).bind fun bt321 => ((impl_Sail.f k bt321.1 bt321.2.1 bt321.2.2 bt311.1 bt311.2 bt316.1 bt316.2).bind fun bt324 => ((laws_eqPlaces.f k bt324.1 bt324.2.1 t305 t308).bind fun t330 => (if t330 = true then (laws_FnExactSail.j0 k t309 bt324.2.2 (bt324.2.2 != t309) a0_0 a0_1 a0_2 l1_0 a1_1 a2_0 l2_1 t305 t308 bt311.1 bt311.2 bt316.1 bt316.2 bt324.1 bt324.2.1) else (laws_FnExactSail.j0 k t309 bt324.2.2 true a0_0 a0_1 a0_2 l1_0 a1_1 a2_0 l2_1 t305 t308 bt311.1 bt311.2 bt316.1 bt316.2 bt324.1 bt324.2.1))))))) = some r := H
    have A28 := Aside0.mk A280
    clear A280
    replace H := Option.bind_eq_some_iff.mp H
    obtain ⟨⟨t311, t314⟩, A290, H⟩ := H
    replace H : ((laws_toVoyage.f k a2_0 l2_1).bind fun bt316 => ((laws_toIsles.f a0_0 a0_1 a0_2).bind fun bt321 => ((impl_Sail.f k bt321.1 bt321.2.1 bt321.2.2 t311 t314 bt316.1 bt316.2).bind fun bt324 => ((laws_eqPlaces.f k bt324.1 bt324.2.1 t305 t308).bind fun t330 => (if t330 = true then (laws_FnExactSail.j0 k t309 bt324.2.2 (bt324.2.2 != t309) a0_0 a0_1 a0_2 l1_0 a1_1 a2_0 l2_1 t305 t308 t311 t314 bt316.1 bt316.2 bt324.1 bt324.2.1) else (laws_FnExactSail.j0 k t309 bt324.2.2 true a0_0 a0_1 a0_2 l1_0 a1_1 a2_0 l2_1 t305 t308 t311 t314 bt316.1 bt316.2 bt324.1 bt324.2.1)))))) = some r := H
    have A29 := Aside0.mk A290
    clear A290
    replace H := Option.bind_eq_some_iff.mp H
    obtain ⟨⟨t316, t317⟩, A300, H⟩ := H
    replace H : ((laws_toIsles.f a0_0 a0_1 a0_2).bind fun bt321 => ((impl_Sail.f k bt321.1 bt321.2.1 bt321.2.2 t311 t314 t316 t317).bind fun bt324 => ((laws_eqPlaces.f k bt324.1 bt324.2.1 t305 t308).bind fun t330 => (if t330 = true then (laws_FnExactSail.j0 k t309 bt324.2.2 (bt324.2.2 != t309) a0_0 a0_1 a0_2 l1_0 a1_1 a2_0 l2_1 t305 t308 t311 t314 t316 t317 bt324.1 bt324.2.1) else (laws_FnExactSail.j0 k t309 bt324.2.2 true a0_0 a0_1 a0_2 l1_0 a1_1 a2_0 l2_1 t305 t308 t311 t314 t316 t317 bt324.1 bt324.2.1))))) = some r := H
    have A30 := Aside0.mk A300
    clear A300
    replace H := Option.bind_eq_some_iff.mp H
    obtain ⟨⟨t321, t322, t323⟩, A310, H⟩ := H
    replace H : ((impl_Sail.f k t321 t322 t323 t311 t314 t316 t317).bind fun bt324 => ((laws_eqPlaces.f k bt324.1 bt324.2.1 t305 t308).bind fun t330 => (if t330 = true then (laws_FnExactSail.j0 k t309 bt324.2.2 (bt324.2.2 != t309) a0_0 a0_1 a0_2 l1_0 a1_1 a2_0 l2_1 t305 t308 t311 t314 t316 t317 bt324.1 bt324.2.1) else (laws_FnExactSail.j0 k t309 bt324.2.2 true a0_0 a0_1 a0_2 l1_0 a1_1 a2_0 l2_1 t305 t308 t311 t314 t316 t317 bt324.1 bt324.2.1)))) = some r := H
    have A31 := Aside0.mk A310
    clear A310
    replace H := Option.bind_eq_some_iff.mp H
    obtain ⟨⟨t324, t327, t328⟩, A320, H⟩ := H
    replace H : ((laws_eqPlaces.f k t324 t327 t305 t308).bind fun t330 => (if t330 = true then (laws_FnExactSail.j0 k t309 t328 (t328 != t309) a0_0 a0_1 a0_2 l1_0 a1_1 a2_0 l2_1 t305 t308 t311 t314 t316 t317 t324 t327) else (laws_FnExactSail.j0 k t309 t328 true a0_0 a0_1 a0_2 l1_0 a1_1 a2_0 l2_1 t305 t308 t311 t314 t316 t317 t324 t327))) = some r := H
    have A32 := Aside0.mk A320
    clear A320
    have HC33 := Aside0.mk H
    clear H
    go_enter Try.func3, Try.ntmps3
    try go_wp2_with (first | ((with_reducible refine gate_dst (N := 3) rfl ?_); refine box_event ?hg (N := 3) ?hd (cs := #[.int .i64 a0_0, .int .i64 a0_1, .int .i64 a0_2]) (t := 23) ?hr ?_; (case hd => rfl); (case hg => rfl); (case hr => exact X.R); intro gb289 hg w34 hbox hb; have n0_ := Aside0.mk (below_step X.G hb); have n1_ := Aside0.mk (hbox); have n2_ := Aside0.mk ((by rw [hg]; exact (below_size X.G) : w.heap.size ≤ gb289)); have n3_ := Aside0.mk ((by rw [hg]; exact (below_size X.G) : w.heap.size ≤ gb289)); clear HB; have HB := n0_; have BK289 := n1_; have GW289 := n2_; have GE289 := n3_; clear n0_ n1_ n2_ n3_; clear hb hbox hg) | ((with_reducible refine gate_dst (N := 4) rfl ?_); refine box_event ?hg (N := 4) ?hd (cs := #[.slice A1_0 l1_0.length c1_0, .int .i64 a1_1]) (t := 26) ?hr ?_; (case hd => rfl); (case hg => rfl); (case hr => exact X.R); intro gb290 hg w35 hbox hb; have n0_ := Aside0.mk (X.BB BK289 hb); have n1_ := Aside0.mk (below_step X.G hb); have n2_ := Aside0.mk (hbox); have n3_ := Aside0.mk ((by rw [hg]; exact (below_size X.G) : w.heap.size ≤ gb290)); have n4_ := Aside0.mk ((by rw [hg]; exact (below_size X.G) : w.heap.size ≤ gb290)); have n5_ := Aside0.mk ((by rw [hg]; exact Nat.ne_of_lt (X.BL BK289) : gb289 ≠ gb290)); have n6_ := Aside0.mk ((by rw [hg]; exact Nat.ne_of_gt (X.BL BK289) : gb290 ≠ gb289)); clear BK289; clear HB; have BK289 := n0_; have HB := n1_; have BK290 := n2_; have GW290 := n3_; have GE290 := n4_; have NB289_290 := n5_; have NB290_289 := n6_; clear n0_ n1_ n2_ n3_ n4_ n5_ n6_; clear hb hbox hg) | ((with_reducible refine gate_dst (N := 5) rfl ?_); refine box_event ?hg (N := 5) ?hd (cs := #[.int .i64 a2_0, .slice A2_1 l2_1.length c2_1]) (t := 28) ?hr ?_; (case hd => rfl); (case hg => rfl); (case hr => exact X.R); intro gb291 hg w36 hbox hb; have n0_ := Aside0.mk (X.BB BK289 hb); have n1_ := Aside0.mk (X.BB BK290 hb); have n2_ := Aside0.mk (below_step X.G hb); have n3_ := Aside0.mk (hbox); have n4_ := Aside0.mk ((by rw [hg]; exact (below_size X.G) : w.heap.size ≤ gb291)); have n5_ := Aside0.mk ((by rw [hg]; exact (below_size X.G) : w.heap.size ≤ gb291)); have n6_ := Aside0.mk ((by rw [hg]; exact Nat.ne_of_lt (X.BL BK289) : gb289 ≠ gb291)); have n7_ := Aside0.mk ((by rw [hg]; exact Nat.ne_of_gt (X.BL BK289) : gb291 ≠ gb289)); have n8_ := Aside0.mk ((by rw [hg]; exact Nat.ne_of_lt (X.BL BK290) : gb290 ≠ gb291)); have n9_ := Aside0.mk ((by rw [hg]; exact Nat.ne_of_gt (X.BL BK290) : gb291 ≠ gb290)); clear BK289; clear BK290; clear HB; have BK289 := n0_; have BK290 := n1_; have HB := n2_; have BK291 := n3_; have GW291 := n4_; have GE291 := n5_; have NB289_291 := n6_; have NB291_289 := n7_; have NB290_291 := n8_; have NB291_290 := n9_; clear n0_ n1_ n2_ n3_ n4_ n5_ n6_ n7_ n8_ n9_; clear hb hbox hg; have hnb37 := NB290_289.out; have hnc37 := NB289_290.out; have hnb38 := NB290_291.out; have hnc38 := NB291_290.out; have hcz39_0 : w36.cell? ⟨gb290, 0, none⟩ = some (.slice A1_0 l1_0.length c1_0) := (blk_cell BK290.out 0).trans rfl; have hcz39_1 : w36.cell? ⟨gb290, 1, none⟩ = some (.int .i64 a1_1) := (blk_cell BK290.out 1).trans rfl; have hfz39_0 := blk_frozen BK290.out 0; have hfz39_1 := blk_frozen BK290.out 1) | ((with_reducible refine gate_callee (f := 4) rfl ?_); refine goesL_ (some 21) rfl rfl Try.func4 (by kernel_rfl) rfl #[.agg #[.slice A1_0 l1_0.length c1_0, .int .i64 a1_1], .int .i64 1048576] rfl X.M ?_; (with_reducible refine (laws_szPlaces.calls _ _ l1_0 a1_1 1048576 t292 _ ?side1 ?side2 A4.out).mono ?_); (case side1 => exact X.C (Kd.C_below HR1_0.out HB.out)); (case side2 => exact HC1_0.out); rintro e w40 ⟨rfl, hb⟩; refine ⟨_, rfl, ?_⟩; have n0_ := Aside0.mk (X.BB BK289 hb); have n1_ := Aside0.mk (X.BB BK290 hb); have n2_ := Aside0.mk (X.BB BK291 hb); have n3_ := Aside0.mk (below_step X.G hb); clear BK289; clear BK290; clear BK291; clear HB; have BK289 := n0_; have BK290 := n1_; have BK291 := n2_; have HB := n3_; clear n0_ n1_ n2_ n3_; (try clear hb); (try clear hb2); (try clear hk); (try clear hi); have hnb41 := NB291_289.out; have hnc41 := NB289_291.out; have hcz42_0 : w40.cell? ⟨gb291, 0, none⟩ = some (.int .i64 a2_0) := (blk_cell BK291.out 0).trans rfl; have hcz42_1 : w40.cell? ⟨gb291, 1, none⟩ = some (.slice A2_1 l2_1.length c2_1) := (blk_cell BK291.out 1).trans rfl; have hfz42_0 := blk_frozen BK291.out 0; have hfz42_1 := blk_frozen BK291.out 1) | ((with_reducible refine gate_callee (f := 5) rfl ?_); refine goesL_ (some 26) rfl rfl Try.func5 (by kernel_rfl) rfl #[.agg #[.int .i64 a2_0, .slice A2_1 l2_1.length c2_1], .int .i64 t292] rfl X.M ?_; (with_reducible refine (laws_szVoyage.calls a2_0 _ _ l2_1 t292 t293 _ ?side1 ?side2 A13.out).mono ?_); (case side1 => exact X.C (Kd.C_below HR2_1.out HB.out)); (case side2 => exact HC2_1.out); rintro e w43 ⟨rfl, hb⟩; refine ⟨_, rfl, ?_⟩; have n0_ := Aside0.mk (X.BB BK289 hb); have n1_ := Aside0.mk (X.BB BK290 hb); have n2_ := Aside0.mk (X.BB BK291 hb); have n3_ := Aside0.mk (below_step X.G hb); clear BK289; clear BK290; clear BK291; clear HB; have BK289 := n0_; have BK290 := n1_; have BK291 := n2_; have HB := n3_; clear n0_ n1_ n2_ n3_; (try clear hb); (try clear hb2); (try clear hk); (try clear hi)))
    have n0_ := Aside0.mk (blk_drew BK289.out)
    have n1_ := Aside0.mk (blk_drew BK290.out)
    have n2_ := Aside0.mk (blk_drew BK291.out)
    have n3_ := Aside0.mk (below_drew1 HB.out)
    clear BK289
    clear BK290
    clear BK291
    clear HB
    have BK289 := n0_
    have BK290 := n1_
    have BK291 := n2_
    have HB := n3_
    clear n0_ n1_ n2_ n3_
    refine start_ (n := 13) (S := fun w' => w'.cell? ⟨gb289, 0, none⟩ = some (.int .i64 a0_0) ∧ w'.cell? ⟨gb289, 1, none⟩ = some (.int .i64 a0_1) ∧ w'.cell? ⟨gb289, 2, none⟩ = some (.int .i64 a0_2) ∧ w'.cell? ⟨gb290, 0, none⟩ = some (.slice A1_0 l1_0.length c1_0) ∧ w'.cell? ⟨gb290, 1, none⟩ = some (.int .i64 a1_1) ∧ w'.cell? ⟨gb291, 0, none⟩ = some (.int .i64 a2_0) ∧ w'.cell? ⟨gb291, 1, none⟩ = some (.slice A2_1 l2_1.length c2_1)) (ds := []) #[false, false, false, false, false, false, false, false, false, false, false, false, false] (by kernel_rfl) rfl rfl ⟨(blk_cell BK289.out 0).trans rfl, (blk_cell BK289.out 1).trans rfl, (blk_cell BK289.out 2).trans rfl, (blk_cell BK290.out 0).trans rfl, (blk_cell BK290.out 1).trans rfl, (blk_cell BK291.out 0).trans rfl, (blk_cell BK291.out 1).trans rfl⟩ (fun hHeld => ?_); refine with_tabW laws_FnExactSail.tab8 laws_FnExactSail.bits8 (fun HT_ HW_ => ?_)
    generalize w43.drew = w44 at BK289 BK290 BK291 HB hHeld ⊢
    refine take_ (i := 0) (N := some 30) (v := ?_) (a' := ?_) #[true, false, false, false, false, false, false, false, false, false, false, false, false] rfl rfl (take_ofW HT_.out HW_.out (by kernel_rfl)) (fun _ _ _ h => h) (Or.inl ⟨by rfl, ?_⟩) hHeld ?_ ?_
    rotate_left
    ·rintro w' ⟨s0, s1, s2, s3, s4, s5, s6⟩
     go_simp
     with_reducible rfl
    rotate_left
    ·exact X.Pu
    refine take_ (i := 2) (N := some 32) (v := ?_) (a' := ?_) #[true, false, true, false, false, false, false, false, false, false, false, false, false] rfl rfl (take_ofW HT_.out HW_.out (by kernel_rfl)) (fun _ _ _ h => h) (Or.inl ⟨by rfl, ?_⟩) hHeld ?_ ?_
    rotate_left
    ·rintro w' ⟨s0, s1, s2, s3, s4, s5, s6⟩
     go_simp
     with_reducible rfl
    rotate_left
    ·exact X.Pu
    refine take_ (i := 4) (N := some 34) (v := ?_) (a' := ?_) #[true, false, true, false, true, false, false, false, false, false, false, false, false] rfl rfl (take_ofW HT_.out HW_.out (by kernel_rfl)) (fun _ _ _ h => h) (Or.inl ⟨by rfl, ?_⟩) hHeld ?_ ?_
    rotate_left
    ·rintro w' ⟨s0, s1, s2, s3, s4, s5, s6⟩
     go_simp
     with_reducible rfl
    rotate_left
    ·exact X.Pu
    refine join_ (σ := Value × Value × Value × Nat) 2 #[true, true, true, true, true, true, true, true, true, true, true, false, false] (fun s_ => [(31, .agg #[.int .i64 t294, .int .i64 t295, .int .i64 t296]), (33, .agg #[s_.1, .int .i64 t300]), (35, .agg #[.int .i64 t301, s_.2.1]), (36, .tuple #[.agg #[s_.2.2.1, .int .i64 t308], .bool t309]), (8, .pointer (some ⟨s_.2.2.2, 0, none⟩)), (29, .tuple #[.agg #[s_.2.2.1, .int .i64 t308], .bool t309]), (37, .agg #[s_.2.2.1, .int .i64 t308]), (38, .bool t309)]) (fun s_ w' => (w'.cell? ⟨gb289, 0, none⟩ = some (.int .i64 a0_0) ∧ w'.cell? ⟨gb289, 1, none⟩ = some (.int .i64 a0_1) ∧ w'.cell? ⟨gb289, 2, none⟩ = some (.int .i64 a0_2) ∧ w'.cell? ⟨gb290, 0, none⟩ = some (.slice A1_0 l1_0.length c1_0) ∧ w'.cell? ⟨gb290, 1, none⟩ = some (.int .i64 a1_1) ∧ w'.cell? ⟨gb291, 0, none⟩ = some (.int .i64 a2_0) ∧ w'.cell? ⟨gb291, 1, none⟩ = some (.slice A2_1 l2_1.length c2_1)) ∧ (Kd.R (Kd.int .i64) 3 w' w.heap.size (fun k_ => some k_ ≠ (s_.2.1 : Value).ownBlock ∧ some k_ ≠ (s_.2.2.1 : Value).ownBlock) s_.1 t297) ∧ (Kd.R (Kd.int .i64) 3 w' w.heap.size (fun k_ => some k_ ≠ (s_.1 : Value).ownBlock ∧ some k_ ≠ (s_.2.2.1 : Value).ownBlock) s_.2.1 t302) ∧ (Kd.R (Kd.int .i64) 3 w' w.heap.size (fun k_ => some k_ ≠ (s_.1 : Value).ownBlock ∧ some k_ ≠ (s_.2.1 : Value).ownBlock) s_.2.2.1 t305) ∧ (w'.heap[gb289]? = some (.cells #[.int .i64 a0_0, .int .i64 a0_1, .int .i64 a0_2] 23 (0, 0))) ∧ (w'.heap[gb290]? = some (.cells #[.slice A1_0 l1_0.length c1_0, .int .i64 a1_1] 26 (0, 0))) ∧ (w'.heap[gb291]? = some (.cells #[.int .i64 a2_0, .slice A2_1 l2_1.length c2_1] 28 (0, 0))) ∧ (w'.heap[s_.2.2.2]? = some (.cells #[.slice none 0 0, .int .i64 0] 31 (0, 0))) ∧ (w.heap.size ≤ s_.2.2.2) ∧ (w.heap.size ≤ s_.2.2.2) ∧ (gb289 ≠ s_.2.2.2) ∧ (s_.2.2.2 ≠ gb289) ∧ (gb290 ≠ s_.2.2.2) ∧ (s_.2.2.2 ≠ gb290) ∧ (gb291 ≠ s_.2.2.2) ∧ (s_.2.2.2 ≠ gb291) ∧ (Below w.heap.size w w')) ?_ ?_
    rotate_left
    ·intro hJ1_3_5_6_10
     refine join_ (σ := Value × Value × Value) 3 #[true, true, true, true, true, true, true, true, true, true, false, false, false] (fun s_ => [(31, .agg #[.int .i64 t294, .int .i64 t295, .int .i64 t296]), (33, .agg #[s_.1, .int .i64 t300]), (35, .agg #[.int .i64 t301, s_.2.1]), (36, .tuple #[.agg #[s_.2.2, .int .i64 t308], .bool t309]), (29, .tuple #[.agg #[s_.2.2, .int .i64 t308], .bool t309]), (37, .agg #[s_.2.2, .int .i64 t308]), (38, .bool t309)]) (fun s_ w' => (w'.cell? ⟨gb289, 0, none⟩ = some (.int .i64 a0_0) ∧ w'.cell? ⟨gb289, 1, none⟩ = some (.int .i64 a0_1) ∧ w'.cell? ⟨gb289, 2, none⟩ = some (.int .i64 a0_2) ∧ w'.cell? ⟨gb290, 0, none⟩ = some (.slice A1_0 l1_0.length c1_0) ∧ w'.cell? ⟨gb290, 1, none⟩ = some (.int .i64 a1_1) ∧ w'.cell? ⟨gb291, 0, none⟩ = some (.int .i64 a2_0) ∧ w'.cell? ⟨gb291, 1, none⟩ = some (.slice A2_1 l2_1.length c2_1)) ∧ (Kd.R (Kd.int .i64) 3 w' w.heap.size (fun k_ => some k_ ≠ (s_.2.1 : Value).ownBlock ∧ some k_ ≠ (s_.2.2 : Value).ownBlock) s_.1 t297) ∧ (Kd.R (Kd.int .i64) 3 w' w.heap.size (fun k_ => some k_ ≠ (s_.1 : Value).ownBlock ∧ some k_ ≠ (s_.2.2 : Value).ownBlock) s_.2.1 t302) ∧ (Kd.R (Kd.int .i64) 3 w' w.heap.size (fun k_ => some k_ ≠ (s_.1 : Value).ownBlock ∧ some k_ ≠ (s_.2.1 : Value).ownBlock) s_.2.2 t305) ∧ (w'.heap[gb289]? = some (.cells #[.int .i64 a0_0, .int .i64 a0_1, .int .i64 a0_2] 23 (0, 0))) ∧ (w'.heap[gb290]? = some (.cells #[.slice A1_0 l1_0.length c1_0, .int .i64 a1_1] 26 (0, 0))) ∧ (w'.heap[gb291]? = some (.cells #[.int .i64 a2_0, .slice A2_1 l2_1.length c2_1] 28 (0, 0))) ∧ (Below w.heap.size w w')) ?_ ?_
     rotate_left
     ·intro hJ1_3_5_6
      refine join_ (σ := Value × Value × Nat) 6 #[true, true, true, true, true, true, false, false, false, false, true, false, false] (fun s_ => [(31, .agg #[.int .i64 t294, .int .i64 t295, .int .i64 t296]), (33, .agg #[s_.1, .int .i64 t300]), (35, .agg #[.int .i64 t301, s_.2.1]), (8, .pointer (some ⟨s_.2.2, 0, none⟩))]) (fun s_ w' => (w'.cell? ⟨gb289, 0, none⟩ = some (.int .i64 a0_0) ∧ w'.cell? ⟨gb289, 1, none⟩ = some (.int .i64 a0_1) ∧ w'.cell? ⟨gb289, 2, none⟩ = some (.int .i64 a0_2) ∧ w'.cell? ⟨gb290, 0, none⟩ = some (.slice A1_0 l1_0.length c1_0) ∧ w'.cell? ⟨gb290, 1, none⟩ = some (.int .i64 a1_1) ∧ w'.cell? ⟨gb291, 0, none⟩ = some (.int .i64 a2_0) ∧ w'.cell? ⟨gb291, 1, none⟩ = some (.slice A2_1 l2_1.length c2_1)) ∧ (Kd.R (Kd.int .i64) 3 w' w.heap.size (fun k_ => some k_ ≠ (s_.2.1 : Value).ownBlock) s_.1 t297) ∧ (Kd.R (Kd.int .i64) 3 w' w.heap.size (fun k_ => some k_ ≠ (s_.1 : Value).ownBlock) s_.2.1 t302) ∧ (w'.heap[gb289]? = some (.cells #[.int .i64 a0_0, .int .i64 a0_1, .int .i64 a0_2] 23 (0, 0))) ∧ (w'.heap[gb290]? = some (.cells #[.slice A1_0 l1_0.length c1_0, .int .i64 a1_1] 26 (0, 0))) ∧ (w'.heap[gb291]? = some (.cells #[.int .i64 a2_0, .slice A2_1 l2_1.length c2_1] 28 (0, 0))) ∧ (w'.heap[s_.2.2]? = some (.cells #[.slice none 0 0, .int .i64 0] 31 (0, 0))) ∧ (w.heap.size ≤ s_.2.2) ∧ (w.heap.size ≤ s_.2.2) ∧ (gb289 ≠ s_.2.2) ∧ (s_.2.2 ≠ gb289) ∧ (gb290 ≠ s_.2.2) ∧ (s_.2.2 ≠ gb290) ∧ (gb291 ≠ s_.2.2) ∧ (s_.2.2 ≠ gb291) ∧ (Below w.heap.size w w')) ?_ ?_
      rotate_left
      ·intro hJ1_3_5_10
       refine join_ (σ := Value × Value) 7 #[true, true, true, true, true, true, false, false, false, false, false, false, false] (fun s_ => [(31, .agg #[.int .i64 t294, .int .i64 t295, .int .i64 t296]), (33, .agg #[s_.1, .int .i64 t300]), (35, .agg #[.int .i64 t301, s_.2])]) (fun s_ w' => (w'.cell? ⟨gb289, 0, none⟩ = some (.int .i64 a0_0) ∧ w'.cell? ⟨gb289, 1, none⟩ = some (.int .i64 a0_1) ∧ w'.cell? ⟨gb289, 2, none⟩ = some (.int .i64 a0_2) ∧ w'.cell? ⟨gb290, 0, none⟩ = some (.slice A1_0 l1_0.length c1_0) ∧ w'.cell? ⟨gb290, 1, none⟩ = some (.int .i64 a1_1) ∧ w'.cell? ⟨gb291, 0, none⟩ = some (.int .i64 a2_0) ∧ w'.cell? ⟨gb291, 1, none⟩ = some (.slice A2_1 l2_1.length c2_1)) ∧ (Kd.R (Kd.int .i64) 3 w' w.heap.size (fun k_ => some k_ ≠ (s_.2 : Value).ownBlock) s_.1 t297) ∧ (Kd.R (Kd.int .i64) 3 w' w.heap.size (fun k_ => some k_ ≠ (s_.1 : Value).ownBlock) s_.2 t302) ∧ (w'.heap[gb289]? = some (.cells #[.int .i64 a0_0, .int .i64 a0_1, .int .i64 a0_2] 23 (0, 0))) ∧ (w'.heap[gb290]? = some (.cells #[.slice A1_0 l1_0.length c1_0, .int .i64 a1_1] 26 (0, 0))) ∧ (w'.heap[gb291]? = some (.cells #[.int .i64 a2_0, .slice A2_1 l2_1.length c2_1] 28 (0, 0))) ∧ (Below w.heap.size w w')) ?_ ?_
       rotate_left
       ·intro hJ1_3_5
        refine join_ (σ := Value × Nat) 7 #[true, true, true, true, true, false, false, false, false, false, true, false, false] (fun s_ => [(31, .agg #[.int .i64 t294, .int .i64 t295, .int .i64 t296]), (33, .agg #[s_.1, .int .i64 t300]), (8, .pointer (some ⟨s_.2, 0, none⟩))]) (fun s_ w' => (w'.cell? ⟨gb289, 0, none⟩ = some (.int .i64 a0_0) ∧ w'.cell? ⟨gb289, 1, none⟩ = some (.int .i64 a0_1) ∧ w'.cell? ⟨gb289, 2, none⟩ = some (.int .i64 a0_2) ∧ w'.cell? ⟨gb290, 0, none⟩ = some (.slice A1_0 l1_0.length c1_0) ∧ w'.cell? ⟨gb290, 1, none⟩ = some (.int .i64 a1_1) ∧ w'.cell? ⟨gb291, 0, none⟩ = some (.int .i64 a2_0) ∧ w'.cell? ⟨gb291, 1, none⟩ = some (.slice A2_1 l2_1.length c2_1)) ∧ (Kd.R (Kd.int .i64) 3 w' w.heap.size (fun _ => True) s_.1 t297) ∧ (w'.heap[gb289]? = some (.cells #[.int .i64 a0_0, .int .i64 a0_1, .int .i64 a0_2] 23 (0, 0))) ∧ (w'.heap[gb290]? = some (.cells #[.slice A1_0 l1_0.length c1_0, .int .i64 a1_1] 26 (0, 0))) ∧ (w'.heap[gb291]? = some (.cells #[.int .i64 a2_0, .slice A2_1 l2_1.length c2_1] 28 (0, 0))) ∧ (w'.heap[s_.2]? = some (.cells #[.slice none 0 0, .int .i64 0] 31 (0, 0))) ∧ (w.heap.size ≤ s_.2) ∧ (w.heap.size ≤ s_.2) ∧ (gb289 ≠ s_.2) ∧ (s_.2 ≠ gb289) ∧ (gb290 ≠ s_.2) ∧ (s_.2 ≠ gb290) ∧ (gb291 ≠ s_.2) ∧ (s_.2 ≠ gb291) ∧ (Below w.heap.size w w')) ?_ ?_
        rotate_left
        ·intro hJ1_3_10
         refine join_ (σ := Value) 8 #[true, true, true, true, true, false, false, false, false, false, false, false, false] (fun s_ => [(31, .agg #[.int .i64 t294, .int .i64 t295, .int .i64 t296]), (33, .agg #[s_, .int .i64 t300])]) (fun s_ w' => (w'.cell? ⟨gb289, 0, none⟩ = some (.int .i64 a0_0) ∧ w'.cell? ⟨gb289, 1, none⟩ = some (.int .i64 a0_1) ∧ w'.cell? ⟨gb289, 2, none⟩ = some (.int .i64 a0_2) ∧ w'.cell? ⟨gb290, 0, none⟩ = some (.slice A1_0 l1_0.length c1_0) ∧ w'.cell? ⟨gb290, 1, none⟩ = some (.int .i64 a1_1) ∧ w'.cell? ⟨gb291, 0, none⟩ = some (.int .i64 a2_0) ∧ w'.cell? ⟨gb291, 1, none⟩ = some (.slice A2_1 l2_1.length c2_1)) ∧ (Kd.R (Kd.int .i64) 3 w' w.heap.size (fun _ => True) s_ t297) ∧ (w'.heap[gb289]? = some (.cells #[.int .i64 a0_0, .int .i64 a0_1, .int .i64 a0_2] 23 (0, 0))) ∧ (w'.heap[gb290]? = some (.cells #[.slice A1_0 l1_0.length c1_0, .int .i64 a1_1] 26 (0, 0))) ∧ (w'.heap[gb291]? = some (.cells #[.int .i64 a2_0, .slice A2_1 l2_1.length c2_1] 28 (0, 0))) ∧ (Below w.heap.size w w')) ?_ ?_
         rotate_left
         ·intro hJ1_3
          refine join_ (σ := Nat) 8 #[true, true, true, false, true, false, false, false, false, false, true, false, false] (fun s_ => [(31, .agg #[.int .i64 t294, .int .i64 t295, .int .i64 t296]), (8, .pointer (some ⟨s_, 0, none⟩))]) (fun s_ w' => (w'.cell? ⟨gb289, 0, none⟩ = some (.int .i64 a0_0) ∧ w'.cell? ⟨gb289, 1, none⟩ = some (.int .i64 a0_1) ∧ w'.cell? ⟨gb289, 2, none⟩ = some (.int .i64 a0_2) ∧ w'.cell? ⟨gb290, 0, none⟩ = some (.slice A1_0 l1_0.length c1_0) ∧ w'.cell? ⟨gb290, 1, none⟩ = some (.int .i64 a1_1) ∧ w'.cell? ⟨gb291, 0, none⟩ = some (.int .i64 a2_0) ∧ w'.cell? ⟨gb291, 1, none⟩ = some (.slice A2_1 l2_1.length c2_1)) ∧ (w'.heap[gb289]? = some (.cells #[.int .i64 a0_0, .int .i64 a0_1, .int .i64 a0_2] 23 (0, 0))) ∧ (w'.heap[gb290]? = some (.cells #[.slice A1_0 l1_0.length c1_0, .int .i64 a1_1] 26 (0, 0))) ∧ (w'.heap[gb291]? = some (.cells #[.int .i64 a2_0, .slice A2_1 l2_1.length c2_1] 28 (0, 0))) ∧ (w'.heap[s_]? = some (.cells #[.slice none 0 0, .int .i64 0] 31 (0, 0))) ∧ (w.heap.size ≤ s_) ∧ (w.heap.size ≤ s_) ∧ (gb289 ≠ s_) ∧ (s_ ≠ gb289) ∧ (gb290 ≠ s_) ∧ (s_ ≠ gb290) ∧ (gb291 ≠ s_) ∧ (s_ ≠ gb291) ∧ (Below w.heap.size w w')) ?_ ?_
          rotate_left
          ·intro hJ1_10
           refine join_ (σ := Unit) 9 #[true, true, true, false, true, false, false, false, false, false, false, false, false] (fun s_ => [(31, .agg #[.int .i64 t294, .int .i64 t295, .int .i64 t296])]) (fun s_ w' => (w'.cell? ⟨gb289, 0, none⟩ = some (.int .i64 a0_0) ∧ w'.cell? ⟨gb289, 1, none⟩ = some (.int .i64 a0_1) ∧ w'.cell? ⟨gb289, 2, none⟩ = some (.int .i64 a0_2) ∧ w'.cell? ⟨gb290, 0, none⟩ = some (.slice A1_0 l1_0.length c1_0) ∧ w'.cell? ⟨gb290, 1, none⟩ = some (.int .i64 a1_1) ∧ w'.cell? ⟨gb291, 0, none⟩ = some (.int .i64 a2_0) ∧ w'.cell? ⟨gb291, 1, none⟩ = some (.slice A2_1 l2_1.length c2_1)) ∧ (w'.heap[gb289]? = some (.cells #[.int .i64 a0_0, .int .i64 a0_1, .int .i64 a0_2] 23 (0, 0))) ∧ (w'.heap[gb290]? = some (.cells #[.slice A1_0 l1_0.length c1_0, .int .i64 a1_1] 26 (0, 0))) ∧ (w'.heap[gb291]? = some (.cells #[.int .i64 a2_0, .slice A2_1 l2_1.length c2_1] 28 (0, 0))) ∧ (Below w.heap.size w w')) ?_ ?_
           rotate_left
           ·intro hJ1
            refine join_ (σ := Nat) 9 #[true, false, true, false, true, false, false, false, false, false, true, false, false] (fun s_ => [(8, .pointer (some ⟨s_, 0, none⟩))]) (fun s_ w' => (w'.cell? ⟨gb289, 0, none⟩ = some (.int .i64 a0_0) ∧ w'.cell? ⟨gb289, 1, none⟩ = some (.int .i64 a0_1) ∧ w'.cell? ⟨gb289, 2, none⟩ = some (.int .i64 a0_2) ∧ w'.cell? ⟨gb290, 0, none⟩ = some (.slice A1_0 l1_0.length c1_0) ∧ w'.cell? ⟨gb290, 1, none⟩ = some (.int .i64 a1_1) ∧ w'.cell? ⟨gb291, 0, none⟩ = some (.int .i64 a2_0) ∧ w'.cell? ⟨gb291, 1, none⟩ = some (.slice A2_1 l2_1.length c2_1)) ∧ (w'.heap[gb289]? = some (.cells #[.int .i64 a0_0, .int .i64 a0_1, .int .i64 a0_2] 23 (0, 0))) ∧ (w'.heap[gb290]? = some (.cells #[.slice A1_0 l1_0.length c1_0, .int .i64 a1_1] 26 (0, 0))) ∧ (w'.heap[gb291]? = some (.cells #[.int .i64 a2_0, .slice A2_1 l2_1.length c2_1] 28 (0, 0))) ∧ (w'.heap[s_]? = some (.cells #[.slice none 0 0, .int .i64 0] 31 (0, 0))) ∧ (w.heap.size ≤ s_) ∧ (w.heap.size ≤ s_) ∧ (gb289 ≠ s_) ∧ (s_ ≠ gb289) ∧ (gb290 ≠ s_) ∧ (s_ ≠ gb290) ∧ (gb291 ≠ s_) ∧ (s_ ≠ gb291) ∧ (Below w.heap.size w w')) ?_ ?_
            rotate_left
            ·intro hJ10
             refine two_ (i := 1) (j := 10) (Ni := some 31) (Nj := some 8) #[true, true, true, false, true, false, false, false, false, false, false, false, false] #[true, false, true, false, true, false, false, false, false, false, true, false, false] rfl rfl rfl rfl (two_of HT_.out (by kernel_rfl)) (by decide) (by decide) (fun K hK => ?_) (fun K hK => ?_)
             ·skip
              refine goes_ Try.func7 (by kernel_rfl) rfl #[.agg #[.int .i64 a0_0, .int .i64 a0_1, .int .i64 a0_2]] (by rfl) rfl rfl X.M ?_
              with_reducible refine (laws_toIsles.calls a0_0 a0_1 a0_2 t294 t295 t296 _ A25.out).mono ?_
              rintro e w45 ⟨rfl, hb⟩
              refine ⟨_, rfl, ?_⟩
              have n0_ := Aside0.mk (X.BB BK289 hb)
              have n1_ := Aside0.mk (X.BB BK290 hb)
              have n2_ := Aside0.mk (X.BB BK291 hb)
              have n3_ := Aside0.mk (below_step X.G hb)
              clear BK289
              clear BK290
              clear BK291
              clear HB
              have BK289 := n0_
              have BK290 := n1_
              have BK291 := n2_
              have HB := n3_
              clear n0_ n1_ n2_ n3_
              (try clear hb)
              (try clear hb2)
              (try clear hk)
              (try clear hi)
              refine hK.out _ _ ⟨(blk_cell BK289.out 0).trans rfl, (blk_cell BK289.out 1).trans rfl, (blk_cell BK289.out 2).trans rfl, (blk_cell BK290.out 0).trans rfl, (blk_cell BK290.out 1).trans rfl, (blk_cell BK291.out 0).trans rfl, (blk_cell BK291.out 1).trans rfl⟩ (fun hHeld => ?_)
              clear hK K
              refine norm_ (a' := ?_) ?_ ?_
              rotate_left
              ·show Act.put _ (some 31) _ = _
               simp only [Act.put, List.setIfInBounds_toArray, List.set_cons_zero, List.set_cons_succ, i64_w, i32_w]
               rfl
              exact norm_ X.S (hJ1 () _ ⟨hHeld, (X.B BK289), (X.B BK290), (X.B BK291), X.G⟩)
             ·skip
              refine box_step ?hg (N := 8) ?hd (cs := #[.slice none 0 0, .int .i64 0]) (t := 31) ?hr ?_; (case hd => rfl); (case hg => rfl); (case hr => exact X.R)
              intro gb310 hg w45 hbox hb
              have n0_ := Aside0.mk (X.BB BK289 hb)
              have n1_ := Aside0.mk (X.BB BK290 hb)
              have n2_ := Aside0.mk (X.BB BK291 hb)
              have n3_ := Aside0.mk (below_step X.G hb)
              have n4_ := Aside0.mk (hbox)
              have n5_ := Aside0.mk ((by rw [hg]; exact (below_size X.G) : w.heap.size ≤ gb310))
              have n6_ := Aside0.mk ((by rw [hg]; exact (below_size X.G) : w.heap.size ≤ gb310))
              have n7_ := Aside0.mk ((by rw [hg]; exact Nat.ne_of_lt (X.BL BK289) : gb289 ≠ gb310))
              have n8_ := Aside0.mk ((by rw [hg]; exact Nat.ne_of_gt (X.BL BK289) : gb310 ≠ gb289))
              have n9_ := Aside0.mk ((by rw [hg]; exact Nat.ne_of_lt (X.BL BK290) : gb290 ≠ gb310))
              have n10_ := Aside0.mk ((by rw [hg]; exact Nat.ne_of_gt (X.BL BK290) : gb310 ≠ gb290))
              have n11_ := Aside0.mk ((by rw [hg]; exact Nat.ne_of_lt (X.BL BK291) : gb291 ≠ gb310))
              have n12_ := Aside0.mk ((by rw [hg]; exact Nat.ne_of_gt (X.BL BK291) : gb310 ≠ gb291))
              clear BK289
              clear BK290
              clear BK291
              clear HB
              have BK289 := n0_
              have BK290 := n1_
              have BK291 := n2_
              have HB := n3_
              have BK310 := n4_
              have GW310 := n5_
              have GE310 := n6_
              have NB289_310 := n7_
              have NB310_289 := n8_
              have NB290_310 := n9_
              have NB310_290 := n10_
              have NB291_310 := n11_
              have NB310_291 := n12_
              clear n0_ n1_ n2_ n3_ n4_ n5_ n6_ n7_ n8_ n9_ n10_ n11_ n12_
              clear hb hbox hg
              refine hK.out _ _ ⟨(blk_cell BK289.out 0).trans rfl, (blk_cell BK289.out 1).trans rfl, (blk_cell BK289.out 2).trans rfl, (blk_cell BK290.out 0).trans rfl, (blk_cell BK290.out 1).trans rfl, (blk_cell BK291.out 0).trans rfl, (blk_cell BK291.out 1).trans rfl⟩ (fun hHeld => ?_)
              clear hK K
              refine norm_ (a' := ?_) ?_ ?_
              rotate_left
              ·show Act.put _ (some 8) _ = _
               simp only [Act.put, List.setIfInBounds_toArray, List.set_cons_zero, List.set_cons_succ, i64_w, i32_w]
               rfl
              exact norm_ X.S (hJ10 (gb310) _ ⟨hHeld, (X.B BK289), (X.B BK290), (X.B BK291), (X.B BK310), GW310.out, GE310.out, NB289_310.out, NB310_289.out, NB290_310.out, NB310_290.out, NB291_310.out, NB310_291.out, X.G⟩)
            ·skip
             rintro gb310 w46 ⟨hS_, h0_, h1_, h2_, h3_, h4_, h5_, h6_, h7_, h8_, h9_, h10_, h11_, h12_⟩
             have n0_ : Aside0 (w46.heap[gb289]? = some (.cells #[.int .i64 a0_0, .int .i64 a0_1, .int .i64 a0_2] 23 (0, 0))) := ⟨h0_⟩
             have n1_ : Aside0 (w46.heap[gb290]? = some (.cells #[.slice A1_0 l1_0.length c1_0, .int .i64 a1_1] 26 (0, 0))) := ⟨h1_⟩
             have n2_ : Aside0 (w46.heap[gb291]? = some (.cells #[.int .i64 a2_0, .slice A2_1 l2_1.length c2_1] 28 (0, 0))) := ⟨h2_⟩
             have n3_ : Aside0 (w46.heap[gb310]? = some (.cells #[.slice none 0 0, .int .i64 0] 31 (0, 0))) := ⟨h3_⟩
             have n4_ : Aside0 (w.heap.size ≤ gb310) := ⟨h4_⟩
             have n5_ : Aside0 (w.heap.size ≤ gb310) := ⟨h5_⟩
             have n6_ : Aside0 (gb289 ≠ gb310) := ⟨h6_⟩
             have n7_ : Aside0 (gb310 ≠ gb289) := ⟨h7_⟩
             have n8_ : Aside0 (gb290 ≠ gb310) := ⟨h8_⟩
             have n9_ : Aside0 (gb310 ≠ gb290) := ⟨h9_⟩
             have n10_ : Aside0 (gb291 ≠ gb310) := ⟨h10_⟩
             have n11_ : Aside0 (gb310 ≠ gb291) := ⟨h11_⟩
             have n12_ : Aside0 (Below w.heap.size w w46) := ⟨h12_⟩
             clear BK289
             clear BK290
             clear BK291
             clear HB
             clear h0_ h1_ h2_ h3_ h4_ h5_ h6_ h7_ h8_ h9_ h10_ h11_ h12_
             have BK289 := n0_
             have BK290 := n1_
             have BK291 := n2_
             have BK310 := n3_
             have GW310 := n4_
             have GE310 := n5_
             have NB289_310 := n6_
             have NB310_289 := n7_
             have NB290_310 := n8_
             have NB310_290 := n9_
             have NB291_310 := n10_
             have NB310_291 := n11_
             have HB := n12_
             clear n0_ n1_ n2_ n3_ n4_ n5_ n6_ n7_ n8_ n9_ n10_ n11_ n12_
             have hHeld : w46.cell? ⟨gb289, 0, none⟩ = some (.int .i64 a0_0) ∧ w46.cell? ⟨gb289, 1, none⟩ = some (.int .i64 a0_1) ∧ w46.cell? ⟨gb289, 2, none⟩ = some (.int .i64 a0_2) ∧ w46.cell? ⟨gb290, 0, none⟩ = some (.slice A1_0 l1_0.length c1_0) ∧ w46.cell? ⟨gb290, 1, none⟩ = some (.int .i64 a1_1) ∧ w46.cell? ⟨gb291, 0, none⟩ = some (.int .i64 a2_0) ∧ w46.cell? ⟨gb291, 1, none⟩ = some (.slice A2_1 l2_1.length c2_1) := hS_
             refine norm_ (a' := ?_) ?_ ?_
             rotate_left
             ·simp only [putAll, Act.put, List.setIfInBounds_toArray, List.set_cons_zero, List.set_cons_succ]
              rfl
             refine one_ (i := 1) (N := some 31) #[true, true, true, false, true, false, false, false, false, false, true, false, false] rfl rfl (one_of HT_.out (by kernel_rfl)) (by decide) (fun K hK => ?_)
             refine goes_ Try.func7 (by kernel_rfl) rfl #[.agg #[.int .i64 a0_0, .int .i64 a0_1, .int .i64 a0_2]] (by rfl) rfl rfl X.M ?_
             with_reducible refine (laws_toIsles.calls a0_0 a0_1 a0_2 t294 t295 t296 _ A25.out).mono ?_
             rintro e w47 ⟨rfl, hb⟩
             refine ⟨_, rfl, ?_⟩
             have n0_ := Aside0.mk (X.BB BK289 hb)
             have n1_ := Aside0.mk (X.BB BK290 hb)
             have n2_ := Aside0.mk (X.BB BK291 hb)
             have n3_ := Aside0.mk (X.BB BK310 hb)
             have n4_ := Aside0.mk (below_step X.G hb)
             clear BK289
             clear BK290
             clear BK291
             clear BK310
             clear HB
             have BK289 := n0_
             have BK290 := n1_
             have BK291 := n2_
             have BK310 := n3_
             have HB := n4_
             clear n0_ n1_ n2_ n3_ n4_
             (try clear hb)
             (try clear hb2)
             (try clear hk)
             (try clear hi)
             refine hK.out _ _ ⟨(blk_cell BK289.out 0).trans rfl, (blk_cell BK289.out 1).trans rfl, (blk_cell BK289.out 2).trans rfl, (blk_cell BK290.out 0).trans rfl, (blk_cell BK290.out 1).trans rfl, (blk_cell BK291.out 0).trans rfl, (blk_cell BK291.out 1).trans rfl⟩ (fun hHeld => ?_)
             clear hK K
             refine norm_ (a' := ?_) ?_ ?_
             rotate_left
             ·show Act.put _ (some 31) _ = _
              simp only [Act.put, List.setIfInBounds_toArray, List.set_cons_zero, List.set_cons_succ, i64_w, i32_w]
              rfl
             exact norm_ X.S (hJ1_10 (gb310) _ ⟨hHeld, (X.B BK289), (X.B BK290), (X.B BK291), (X.B BK310), GW310.out, GE310.out, NB289_310.out, NB310_289.out, NB290_310.out, NB310_290.out, NB291_310.out, NB310_291.out, X.G⟩)
           ·skip
            rintro _ w46 ⟨hS_, h0_, h1_, h2_, h3_⟩
            have n0_ : Aside0 (w46.heap[gb289]? = some (.cells #[.int .i64 a0_0, .int .i64 a0_1, .int .i64 a0_2] 23 (0, 0))) := ⟨h0_⟩
            have n1_ : Aside0 (w46.heap[gb290]? = some (.cells #[.slice A1_0 l1_0.length c1_0, .int .i64 a1_1] 26 (0, 0))) := ⟨h1_⟩
            have n2_ : Aside0 (w46.heap[gb291]? = some (.cells #[.int .i64 a2_0, .slice A2_1 l2_1.length c2_1] 28 (0, 0))) := ⟨h2_⟩
            have n3_ : Aside0 (Below w.heap.size w w46) := ⟨h3_⟩
            clear BK289
            clear BK290
            clear BK291
            clear HB
            clear h0_ h1_ h2_ h3_
            have BK289 := n0_
            have BK290 := n1_
            have BK291 := n2_
            have HB := n3_
            clear n0_ n1_ n2_ n3_
            have hHeld : w46.cell? ⟨gb289, 0, none⟩ = some (.int .i64 a0_0) ∧ w46.cell? ⟨gb289, 1, none⟩ = some (.int .i64 a0_1) ∧ w46.cell? ⟨gb289, 2, none⟩ = some (.int .i64 a0_2) ∧ w46.cell? ⟨gb290, 0, none⟩ = some (.slice A1_0 l1_0.length c1_0) ∧ w46.cell? ⟨gb290, 1, none⟩ = some (.int .i64 a1_1) ∧ w46.cell? ⟨gb291, 0, none⟩ = some (.int .i64 a2_0) ∧ w46.cell? ⟨gb291, 1, none⟩ = some (.slice A2_1 l2_1.length c2_1) := hS_
            refine norm_ (a' := ?_) ?_ ?_
            rotate_left
            ·simp only [putAll, Act.put, List.setIfInBounds_toArray, List.set_cons_zero, List.set_cons_succ]
             rfl
            refine two_ (i := 3) (j := 10) (Ni := some 33) (Nj := some 8) #[true, true, true, true, true, false, false, false, false, false, false, false, false] #[true, true, true, false, true, false, false, false, false, false, true, false, false] rfl rfl rfl rfl (two_of HT_.out (by kernel_rfl)) (by decide) (by decide) (fun K hK => ?_) (fun K hK => ?_)
            ·skip
             refine goes_ Try.func8 (by kernel_rfl) rfl #[.agg #[.slice A1_0 l1_0.length c1_0, .int .i64 a1_1]] (by rfl) rfl rfl X.M ?_
             with_reducible refine (laws_toPlaces.calls k _ _ l1_0 a1_1 t297 t300 _ ?side1 ?side2 A26.out).mono ?_
             (case side1 => exact X.C (Kd.C_below HR1_0.out HB.out))
             (case side2 => exact HC1_0.out)
             rintro e w47 ⟨v298, rfl, ho0, hb⟩
             refine ⟨_, rfl, ?_⟩
             have n0_ := Aside0.mk (Kd.R_lower ho0 (below_size X.G))
             have n1_ := Aside0.mk (X.BB BK289 hb)
             have n2_ := Aside0.mk (X.BB BK290 hb)
             have n3_ := Aside0.mk (X.BB BK291 hb)
             have n4_ := Aside0.mk (below_step X.G hb)
             clear BK289
             clear BK290
             clear BK291
             clear HB
             have HO299 := n0_
             have BK289 := n1_
             have BK290 := n2_
             have BK291 := n3_
             have HB := n4_
             clear n0_ n1_ n2_ n3_ n4_
             (try clear hb)
             (try clear hb2)
             (try clear hk)
             (try clear hi)
             (try clear ho0)
             refine hK.out _ _ ⟨(blk_cell BK289.out 0).trans rfl, (blk_cell BK289.out 1).trans rfl, (blk_cell BK289.out 2).trans rfl, (blk_cell BK290.out 0).trans rfl, (blk_cell BK290.out 1).trans rfl, (blk_cell BK291.out 0).trans rfl, (blk_cell BK291.out 1).trans rfl⟩ (fun hHeld => ?_)
             clear hK K
             refine norm_ (a' := ?_) ?_ ?_
             rotate_left
             ·show Act.put _ (some 33) _ = _
              simp only [Act.put, List.setIfInBounds_toArray, List.set_cons_zero, List.set_cons_succ, i64_w, i32_w]
              rfl
             exact norm_ X.S (hJ1_3 (v298) _ ⟨hHeld, (X.K HO299), (X.B BK289), (X.B BK290), (X.B BK291), X.G⟩)
            ·skip
             refine box_step ?hg (N := 8) ?hd (cs := #[.slice none 0 0, .int .i64 0]) (t := 31) ?hr ?_; (case hd => rfl); (case hg => rfl); (case hr => exact X.R)
             intro gb310 hg w47 hbox hb
             have n0_ := Aside0.mk (X.BB BK289 hb)
             have n1_ := Aside0.mk (X.BB BK290 hb)
             have n2_ := Aside0.mk (X.BB BK291 hb)
             have n3_ := Aside0.mk (below_step X.G hb)
             have n4_ := Aside0.mk (hbox)
             have n5_ := Aside0.mk ((by rw [hg]; exact (below_size X.G) : w.heap.size ≤ gb310))
             have n6_ := Aside0.mk ((by rw [hg]; exact (below_size X.G) : w.heap.size ≤ gb310))
             have n7_ := Aside0.mk ((by rw [hg]; exact Nat.ne_of_lt (X.BL BK289) : gb289 ≠ gb310))
             have n8_ := Aside0.mk ((by rw [hg]; exact Nat.ne_of_gt (X.BL BK289) : gb310 ≠ gb289))
             have n9_ := Aside0.mk ((by rw [hg]; exact Nat.ne_of_lt (X.BL BK290) : gb290 ≠ gb310))
             have n10_ := Aside0.mk ((by rw [hg]; exact Nat.ne_of_gt (X.BL BK290) : gb310 ≠ gb290))
             have n11_ := Aside0.mk ((by rw [hg]; exact Nat.ne_of_lt (X.BL BK291) : gb291 ≠ gb310))
             have n12_ := Aside0.mk ((by rw [hg]; exact Nat.ne_of_gt (X.BL BK291) : gb310 ≠ gb291))
             clear BK289
             clear BK290
             clear BK291
             clear HB
             have BK289 := n0_
             have BK290 := n1_
             have BK291 := n2_
             have HB := n3_
             have BK310 := n4_
             have GW310 := n5_
             have GE310 := n6_
             have NB289_310 := n7_
             have NB310_289 := n8_
             have NB290_310 := n9_
             have NB310_290 := n10_
             have NB291_310 := n11_
             have NB310_291 := n12_
             clear n0_ n1_ n2_ n3_ n4_ n5_ n6_ n7_ n8_ n9_ n10_ n11_ n12_
             clear hb hbox hg
             refine hK.out _ _ ⟨(blk_cell BK289.out 0).trans rfl, (blk_cell BK289.out 1).trans rfl, (blk_cell BK289.out 2).trans rfl, (blk_cell BK290.out 0).trans rfl, (blk_cell BK290.out 1).trans rfl, (blk_cell BK291.out 0).trans rfl, (blk_cell BK291.out 1).trans rfl⟩ (fun hHeld => ?_)
             clear hK K
             refine norm_ (a' := ?_) ?_ ?_
             rotate_left
             ·show Act.put _ (some 8) _ = _
              simp only [Act.put, List.setIfInBounds_toArray, List.set_cons_zero, List.set_cons_succ, i64_w, i32_w]
              rfl
             exact norm_ X.S (hJ1_10 (gb310) _ ⟨hHeld, (X.B BK289), (X.B BK290), (X.B BK291), (X.B BK310), GW310.out, GE310.out, NB289_310.out, NB310_289.out, NB290_310.out, NB310_290.out, NB291_310.out, NB310_291.out, X.G⟩)
          ·skip
           rintro gb310 w47 ⟨hS_, h0_, h1_, h2_, h3_, h4_, h5_, h6_, h7_, h8_, h9_, h10_, h11_, h12_⟩
           have n0_ : Aside0 (w47.heap[gb289]? = some (.cells #[.int .i64 a0_0, .int .i64 a0_1, .int .i64 a0_2] 23 (0, 0))) := ⟨h0_⟩
           have n1_ : Aside0 (w47.heap[gb290]? = some (.cells #[.slice A1_0 l1_0.length c1_0, .int .i64 a1_1] 26 (0, 0))) := ⟨h1_⟩
           have n2_ : Aside0 (w47.heap[gb291]? = some (.cells #[.int .i64 a2_0, .slice A2_1 l2_1.length c2_1] 28 (0, 0))) := ⟨h2_⟩
           have n3_ : Aside0 (w47.heap[gb310]? = some (.cells #[.slice none 0 0, .int .i64 0] 31 (0, 0))) := ⟨h3_⟩
           have n4_ : Aside0 (w.heap.size ≤ gb310) := ⟨h4_⟩
           have n5_ : Aside0 (w.heap.size ≤ gb310) := ⟨h5_⟩
           have n6_ : Aside0 (gb289 ≠ gb310) := ⟨h6_⟩
           have n7_ : Aside0 (gb310 ≠ gb289) := ⟨h7_⟩
           have n8_ : Aside0 (gb290 ≠ gb310) := ⟨h8_⟩
           have n9_ : Aside0 (gb310 ≠ gb290) := ⟨h9_⟩
           have n10_ : Aside0 (gb291 ≠ gb310) := ⟨h10_⟩
           have n11_ : Aside0 (gb310 ≠ gb291) := ⟨h11_⟩
           have n12_ : Aside0 (Below w.heap.size w w47) := ⟨h12_⟩
           clear BK289
           clear BK290
           clear BK291
           clear HB
           clear h0_ h1_ h2_ h3_ h4_ h5_ h6_ h7_ h8_ h9_ h10_ h11_ h12_
           have BK289 := n0_
           have BK290 := n1_
           have BK291 := n2_
           have BK310 := n3_
           have GW310 := n4_
           have GE310 := n5_
           have NB289_310 := n6_
           have NB310_289 := n7_
           have NB290_310 := n8_
           have NB310_290 := n9_
           have NB291_310 := n10_
           have NB310_291 := n11_
           have HB := n12_
           clear n0_ n1_ n2_ n3_ n4_ n5_ n6_ n7_ n8_ n9_ n10_ n11_ n12_
           have hHeld : w47.cell? ⟨gb289, 0, none⟩ = some (.int .i64 a0_0) ∧ w47.cell? ⟨gb289, 1, none⟩ = some (.int .i64 a0_1) ∧ w47.cell? ⟨gb289, 2, none⟩ = some (.int .i64 a0_2) ∧ w47.cell? ⟨gb290, 0, none⟩ = some (.slice A1_0 l1_0.length c1_0) ∧ w47.cell? ⟨gb290, 1, none⟩ = some (.int .i64 a1_1) ∧ w47.cell? ⟨gb291, 0, none⟩ = some (.int .i64 a2_0) ∧ w47.cell? ⟨gb291, 1, none⟩ = some (.slice A2_1 l2_1.length c2_1) := hS_
           refine norm_ (a' := ?_) ?_ ?_
           rotate_left
           ·simp only [putAll, Act.put, List.setIfInBounds_toArray, List.set_cons_zero, List.set_cons_succ]
            rfl
           refine one_ (i := 3) (N := some 33) #[true, true, true, true, true, false, false, false, false, false, true, false, false] rfl rfl (one_of HT_.out (by kernel_rfl)) (by decide) (fun K hK => ?_)
           refine goes_ Try.func8 (by kernel_rfl) rfl #[.agg #[.slice A1_0 l1_0.length c1_0, .int .i64 a1_1]] (by rfl) rfl rfl X.M ?_
           with_reducible refine (laws_toPlaces.calls k _ _ l1_0 a1_1 t297 t300 _ ?side1 ?side2 A26.out).mono ?_
           (case side1 => exact X.C (Kd.C_below HR1_0.out HB.out))
           (case side2 => exact HC1_0.out)
           rintro e w48 ⟨v298, rfl, ho0, hb⟩
           refine ⟨_, rfl, ?_⟩
           have n0_ := Aside0.mk (Kd.R_lower ho0 (below_size X.G))
           have n1_ := Aside0.mk (X.BB BK289 hb)
           have n2_ := Aside0.mk (X.BB BK290 hb)
           have n3_ := Aside0.mk (X.BB BK291 hb)
           have n4_ := Aside0.mk (X.BB BK310 hb)
           have n5_ := Aside0.mk (below_step X.G hb)
           clear BK289
           clear BK290
           clear BK291
           clear BK310
           clear HB
           have HO299 := n0_
           have BK289 := n1_
           have BK290 := n2_
           have BK291 := n3_
           have BK310 := n4_
           have HB := n5_
           clear n0_ n1_ n2_ n3_ n4_ n5_
           (try clear hb)
           (try clear hb2)
           (try clear hk)
           (try clear hi)
           (try clear ho0)
           refine hK.out _ _ ⟨(blk_cell BK289.out 0).trans rfl, (blk_cell BK289.out 1).trans rfl, (blk_cell BK289.out 2).trans rfl, (blk_cell BK290.out 0).trans rfl, (blk_cell BK290.out 1).trans rfl, (blk_cell BK291.out 0).trans rfl, (blk_cell BK291.out 1).trans rfl⟩ (fun hHeld => ?_)
           clear hK K
           refine norm_ (a' := ?_) ?_ ?_
           rotate_left
           ·show Act.put _ (some 33) _ = _
            simp only [Act.put, List.setIfInBounds_toArray, List.set_cons_zero, List.set_cons_succ, i64_w, i32_w]
            rfl
           exact norm_ X.S (hJ1_3_10 (v298, gb310) _ ⟨hHeld, (X.K HO299), (X.B BK289), (X.B BK290), (X.B BK291), (X.B BK310), GW310.out, GE310.out, NB289_310.out, NB310_289.out, NB290_310.out, NB310_290.out, NB291_310.out, NB310_291.out, X.G⟩)
         ·skip
          rintro v298 w47 ⟨hS_, h0_, h1_, h2_, h3_, h4_⟩
          have n0_ : Aside0 (Kd.R (Kd.int .i64) 3 w47 w.heap.size (fun _ => True) v298 t297) := ⟨h0_⟩
          have n1_ : Aside0 (w47.heap[gb289]? = some (.cells #[.int .i64 a0_0, .int .i64 a0_1, .int .i64 a0_2] 23 (0, 0))) := ⟨h1_⟩
          have n2_ : Aside0 (w47.heap[gb290]? = some (.cells #[.slice A1_0 l1_0.length c1_0, .int .i64 a1_1] 26 (0, 0))) := ⟨h2_⟩
          have n3_ : Aside0 (w47.heap[gb291]? = some (.cells #[.int .i64 a2_0, .slice A2_1 l2_1.length c2_1] 28 (0, 0))) := ⟨h3_⟩
          have n4_ : Aside0 (Below w.heap.size w w47) := ⟨h4_⟩
          clear BK289
          clear BK290
          clear BK291
          clear HB
          clear h0_ h1_ h2_ h3_ h4_
          have HO299 := n0_
          have BK289 := n1_
          have BK290 := n2_
          have BK291 := n3_
          have HB := n4_
          clear n0_ n1_ n2_ n3_ n4_
          have hHeld : w47.cell? ⟨gb289, 0, none⟩ = some (.int .i64 a0_0) ∧ w47.cell? ⟨gb289, 1, none⟩ = some (.int .i64 a0_1) ∧ w47.cell? ⟨gb289, 2, none⟩ = some (.int .i64 a0_2) ∧ w47.cell? ⟨gb290, 0, none⟩ = some (.slice A1_0 l1_0.length c1_0) ∧ w47.cell? ⟨gb290, 1, none⟩ = some (.int .i64 a1_1) ∧ w47.cell? ⟨gb291, 0, none⟩ = some (.int .i64 a2_0) ∧ w47.cell? ⟨gb291, 1, none⟩ = some (.slice A2_1 l2_1.length c2_1) := hS_
          refine norm_ (a' := ?_) ?_ ?_
          rotate_left
          ·simp only [putAll, Act.put, List.setIfInBounds_toArray, List.set_cons_zero, List.set_cons_succ]
           rfl
          refine two_ (i := 5) (j := 10) (Ni := some 35) (Nj := some 8) #[true, true, true, true, true, true, false, false, false, false, false, false, false] #[true, true, true, true, true, false, false, false, false, false, true, false, false] rfl rfl rfl rfl (two_of HT_.out (by kernel_rfl)) (by decide) (by decide) (fun K hK => ?_) (fun K hK => ?_)
          ·skip
           refine goes_ Try.func9 (by kernel_rfl) rfl #[.agg #[.int .i64 a2_0, .slice A2_1 l2_1.length c2_1]] (by rfl) rfl rfl X.M ?_
           with_reducible refine (laws_toVoyage.calls k a2_0 _ _ l2_1 t301 t302 _ ?side1 ?side2 A27.out).mono ?_
           (case side1 => exact X.C (Kd.C_below HR2_1.out HB.out))
           (case side2 => exact HC2_1.out)
           rintro e w48 ⟨v303, rfl, ho0, hb⟩
           refine ⟨_, rfl, ?_⟩
           have n0_ := Aside0.mk (Kd.R_elder' (X.K HO299) (Kd.R_base ho0) hb)
           have n1_ := Aside0.mk (Kd.R_lower (Kd.R_new' ho0 (Kd.R_lt (X.K HO299))) (below_size X.G))
           have n2_ := Aside0.mk (X.BB BK289 hb)
           have n3_ := Aside0.mk (X.BB BK290 hb)
           have n4_ := Aside0.mk (X.BB BK291 hb)
           have n5_ := Aside0.mk (below_step X.G hb)
           clear HO299
           clear BK289
           clear BK290
           clear BK291
           clear HB
           have HO299 := n0_
           have HO304 := n1_
           have BK289 := n2_
           have BK290 := n3_
           have BK291 := n4_
           have HB := n5_
           clear n0_ n1_ n2_ n3_ n4_ n5_
           (try clear hb)
           (try clear hb2)
           (try clear hk)
           (try clear hi)
           (try clear ho0)
           refine hK.out _ _ ⟨(blk_cell BK289.out 0).trans rfl, (blk_cell BK289.out 1).trans rfl, (blk_cell BK289.out 2).trans rfl, (blk_cell BK290.out 0).trans rfl, (blk_cell BK290.out 1).trans rfl, (blk_cell BK291.out 0).trans rfl, (blk_cell BK291.out 1).trans rfl⟩ (fun hHeld => ?_)
           clear hK K
           refine norm_ (a' := ?_) ?_ ?_
           rotate_left
           ·show Act.put _ (some 35) _ = _
            simp only [Act.put, List.setIfInBounds_toArray, List.set_cons_zero, List.set_cons_succ, i64_w, i32_w]
            rfl
           exact norm_ X.S (hJ1_3_5 (v298, v303) _ ⟨hHeld, (by (with_reducible repeat (first | apply Kd.R_alloc | apply Kd.R_drewN | apply Kd.R_drew)); exact Kd.R_mono HO299.out (fun _ hk => hk.2)), (by (with_reducible repeat (first | apply Kd.R_alloc | apply Kd.R_drewN | apply Kd.R_drew)); exact Kd.R_mono HO304.out (fun _ hk => hk.2)), (X.B BK289), (X.B BK290), (X.B BK291), X.G⟩)
          ·skip
           refine box_step ?hg (N := 8) ?hd (cs := #[.slice none 0 0, .int .i64 0]) (t := 31) ?hr ?_; (case hd => rfl); (case hg => rfl); (case hr => exact X.R)
           intro gb310 hg w48 hbox hb
           have n0_ := Aside0.mk (Kd.R_below (X.K HO299) hb)
           have n1_ := Aside0.mk (X.BB BK289 hb)
           have n2_ := Aside0.mk (X.BB BK290 hb)
           have n3_ := Aside0.mk (X.BB BK291 hb)
           have n4_ := Aside0.mk (below_step X.G hb)
           have n5_ := Aside0.mk (hbox)
           have n6_ := Aside0.mk ((by rw [hg]; exact (below_size X.G) : w.heap.size ≤ gb310))
           have n7_ := Aside0.mk ((by rw [hg]; exact (below_size X.G) : w.heap.size ≤ gb310))
           have n8_ := Aside0.mk ((by rw [hg]; exact Nat.ne_of_lt (X.BL BK289) : gb289 ≠ gb310))
           have n9_ := Aside0.mk ((by rw [hg]; exact Nat.ne_of_gt (X.BL BK289) : gb310 ≠ gb289))
           have n10_ := Aside0.mk ((by rw [hg]; exact Nat.ne_of_lt (X.BL BK290) : gb290 ≠ gb310))
           have n11_ := Aside0.mk ((by rw [hg]; exact Nat.ne_of_gt (X.BL BK290) : gb310 ≠ gb290))
           have n12_ := Aside0.mk ((by rw [hg]; exact Nat.ne_of_lt (X.BL BK291) : gb291 ≠ gb310))
           have n13_ := Aside0.mk ((by rw [hg]; exact Nat.ne_of_gt (X.BL BK291) : gb310 ≠ gb291))
           clear HO299
           clear BK289
           clear BK290
           clear BK291
           clear HB
           have HO299 := n0_
           have BK289 := n1_
           have BK290 := n2_
           have BK291 := n3_
           have HB := n4_
           have BK310 := n5_
           have GW310 := n6_
           have GE310 := n7_
           have NB289_310 := n8_
           have NB310_289 := n9_
           have NB290_310 := n10_
           have NB310_290 := n11_
           have NB291_310 := n12_
           have NB310_291 := n13_
           clear n0_ n1_ n2_ n3_ n4_ n5_ n6_ n7_ n8_ n9_ n10_ n11_ n12_ n13_
           clear hb hbox hg
           refine hK.out _ _ ⟨(blk_cell BK289.out 0).trans rfl, (blk_cell BK289.out 1).trans rfl, (blk_cell BK289.out 2).trans rfl, (blk_cell BK290.out 0).trans rfl, (blk_cell BK290.out 1).trans rfl, (blk_cell BK291.out 0).trans rfl, (blk_cell BK291.out 1).trans rfl⟩ (fun hHeld => ?_)
           clear hK K
           refine norm_ (a' := ?_) ?_ ?_
           rotate_left
           ·show Act.put _ (some 8) _ = _
            simp only [Act.put, List.setIfInBounds_toArray, List.set_cons_zero, List.set_cons_succ, i64_w, i32_w]
            rfl
           exact norm_ X.S (hJ1_3_10 (v298, gb310) _ ⟨hHeld, (X.K HO299), (X.B BK289), (X.B BK290), (X.B BK291), (X.B BK310), GW310.out, GE310.out, NB289_310.out, NB310_289.out, NB290_310.out, NB310_290.out, NB291_310.out, NB310_291.out, X.G⟩)
        ·skip
         rintro ⟨v298, gb310⟩ w48 ⟨hS_, h0_, h1_, h2_, h3_, h4_, h5_, h6_, h7_, h8_, h9_, h10_, h11_, h12_, h13_⟩
         have n0_ : Aside0 (Kd.R (Kd.int .i64) 3 w48 w.heap.size (fun _ => True) v298 t297) := ⟨h0_⟩
         have n1_ : Aside0 (w48.heap[gb289]? = some (.cells #[.int .i64 a0_0, .int .i64 a0_1, .int .i64 a0_2] 23 (0, 0))) := ⟨h1_⟩
         have n2_ : Aside0 (w48.heap[gb290]? = some (.cells #[.slice A1_0 l1_0.length c1_0, .int .i64 a1_1] 26 (0, 0))) := ⟨h2_⟩
         have n3_ : Aside0 (w48.heap[gb291]? = some (.cells #[.int .i64 a2_0, .slice A2_1 l2_1.length c2_1] 28 (0, 0))) := ⟨h3_⟩
         have n4_ : Aside0 (w48.heap[gb310]? = some (.cells #[.slice none 0 0, .int .i64 0] 31 (0, 0))) := ⟨h4_⟩
         have n5_ : Aside0 (w.heap.size ≤ gb310) := ⟨h5_⟩
         have n6_ : Aside0 (w.heap.size ≤ gb310) := ⟨h6_⟩
         have n7_ : Aside0 (gb289 ≠ gb310) := ⟨h7_⟩
         have n8_ : Aside0 (gb310 ≠ gb289) := ⟨h8_⟩
         have n9_ : Aside0 (gb290 ≠ gb310) := ⟨h9_⟩
         have n10_ : Aside0 (gb310 ≠ gb290) := ⟨h10_⟩
         have n11_ : Aside0 (gb291 ≠ gb310) := ⟨h11_⟩
         have n12_ : Aside0 (gb310 ≠ gb291) := ⟨h12_⟩
         have n13_ : Aside0 (Below w.heap.size w w48) := ⟨h13_⟩
         clear BK289
         clear BK290
         clear BK291
         clear HB
         clear h0_ h1_ h2_ h3_ h4_ h5_ h6_ h7_ h8_ h9_ h10_ h11_ h12_ h13_
         have HO299 := n0_
         have BK289 := n1_
         have BK290 := n2_
         have BK291 := n3_
         have BK310 := n4_
         have GW310 := n5_
         have GE310 := n6_
         have NB289_310 := n7_
         have NB310_289 := n8_
         have NB290_310 := n9_
         have NB310_290 := n10_
         have NB291_310 := n11_
         have NB310_291 := n12_
         have HB := n13_
         clear n0_ n1_ n2_ n3_ n4_ n5_ n6_ n7_ n8_ n9_ n10_ n11_ n12_ n13_
         have hHeld : w48.cell? ⟨gb289, 0, none⟩ = some (.int .i64 a0_0) ∧ w48.cell? ⟨gb289, 1, none⟩ = some (.int .i64 a0_1) ∧ w48.cell? ⟨gb289, 2, none⟩ = some (.int .i64 a0_2) ∧ w48.cell? ⟨gb290, 0, none⟩ = some (.slice A1_0 l1_0.length c1_0) ∧ w48.cell? ⟨gb290, 1, none⟩ = some (.int .i64 a1_1) ∧ w48.cell? ⟨gb291, 0, none⟩ = some (.int .i64 a2_0) ∧ w48.cell? ⟨gb291, 1, none⟩ = some (.slice A2_1 l2_1.length c2_1) := hS_
         refine norm_ (a' := ?_) ?_ ?_
         rotate_left
         ·simp only [putAll, Act.put, List.setIfInBounds_toArray, List.set_cons_zero, List.set_cons_succ]
          rfl
         refine one_ (i := 5) (N := some 35) #[true, true, true, true, true, true, false, false, false, false, true, false, false] rfl rfl (one_of HT_.out (by kernel_rfl)) (by decide) (fun K hK => ?_)
         refine goes_ Try.func9 (by kernel_rfl) rfl #[.agg #[.int .i64 a2_0, .slice A2_1 l2_1.length c2_1]] (by rfl) rfl rfl X.M ?_
         with_reducible refine (laws_toVoyage.calls k a2_0 _ _ l2_1 t301 t302 _ ?side1 ?side2 A27.out).mono ?_
         (case side1 => exact X.C (Kd.C_below HR2_1.out HB.out))
         (case side2 => exact HC2_1.out)
         rintro e w49 ⟨v303, rfl, ho0, hb⟩
         refine ⟨_, rfl, ?_⟩
         have n0_ := Aside0.mk (Kd.R_elder' (X.K HO299) (Kd.R_base ho0) hb)
         have n1_ := Aside0.mk (Kd.R_lower (Kd.R_new' ho0 (Kd.R_lt (X.K HO299))) (below_size X.G))
         have n2_ := Aside0.mk (X.BB BK289 hb)
         have n3_ := Aside0.mk (X.BB BK290 hb)
         have n4_ := Aside0.mk (X.BB BK291 hb)
         have n5_ := Aside0.mk (X.BB BK310 hb)
         have n6_ := Aside0.mk (below_step X.G hb)
         clear HO299
         clear BK289
         clear BK290
         clear BK291
         clear BK310
         clear HB
         have HO299 := n0_
         have HO304 := n1_
         have BK289 := n2_
         have BK290 := n3_
         have BK291 := n4_
         have BK310 := n5_
         have HB := n6_
         clear n0_ n1_ n2_ n3_ n4_ n5_ n6_
         (try clear hb)
         (try clear hb2)
         (try clear hk)
         (try clear hi)
         (try clear ho0)
         refine hK.out _ _ ⟨(blk_cell BK289.out 0).trans rfl, (blk_cell BK289.out 1).trans rfl, (blk_cell BK289.out 2).trans rfl, (blk_cell BK290.out 0).trans rfl, (blk_cell BK290.out 1).trans rfl, (blk_cell BK291.out 0).trans rfl, (blk_cell BK291.out 1).trans rfl⟩ (fun hHeld => ?_)
         clear hK K
         refine norm_ (a' := ?_) ?_ ?_
         rotate_left
         ·show Act.put _ (some 35) _ = _
          simp only [Act.put, List.setIfInBounds_toArray, List.set_cons_zero, List.set_cons_succ, i64_w, i32_w]
          rfl
         exact norm_ X.S (hJ1_3_5_10 (v298, v303, gb310) _ ⟨hHeld, (by (with_reducible repeat (first | apply Kd.R_alloc | apply Kd.R_drewN | apply Kd.R_drew)); exact Kd.R_mono HO299.out (fun _ hk => hk.2)), (by (with_reducible repeat (first | apply Kd.R_alloc | apply Kd.R_drewN | apply Kd.R_drew)); exact Kd.R_mono HO304.out (fun _ hk => hk.2)), (X.B BK289), (X.B BK290), (X.B BK291), (X.B BK310), GW310.out, GE310.out, NB289_310.out, NB310_289.out, NB290_310.out, NB310_290.out, NB291_310.out, NB310_291.out, X.G⟩)
       ·skip
        rintro ⟨v298, v303⟩ w48 ⟨hS_, h0_, h1_, h2_, h3_, h4_, h5_⟩
        have n0_ : Aside0 (Kd.R (Kd.int .i64) 3 w48 w.heap.size (fun k_ => some k_ ≠ (v303 : Value).ownBlock) v298 t297) := ⟨h0_⟩
        have n1_ : Aside0 (Kd.R (Kd.int .i64) 3 w48 w.heap.size (fun k_ => some k_ ≠ (v298 : Value).ownBlock) v303 t302) := ⟨h1_⟩
        have n2_ : Aside0 (w48.heap[gb289]? = some (.cells #[.int .i64 a0_0, .int .i64 a0_1, .int .i64 a0_2] 23 (0, 0))) := ⟨h2_⟩
        have n3_ : Aside0 (w48.heap[gb290]? = some (.cells #[.slice A1_0 l1_0.length c1_0, .int .i64 a1_1] 26 (0, 0))) := ⟨h3_⟩
        have n4_ : Aside0 (w48.heap[gb291]? = some (.cells #[.int .i64 a2_0, .slice A2_1 l2_1.length c2_1] 28 (0, 0))) := ⟨h4_⟩
        have n5_ : Aside0 (Below w.heap.size w w48) := ⟨h5_⟩
        clear BK289
        clear BK290
        clear BK291
        clear HB
        clear h0_ h1_ h2_ h3_ h4_ h5_
        have HO299 := n0_
        have HO304 := n1_
        have BK289 := n2_
        have BK290 := n3_
        have BK291 := n4_
        have HB := n5_
        clear n0_ n1_ n2_ n3_ n4_ n5_
        have hHeld : w48.cell? ⟨gb289, 0, none⟩ = some (.int .i64 a0_0) ∧ w48.cell? ⟨gb289, 1, none⟩ = some (.int .i64 a0_1) ∧ w48.cell? ⟨gb289, 2, none⟩ = some (.int .i64 a0_2) ∧ w48.cell? ⟨gb290, 0, none⟩ = some (.slice A1_0 l1_0.length c1_0) ∧ w48.cell? ⟨gb290, 1, none⟩ = some (.int .i64 a1_1) ∧ w48.cell? ⟨gb291, 0, none⟩ = some (.int .i64 a2_0) ∧ w48.cell? ⟨gb291, 1, none⟩ = some (.slice A2_1 l2_1.length c2_1) := hS_
        obtain ⟨Ao49, co49, eo49⟩ := Kd.R_slice HO299.out
        (first | subst eo49 | (injection eo49 with f1_ f2_ f3_; have f4_ := f1_.symm; have f5_ := f3_.symm; clear f1_ f2_ f3_; subst f4_; subst f5_))
        obtain ⟨Ao50, co50, eo50⟩ := Kd.R_slice HO304.out
        (first | subst eo50 | (injection eo50 with f1_ f2_ f3_; have f4_ := f1_.symm; have f5_ := f3_.symm; clear f1_ f2_ f3_; subst f4_; subst f5_))
        refine norm_ (a' := ?_) ?_ ?_
        rotate_left
        ·simp only [putAll, Act.put, List.setIfInBounds_toArray, List.set_cons_zero, List.set_cons_succ]
         rfl
        refine two_ (i := 6) (j := 10) (Ni := some 36) (Nj := some 8) #[true, true, true, true, true, true, true, false, false, false, false, false, false] #[true, true, true, true, true, true, false, false, false, false, true, false, false] rfl rfl rfl rfl (two_of HT_.out (by kernel_rfl)) (by decide) (by decide) (fun K hK => ?_) (fun K hK => ?_)
        ·skip
         refine goes_ Try.func6 (by kernel_rfl) rfl #[.agg #[.int .i64 t294, .int .i64 t295, .int .i64 t296], .agg #[.slice Ao49 t297.length co49, .int .i64 t300], .agg #[.int .i64 t301, .slice Ao50 t302.length co50]] (by rfl) rfl rfl X.M ?_
         with_reducible refine (spec_Sail.calls k t294 t295 t296 _ _ t297 t300 t301 _ _ t302 t305 t308 t309 _ ?side1 ?side2 ?side3 ?side4 A28.out).mono ?_
         (case side1 => exact X.C (Kd.R_reads' HO299.out).2.2)
         (case side2 => exact (Kd.R_reads' HO299.out).2.1)
         (case side3 => exact X.C (Kd.R_reads' HO304.out).2.2)
         (case side4 => exact (Kd.R_reads' HO304.out).2.1)
         rintro e w51 ⟨v306, rfl, ho0, hb⟩
         refine ⟨_, rfl, ?_⟩
         have n0_ := Aside0.mk (Kd.R_elder' (X.K HO299) (Kd.R_base ho0) hb)
         have n1_ := Aside0.mk (Kd.R_elder' (X.K HO304) (Kd.R_base ho0) hb)
         have n2_ := Aside0.mk (Kd.R_lower (Kd.R_new' (Kd.R_new' ho0 (Kd.R_lt (X.K HO299))) (Kd.R_lt (X.K HO304))) (below_size X.G))
         have n3_ := Aside0.mk (X.BB BK289 hb)
         have n4_ := Aside0.mk (X.BB BK290 hb)
         have n5_ := Aside0.mk (X.BB BK291 hb)
         have n6_ := Aside0.mk (below_step X.G hb)
         clear HO299
         clear HO304
         clear BK289
         clear BK290
         clear BK291
         clear HB
         have HO299 := n0_
         have HO304 := n1_
         have HO307 := n2_
         have BK289 := n3_
         have BK290 := n4_
         have BK291 := n5_
         have HB := n6_
         clear n0_ n1_ n2_ n3_ n4_ n5_ n6_
         (try clear hb)
         (try clear hb2)
         (try clear hk)
         (try clear hi)
         (try clear ho0)
         refine hK.out _ _ ⟨(blk_cell BK289.out 0).trans rfl, (blk_cell BK289.out 1).trans rfl, (blk_cell BK289.out 2).trans rfl, (blk_cell BK290.out 0).trans rfl, (blk_cell BK290.out 1).trans rfl, (blk_cell BK291.out 0).trans rfl, (blk_cell BK291.out 1).trans rfl⟩ (fun hHeld => ?_)
         clear hK K
         refine norm_ (a' := ?_) ?_ ?_
         rotate_left
         ·show Act.put _ (some 36) _ = _
          simp only [Act.put, List.setIfInBounds_toArray, List.set_cons_zero, List.set_cons_succ, i64_w, i32_w]
          rfl
         refine pure_ (i := 7) (N := some 29) (v := ?_) (a' := ?_) #[true, true, true, true, true, true, true, true, false, false, false, false, false] rfl rfl (any_of HT_.out (by kernel_rfl)) (fun _ _ _ h => h) (Or.inl ⟨by rfl, ?_⟩) ?_ ?_
         rotate_left
         ·intro w'
          go_simp
          with_reducible rfl
         rotate_left
         ·exact X.Pu
         refine pure_ (i := 8) (N := some 37) (v := ?_) (a' := ?_) #[true, true, true, true, true, true, true, true, true, false, false, false, false] rfl rfl (any_of HT_.out (by kernel_rfl)) (fun _ _ _ h => h) (Or.inl ⟨by rfl, ?_⟩) ?_ ?_
         rotate_left
         ·intro w'
          go_simp
          with_reducible rfl
         rotate_left
         ·exact X.Pu
         refine pure_ (i := 9) (N := some 38) (v := ?_) (a' := ?_) #[true, true, true, true, true, true, true, true, true, true, false, false, false] rfl rfl (any_of HT_.out (by kernel_rfl)) (fun _ _ _ h => h) (Or.inl ⟨by rfl, ?_⟩) ?_ ?_
         rotate_left
         ·intro w'
          go_simp
          with_reducible rfl
         rotate_left
         ·exact X.Pu
         exact norm_ X.S (hJ1_3_5_6 (.slice Ao49 t297.length co49, .slice Ao50 t302.length co50, v306) _ ⟨hHeld, (X.K HO299), (X.K HO304), (by (with_reducible repeat (first | apply Kd.R_alloc | apply Kd.R_drewN | apply Kd.R_drew)); exact Kd.R_mono HO307.out (fun _ hk => ⟨hk.1.2, hk.2⟩)), (X.B BK289), (X.B BK290), (X.B BK291), X.G⟩)
        ·skip
         refine box_step ?hg (N := 8) ?hd (cs := #[.slice none 0 0, .int .i64 0]) (t := 31) ?hr ?_; (case hd => rfl); (case hg => rfl); (case hr => exact X.R)
         intro gb310 hg w49 hbox hb
         have n0_ := Aside0.mk (Kd.R_below (X.K HO299) hb)
         have n1_ := Aside0.mk (Kd.R_below (X.K HO304) hb)
         have n2_ := Aside0.mk (X.BB BK289 hb)
         have n3_ := Aside0.mk (X.BB BK290 hb)
         have n4_ := Aside0.mk (X.BB BK291 hb)
         have n5_ := Aside0.mk (below_step X.G hb)
         have n6_ := Aside0.mk (hbox)
         have n7_ := Aside0.mk ((by rw [hg]; exact (below_size X.G) : w.heap.size ≤ gb310))
         have n8_ := Aside0.mk ((by rw [hg]; exact (below_size X.G) : w.heap.size ≤ gb310))
         have n9_ := Aside0.mk ((by rw [hg]; exact Nat.ne_of_lt (X.BL BK289) : gb289 ≠ gb310))
         have n10_ := Aside0.mk ((by rw [hg]; exact Nat.ne_of_gt (X.BL BK289) : gb310 ≠ gb289))
         have n11_ := Aside0.mk ((by rw [hg]; exact Nat.ne_of_lt (X.BL BK290) : gb290 ≠ gb310))
         have n12_ := Aside0.mk ((by rw [hg]; exact Nat.ne_of_gt (X.BL BK290) : gb310 ≠ gb290))
         have n13_ := Aside0.mk ((by rw [hg]; exact Nat.ne_of_lt (X.BL BK291) : gb291 ≠ gb310))
         have n14_ := Aside0.mk ((by rw [hg]; exact Nat.ne_of_gt (X.BL BK291) : gb310 ≠ gb291))
         clear HO299
         clear HO304
         clear BK289
         clear BK290
         clear BK291
         clear HB
         have HO299 := n0_
         have HO304 := n1_
         have BK289 := n2_
         have BK290 := n3_
         have BK291 := n4_
         have HB := n5_
         have BK310 := n6_
         have GW310 := n7_
         have GE310 := n8_
         have NB289_310 := n9_
         have NB310_289 := n10_
         have NB290_310 := n11_
         have NB310_290 := n12_
         have NB291_310 := n13_
         have NB310_291 := n14_
         clear n0_ n1_ n2_ n3_ n4_ n5_ n6_ n7_ n8_ n9_ n10_ n11_ n12_ n13_ n14_
         clear hb hbox hg
         refine hK.out _ _ ⟨(blk_cell BK289.out 0).trans rfl, (blk_cell BK289.out 1).trans rfl, (blk_cell BK289.out 2).trans rfl, (blk_cell BK290.out 0).trans rfl, (blk_cell BK290.out 1).trans rfl, (blk_cell BK291.out 0).trans rfl, (blk_cell BK291.out 1).trans rfl⟩ (fun hHeld => ?_)
         clear hK K
         refine norm_ (a' := ?_) ?_ ?_
         rotate_left
         ·show Act.put _ (some 8) _ = _
          simp only [Act.put, List.setIfInBounds_toArray, List.set_cons_zero, List.set_cons_succ, i64_w, i32_w]
          rfl
         exact norm_ X.S (hJ1_3_5_10 ((.slice Ao49 t297.length co49), (.slice Ao50 t302.length co50), gb310) _ ⟨hHeld, (X.K HO299), (X.K HO304), (X.B BK289), (X.B BK290), (X.B BK291), (X.B BK310), GW310.out, GE310.out, NB289_310.out, NB310_289.out, NB290_310.out, NB310_290.out, NB291_310.out, NB310_291.out, X.G⟩)
      ·skip
       rintro ⟨v298, v303, gb310⟩ w49 ⟨hS_, h0_, h1_, h2_, h3_, h4_, h5_, h6_, h7_, h8_, h9_, h10_, h11_, h12_, h13_, h14_⟩
       have n0_ : Aside0 (Kd.R (Kd.int .i64) 3 w49 w.heap.size (fun k_ => some k_ ≠ (v303 : Value).ownBlock) v298 t297) := ⟨h0_⟩
       have n1_ : Aside0 (Kd.R (Kd.int .i64) 3 w49 w.heap.size (fun k_ => some k_ ≠ (v298 : Value).ownBlock) v303 t302) := ⟨h1_⟩
       have n2_ : Aside0 (w49.heap[gb289]? = some (.cells #[.int .i64 a0_0, .int .i64 a0_1, .int .i64 a0_2] 23 (0, 0))) := ⟨h2_⟩
       have n3_ : Aside0 (w49.heap[gb290]? = some (.cells #[.slice A1_0 l1_0.length c1_0, .int .i64 a1_1] 26 (0, 0))) := ⟨h3_⟩
       have n4_ : Aside0 (w49.heap[gb291]? = some (.cells #[.int .i64 a2_0, .slice A2_1 l2_1.length c2_1] 28 (0, 0))) := ⟨h4_⟩
       have n5_ : Aside0 (w49.heap[gb310]? = some (.cells #[.slice none 0 0, .int .i64 0] 31 (0, 0))) := ⟨h5_⟩
       have n6_ : Aside0 (w.heap.size ≤ gb310) := ⟨h6_⟩
       have n7_ : Aside0 (w.heap.size ≤ gb310) := ⟨h7_⟩
       have n8_ : Aside0 (gb289 ≠ gb310) := ⟨h8_⟩
       have n9_ : Aside0 (gb310 ≠ gb289) := ⟨h9_⟩
       have n10_ : Aside0 (gb290 ≠ gb310) := ⟨h10_⟩
       have n11_ : Aside0 (gb310 ≠ gb290) := ⟨h11_⟩
       have n12_ : Aside0 (gb291 ≠ gb310) := ⟨h12_⟩
       have n13_ : Aside0 (gb310 ≠ gb291) := ⟨h13_⟩
       have n14_ : Aside0 (Below w.heap.size w w49) := ⟨h14_⟩
       clear BK289
       clear BK290
       clear BK291
       clear HB
       clear h0_ h1_ h2_ h3_ h4_ h5_ h6_ h7_ h8_ h9_ h10_ h11_ h12_ h13_ h14_
       have HO299 := n0_
       have HO304 := n1_
       have BK289 := n2_
       have BK290 := n3_
       have BK291 := n4_
       have BK310 := n5_
       have GW310 := n6_
       have GE310 := n7_
       have NB289_310 := n8_
       have NB310_289 := n9_
       have NB290_310 := n10_
       have NB310_290 := n11_
       have NB291_310 := n12_
       have NB310_291 := n13_
       have HB := n14_
       clear n0_ n1_ n2_ n3_ n4_ n5_ n6_ n7_ n8_ n9_ n10_ n11_ n12_ n13_ n14_
       have hHeld : w49.cell? ⟨gb289, 0, none⟩ = some (.int .i64 a0_0) ∧ w49.cell? ⟨gb289, 1, none⟩ = some (.int .i64 a0_1) ∧ w49.cell? ⟨gb289, 2, none⟩ = some (.int .i64 a0_2) ∧ w49.cell? ⟨gb290, 0, none⟩ = some (.slice A1_0 l1_0.length c1_0) ∧ w49.cell? ⟨gb290, 1, none⟩ = some (.int .i64 a1_1) ∧ w49.cell? ⟨gb291, 0, none⟩ = some (.int .i64 a2_0) ∧ w49.cell? ⟨gb291, 1, none⟩ = some (.slice A2_1 l2_1.length c2_1) := hS_
       obtain ⟨Ao50, co50, eo50⟩ := Kd.R_slice HO299.out
       (first | subst eo50 | (injection eo50 with f1_ f2_ f3_; have f4_ := f1_.symm; have f5_ := f3_.symm; clear f1_ f2_ f3_; subst f4_; subst f5_))
       obtain ⟨Ao51, co51, eo51⟩ := Kd.R_slice HO304.out
       (first | subst eo51 | (injection eo51 with f1_ f2_ f3_; have f4_ := f1_.symm; have f5_ := f3_.symm; clear f1_ f2_ f3_; subst f4_; subst f5_))
       refine norm_ (a' := ?_) ?_ ?_
       rotate_left
       ·simp only [putAll, Act.put, List.setIfInBounds_toArray, List.set_cons_zero, List.set_cons_succ]
        rfl
       refine one_ (i := 6) (N := some 36) #[true, true, true, true, true, true, true, false, false, false, true, false, false] rfl rfl (one_of HT_.out (by kernel_rfl)) (by decide) (fun K hK => ?_)
       refine goes_ Try.func6 (by kernel_rfl) rfl #[.agg #[.int .i64 t294, .int .i64 t295, .int .i64 t296], .agg #[.slice Ao50 t297.length co50, .int .i64 t300], .agg #[.int .i64 t301, .slice Ao51 t302.length co51]] (by rfl) rfl rfl X.M ?_
       with_reducible refine (spec_Sail.calls k t294 t295 t296 _ _ t297 t300 t301 _ _ t302 t305 t308 t309 _ ?side1 ?side2 ?side3 ?side4 A28.out).mono ?_
       (case side1 => exact X.C (Kd.R_reads' HO299.out).2.2)
       (case side2 => exact (Kd.R_reads' HO299.out).2.1)
       (case side3 => exact X.C (Kd.R_reads' HO304.out).2.2)
       (case side4 => exact (Kd.R_reads' HO304.out).2.1)
       rintro e w52 ⟨v306, rfl, ho0, hb⟩
       refine ⟨_, rfl, ?_⟩
       have n0_ := Aside0.mk (Kd.R_elder' (X.K HO299) (Kd.R_base ho0) hb)
       have n1_ := Aside0.mk (Kd.R_elder' (X.K HO304) (Kd.R_base ho0) hb)
       have n2_ := Aside0.mk (Kd.R_lower (Kd.R_new' (Kd.R_new' ho0 (Kd.R_lt (X.K HO299))) (Kd.R_lt (X.K HO304))) (below_size X.G))
       have n3_ := Aside0.mk (X.BB BK289 hb)
       have n4_ := Aside0.mk (X.BB BK290 hb)
       have n5_ := Aside0.mk (X.BB BK291 hb)
       have n6_ := Aside0.mk (X.BB BK310 hb)
       have n7_ := Aside0.mk (below_step X.G hb)
       clear HO299
       clear HO304
       clear BK289
       clear BK290
       clear BK291
       clear BK310
       clear HB
       have HO299 := n0_
       have HO304 := n1_
       have HO307 := n2_
       have BK289 := n3_
       have BK290 := n4_
       have BK291 := n5_
       have BK310 := n6_
       have HB := n7_
       clear n0_ n1_ n2_ n3_ n4_ n5_ n6_ n7_
       (try clear hb)
       (try clear hb2)
       (try clear hk)
       (try clear hi)
       (try clear ho0)
       refine hK.out _ _ ⟨(blk_cell BK289.out 0).trans rfl, (blk_cell BK289.out 1).trans rfl, (blk_cell BK289.out 2).trans rfl, (blk_cell BK290.out 0).trans rfl, (blk_cell BK290.out 1).trans rfl, (blk_cell BK291.out 0).trans rfl, (blk_cell BK291.out 1).trans rfl⟩ (fun hHeld => ?_)
       clear hK K
       refine norm_ (a' := ?_) ?_ ?_
       rotate_left
       ·show Act.put _ (some 36) _ = _
        simp only [Act.put, List.setIfInBounds_toArray, List.set_cons_zero, List.set_cons_succ, i64_w, i32_w]
        rfl
       refine pure_ (i := 7) (N := some 29) (v := ?_) (a' := ?_) #[true, true, true, true, true, true, true, true, false, false, true, false, false] rfl rfl (any_of HT_.out (by kernel_rfl)) (fun _ _ _ h => h) (Or.inl ⟨by rfl, ?_⟩) ?_ ?_
       rotate_left
       ·intro w'
        go_simp
        with_reducible rfl
       rotate_left
       ·exact X.Pu
       refine pure_ (i := 8) (N := some 37) (v := ?_) (a' := ?_) #[true, true, true, true, true, true, true, true, true, false, true, false, false] rfl rfl (any_of HT_.out (by kernel_rfl)) (fun _ _ _ h => h) (Or.inl ⟨by rfl, ?_⟩) ?_ ?_
       rotate_left
       ·intro w'
        go_simp
        with_reducible rfl
       rotate_left
       ·exact X.Pu
       refine pure_ (i := 9) (N := some 38) (v := ?_) (a' := ?_) #[true, true, true, true, true, true, true, true, true, true, true, false, false] rfl rfl (any_of HT_.out (by kernel_rfl)) (fun _ _ _ h => h) (Or.inl ⟨by rfl, ?_⟩) ?_ ?_
       rotate_left
       ·intro w'
        go_simp
        with_reducible rfl
       rotate_left
       ·exact X.Pu
       exact norm_ X.S (hJ1_3_5_6_10 (.slice Ao50 t297.length co50, .slice Ao51 t302.length co51, v306, gb310) _ ⟨hHeld, (X.K HO299), (X.K HO304), (by (with_reducible repeat (first | apply Kd.R_alloc | apply Kd.R_drewN | apply Kd.R_drew)); exact Kd.R_mono HO307.out (fun _ hk => ⟨hk.1.2, hk.2⟩)), (X.B BK289), (X.B BK290), (X.B BK291), (X.B BK310), GW310.out, GE310.out, NB289_310.out, NB310_289.out, NB290_310.out, NB310_290.out, NB291_310.out, NB310_291.out, X.G⟩)
     ·skip
      rintro ⟨v298, v303, v306⟩ w51 ⟨hS_, h0_, h1_, h2_, h3_, h4_, h5_, h6_⟩
      have n0_ : Aside0 (Kd.R (Kd.int .i64) 3 w51 w.heap.size (fun k_ => some k_ ≠ (v303 : Value).ownBlock ∧ some k_ ≠ (v306 : Value).ownBlock) v298 t297) := ⟨h0_⟩
      have n1_ : Aside0 (Kd.R (Kd.int .i64) 3 w51 w.heap.size (fun k_ => some k_ ≠ (v298 : Value).ownBlock ∧ some k_ ≠ (v306 : Value).ownBlock) v303 t302) := ⟨h1_⟩
      have n2_ : Aside0 (Kd.R (Kd.int .i64) 3 w51 w.heap.size (fun k_ => some k_ ≠ (v298 : Value).ownBlock ∧ some k_ ≠ (v303 : Value).ownBlock) v306 t305) := ⟨h2_⟩
      have n3_ : Aside0 (w51.heap[gb289]? = some (.cells #[.int .i64 a0_0, .int .i64 a0_1, .int .i64 a0_2] 23 (0, 0))) := ⟨h3_⟩
      have n4_ : Aside0 (w51.heap[gb290]? = some (.cells #[.slice A1_0 l1_0.length c1_0, .int .i64 a1_1] 26 (0, 0))) := ⟨h4_⟩
      have n5_ : Aside0 (w51.heap[gb291]? = some (.cells #[.int .i64 a2_0, .slice A2_1 l2_1.length c2_1] 28 (0, 0))) := ⟨h5_⟩
      have n6_ : Aside0 (Below w.heap.size w w51) := ⟨h6_⟩
      clear BK289
      clear BK290
      clear BK291
      clear HB
      clear h0_ h1_ h2_ h3_ h4_ h5_ h6_
      have HO299 := n0_
      have HO304 := n1_
      have HO307 := n2_
      have BK289 := n3_
      have BK290 := n4_
      have BK291 := n5_
      have HB := n6_
      clear n0_ n1_ n2_ n3_ n4_ n5_ n6_
      have hHeld : w51.cell? ⟨gb289, 0, none⟩ = some (.int .i64 a0_0) ∧ w51.cell? ⟨gb289, 1, none⟩ = some (.int .i64 a0_1) ∧ w51.cell? ⟨gb289, 2, none⟩ = some (.int .i64 a0_2) ∧ w51.cell? ⟨gb290, 0, none⟩ = some (.slice A1_0 l1_0.length c1_0) ∧ w51.cell? ⟨gb290, 1, none⟩ = some (.int .i64 a1_1) ∧ w51.cell? ⟨gb291, 0, none⟩ = some (.int .i64 a2_0) ∧ w51.cell? ⟨gb291, 1, none⟩ = some (.slice A2_1 l2_1.length c2_1) := hS_
      refine norm_ (a' := ?_) ?_ ?_
      rotate_left
      ·simp only [putAll, Act.put, List.setIfInBounds_toArray, List.set_cons_zero, List.set_cons_succ]
       rfl
      refine one_ (i := 10) (N := some 8) #[true, true, true, true, true, true, true, true, true, true, true, false, false] rfl rfl (one_of HT_.out (by kernel_rfl)) (by decide) (fun K hK => ?_)
      refine box_step ?hg (N := 8) ?hd (cs := #[.slice none 0 0, .int .i64 0]) (t := 31) ?hr ?_; (case hd => rfl); (case hg => rfl); (case hr => exact X.R)
      intro gb310 hg w52 hbox hb
      have n0_ := Aside0.mk (Kd.R_below (X.K HO299) hb)
      have n1_ := Aside0.mk (Kd.R_below (X.K HO304) hb)
      have n2_ := Aside0.mk (Kd.R_below (X.K HO307) hb)
      have n3_ := Aside0.mk (X.BB BK289 hb)
      have n4_ := Aside0.mk (X.BB BK290 hb)
      have n5_ := Aside0.mk (X.BB BK291 hb)
      have n6_ := Aside0.mk (below_step X.G hb)
      have n7_ := Aside0.mk (hbox)
      have n8_ := Aside0.mk ((by rw [hg]; exact (below_size X.G) : w.heap.size ≤ gb310))
      have n9_ := Aside0.mk ((by rw [hg]; exact (below_size X.G) : w.heap.size ≤ gb310))
      have n10_ := Aside0.mk ((by rw [hg]; exact Nat.ne_of_lt (X.BL BK289) : gb289 ≠ gb310))
      have n11_ := Aside0.mk ((by rw [hg]; exact Nat.ne_of_gt (X.BL BK289) : gb310 ≠ gb289))
      have n12_ := Aside0.mk ((by rw [hg]; exact Nat.ne_of_lt (X.BL BK290) : gb290 ≠ gb310))
      have n13_ := Aside0.mk ((by rw [hg]; exact Nat.ne_of_gt (X.BL BK290) : gb310 ≠ gb290))
      have n14_ := Aside0.mk ((by rw [hg]; exact Nat.ne_of_lt (X.BL BK291) : gb291 ≠ gb310))
      have n15_ := Aside0.mk ((by rw [hg]; exact Nat.ne_of_gt (X.BL BK291) : gb310 ≠ gb291))
      clear HO299
      clear HO304
      clear HO307
      clear BK289
      clear BK290
      clear BK291
      clear HB
      have HO299 := n0_
      have HO304 := n1_
      have HO307 := n2_
      have BK289 := n3_
      have BK290 := n4_
      have BK291 := n5_
      have HB := n6_
      have BK310 := n7_
      have GW310 := n8_
      have GE310 := n9_
      have NB289_310 := n10_
      have NB310_289 := n11_
      have NB290_310 := n12_
      have NB310_290 := n13_
      have NB291_310 := n14_
      have NB310_291 := n15_
      clear n0_ n1_ n2_ n3_ n4_ n5_ n6_ n7_ n8_ n9_ n10_ n11_ n12_ n13_ n14_ n15_
      clear hb hbox hg
      refine hK.out _ _ ⟨(blk_cell BK289.out 0).trans rfl, (blk_cell BK289.out 1).trans rfl, (blk_cell BK289.out 2).trans rfl, (blk_cell BK290.out 0).trans rfl, (blk_cell BK290.out 1).trans rfl, (blk_cell BK291.out 0).trans rfl, (blk_cell BK291.out 1).trans rfl⟩ (fun hHeld => ?_)
      clear hK K
      refine norm_ (a' := ?_) ?_ ?_
      rotate_left
      ·show Act.put _ (some 8) _ = _
       simp only [Act.put, List.setIfInBounds_toArray, List.set_cons_zero, List.set_cons_succ, i64_w, i32_w]
       rfl
      exact norm_ X.S (hJ1_3_5_6_10 (v298, v303, v306, gb310) _ ⟨hHeld, (X.K HO299), (X.K HO304), (X.K HO307), (X.B BK289), (X.B BK290), (X.B BK291), (X.B BK310), GW310.out, GE310.out, NB289_310.out, NB310_289.out, NB290_310.out, NB310_290.out, NB291_310.out, NB310_291.out, X.G⟩)
    rintro ⟨v298, v303, v306, gb310⟩ w52 ⟨hS_, h0_, h1_, h2_, h3_, h4_, h5_, h6_, h7_, h8_, h9_, h10_, h11_, h12_, h13_, h14_, h15_⟩
    have n0_ : Aside0 (Kd.R (Kd.int .i64) 3 w52 w.heap.size (fun k_ => some k_ ≠ (v303 : Value).ownBlock ∧ some k_ ≠ (v306 : Value).ownBlock) v298 t297) := ⟨h0_⟩
    have n1_ : Aside0 (Kd.R (Kd.int .i64) 3 w52 w.heap.size (fun k_ => some k_ ≠ (v298 : Value).ownBlock ∧ some k_ ≠ (v306 : Value).ownBlock) v303 t302) := ⟨h1_⟩
    have n2_ : Aside0 (Kd.R (Kd.int .i64) 3 w52 w.heap.size (fun k_ => some k_ ≠ (v298 : Value).ownBlock ∧ some k_ ≠ (v303 : Value).ownBlock) v306 t305) := ⟨h2_⟩
    have n3_ : Aside0 (w52.heap[gb289]? = some (.cells #[.int .i64 a0_0, .int .i64 a0_1, .int .i64 a0_2] 23 (0, 0))) := ⟨h3_⟩
    have n4_ : Aside0 (w52.heap[gb290]? = some (.cells #[.slice A1_0 l1_0.length c1_0, .int .i64 a1_1] 26 (0, 0))) := ⟨h4_⟩
    have n5_ : Aside0 (w52.heap[gb291]? = some (.cells #[.int .i64 a2_0, .slice A2_1 l2_1.length c2_1] 28 (0, 0))) := ⟨h5_⟩
    have n6_ : Aside0 (w52.heap[gb310]? = some (.cells #[.slice none 0 0, .int .i64 0] 31 (0, 0))) := ⟨h6_⟩
    have n7_ : Aside0 (w.heap.size ≤ gb310) := ⟨h7_⟩
    have n8_ : Aside0 (w.heap.size ≤ gb310) := ⟨h8_⟩
    have n9_ : Aside0 (gb289 ≠ gb310) := ⟨h9_⟩
    have n10_ : Aside0 (gb310 ≠ gb289) := ⟨h10_⟩
    have n11_ : Aside0 (gb290 ≠ gb310) := ⟨h11_⟩
    have n12_ : Aside0 (gb310 ≠ gb290) := ⟨h12_⟩
    have n13_ : Aside0 (gb291 ≠ gb310) := ⟨h13_⟩
    have n14_ : Aside0 (gb310 ≠ gb291) := ⟨h14_⟩
    have n15_ : Aside0 (Below w.heap.size w w52) := ⟨h15_⟩
    clear BK289
    clear BK290
    clear BK291
    clear HB
    clear h0_ h1_ h2_ h3_ h4_ h5_ h6_ h7_ h8_ h9_ h10_ h11_ h12_ h13_ h14_ h15_
    have HO299 := n0_
    have HO304 := n1_
    have HO307 := n2_
    have BK289 := n3_
    have BK290 := n4_
    have BK291 := n5_
    have BK310 := n6_
    have GW310 := n7_
    have GE310 := n8_
    have NB289_310 := n9_
    have NB310_289 := n10_
    have NB290_310 := n11_
    have NB310_290 := n12_
    have NB291_310 := n13_
    have NB310_291 := n14_
    have HB := n15_
    clear n0_ n1_ n2_ n3_ n4_ n5_ n6_ n7_ n8_ n9_ n10_ n11_ n12_ n13_ n14_ n15_
    have hHeld : w52.cell? ⟨gb289, 0, none⟩ = some (.int .i64 a0_0) ∧ w52.cell? ⟨gb289, 1, none⟩ = some (.int .i64 a0_1) ∧ w52.cell? ⟨gb289, 2, none⟩ = some (.int .i64 a0_2) ∧ w52.cell? ⟨gb290, 0, none⟩ = some (.slice A1_0 l1_0.length c1_0) ∧ w52.cell? ⟨gb290, 1, none⟩ = some (.int .i64 a1_1) ∧ w52.cell? ⟨gb291, 0, none⟩ = some (.int .i64 a2_0) ∧ w52.cell? ⟨gb291, 1, none⟩ = some (.slice A2_1 l2_1.length c2_1) := hS_
    obtain ⟨Ao53, co53, eo53⟩ := Kd.R_slice HO307.out
    (first | subst eo53 | (injection eo53 with f1_ f2_ f3_; have f4_ := f1_.symm; have f5_ := f3_.symm; clear f1_ f2_ f3_; subst f4_; subst f5_))
    refine norm_ (a' := ?_) ?_ ?_
    rotate_left
    ·simp only [putAll, Act.put, List.setIfInBounds_toArray, List.set_cons_zero, List.set_cons_succ]
     rfl
    refine one_ (i := 11) (N := none) #[true, true, true, true, true, true, true, true, true, true, true, true, false] rfl rfl (one_of HT_.out (by kernel_rfl)) (by decide) (fun K hK => ?_)
    have hs54 : w52.cell? ⟨gb310, 0, none⟩ = some (.slice none 0 0) := (blk_cell BK310.out 0).trans rfl
    have hfs54 := blk_frozen BK310.out 0
    have hns54_0 := NB289_310.out
    have hns54_1 := NB290_310.out
    have hns54_2 := NB291_310.out
    have hms54_0 := NB310_289.out
    have hms54_1 := NB310_290.out
    have hms54_2 := NB310_291.out
    have hs55 : w52.cell? ⟨gb310, 1, none⟩ = some (.int .i64 0) := (blk_cell BK310.out 1).trans rfl
    have hfs55 := blk_frozen BK310.out 1
    have hns55_0 := NB289_310.out
    have hns55_1 := NB290_310.out
    have hns55_2 := NB291_310.out
    have hms55_0 := NB310_289.out
    have hms55_1 := NB310_290.out
    have hms55_2 := NB310_291.out
    refine skip_ (w1 := ?_) (by rfl) rfl ?_ ?_
    rotate_left
    ·go_simp
     rfl
    refine hK.out _ _ ⟨((cell_far (p := ⟨gb310, _, none⟩) NB289_310.out _).trans (((cell_far (p := ⟨gb310, _, none⟩) NB289_310.out _).trans (hHeld.1)))), ((cell_far (p := ⟨gb310, _, none⟩) NB289_310.out _).trans (((cell_far (p := ⟨gb310, _, none⟩) NB289_310.out _).trans (hHeld.2.1)))), ((cell_far (p := ⟨gb310, _, none⟩) NB289_310.out _).trans (((cell_far (p := ⟨gb310, _, none⟩) NB289_310.out _).trans (hHeld.2.2.1)))), ((cell_far (p := ⟨gb310, _, none⟩) NB290_310.out _).trans (((cell_far (p := ⟨gb310, _, none⟩) NB290_310.out _).trans (hHeld.2.2.2.1)))), ((cell_far (p := ⟨gb310, _, none⟩) NB290_310.out _).trans (((cell_far (p := ⟨gb310, _, none⟩) NB290_310.out _).trans (hHeld.2.2.2.2.1)))), ((cell_far (p := ⟨gb310, _, none⟩) NB291_310.out _).trans (((cell_far (p := ⟨gb310, _, none⟩) NB291_310.out _).trans (hHeld.2.2.2.2.2.1)))), ((cell_far (p := ⟨gb310, _, none⟩) NB291_310.out _).trans (((cell_far (p := ⟨gb310, _, none⟩) NB291_310.out _).trans (hHeld.2.2.2.2.2.2))))⟩ (fun hHeld => ?_)
    clear hK K
    refine pure_ (i := 12) (N := some 9) (v := ?_) (a' := ?_) #[true, true, true, true, true, true, true, true, true, true, true, true, true] rfl rfl (any_of HT_.out (by kernel_rfl)) (fun _ _ _ h => h) (Or.inl ⟨by rfl, ?_⟩) ?_ ?_
    rotate_left
    ·intro w'
     go_simp
     with_reducible rfl
    rotate_left
    ·exact X.Pu
    refine done_ (done_of HT_.out (by kernel_rfl)) ?_
    have hnb56 := NB290_310.out
    have hnc56 := NB310_290.out
    have hcz57_0 : w52.cell? ⟨gb290, 0, none⟩ = some (.slice A1_0 l1_0.length c1_0) := (blk_cell BK290.out 0).trans rfl
    have hcz57_1 : w52.cell? ⟨gb290, 1, none⟩ = some (.int .i64 a1_1) := (blk_cell BK290.out 1).trans rfl
    have hfz57_0 := blk_frozen BK290.out 0
    have hfz57_1 := blk_frozen BK290.out 1
    try go_wp2_with (first | ((with_reducible refine gate_callee (f := 8) rfl ?_); refine goesL_ (some 40) rfl rfl Try.func8 (by kernel_rfl) rfl #[.agg #[.slice A1_0 l1_0.length c1_0, .int .i64 a1_1]] rfl X.M ?_; (with_reducible refine (laws_toPlaces.calls k _ _ l1_0 a1_1 t311 t314 _ ?side1 ?side2 A29.out).mono ?_); (case side1 => exact Kd.C_below HR1_0.out X.G); (case side2 => exact HC1_0.out); rintro e w58 ⟨v312, rfl, ho0, hb⟩; refine ⟨_, rfl, ?_⟩; have n0_ := Aside0.mk (Kd.R_elder' (by (with_reducible repeat (first | apply Kd.R_alloc | apply Kd.R_drewN | apply Kd.R_drew)); exact (Kd.R_mono (Kd.R_far (p := ⟨gb310, 1, none⟩) (Kd.R_far (p := ⟨gb310, 0, none⟩) (Kd.R_types HO299.out BK310.out (by decide)) (fun _ hk => hk.2) (.slice Ao53 t305.length co53)) (fun _ hk => hk.2) (.int .i64 t308)) (fun _ h_ => h_.1))) (Kd.R_base ho0) hb); have n1_ := Aside0.mk (Kd.R_elder' (by (with_reducible repeat (first | apply Kd.R_alloc | apply Kd.R_drewN | apply Kd.R_drew)); exact (Kd.R_mono (Kd.R_far (p := ⟨gb310, 1, none⟩) (Kd.R_far (p := ⟨gb310, 0, none⟩) (Kd.R_types HO304.out BK310.out (by decide)) (fun _ hk => hk.2) (.slice Ao53 t305.length co53)) (fun _ hk => hk.2) (.int .i64 t308)) (fun _ h_ => h_.1))) (Kd.R_base ho0) hb); have n2_ := Aside0.mk (Kd.R_elder' (by (with_reducible repeat (first | apply Kd.R_alloc | apply Kd.R_drewN | apply Kd.R_drew)); exact (Kd.R_mono (Kd.R_far (p := ⟨gb310, 1, none⟩) (Kd.R_far (p := ⟨gb310, 0, none⟩) (Kd.R_types HO307.out BK310.out (by decide)) (fun _ hk => hk.2) (.slice Ao53 t305.length co53)) (fun _ hk => hk.2) (.int .i64 t308)) (fun _ h_ => h_.1))) (Kd.R_base ho0) hb); have n3_ := Aside0.mk (Kd.R_lower (Kd.R_new' (Kd.R_new' (Kd.R_new' ho0 (Kd.R_lt (by (with_reducible repeat (first | apply Kd.R_alloc | apply Kd.R_drewN | apply Kd.R_drew)); exact (Kd.R_mono (Kd.R_far (p := ⟨gb310, 1, none⟩) (Kd.R_far (p := ⟨gb310, 0, none⟩) (Kd.R_types HO299.out BK310.out (by decide)) (fun _ hk => hk.2) (.slice Ao53 t305.length co53)) (fun _ hk => hk.2) (.int .i64 t308)) (fun _ h_ => h_.1))))) (Kd.R_lt (by (with_reducible repeat (first | apply Kd.R_alloc | apply Kd.R_drewN | apply Kd.R_drew)); exact (Kd.R_mono (Kd.R_far (p := ⟨gb310, 1, none⟩) (Kd.R_far (p := ⟨gb310, 0, none⟩) (Kd.R_types HO304.out BK310.out (by decide)) (fun _ hk => hk.2) (.slice Ao53 t305.length co53)) (fun _ hk => hk.2) (.int .i64 t308)) (fun _ h_ => h_.1))))) (Kd.R_lt (by (with_reducible repeat (first | apply Kd.R_alloc | apply Kd.R_drewN | apply Kd.R_drew)); exact (Kd.R_mono (Kd.R_far (p := ⟨gb310, 1, none⟩) (Kd.R_far (p := ⟨gb310, 0, none⟩) (Kd.R_types HO307.out BK310.out (by decide)) (fun _ hk => hk.2) (.slice Ao53 t305.length co53)) (fun _ hk => hk.2) (.int .i64 t308)) (fun _ h_ => h_.1))))) (below_size X.G)); have n4_ := Aside0.mk (blk_below (g := gb289) (o := .cells #[.int .i64 a0_0, .int .i64 a0_1, .int .i64 a0_2] 23 (0, 0)) (by (with_reducible repeat (first | refine blk_drewN ?_ _ | refine blk_drew ?_ | refine blk_alloc ?_ _)); refine blk_far ?_ NB289_310.out _; (with_reducible repeat (first | refine blk_drewN ?_ _ | refine blk_drew ?_ | refine blk_alloc ?_ _)); refine blk_far ?_ NB289_310.out _; (with_reducible repeat (first | refine blk_drewN ?_ _ | refine blk_drew ?_ | refine blk_alloc ?_ _)); exact BK289.out) hb); have n5_ := Aside0.mk (blk_below (g := gb290) (o := .cells #[.slice A1_0 l1_0.length c1_0, .int .i64 a1_1] 26 (0, 0)) (by (with_reducible repeat (first | refine blk_drewN ?_ _ | refine blk_drew ?_ | refine blk_alloc ?_ _)); refine blk_far ?_ NB290_310.out _; (with_reducible repeat (first | refine blk_drewN ?_ _ | refine blk_drew ?_ | refine blk_alloc ?_ _)); refine blk_far ?_ NB290_310.out _; (with_reducible repeat (first | refine blk_drewN ?_ _ | refine blk_drew ?_ | refine blk_alloc ?_ _)); exact BK290.out) hb); have n6_ := Aside0.mk (blk_below (g := gb291) (o := .cells #[.int .i64 a2_0, .slice A2_1 l2_1.length c2_1] 28 (0, 0)) (by (with_reducible repeat (first | refine blk_drewN ?_ _ | refine blk_drew ?_ | refine blk_alloc ?_ _)); refine blk_far ?_ NB291_310.out _; (with_reducible repeat (first | refine blk_drewN ?_ _ | refine blk_drew ?_ | refine blk_alloc ?_ _)); refine blk_far ?_ NB291_310.out _; (with_reducible repeat (first | refine blk_drewN ?_ _ | refine blk_drew ?_ | refine blk_alloc ?_ _)); exact BK291.out) hb); have n7_ := Aside0.mk (blk_below (g := gb310) (o := .cells #[.slice Ao53 t305.length co53, .int .i64 t308] 31 (0, 0)) (by (with_reducible repeat (first | refine blk_drewN ?_ _ | refine blk_drew ?_ | refine blk_alloc ?_ _)); refine blk_put (cs := #[.slice Ao53 t305.length co53, .int .i64 0]) ?_ 1 _ rfl; (with_reducible repeat (first | refine blk_drewN ?_ _ | refine blk_drew ?_ | refine blk_alloc ?_ _)); refine blk_put (cs := #[.slice none 0 0, .int .i64 0]) ?_ 0 _ rfl; (with_reducible repeat (first | refine blk_drewN ?_ _ | refine blk_drew ?_ | refine blk_alloc ?_ _)); exact BK310.out) hb); have n8_ := Aside0.mk (below_step X.G hb); clear HO299; clear HO304; clear HO307; clear BK289; clear BK290; clear BK291; clear BK310; clear HB; have HO299 := n0_; have HO304 := n1_; have HO307 := n2_; have HO313 := n3_; have BK289 := n4_; have BK290 := n5_; have BK291 := n6_; have BK310 := n7_; have HB := n8_; clear n0_ n1_ n2_ n3_ n4_ n5_ n6_ n7_ n8_; (try clear hb); (try clear hb2); (try clear hk); (try clear hi); (try clear ho0)) | ((with_reducible refine gate_dst (N := 10) rfl ?_); refine box_event ?hg (N := 10) ?hd (cs := #[.slice none 0 0, .int .i64 0]) (t := 31) ?hr ?_; (case hd => rfl); (case hg => rfl); (case hr => exact X.R); intro gb315 hg w59 hbox hb; have n0_ := Aside0.mk (Kd.R_below (X.K HO299) hb); have n1_ := Aside0.mk (Kd.R_below (X.K HO304) hb); have n2_ := Aside0.mk (Kd.R_below (X.K HO307) hb); have n3_ := Aside0.mk (Kd.R_below (X.K HO313) hb); have n4_ := Aside0.mk (X.BB BK289 hb); have n5_ := Aside0.mk (X.BB BK290 hb); have n6_ := Aside0.mk (X.BB BK291 hb); have n7_ := Aside0.mk (X.BB BK310 hb); have n8_ := Aside0.mk (below_step X.G hb); have n9_ := Aside0.mk (hbox); have n10_ := Aside0.mk ((by rw [hg]; exact (below_size X.G) : w.heap.size ≤ gb315)); have n11_ := Aside0.mk ((by rw [hg]; exact (below_size X.G) : w.heap.size ≤ gb315)); have n12_ := Aside0.mk ((by rw [hg]; exact Nat.ne_of_lt (X.BL BK289) : gb289 ≠ gb315)); have n13_ := Aside0.mk ((by rw [hg]; exact Nat.ne_of_gt (X.BL BK289) : gb315 ≠ gb289)); have n14_ := Aside0.mk ((by rw [hg]; exact Nat.ne_of_lt (X.BL BK290) : gb290 ≠ gb315)); have n15_ := Aside0.mk ((by rw [hg]; exact Nat.ne_of_gt (X.BL BK290) : gb315 ≠ gb290)); have n16_ := Aside0.mk ((by rw [hg]; exact Nat.ne_of_lt (X.BL BK291) : gb291 ≠ gb315)); have n17_ := Aside0.mk ((by rw [hg]; exact Nat.ne_of_gt (X.BL BK291) : gb315 ≠ gb291)); have n18_ := Aside0.mk ((by rw [hg]; exact Nat.ne_of_lt (X.BL BK310) : gb310 ≠ gb315)); have n19_ := Aside0.mk ((by rw [hg]; exact Nat.ne_of_gt (X.BL BK310) : gb315 ≠ gb310)); clear HO299; clear HO304; clear HO307; clear HO313; clear BK289; clear BK290; clear BK291; clear BK310; clear HB; have HO299 := n0_; have HO304 := n1_; have HO307 := n2_; have HO313 := n3_; have BK289 := n4_; have BK290 := n5_; have BK291 := n6_; have BK310 := n7_; have HB := n8_; have BK315 := n9_; have GW315 := n10_; have GE315 := n11_; have NB289_315 := n12_; have NB315_289 := n13_; have NB290_315 := n14_; have NB315_290 := n15_; have NB291_315 := n16_; have NB315_291 := n17_; have NB310_315 := n18_; have NB315_310 := n19_; clear n0_ n1_ n2_ n3_ n4_ n5_ n6_ n7_ n8_ n9_ n10_ n11_ n12_ n13_ n14_ n15_ n16_ n17_ n18_ n19_; clear hb hbox hg; obtain ⟨Ao60, co60, eo60⟩ := Kd.R_slice HO313.out; subst eo60; have hnb61 := NB315_289.out; have hnc61 := NB289_315.out; have hnb62 := NB315_290.out; have hnc62 := NB290_315.out; have hnb63 := NB315_291.out; have hnc63 := NB291_315.out; have hnb64 := NB315_310.out; have hnc64 := NB310_315.out; have hcz65_0 : w59.cell? ⟨gb315, 0, none⟩ = some (.slice none 0 0) := (blk_cell BK315.out 0).trans rfl; have hcz65_1 : w59.cell? ⟨gb315, 1, none⟩ = some (.int .i64 0) := (blk_cell BK315.out 1).trans rfl; have hfz65_0 := blk_frozen BK315.out 0; have hfz65_1 := blk_frozen BK315.out 1; have hnb66 := NB291_310.out; have hnc66 := NB310_291.out; have hcz67_0 : w59.cell? ⟨gb291, 0, none⟩ = some (.int .i64 a2_0) := (blk_cell BK291.out 0).trans rfl; have hcz67_1 : w59.cell? ⟨gb291, 1, none⟩ = some (.slice A2_1 l2_1.length c2_1) := (blk_cell BK291.out 1).trans rfl; have hfz67_0 := blk_frozen BK291.out 0; have hfz67_1 := blk_frozen BK291.out 1) | ((with_reducible refine gate_callee (f := 9) rfl ?_); refine goesL_ (some 42) rfl rfl Try.func9 (by kernel_rfl) rfl #[.agg #[.int .i64 a2_0, .slice A2_1 l2_1.length c2_1]] rfl X.M ?_; (with_reducible refine (laws_toVoyage.calls k a2_0 _ _ l2_1 t316 t317 _ ?side1 ?side2 A30.out).mono ?_); (case side1 => exact Kd.C_below HR2_1.out X.G); (case side2 => exact HC2_1.out); rintro e w68 ⟨v318, rfl, ho0, hb⟩; refine ⟨_, rfl, ?_⟩; have n0_ := Aside0.mk (Kd.R_elder' (by (with_reducible repeat (first | apply Kd.R_alloc | apply Kd.R_drewN | apply Kd.R_drew)); exact (Kd.R_mono (Kd.R_far (p := ⟨gb315, 1, none⟩) (Kd.R_far (p := ⟨gb315, 0, none⟩) (Kd.R_types HO299.out BK315.out (by decide)) (fun _ hk => hk.2) (.slice Ao60 t311.length co60)) (fun _ hk => hk.2) (.int .i64 t314)) (fun _ h_ => h_.1))) (Kd.R_base ho0) hb); have n1_ := Aside0.mk (Kd.R_elder' (by (with_reducible repeat (first | apply Kd.R_alloc | apply Kd.R_drewN | apply Kd.R_drew)); exact (Kd.R_mono (Kd.R_far (p := ⟨gb315, 1, none⟩) (Kd.R_far (p := ⟨gb315, 0, none⟩) (Kd.R_types HO304.out BK315.out (by decide)) (fun _ hk => hk.2) (.slice Ao60 t311.length co60)) (fun _ hk => hk.2) (.int .i64 t314)) (fun _ h_ => h_.1))) (Kd.R_base ho0) hb); have n2_ := Aside0.mk (Kd.R_elder' (by (with_reducible repeat (first | apply Kd.R_alloc | apply Kd.R_drewN | apply Kd.R_drew)); exact (Kd.R_mono (Kd.R_far (p := ⟨gb315, 1, none⟩) (Kd.R_far (p := ⟨gb315, 0, none⟩) (Kd.R_types HO307.out BK315.out (by decide)) (fun _ hk => hk.2) (.slice Ao60 t311.length co60)) (fun _ hk => hk.2) (.int .i64 t314)) (fun _ h_ => h_.1))) (Kd.R_base ho0) hb); have n3_ := Aside0.mk (Kd.R_elder' (by (with_reducible repeat (first | apply Kd.R_alloc | apply Kd.R_drewN | apply Kd.R_drew)); exact (Kd.R_mono (Kd.R_far (p := ⟨gb315, 1, none⟩) (Kd.R_far (p := ⟨gb315, 0, none⟩) (Kd.R_types HO313.out BK315.out (by decide)) (fun _ hk => hk.2) (.slice Ao60 t311.length co60)) (fun _ hk => hk.2) (.int .i64 t314)) (fun _ h_ => h_.1))) (Kd.R_base ho0) hb); have n4_ := Aside0.mk (Kd.R_lower (Kd.R_new' (Kd.R_new' (Kd.R_new' (Kd.R_new' ho0 (Kd.R_lt (by (with_reducible repeat (first | apply Kd.R_alloc | apply Kd.R_drewN | apply Kd.R_drew)); exact (Kd.R_mono (Kd.R_far (p := ⟨gb315, 1, none⟩) (Kd.R_far (p := ⟨gb315, 0, none⟩) (Kd.R_types HO299.out BK315.out (by decide)) (fun _ hk => hk.2) (.slice Ao60 t311.length co60)) (fun _ hk => hk.2) (.int .i64 t314)) (fun _ h_ => h_.1))))) (Kd.R_lt (by (with_reducible repeat (first | apply Kd.R_alloc | apply Kd.R_drewN | apply Kd.R_drew)); exact (Kd.R_mono (Kd.R_far (p := ⟨gb315, 1, none⟩) (Kd.R_far (p := ⟨gb315, 0, none⟩) (Kd.R_types HO304.out BK315.out (by decide)) (fun _ hk => hk.2) (.slice Ao60 t311.length co60)) (fun _ hk => hk.2) (.int .i64 t314)) (fun _ h_ => h_.1))))) (Kd.R_lt (by (with_reducible repeat (first | apply Kd.R_alloc | apply Kd.R_drewN | apply Kd.R_drew)); exact (Kd.R_mono (Kd.R_far (p := ⟨gb315, 1, none⟩) (Kd.R_far (p := ⟨gb315, 0, none⟩) (Kd.R_types HO307.out BK315.out (by decide)) (fun _ hk => hk.2) (.slice Ao60 t311.length co60)) (fun _ hk => hk.2) (.int .i64 t314)) (fun _ h_ => h_.1))))) (Kd.R_lt (by (with_reducible repeat (first | apply Kd.R_alloc | apply Kd.R_drewN | apply Kd.R_drew)); exact (Kd.R_mono (Kd.R_far (p := ⟨gb315, 1, none⟩) (Kd.R_far (p := ⟨gb315, 0, none⟩) (Kd.R_types HO313.out BK315.out (by decide)) (fun _ hk => hk.2) (.slice Ao60 t311.length co60)) (fun _ hk => hk.2) (.int .i64 t314)) (fun _ h_ => h_.1))))) (below_size X.G)); have n5_ := Aside0.mk (blk_below (g := gb289) (o := .cells #[.int .i64 a0_0, .int .i64 a0_1, .int .i64 a0_2] 23 (0, 0)) (by (with_reducible repeat (first | refine blk_drewN ?_ _ | refine blk_drew ?_ | refine blk_alloc ?_ _)); refine blk_far ?_ NB289_315.out _; (with_reducible repeat (first | refine blk_drewN ?_ _ | refine blk_drew ?_ | refine blk_alloc ?_ _)); refine blk_far ?_ NB289_315.out _; (with_reducible repeat (first | refine blk_drewN ?_ _ | refine blk_drew ?_ | refine blk_alloc ?_ _)); exact BK289.out) hb); have n6_ := Aside0.mk (blk_below (g := gb290) (o := .cells #[.slice A1_0 l1_0.length c1_0, .int .i64 a1_1] 26 (0, 0)) (by (with_reducible repeat (first | refine blk_drewN ?_ _ | refine blk_drew ?_ | refine blk_alloc ?_ _)); refine blk_far ?_ NB290_315.out _; (with_reducible repeat (first | refine blk_drewN ?_ _ | refine blk_drew ?_ | refine blk_alloc ?_ _)); refine blk_far ?_ NB290_315.out _; (with_reducible repeat (first | refine blk_drewN ?_ _ | refine blk_drew ?_ | refine blk_alloc ?_ _)); exact BK290.out) hb); have n7_ := Aside0.mk (blk_below (g := gb291) (o := .cells #[.int .i64 a2_0, .slice A2_1 l2_1.length c2_1] 28 (0, 0)) (by (with_reducible repeat (first | refine blk_drewN ?_ _ | refine blk_drew ?_ | refine blk_alloc ?_ _)); refine blk_far ?_ NB291_315.out _; (with_reducible repeat (first | refine blk_drewN ?_ _ | refine blk_drew ?_ | refine blk_alloc ?_ _)); refine blk_far ?_ NB291_315.out _; (with_reducible repeat (first | refine blk_drewN ?_ _ | refine blk_drew ?_ | refine blk_alloc ?_ _)); exact BK291.out) hb); have n8_ := Aside0.mk (blk_below (g := gb310) (o := .cells #[.slice Ao53 t305.length co53, .int .i64 t308] 31 (0, 0)) (by (with_reducible repeat (first | refine blk_drewN ?_ _ | refine blk_drew ?_ | refine blk_alloc ?_ _)); refine blk_far ?_ NB310_315.out _; (with_reducible repeat (first | refine blk_drewN ?_ _ | refine blk_drew ?_ | refine blk_alloc ?_ _)); refine blk_far ?_ NB310_315.out _; (with_reducible repeat (first | refine blk_drewN ?_ _ | refine blk_drew ?_ | refine blk_alloc ?_ _)); exact BK310.out) hb); have n9_ := Aside0.mk (blk_below (g := gb315) (o := .cells #[.slice Ao60 t311.length co60, .int .i64 t314] 31 (0, 0)) (by (with_reducible repeat (first | refine blk_drewN ?_ _ | refine blk_drew ?_ | refine blk_alloc ?_ _)); refine blk_put (cs := #[.slice Ao60 t311.length co60, .int .i64 0]) ?_ 1 _ rfl; (with_reducible repeat (first | refine blk_drewN ?_ _ | refine blk_drew ?_ | refine blk_alloc ?_ _)); refine blk_put (cs := #[.slice none 0 0, .int .i64 0]) ?_ 0 _ rfl; (with_reducible repeat (first | refine blk_drewN ?_ _ | refine blk_drew ?_ | refine blk_alloc ?_ _)); exact BK315.out) hb); have n10_ := Aside0.mk (below_step X.G hb); clear HO299; clear HO304; clear HO307; clear HO313; clear BK289; clear BK290; clear BK291; clear BK310; clear BK315; clear HB; have HO299 := n0_; have HO304 := n1_; have HO307 := n2_; have HO313 := n3_; have HO319 := n4_; have BK289 := n5_; have BK290 := n6_; have BK291 := n7_; have BK310 := n8_; have BK315 := n9_; have HB := n10_; clear n0_ n1_ n2_ n3_ n4_ n5_ n6_ n7_ n8_ n9_ n10_; (try clear hb); (try clear hb2); (try clear hk); (try clear hi); (try clear ho0)) | ((with_reducible refine gate_dst (N := 11) rfl ?_); refine box_event ?hg (N := 11) ?hd (cs := #[.int .i64 0, .slice none 0 0]) (t := 37) ?hr ?_; (case hd => rfl); (case hg => rfl); (case hr => exact X.R); intro gb320 hg w69 hbox hb; have n0_ := Aside0.mk (Kd.R_below (X.K HO299) hb); have n1_ := Aside0.mk (Kd.R_below (X.K HO304) hb); have n2_ := Aside0.mk (Kd.R_below (X.K HO307) hb); have n3_ := Aside0.mk (Kd.R_below (X.K HO313) hb); have n4_ := Aside0.mk (Kd.R_below (X.K HO319) hb); have n5_ := Aside0.mk (X.BB BK289 hb); have n6_ := Aside0.mk (X.BB BK290 hb); have n7_ := Aside0.mk (X.BB BK291 hb); have n8_ := Aside0.mk (X.BB BK310 hb); have n9_ := Aside0.mk (X.BB BK315 hb); have n10_ := Aside0.mk (below_step X.G hb); have n11_ := Aside0.mk (hbox); have n12_ := Aside0.mk ((by rw [hg]; exact (below_size X.G) : w.heap.size ≤ gb320)); have n13_ := Aside0.mk ((by rw [hg]; exact (below_size X.G) : w.heap.size ≤ gb320)); have n14_ := Aside0.mk ((by rw [hg]; exact Nat.ne_of_lt (X.BL BK289) : gb289 ≠ gb320)); have n15_ := Aside0.mk ((by rw [hg]; exact Nat.ne_of_gt (X.BL BK289) : gb320 ≠ gb289)); have n16_ := Aside0.mk ((by rw [hg]; exact Nat.ne_of_lt (X.BL BK290) : gb290 ≠ gb320)); have n17_ := Aside0.mk ((by rw [hg]; exact Nat.ne_of_gt (X.BL BK290) : gb320 ≠ gb290)); have n18_ := Aside0.mk ((by rw [hg]; exact Nat.ne_of_lt (X.BL BK291) : gb291 ≠ gb320)); have n19_ := Aside0.mk ((by rw [hg]; exact Nat.ne_of_gt (X.BL BK291) : gb320 ≠ gb291)); have n20_ := Aside0.mk ((by rw [hg]; exact Nat.ne_of_lt (X.BL BK310) : gb310 ≠ gb320)); have n21_ := Aside0.mk ((by rw [hg]; exact Nat.ne_of_gt (X.BL BK310) : gb320 ≠ gb310)); have n22_ := Aside0.mk ((by rw [hg]; exact Nat.ne_of_lt (X.BL BK315) : gb315 ≠ gb320)); have n23_ := Aside0.mk ((by rw [hg]; exact Nat.ne_of_gt (X.BL BK315) : gb320 ≠ gb315)); clear HO299; clear HO304; clear HO307; clear HO313; clear HO319; clear BK289; clear BK290; clear BK291; clear BK310; clear BK315; clear HB; have HO299 := n0_; have HO304 := n1_; have HO307 := n2_; have HO313 := n3_; have HO319 := n4_; have BK289 := n5_; have BK290 := n6_; have BK291 := n7_; have BK310 := n8_; have BK315 := n9_; have HB := n10_; have BK320 := n11_; have GW320 := n12_; have GE320 := n13_; have NB289_320 := n14_; have NB320_289 := n15_; have NB290_320 := n16_; have NB320_290 := n17_; have NB291_320 := n18_; have NB320_291 := n19_; have NB310_320 := n20_; have NB320_310 := n21_; have NB315_320 := n22_; have NB320_315 := n23_; clear n0_ n1_ n2_ n3_ n4_ n5_ n6_ n7_ n8_ n9_ n10_ n11_ n12_ n13_ n14_ n15_ n16_ n17_ n18_ n19_ n20_ n21_ n22_ n23_; clear hb hbox hg; have hnb70 := NB320_289.out; have hnc70 := NB289_320.out; have hnb71 := NB320_290.out; have hnc71 := NB290_320.out; have hnb72 := NB320_291.out; have hnc72 := NB291_320.out; have hnb73 := NB320_310.out; have hnc73 := NB310_320.out; have hnb74 := NB320_315.out; have hnc74 := NB315_320.out; have hcz75_0 : w69.cell? ⟨gb320, 0, none⟩ = some (.int .i64 0) := (blk_cell BK320.out 0).trans rfl; have hcz75_1 : w69.cell? ⟨gb320, 1, none⟩ = some (.slice none 0 0) := (blk_cell BK320.out 1).trans rfl; have hfz75_0 := blk_frozen BK320.out 0; have hfz75_1 := blk_frozen BK320.out 1; obtain ⟨Ao76, co76, eo76⟩ := Kd.R_slice HO319.out; subst eo76))
    have n0_ : Aside0 (Kd.R (Kd.int .i64) 3 ((w69.setCell ⟨gb320, 0, none⟩ (.int .i64 t316)).setCell ⟨gb320, 1, none⟩ (.slice Ao76 t317.length co76)) w.heap.size (fun k_ => some k_ ≠ (v303 : Value).ownBlock ∧ some k_ ≠ (.slice Ao53 t305.length co53 : Value).ownBlock ∧ some k_ ≠ (.slice Ao60 t311.length co60 : Value).ownBlock ∧ some k_ ≠ (.slice Ao76 t317.length co76 : Value).ownBlock) v298 t297) := ⟨by (with_reducible repeat (first | apply Kd.R_alloc | apply Kd.R_drewN | apply Kd.R_drew)); exact Kd.R_mono (Kd.R_far (p := ⟨gb320, 1, none⟩) (Kd.R_far (p := ⟨gb320, 0, none⟩) (Kd.R_types HO299.out BK320.out (by decide)) (fun _ hk => hk.2) (.int .i64 t316)) (fun _ hk => hk.2) (.slice Ao76 t317.length co76)) (fun _ hk => ⟨hk.1.1.1.1, ⟨hk.1.1.1.2, ⟨hk.1.1.2, hk.1.2⟩⟩⟩)⟩
    have n1_ : Aside0 (Kd.R (Kd.int .i64) 3 ((w69.setCell ⟨gb320, 0, none⟩ (.int .i64 t316)).setCell ⟨gb320, 1, none⟩ (.slice Ao76 t317.length co76)) w.heap.size (fun k_ => some k_ ≠ (v298 : Value).ownBlock ∧ some k_ ≠ (.slice Ao53 t305.length co53 : Value).ownBlock ∧ some k_ ≠ (.slice Ao60 t311.length co60 : Value).ownBlock ∧ some k_ ≠ (.slice Ao76 t317.length co76 : Value).ownBlock) v303 t302) := ⟨by (with_reducible repeat (first | apply Kd.R_alloc | apply Kd.R_drewN | apply Kd.R_drew)); exact Kd.R_mono (Kd.R_far (p := ⟨gb320, 1, none⟩) (Kd.R_far (p := ⟨gb320, 0, none⟩) (Kd.R_types HO304.out BK320.out (by decide)) (fun _ hk => hk.2) (.int .i64 t316)) (fun _ hk => hk.2) (.slice Ao76 t317.length co76)) (fun _ hk => ⟨hk.1.1.1.1, ⟨hk.1.1.1.2, ⟨hk.1.1.2, hk.1.2⟩⟩⟩)⟩
    have n2_ : Aside0 (Kd.R (Kd.int .i64) 3 ((w69.setCell ⟨gb320, 0, none⟩ (.int .i64 t316)).setCell ⟨gb320, 1, none⟩ (.slice Ao76 t317.length co76)) w.heap.size (fun k_ => some k_ ≠ (v298 : Value).ownBlock ∧ some k_ ≠ (v303 : Value).ownBlock ∧ some k_ ≠ (.slice Ao60 t311.length co60 : Value).ownBlock ∧ some k_ ≠ (.slice Ao76 t317.length co76 : Value).ownBlock) (.slice Ao53 t305.length co53) t305) := ⟨by (with_reducible repeat (first | apply Kd.R_alloc | apply Kd.R_drewN | apply Kd.R_drew)); exact Kd.R_mono (Kd.R_far (p := ⟨gb320, 1, none⟩) (Kd.R_far (p := ⟨gb320, 0, none⟩) (Kd.R_types HO307.out BK320.out (by decide)) (fun _ hk => hk.2) (.int .i64 t316)) (fun _ hk => hk.2) (.slice Ao76 t317.length co76)) (fun _ hk => ⟨hk.1.1.1.1, ⟨hk.1.1.1.2, ⟨hk.1.1.2, hk.1.2⟩⟩⟩)⟩
    have n3_ : Aside0 (Kd.R (Kd.int .i64) 3 ((w69.setCell ⟨gb320, 0, none⟩ (.int .i64 t316)).setCell ⟨gb320, 1, none⟩ (.slice Ao76 t317.length co76)) w.heap.size (fun k_ => some k_ ≠ (v298 : Value).ownBlock ∧ some k_ ≠ (v303 : Value).ownBlock ∧ some k_ ≠ (.slice Ao53 t305.length co53 : Value).ownBlock ∧ some k_ ≠ (.slice Ao76 t317.length co76 : Value).ownBlock) (.slice Ao60 t311.length co60) t311) := ⟨by (with_reducible repeat (first | apply Kd.R_alloc | apply Kd.R_drewN | apply Kd.R_drew)); exact Kd.R_mono (Kd.R_far (p := ⟨gb320, 1, none⟩) (Kd.R_far (p := ⟨gb320, 0, none⟩) (Kd.R_types HO313.out BK320.out (by decide)) (fun _ hk => hk.2) (.int .i64 t316)) (fun _ hk => hk.2) (.slice Ao76 t317.length co76)) (fun _ hk => ⟨hk.1.1.1.1.2, ⟨hk.1.1.1.2, ⟨hk.1.1.2, hk.1.2⟩⟩⟩)⟩
    have n4_ : Aside0 (Kd.R (Kd.int .i64) 3 ((w69.setCell ⟨gb320, 0, none⟩ (.int .i64 t316)).setCell ⟨gb320, 1, none⟩ (.slice Ao76 t317.length co76)) w.heap.size (fun k_ => some k_ ≠ (v298 : Value).ownBlock ∧ some k_ ≠ (v303 : Value).ownBlock ∧ some k_ ≠ (.slice Ao53 t305.length co53 : Value).ownBlock ∧ some k_ ≠ (.slice Ao60 t311.length co60 : Value).ownBlock) (.slice Ao76 t317.length co76) t317) := ⟨by (with_reducible repeat (first | apply Kd.R_alloc | apply Kd.R_drewN | apply Kd.R_drew)); exact Kd.R_mono (Kd.R_far (p := ⟨gb320, 1, none⟩) (Kd.R_far (p := ⟨gb320, 0, none⟩) (Kd.R_types HO319.out BK320.out (by decide)) (fun _ hk => hk.2) (.int .i64 t316)) (fun _ hk => hk.2) (.slice Ao76 t317.length co76)) (fun _ hk => ⟨hk.1.1.1.1.2, ⟨hk.1.1.1.2, ⟨hk.1.1.2, hk.1.2⟩⟩⟩)⟩
    have n5_ : Aside0 (((w69.setCell ⟨gb320, 0, none⟩ (.int .i64 t316)).setCell ⟨gb320, 1, none⟩ (.slice Ao76 t317.length co76)).heap[gb289]? = some (.cells #[.int .i64 a0_0, .int .i64 a0_1, .int .i64 a0_2] 23 (0, 0))) := ⟨by (with_reducible repeat (first | refine blk_drewN ?_ _ | refine blk_drew ?_ | refine blk_alloc ?_ _)); refine blk_far ?_ NB289_320.out _; (with_reducible repeat (first | refine blk_drewN ?_ _ | refine blk_drew ?_ | refine blk_alloc ?_ _)); refine blk_far ?_ NB289_320.out _; (with_reducible repeat (first | refine blk_drewN ?_ _ | refine blk_drew ?_ | refine blk_alloc ?_ _)); exact BK289.out⟩
    have n6_ : Aside0 (((w69.setCell ⟨gb320, 0, none⟩ (.int .i64 t316)).setCell ⟨gb320, 1, none⟩ (.slice Ao76 t317.length co76)).heap[gb290]? = some (.cells #[.slice A1_0 l1_0.length c1_0, .int .i64 a1_1] 26 (0, 0))) := ⟨by (with_reducible repeat (first | refine blk_drewN ?_ _ | refine blk_drew ?_ | refine blk_alloc ?_ _)); refine blk_far ?_ NB290_320.out _; (with_reducible repeat (first | refine blk_drewN ?_ _ | refine blk_drew ?_ | refine blk_alloc ?_ _)); refine blk_far ?_ NB290_320.out _; (with_reducible repeat (first | refine blk_drewN ?_ _ | refine blk_drew ?_ | refine blk_alloc ?_ _)); exact BK290.out⟩
    have n7_ : Aside0 (((w69.setCell ⟨gb320, 0, none⟩ (.int .i64 t316)).setCell ⟨gb320, 1, none⟩ (.slice Ao76 t317.length co76)).heap[gb291]? = some (.cells #[.int .i64 a2_0, .slice A2_1 l2_1.length c2_1] 28 (0, 0))) := ⟨by (with_reducible repeat (first | refine blk_drewN ?_ _ | refine blk_drew ?_ | refine blk_alloc ?_ _)); refine blk_far ?_ NB291_320.out _; (with_reducible repeat (first | refine blk_drewN ?_ _ | refine blk_drew ?_ | refine blk_alloc ?_ _)); refine blk_far ?_ NB291_320.out _; (with_reducible repeat (first | refine blk_drewN ?_ _ | refine blk_drew ?_ | refine blk_alloc ?_ _)); exact BK291.out⟩
    have n8_ : Aside0 (((w69.setCell ⟨gb320, 0, none⟩ (.int .i64 t316)).setCell ⟨gb320, 1, none⟩ (.slice Ao76 t317.length co76)).heap[gb310]? = some (.cells #[.slice Ao53 t305.length co53, .int .i64 t308] 31 (0, 0))) := ⟨by (with_reducible repeat (first | refine blk_drewN ?_ _ | refine blk_drew ?_ | refine blk_alloc ?_ _)); refine blk_far ?_ NB310_320.out _; (with_reducible repeat (first | refine blk_drewN ?_ _ | refine blk_drew ?_ | refine blk_alloc ?_ _)); refine blk_far ?_ NB310_320.out _; (with_reducible repeat (first | refine blk_drewN ?_ _ | refine blk_drew ?_ | refine blk_alloc ?_ _)); exact BK310.out⟩
    have n9_ : Aside0 (((w69.setCell ⟨gb320, 0, none⟩ (.int .i64 t316)).setCell ⟨gb320, 1, none⟩ (.slice Ao76 t317.length co76)).heap[gb315]? = some (.cells #[.slice Ao60 t311.length co60, .int .i64 t314] 31 (0, 0))) := ⟨by (with_reducible repeat (first | refine blk_drewN ?_ _ | refine blk_drew ?_ | refine blk_alloc ?_ _)); refine blk_far ?_ NB315_320.out _; (with_reducible repeat (first | refine blk_drewN ?_ _ | refine blk_drew ?_ | refine blk_alloc ?_ _)); refine blk_far ?_ NB315_320.out _; (with_reducible repeat (first | refine blk_drewN ?_ _ | refine blk_drew ?_ | refine blk_alloc ?_ _)); exact BK315.out⟩
    have n10_ : Aside0 (((w69.setCell ⟨gb320, 0, none⟩ (.int .i64 t316)).setCell ⟨gb320, 1, none⟩ (.slice Ao76 t317.length co76)).heap[gb320]? = some (.cells #[.int .i64 t316, .slice Ao76 t317.length co76] 37 (0, 0))) := ⟨by (with_reducible repeat (first | refine blk_drewN ?_ _ | refine blk_drew ?_ | refine blk_alloc ?_ _)); refine blk_put (cs := #[.int .i64 t316, .slice none 0 0]) ?_ 1 _ rfl; (with_reducible repeat (first | refine blk_drewN ?_ _ | refine blk_drew ?_ | refine blk_alloc ?_ _)); refine blk_put (cs := #[.int .i64 0, .slice none 0 0]) ?_ 0 _ rfl; (with_reducible repeat (first | refine blk_drewN ?_ _ | refine blk_drew ?_ | refine blk_alloc ?_ _)); exact BK320.out⟩
    have n11_ : Aside0 (Below w.heap.size w ((w69.setCell ⟨gb320, 0, none⟩ (.int .i64 t316)).setCell ⟨gb320, 1, none⟩ (.slice Ao76 t317.length co76))) := ⟨X.G⟩
    (try clear HO299)
    (try clear HO304)
    (try clear HO307)
    (try clear HO313)
    (try clear HO319)
    (try clear BK289)
    (try clear BK290)
    (try clear BK291)
    (try clear BK310)
    (try clear BK315)
    (try clear BK320)
    (try clear HB)
    generalize ((w69.setCell ⟨gb320, 0, none⟩ (.int .i64 t316)).setCell ⟨gb320, 1, none⟩ (.slice Ao76 t317.length co76)) = w77 at n0_ n1_ n2_ n3_ n4_ n5_ n6_ n7_ n8_ n9_ n10_ n11_ ⊢
    have HO299 := n0_
    have HO304 := n1_
    have HO307 := n2_
    have HO313 := n3_
    have HO319 := n4_
    have BK289 := n5_
    have BK290 := n6_
    have BK291 := n7_
    have BK310 := n8_
    have BK315 := n9_
    have BK320 := n10_
    have HB := n11_
    clear n0_ n1_ n2_ n3_ n4_ n5_ n6_ n7_ n8_ n9_ n10_ n11_
    have n0_ := Aside0.mk (Kd.R_drew HO299.out)
    have n1_ := Aside0.mk (Kd.R_drew HO304.out)
    have n2_ := Aside0.mk (Kd.R_drew HO307.out)
    have n3_ := Aside0.mk (Kd.R_drew HO313.out)
    have n4_ := Aside0.mk (Kd.R_drew HO319.out)
    have n5_ := Aside0.mk (blk_drew BK289.out)
    have n6_ := Aside0.mk (blk_drew BK290.out)
    have n7_ := Aside0.mk (blk_drew BK291.out)
    have n8_ := Aside0.mk (blk_drew BK310.out)
    have n9_ := Aside0.mk (blk_drew BK315.out)
    have n10_ := Aside0.mk (blk_drew BK320.out)
    have n11_ := Aside0.mk (below_drew1 HB.out)
    clear HO299
    clear HO304
    clear HO307
    clear HO313
    clear HO319
    clear BK289
    clear BK290
    clear BK291
    clear BK310
    clear BK315
    clear BK320
    clear HB
    have HO299 := n0_
    have HO304 := n1_
    have HO307 := n2_
    have HO313 := n3_
    have HO319 := n4_
    have BK289 := n5_
    have BK290 := n6_
    have BK291 := n7_
    have BK310 := n8_
    have BK315 := n9_
    have BK320 := n10_
    have HB := n11_
    clear n0_ n1_ n2_ n3_ n4_ n5_ n6_ n7_ n8_ n9_ n10_ n11_
    refine start_ (n := 11) (S := fun w' => w'.cell? ⟨gb289, 0, none⟩ = some (.int .i64 a0_0) ∧ w'.cell? ⟨gb289, 1, none⟩ = some (.int .i64 a0_1) ∧ w'.cell? ⟨gb289, 2, none⟩ = some (.int .i64 a0_2) ∧ w'.cell? ⟨gb315, 0, none⟩ = some (.slice Ao60 t311.length co60) ∧ w'.cell? ⟨gb315, 1, none⟩ = some (.int .i64 t314) ∧ w'.cell? ⟨gb320, 0, none⟩ = some (.int .i64 t316) ∧ w'.cell? ⟨gb320, 1, none⟩ = some (.slice Ao76 t317.length co76)) (ds := []) #[false, false, false, false, false, false, false, false, false, false, false] (by kernel_rfl) rfl rfl ⟨(blk_cell BK289.out 0).trans rfl, (blk_cell BK289.out 1).trans rfl, (blk_cell BK289.out 2).trans rfl, (blk_cell BK315.out 0).trans rfl, (blk_cell BK315.out 1).trans rfl, (blk_cell BK320.out 0).trans rfl, (blk_cell BK320.out 1).trans rfl⟩ (fun hHeld => ?_); refine with_tabW laws_FnExactSail.tab11 laws_FnExactSail.bits11 (fun HT_ HW_ => ?_)
    generalize w77.drew = w78 at HO299 HO304 HO307 HO313 HO319 BK289 BK290 BK291 BK310 BK315 BK320 HB hHeld ⊢
    refine take_ (i := 0) (N := some 44) (v := ?_) (a' := ?_) #[true, false, false, false, false, false, false, false, false, false, false] rfl rfl (take_ofW HT_.out HW_.out (by kernel_rfl)) (fun _ _ _ h => h) (Or.inl ⟨by rfl, ?_⟩) hHeld ?_ ?_
    rotate_left
    ·rintro w' ⟨s0, s1, s2, s3, s4, s5, s6⟩
     go_simp
     with_reducible rfl
    rotate_left
    ·exact X.Pu
    refine take_ (i := 2) (N := some 46) (v := ?_) (a' := ?_) #[true, false, true, false, false, false, false, false, false, false, false] rfl rfl (take_ofW HT_.out HW_.out (by kernel_rfl)) (fun _ _ _ h => h) (Or.inl ⟨by rfl, ?_⟩) hHeld ?_ ?_
    rotate_left
    ·rintro w' ⟨s0, s1, s2, s3, s4, s5, s6⟩
     go_simp
     with_reducible rfl
    rotate_left
    ·exact X.Pu
    refine take_ (i := 3) (N := some 47) (v := ?_) (a' := ?_) #[true, false, true, true, false, false, false, false, false, false, false] rfl rfl (take_ofW HT_.out HW_.out (by kernel_rfl)) (fun _ _ _ h => h) (Or.inl ⟨by rfl, ?_⟩) hHeld ?_ ?_
    rotate_left
    ·rintro w' ⟨s0, s1, s2, s3, s4, s5, s6⟩
     go_simp
     with_reducible rfl
    rotate_left
    ·exact X.Pu
    refine join_ (σ := Value × Nat) 2 #[true, true, true, true, true, true, true, true, true, false, false] (fun s_ => [(45, .agg #[.int .i64 t321, .int .i64 t322, .int .i64 t323]), (48, .tuple #[.agg #[s_.1, .int .i64 t327], .bool t328]), (12, .pointer (some ⟨s_.2, 0, none⟩)), (43, .tuple #[.agg #[s_.1, .int .i64 t327], .bool t328]), (49, .agg #[s_.1, .int .i64 t327]), (50, .bool t328)]) (fun s_ w' => (w'.cell? ⟨gb289, 0, none⟩ = some (.int .i64 a0_0) ∧ w'.cell? ⟨gb289, 1, none⟩ = some (.int .i64 a0_1) ∧ w'.cell? ⟨gb289, 2, none⟩ = some (.int .i64 a0_2) ∧ w'.cell? ⟨gb315, 0, none⟩ = some (.slice Ao60 t311.length co60) ∧ w'.cell? ⟨gb315, 1, none⟩ = some (.int .i64 t314) ∧ w'.cell? ⟨gb320, 0, none⟩ = some (.int .i64 t316) ∧ w'.cell? ⟨gb320, 1, none⟩ = some (.slice Ao76 t317.length co76)) ∧ (Kd.R (Kd.int .i64) 3 w' w.heap.size (fun k_ => some k_ ≠ (v303 : Value).ownBlock ∧ some k_ ≠ (.slice Ao53 t305.length co53 : Value).ownBlock ∧ some k_ ≠ (.slice Ao60 t311.length co60 : Value).ownBlock ∧ some k_ ≠ (.slice Ao76 t317.length co76 : Value).ownBlock ∧ some k_ ≠ (s_.1 : Value).ownBlock) v298 t297) ∧ (Kd.R (Kd.int .i64) 3 w' w.heap.size (fun k_ => some k_ ≠ (v298 : Value).ownBlock ∧ some k_ ≠ (.slice Ao53 t305.length co53 : Value).ownBlock ∧ some k_ ≠ (.slice Ao60 t311.length co60 : Value).ownBlock ∧ some k_ ≠ (.slice Ao76 t317.length co76 : Value).ownBlock ∧ some k_ ≠ (s_.1 : Value).ownBlock) v303 t302) ∧ (Kd.R (Kd.int .i64) 3 w' w.heap.size (fun k_ => some k_ ≠ (v298 : Value).ownBlock ∧ some k_ ≠ (v303 : Value).ownBlock ∧ some k_ ≠ (.slice Ao60 t311.length co60 : Value).ownBlock ∧ some k_ ≠ (.slice Ao76 t317.length co76 : Value).ownBlock ∧ some k_ ≠ (s_.1 : Value).ownBlock) (.slice Ao53 t305.length co53) t305) ∧ (Kd.R (Kd.int .i64) 3 w' w.heap.size (fun k_ => some k_ ≠ (v298 : Value).ownBlock ∧ some k_ ≠ (v303 : Value).ownBlock ∧ some k_ ≠ (.slice Ao53 t305.length co53 : Value).ownBlock ∧ some k_ ≠ (.slice Ao76 t317.length co76 : Value).ownBlock ∧ some k_ ≠ (s_.1 : Value).ownBlock) (.slice Ao60 t311.length co60) t311) ∧ (Kd.R (Kd.int .i64) 3 w' w.heap.size (fun k_ => some k_ ≠ (v298 : Value).ownBlock ∧ some k_ ≠ (v303 : Value).ownBlock ∧ some k_ ≠ (.slice Ao53 t305.length co53 : Value).ownBlock ∧ some k_ ≠ (.slice Ao60 t311.length co60 : Value).ownBlock ∧ some k_ ≠ (s_.1 : Value).ownBlock) (.slice Ao76 t317.length co76) t317) ∧ (Kd.R (Kd.int .i64) 3 w' w.heap.size (fun k_ => some k_ ≠ (v298 : Value).ownBlock ∧ some k_ ≠ (v303 : Value).ownBlock ∧ some k_ ≠ (.slice Ao53 t305.length co53 : Value).ownBlock ∧ some k_ ≠ (.slice Ao60 t311.length co60 : Value).ownBlock ∧ some k_ ≠ (.slice Ao76 t317.length co76 : Value).ownBlock) s_.1 t324) ∧ (w'.heap[gb289]? = some (.cells #[.int .i64 a0_0, .int .i64 a0_1, .int .i64 a0_2] 23 (0, 0))) ∧ (w'.heap[gb290]? = some (.cells #[.slice A1_0 l1_0.length c1_0, .int .i64 a1_1] 26 (0, 0))) ∧ (w'.heap[gb291]? = some (.cells #[.int .i64 a2_0, .slice A2_1 l2_1.length c2_1] 28 (0, 0))) ∧ (w'.heap[gb310]? = some (.cells #[.slice Ao53 t305.length co53, .int .i64 t308] 31 (0, 0))) ∧ (w'.heap[gb315]? = some (.cells #[.slice Ao60 t311.length co60, .int .i64 t314] 31 (0, 0))) ∧ (w'.heap[gb320]? = some (.cells #[.int .i64 t316, .slice Ao76 t317.length co76] 37 (0, 0))) ∧ (w'.heap[s_.2]? = some (.cells #[.slice none 0 0, .int .i64 0] 31 (0, 0))) ∧ (w.heap.size ≤ s_.2) ∧ (w.heap.size ≤ s_.2) ∧ (gb289 ≠ s_.2) ∧ (s_.2 ≠ gb289) ∧ (gb290 ≠ s_.2) ∧ (s_.2 ≠ gb290) ∧ (gb291 ≠ s_.2) ∧ (s_.2 ≠ gb291) ∧ (gb310 ≠ s_.2) ∧ (s_.2 ≠ gb310) ∧ (gb315 ≠ s_.2) ∧ (s_.2 ≠ gb315) ∧ (gb320 ≠ s_.2) ∧ (s_.2 ≠ gb320) ∧ (Below w.heap.size w w')) ?_ ?_
    rotate_left
    ·intro hCont
     refine two_ (i := 1) (j := 8) (Ni := some 45) (Nj := some 12) #[true, true, true, true, false, false, false, false, false, false, false] #[true, false, true, true, false, false, false, false, true, false, false] rfl rfl rfl rfl (two_of HT_.out (by kernel_rfl)) (by decide) (by decide) (fun K hK => ?_) (fun K hK => ?_)
     ·skip
      refine goes_ Try.func7 (by kernel_rfl) rfl #[.agg #[.int .i64 a0_0, .int .i64 a0_1, .int .i64 a0_2]] (by rfl) rfl rfl X.M ?_
      with_reducible refine (laws_toIsles.calls a0_0 a0_1 a0_2 t321 t322 t323 _ A31.out).mono ?_
      rintro e w79 ⟨rfl, hb⟩
      refine ⟨_, rfl, ?_⟩
      have n0_ := Aside0.mk (Kd.R_below (X.K HO299) hb)
      have n1_ := Aside0.mk (Kd.R_below (X.K HO304) hb)
      have n2_ := Aside0.mk (Kd.R_below (X.K HO307) hb)
      have n3_ := Aside0.mk (Kd.R_below (X.K HO313) hb)
      have n4_ := Aside0.mk (Kd.R_below (X.K HO319) hb)
      have n5_ := Aside0.mk (X.BB BK289 hb)
      have n6_ := Aside0.mk (X.BB BK290 hb)
      have n7_ := Aside0.mk (X.BB BK291 hb)
      have n8_ := Aside0.mk (X.BB BK310 hb)
      have n9_ := Aside0.mk (X.BB BK315 hb)
      have n10_ := Aside0.mk (X.BB BK320 hb)
      have n11_ := Aside0.mk (below_step X.G hb)
      clear HO299
      clear HO304
      clear HO307
      clear HO313
      clear HO319
      clear BK289
      clear BK290
      clear BK291
      clear BK310
      clear BK315
      clear BK320
      clear HB
      have HO299 := n0_
      have HO304 := n1_
      have HO307 := n2_
      have HO313 := n3_
      have HO319 := n4_
      have BK289 := n5_
      have BK290 := n6_
      have BK291 := n7_
      have BK310 := n8_
      have BK315 := n9_
      have BK320 := n10_
      have HB := n11_
      clear n0_ n1_ n2_ n3_ n4_ n5_ n6_ n7_ n8_ n9_ n10_ n11_
      (try clear hb)
      (try clear hb2)
      (try clear hk)
      (try clear hi)
      refine hK.out _ _ ⟨(blk_cell BK289.out 0).trans rfl, (blk_cell BK289.out 1).trans rfl, (blk_cell BK289.out 2).trans rfl, (blk_cell BK315.out 0).trans rfl, (blk_cell BK315.out 1).trans rfl, (blk_cell BK320.out 0).trans rfl, (blk_cell BK320.out 1).trans rfl⟩ (fun hHeld => ?_)
      clear hK K
      refine norm_ (a' := ?_) ?_ ?_
      rotate_left
      ·show Act.put _ (some 45) _ = _
       simp only [Act.put, List.setIfInBounds_toArray, List.set_cons_zero, List.set_cons_succ, i64_w, i32_w]
       rfl
      refine two_ (i := 4) (j := 8) (Ni := some 48) (Nj := some 12) #[true, true, true, true, true, false, false, false, false, false, false] #[true, true, true, true, false, false, false, false, true, false, false] rfl rfl rfl rfl (two_of HT_.out (by kernel_rfl)) (by decide) (by decide) (fun K hK => ?_) (fun K hK => ?_)
      ·skip
       refine goes_ Try.func10 (by kernel_rfl) rfl #[.agg #[.int .i64 t321, .int .i64 t322, .int .i64 t323], .agg #[.slice Ao60 t311.length co60, .int .i64 t314], .agg #[.int .i64 t316, .slice Ao76 t317.length co76]] (by rfl) rfl rfl X.M ?_
       with_reducible refine (impl_Sail.calls k t321 t322 t323 _ _ t311 t314 t316 _ _ t317 t324 t327 t328 _ ?side1 ?side2 ?side3 ?side4 A32.out).mono ?_
       (case side1 => exact X.C (Kd.R_reads' HO313.out).2.2)
       (case side2 => exact (Kd.R_reads' HO313.out).2.1)
       (case side3 => exact X.C (Kd.R_reads' HO319.out).2.2)
       (case side4 => exact (Kd.R_reads' HO319.out).2.1)
       rintro e w80 ⟨v325, rfl, ho0, hb⟩
       refine ⟨_, rfl, ?_⟩
       have n0_ := Aside0.mk (Kd.R_elder' (X.K HO299) (Kd.R_base ho0) hb)
       have n1_ := Aside0.mk (Kd.R_elder' (X.K HO304) (Kd.R_base ho0) hb)
       have n2_ := Aside0.mk (Kd.R_elder' (X.K HO307) (Kd.R_base ho0) hb)
       have n3_ := Aside0.mk (Kd.R_elder' (X.K HO313) (Kd.R_base ho0) hb)
       have n4_ := Aside0.mk (Kd.R_elder' (X.K HO319) (Kd.R_base ho0) hb)
       have n5_ := Aside0.mk (Kd.R_lower (Kd.R_new' (Kd.R_new' (Kd.R_new' (Kd.R_new' (Kd.R_new' ho0 (Kd.R_lt (X.K HO299))) (Kd.R_lt (X.K HO304))) (Kd.R_lt (X.K HO307))) (Kd.R_lt (X.K HO313))) (Kd.R_lt (X.K HO319))) (below_size X.G))
       have n6_ := Aside0.mk (X.BB BK289 hb)
       have n7_ := Aside0.mk (X.BB BK290 hb)
       have n8_ := Aside0.mk (X.BB BK291 hb)
       have n9_ := Aside0.mk (X.BB BK310 hb)
       have n10_ := Aside0.mk (X.BB BK315 hb)
       have n11_ := Aside0.mk (X.BB BK320 hb)
       have n12_ := Aside0.mk (below_step X.G hb)
       clear HO299
       clear HO304
       clear HO307
       clear HO313
       clear HO319
       clear BK289
       clear BK290
       clear BK291
       clear BK310
       clear BK315
       clear BK320
       clear HB
       have HO299 := n0_
       have HO304 := n1_
       have HO307 := n2_
       have HO313 := n3_
       have HO319 := n4_
       have HO326 := n5_
       have BK289 := n6_
       have BK290 := n7_
       have BK291 := n8_
       have BK310 := n9_
       have BK315 := n10_
       have BK320 := n11_
       have HB := n12_
       clear n0_ n1_ n2_ n3_ n4_ n5_ n6_ n7_ n8_ n9_ n10_ n11_ n12_
       (try clear hb)
       (try clear hb2)
       (try clear hk)
       (try clear hi)
       (try clear ho0)
       refine hK.out _ _ ⟨(blk_cell BK289.out 0).trans rfl, (blk_cell BK289.out 1).trans rfl, (blk_cell BK289.out 2).trans rfl, (blk_cell BK315.out 0).trans rfl, (blk_cell BK315.out 1).trans rfl, (blk_cell BK320.out 0).trans rfl, (blk_cell BK320.out 1).trans rfl⟩ (fun hHeld => ?_)
       clear hK K
       refine norm_ (a' := ?_) ?_ ?_
       rotate_left
       ·show Act.put _ (some 48) _ = _
        simp only [Act.put, List.setIfInBounds_toArray, List.set_cons_zero, List.set_cons_succ, i64_w, i32_w]
        rfl
       refine pure_ (i := 5) (N := some 43) (v := ?_) (a' := ?_) #[true, true, true, true, true, true, false, false, false, false, false] rfl rfl (any_of HT_.out (by kernel_rfl)) (fun _ _ _ h => h) (Or.inl ⟨by rfl, ?_⟩) ?_ ?_
       rotate_left
       ·intro w'
        go_simp
        with_reducible rfl
       rotate_left
       ·exact X.Pu
       refine pure_ (i := 6) (N := some 49) (v := ?_) (a' := ?_) #[true, true, true, true, true, true, true, false, false, false, false] rfl rfl (any_of HT_.out (by kernel_rfl)) (fun _ _ _ h => h) (Or.inl ⟨by rfl, ?_⟩) ?_ ?_
       rotate_left
       ·intro w'
        go_simp
        with_reducible rfl
       rotate_left
       ·exact X.Pu
       refine pure_ (i := 7) (N := some 50) (v := ?_) (a' := ?_) #[true, true, true, true, true, true, true, true, false, false, false] rfl rfl (any_of HT_.out (by kernel_rfl)) (fun _ _ _ h => h) (Or.inl ⟨by rfl, ?_⟩) ?_ ?_
       rotate_left
       ·intro w'
        go_simp
        with_reducible rfl
       rotate_left
       ·exact X.Pu
       refine one_ (i := 8) (N := some 12) #[true, true, true, true, true, true, true, true, true, false, false] rfl rfl (one_of HT_.out (by kernel_rfl)) (by decide) (fun K hK => ?_)
       refine box_step ?hg (N := 12) ?hd (cs := #[.slice none 0 0, .int .i64 0]) (t := 31) ?hr ?_; (case hd => rfl); (case hg => rfl); (case hr => exact X.R)
       intro gb329 hg w81 hbox hb
       have n0_ := Aside0.mk (Kd.R_below (X.K HO299) hb)
       have n1_ := Aside0.mk (Kd.R_below (X.K HO304) hb)
       have n2_ := Aside0.mk (Kd.R_below (X.K HO307) hb)
       have n3_ := Aside0.mk (Kd.R_below (X.K HO313) hb)
       have n4_ := Aside0.mk (Kd.R_below (X.K HO319) hb)
       have n5_ := Aside0.mk (Kd.R_below (X.K HO326) hb)
       have n6_ := Aside0.mk (X.BB BK289 hb)
       have n7_ := Aside0.mk (X.BB BK290 hb)
       have n8_ := Aside0.mk (X.BB BK291 hb)
       have n9_ := Aside0.mk (X.BB BK310 hb)
       have n10_ := Aside0.mk (X.BB BK315 hb)
       have n11_ := Aside0.mk (X.BB BK320 hb)
       have n12_ := Aside0.mk (below_step X.G hb)
       have n13_ := Aside0.mk (hbox)
       have n14_ := Aside0.mk ((by rw [hg]; exact (below_size X.G) : w.heap.size ≤ gb329))
       have n15_ := Aside0.mk ((by rw [hg]; exact (below_size X.G) : w.heap.size ≤ gb329))
       have n16_ := Aside0.mk ((by rw [hg]; exact Nat.ne_of_lt (X.BL BK289) : gb289 ≠ gb329))
       have n17_ := Aside0.mk ((by rw [hg]; exact Nat.ne_of_gt (X.BL BK289) : gb329 ≠ gb289))
       have n18_ := Aside0.mk ((by rw [hg]; exact Nat.ne_of_lt (X.BL BK290) : gb290 ≠ gb329))
       have n19_ := Aside0.mk ((by rw [hg]; exact Nat.ne_of_gt (X.BL BK290) : gb329 ≠ gb290))
       have n20_ := Aside0.mk ((by rw [hg]; exact Nat.ne_of_lt (X.BL BK291) : gb291 ≠ gb329))
       have n21_ := Aside0.mk ((by rw [hg]; exact Nat.ne_of_gt (X.BL BK291) : gb329 ≠ gb291))
       have n22_ := Aside0.mk ((by rw [hg]; exact Nat.ne_of_lt (X.BL BK310) : gb310 ≠ gb329))
       have n23_ := Aside0.mk ((by rw [hg]; exact Nat.ne_of_gt (X.BL BK310) : gb329 ≠ gb310))
       have n24_ := Aside0.mk ((by rw [hg]; exact Nat.ne_of_lt (X.BL BK315) : gb315 ≠ gb329))
       have n25_ := Aside0.mk ((by rw [hg]; exact Nat.ne_of_gt (X.BL BK315) : gb329 ≠ gb315))
       have n26_ := Aside0.mk ((by rw [hg]; exact Nat.ne_of_lt (X.BL BK320) : gb320 ≠ gb329))
       have n27_ := Aside0.mk ((by rw [hg]; exact Nat.ne_of_gt (X.BL BK320) : gb329 ≠ gb320))
       clear HO299
       clear HO304
       clear HO307
       clear HO313
       clear HO319
       clear HO326
       clear BK289
       clear BK290
       clear BK291
       clear BK310
       clear BK315
       clear BK320
       clear HB
       have HO299 := n0_
       have HO304 := n1_
       have HO307 := n2_
       have HO313 := n3_
       have HO319 := n4_
       have HO326 := n5_
       have BK289 := n6_
       have BK290 := n7_
       have BK291 := n8_
       have BK310 := n9_
       have BK315 := n10_
       have BK320 := n11_
       have HB := n12_
       have BK329 := n13_
       have GW329 := n14_
       have GE329 := n15_
       have NB289_329 := n16_
       have NB329_289 := n17_
       have NB290_329 := n18_
       have NB329_290 := n19_
       have NB291_329 := n20_
       have NB329_291 := n21_
       have NB310_329 := n22_
       have NB329_310 := n23_
       have NB315_329 := n24_
       have NB329_315 := n25_
       have NB320_329 := n26_
       have NB329_320 := n27_
       clear n0_ n1_ n2_ n3_ n4_ n5_ n6_ n7_ n8_ n9_ n10_ n11_ n12_ n13_ n14_ n15_ n16_ n17_ n18_ n19_ n20_ n21_ n22_ n23_ n24_ n25_ n26_ n27_
       clear hb hbox hg
       refine hK.out _ _ ⟨(blk_cell BK289.out 0).trans rfl, (blk_cell BK289.out 1).trans rfl, (blk_cell BK289.out 2).trans rfl, (blk_cell BK315.out 0).trans rfl, (blk_cell BK315.out 1).trans rfl, (blk_cell BK320.out 0).trans rfl, (blk_cell BK320.out 1).trans rfl⟩ (fun hHeld => ?_)
       clear hK K
       refine norm_ (a' := ?_) ?_ ?_
       rotate_left
       ·show Act.put _ (some 12) _ = _
        simp only [Act.put, List.setIfInBounds_toArray, List.set_cons_zero, List.set_cons_succ, i64_w, i32_w]
        rfl
       exact norm_ (by simp only [putAll, Act.put, List.setIfInBounds_toArray, List.set_cons_zero, List.set_cons_succ]) (hCont (v325, gb329) _ ⟨hHeld, (by (with_reducible repeat (first | apply Kd.R_alloc | apply Kd.R_drewN | apply Kd.R_drew)); exact Kd.R_mono HO299.out (fun _ hk => ⟨hk.1.1, ⟨hk.1.2.1, ⟨hk.1.2.2.1, ⟨hk.1.2.2.2, hk.2⟩⟩⟩⟩)), (by (with_reducible repeat (first | apply Kd.R_alloc | apply Kd.R_drewN | apply Kd.R_drew)); exact Kd.R_mono HO304.out (fun _ hk => ⟨hk.1.1, ⟨hk.1.2.1, ⟨hk.1.2.2.1, ⟨hk.1.2.2.2, hk.2⟩⟩⟩⟩)), (by (with_reducible repeat (first | apply Kd.R_alloc | apply Kd.R_drewN | apply Kd.R_drew)); exact Kd.R_mono HO307.out (fun _ hk => ⟨hk.1.1, ⟨hk.1.2.1, ⟨hk.1.2.2.1, ⟨hk.1.2.2.2, hk.2⟩⟩⟩⟩)), (by (with_reducible repeat (first | apply Kd.R_alloc | apply Kd.R_drewN | apply Kd.R_drew)); exact Kd.R_mono HO313.out (fun _ hk => ⟨hk.1.1, ⟨hk.1.2.1, ⟨hk.1.2.2.1, ⟨hk.1.2.2.2, hk.2⟩⟩⟩⟩)), (by (with_reducible repeat (first | apply Kd.R_alloc | apply Kd.R_drewN | apply Kd.R_drew)); exact Kd.R_mono HO319.out (fun _ hk => ⟨hk.1.1, ⟨hk.1.2.1, ⟨hk.1.2.2.1, ⟨hk.1.2.2.2, hk.2⟩⟩⟩⟩)), (by (with_reducible repeat (first | apply Kd.R_alloc | apply Kd.R_drewN | apply Kd.R_drew)); exact Kd.R_mono HO326.out (fun _ hk => ⟨hk.1.1.1.1.2, ⟨hk.1.1.1.2, ⟨hk.1.1.2, ⟨hk.1.2, hk.2⟩⟩⟩⟩)), (X.B BK289), (X.B BK290), (X.B BK291), (X.B BK310), (X.B BK315), (X.B BK320), (X.B BK329), GW329.out, GE329.out, NB289_329.out, NB329_289.out, NB290_329.out, NB329_290.out, NB291_329.out, NB329_291.out, NB310_329.out, NB329_310.out, NB315_329.out, NB329_315.out, NB320_329.out, NB329_320.out, X.G⟩)
      ·skip
       refine box_step ?hg (N := 12) ?hd (cs := #[.slice none 0 0, .int .i64 0]) (t := 31) ?hr ?_; (case hd => rfl); (case hg => rfl); (case hr => exact X.R)
       intro gb329 hg w80 hbox hb
       have n0_ := Aside0.mk (Kd.R_below (X.K HO299) hb)
       have n1_ := Aside0.mk (Kd.R_below (X.K HO304) hb)
       have n2_ := Aside0.mk (Kd.R_below (X.K HO307) hb)
       have n3_ := Aside0.mk (Kd.R_below (X.K HO313) hb)
       have n4_ := Aside0.mk (Kd.R_below (X.K HO319) hb)
       have n5_ := Aside0.mk (X.BB BK289 hb)
       have n6_ := Aside0.mk (X.BB BK290 hb)
       have n7_ := Aside0.mk (X.BB BK291 hb)
       have n8_ := Aside0.mk (X.BB BK310 hb)
       have n9_ := Aside0.mk (X.BB BK315 hb)
       have n10_ := Aside0.mk (X.BB BK320 hb)
       have n11_ := Aside0.mk (below_step X.G hb)
       have n12_ := Aside0.mk (hbox)
       have n13_ := Aside0.mk ((by rw [hg]; exact (below_size X.G) : w.heap.size ≤ gb329))
       have n14_ := Aside0.mk ((by rw [hg]; exact (below_size X.G) : w.heap.size ≤ gb329))
       have n15_ := Aside0.mk ((by rw [hg]; exact Nat.ne_of_lt (X.BL BK289) : gb289 ≠ gb329))
       have n16_ := Aside0.mk ((by rw [hg]; exact Nat.ne_of_gt (X.BL BK289) : gb329 ≠ gb289))
       have n17_ := Aside0.mk ((by rw [hg]; exact Nat.ne_of_lt (X.BL BK290) : gb290 ≠ gb329))
       have n18_ := Aside0.mk ((by rw [hg]; exact Nat.ne_of_gt (X.BL BK290) : gb329 ≠ gb290))
       have n19_ := Aside0.mk ((by rw [hg]; exact Nat.ne_of_lt (X.BL BK291) : gb291 ≠ gb329))
       have n20_ := Aside0.mk ((by rw [hg]; exact Nat.ne_of_gt (X.BL BK291) : gb329 ≠ gb291))
       have n21_ := Aside0.mk ((by rw [hg]; exact Nat.ne_of_lt (X.BL BK310) : gb310 ≠ gb329))
       have n22_ := Aside0.mk ((by rw [hg]; exact Nat.ne_of_gt (X.BL BK310) : gb329 ≠ gb310))
       have n23_ := Aside0.mk ((by rw [hg]; exact Nat.ne_of_lt (X.BL BK315) : gb315 ≠ gb329))
       have n24_ := Aside0.mk ((by rw [hg]; exact Nat.ne_of_gt (X.BL BK315) : gb329 ≠ gb315))
       have n25_ := Aside0.mk ((by rw [hg]; exact Nat.ne_of_lt (X.BL BK320) : gb320 ≠ gb329))
       have n26_ := Aside0.mk ((by rw [hg]; exact Nat.ne_of_gt (X.BL BK320) : gb329 ≠ gb320))
       clear HO299
       clear HO304
       clear HO307
       clear HO313
       clear HO319
       clear BK289
       clear BK290
       clear BK291
       clear BK310
       clear BK315
       clear BK320
       clear HB
       have HO299 := n0_
       have HO304 := n1_
       have HO307 := n2_
       have HO313 := n3_
       have HO319 := n4_
       have BK289 := n5_
       have BK290 := n6_
       have BK291 := n7_
       have BK310 := n8_
       have BK315 := n9_
       have BK320 := n10_
       have HB := n11_
       have BK329 := n12_
       have GW329 := n13_
       have GE329 := n14_
       have NB289_329 := n15_
       have NB329_289 := n16_
       have NB290_329 := n17_
       have NB329_290 := n18_
       have NB291_329 := n19_
       have NB329_291 := n20_
       have NB310_329 := n21_
       have NB329_310 := n22_
       have NB315_329 := n23_
       have NB329_315 := n24_
       have NB320_329 := n25_
       have NB329_320 := n26_
       clear n0_ n1_ n2_ n3_ n4_ n5_ n6_ n7_ n8_ n9_ n10_ n11_ n12_ n13_ n14_ n15_ n16_ n17_ n18_ n19_ n20_ n21_ n22_ n23_ n24_ n25_ n26_
       clear hb hbox hg
       refine hK.out _ _ ⟨(blk_cell BK289.out 0).trans rfl, (blk_cell BK289.out 1).trans rfl, (blk_cell BK289.out 2).trans rfl, (blk_cell BK315.out 0).trans rfl, (blk_cell BK315.out 1).trans rfl, (blk_cell BK320.out 0).trans rfl, (blk_cell BK320.out 1).trans rfl⟩ (fun hHeld => ?_)
       clear hK K
       refine norm_ (a' := ?_) ?_ ?_
       rotate_left
       ·show Act.put _ (some 12) _ = _
        simp only [Act.put, List.setIfInBounds_toArray, List.set_cons_zero, List.set_cons_succ, i64_w, i32_w]
        rfl
       refine one_ (i := 4) (N := some 48) #[true, true, true, true, true, false, false, false, true, false, false] rfl rfl (one_of HT_.out (by kernel_rfl)) (by decide) (fun K hK => ?_)
       refine goes_ Try.func10 (by kernel_rfl) rfl #[.agg #[.int .i64 t321, .int .i64 t322, .int .i64 t323], .agg #[.slice Ao60 t311.length co60, .int .i64 t314], .agg #[.int .i64 t316, .slice Ao76 t317.length co76]] (by rfl) rfl rfl X.M ?_
       with_reducible refine (impl_Sail.calls k t321 t322 t323 _ _ t311 t314 t316 _ _ t317 t324 t327 t328 _ ?side1 ?side2 ?side3 ?side4 A32.out).mono ?_
       (case side1 => exact X.C (Kd.R_reads' HO313.out).2.2)
       (case side2 => exact (Kd.R_reads' HO313.out).2.1)
       (case side3 => exact X.C (Kd.R_reads' HO319.out).2.2)
       (case side4 => exact (Kd.R_reads' HO319.out).2.1)
       rintro e w81 ⟨v325, rfl, ho0, hb⟩
       refine ⟨_, rfl, ?_⟩
       have n0_ := Aside0.mk (Kd.R_elder' (X.K HO299) (Kd.R_base ho0) hb)
       have n1_ := Aside0.mk (Kd.R_elder' (X.K HO304) (Kd.R_base ho0) hb)
       have n2_ := Aside0.mk (Kd.R_elder' (X.K HO307) (Kd.R_base ho0) hb)
       have n3_ := Aside0.mk (Kd.R_elder' (X.K HO313) (Kd.R_base ho0) hb)
       have n4_ := Aside0.mk (Kd.R_elder' (X.K HO319) (Kd.R_base ho0) hb)
       have n5_ := Aside0.mk (Kd.R_lower (Kd.R_new' (Kd.R_new' (Kd.R_new' (Kd.R_new' (Kd.R_new' ho0 (Kd.R_lt (X.K HO299))) (Kd.R_lt (X.K HO304))) (Kd.R_lt (X.K HO307))) (Kd.R_lt (X.K HO313))) (Kd.R_lt (X.K HO319))) (below_size X.G))
       have n6_ := Aside0.mk (X.BB BK289 hb)
       have n7_ := Aside0.mk (X.BB BK290 hb)
       have n8_ := Aside0.mk (X.BB BK291 hb)
       have n9_ := Aside0.mk (X.BB BK310 hb)
       have n10_ := Aside0.mk (X.BB BK315 hb)
       have n11_ := Aside0.mk (X.BB BK320 hb)
       have n12_ := Aside0.mk (X.BB BK329 hb)
       have n13_ := Aside0.mk (below_step X.G hb)
       clear HO299
       clear HO304
       clear HO307
       clear HO313
       clear HO319
       clear BK289
       clear BK290
       clear BK291
       clear BK310
       clear BK315
       clear BK320
       clear BK329
       clear HB
       have HO299 := n0_
       have HO304 := n1_
       have HO307 := n2_
       have HO313 := n3_
       have HO319 := n4_
       have HO326 := n5_
       have BK289 := n6_
       have BK290 := n7_
       have BK291 := n8_
       have BK310 := n9_
       have BK315 := n10_
       have BK320 := n11_
       have BK329 := n12_
       have HB := n13_
       clear n0_ n1_ n2_ n3_ n4_ n5_ n6_ n7_ n8_ n9_ n10_ n11_ n12_ n13_
       (try clear hb)
       (try clear hb2)
       (try clear hk)
       (try clear hi)
       (try clear ho0)
       refine hK.out _ _ ⟨(blk_cell BK289.out 0).trans rfl, (blk_cell BK289.out 1).trans rfl, (blk_cell BK289.out 2).trans rfl, (blk_cell BK315.out 0).trans rfl, (blk_cell BK315.out 1).trans rfl, (blk_cell BK320.out 0).trans rfl, (blk_cell BK320.out 1).trans rfl⟩ (fun hHeld => ?_)
       clear hK K
       refine norm_ (a' := ?_) ?_ ?_
       rotate_left
       ·show Act.put _ (some 48) _ = _
        simp only [Act.put, List.setIfInBounds_toArray, List.set_cons_zero, List.set_cons_succ, i64_w, i32_w]
        rfl
       refine pure_ (i := 5) (N := some 43) (v := ?_) (a' := ?_) #[true, true, true, true, true, true, false, false, true, false, false] rfl rfl (any_of HT_.out (by kernel_rfl)) (fun _ _ _ h => h) (Or.inl ⟨by rfl, ?_⟩) ?_ ?_
       rotate_left
       ·intro w'
        go_simp
        with_reducible rfl
       rotate_left
       ·exact X.Pu
       refine pure_ (i := 6) (N := some 49) (v := ?_) (a' := ?_) #[true, true, true, true, true, true, true, false, true, false, false] rfl rfl (any_of HT_.out (by kernel_rfl)) (fun _ _ _ h => h) (Or.inl ⟨by rfl, ?_⟩) ?_ ?_
       rotate_left
       ·intro w'
        go_simp
        with_reducible rfl
       rotate_left
       ·exact X.Pu
       refine pure_ (i := 7) (N := some 50) (v := ?_) (a' := ?_) #[true, true, true, true, true, true, true, true, true, false, false] rfl rfl (any_of HT_.out (by kernel_rfl)) (fun _ _ _ h => h) (Or.inl ⟨by rfl, ?_⟩) ?_ ?_
       rotate_left
       ·intro w'
        go_simp
        with_reducible rfl
       rotate_left
       ·exact X.Pu
       exact norm_ (by simp only [putAll, Act.put, List.setIfInBounds_toArray, List.set_cons_zero, List.set_cons_succ]) (hCont (v325, gb329) _ ⟨hHeld, (by (with_reducible repeat (first | apply Kd.R_alloc | apply Kd.R_drewN | apply Kd.R_drew)); exact Kd.R_mono HO299.out (fun _ hk => ⟨hk.1.1, ⟨hk.1.2.1, ⟨hk.1.2.2.1, ⟨hk.1.2.2.2, hk.2⟩⟩⟩⟩)), (by (with_reducible repeat (first | apply Kd.R_alloc | apply Kd.R_drewN | apply Kd.R_drew)); exact Kd.R_mono HO304.out (fun _ hk => ⟨hk.1.1, ⟨hk.1.2.1, ⟨hk.1.2.2.1, ⟨hk.1.2.2.2, hk.2⟩⟩⟩⟩)), (by (with_reducible repeat (first | apply Kd.R_alloc | apply Kd.R_drewN | apply Kd.R_drew)); exact Kd.R_mono HO307.out (fun _ hk => ⟨hk.1.1, ⟨hk.1.2.1, ⟨hk.1.2.2.1, ⟨hk.1.2.2.2, hk.2⟩⟩⟩⟩)), (by (with_reducible repeat (first | apply Kd.R_alloc | apply Kd.R_drewN | apply Kd.R_drew)); exact Kd.R_mono HO313.out (fun _ hk => ⟨hk.1.1, ⟨hk.1.2.1, ⟨hk.1.2.2.1, ⟨hk.1.2.2.2, hk.2⟩⟩⟩⟩)), (by (with_reducible repeat (first | apply Kd.R_alloc | apply Kd.R_drewN | apply Kd.R_drew)); exact Kd.R_mono HO319.out (fun _ hk => ⟨hk.1.1, ⟨hk.1.2.1, ⟨hk.1.2.2.1, ⟨hk.1.2.2.2, hk.2⟩⟩⟩⟩)), (by (with_reducible repeat (first | apply Kd.R_alloc | apply Kd.R_drewN | apply Kd.R_drew)); exact Kd.R_mono HO326.out (fun _ hk => ⟨hk.1.1.1.1.2, ⟨hk.1.1.1.2, ⟨hk.1.1.2, ⟨hk.1.2, hk.2⟩⟩⟩⟩)), (X.B BK289), (X.B BK290), (X.B BK291), (X.B BK310), (X.B BK315), (X.B BK320), (X.B BK329), GW329.out, GE329.out, NB289_329.out, NB329_289.out, NB290_329.out, NB329_290.out, NB291_329.out, NB329_291.out, NB310_329.out, NB329_310.out, NB315_329.out, NB329_315.out, NB320_329.out, NB329_320.out, X.G⟩)
     ·skip
      refine box_step ?hg (N := 12) ?hd (cs := #[.slice none 0 0, .int .i64 0]) (t := 31) ?hr ?_; (case hd => rfl); (case hg => rfl); (case hr => exact X.R)
      intro gb329 hg w79 hbox hb
      have n0_ := Aside0.mk (Kd.R_below (X.K HO299) hb)
      have n1_ := Aside0.mk (Kd.R_below (X.K HO304) hb)
      have n2_ := Aside0.mk (Kd.R_below (X.K HO307) hb)
      have n3_ := Aside0.mk (Kd.R_below (X.K HO313) hb)
      have n4_ := Aside0.mk (Kd.R_below (X.K HO319) hb)
      have n5_ := Aside0.mk (X.BB BK289 hb)
      have n6_ := Aside0.mk (X.BB BK290 hb)
      have n7_ := Aside0.mk (X.BB BK291 hb)
      have n8_ := Aside0.mk (X.BB BK310 hb)
      have n9_ := Aside0.mk (X.BB BK315 hb)
      have n10_ := Aside0.mk (X.BB BK320 hb)
      have n11_ := Aside0.mk (below_step X.G hb)
      have n12_ := Aside0.mk (hbox)
      have n13_ := Aside0.mk ((by rw [hg]; exact (below_size X.G) : w.heap.size ≤ gb329))
      have n14_ := Aside0.mk ((by rw [hg]; exact (below_size X.G) : w.heap.size ≤ gb329))
      have n15_ := Aside0.mk ((by rw [hg]; exact Nat.ne_of_lt (X.BL BK289) : gb289 ≠ gb329))
      have n16_ := Aside0.mk ((by rw [hg]; exact Nat.ne_of_gt (X.BL BK289) : gb329 ≠ gb289))
      have n17_ := Aside0.mk ((by rw [hg]; exact Nat.ne_of_lt (X.BL BK290) : gb290 ≠ gb329))
      have n18_ := Aside0.mk ((by rw [hg]; exact Nat.ne_of_gt (X.BL BK290) : gb329 ≠ gb290))
      have n19_ := Aside0.mk ((by rw [hg]; exact Nat.ne_of_lt (X.BL BK291) : gb291 ≠ gb329))
      have n20_ := Aside0.mk ((by rw [hg]; exact Nat.ne_of_gt (X.BL BK291) : gb329 ≠ gb291))
      have n21_ := Aside0.mk ((by rw [hg]; exact Nat.ne_of_lt (X.BL BK310) : gb310 ≠ gb329))
      have n22_ := Aside0.mk ((by rw [hg]; exact Nat.ne_of_gt (X.BL BK310) : gb329 ≠ gb310))
      have n23_ := Aside0.mk ((by rw [hg]; exact Nat.ne_of_lt (X.BL BK315) : gb315 ≠ gb329))
      have n24_ := Aside0.mk ((by rw [hg]; exact Nat.ne_of_gt (X.BL BK315) : gb329 ≠ gb315))
      have n25_ := Aside0.mk ((by rw [hg]; exact Nat.ne_of_lt (X.BL BK320) : gb320 ≠ gb329))
      have n26_ := Aside0.mk ((by rw [hg]; exact Nat.ne_of_gt (X.BL BK320) : gb329 ≠ gb320))
      clear HO299
      clear HO304
      clear HO307
      clear HO313
      clear HO319
      clear BK289
      clear BK290
      clear BK291
      clear BK310
      clear BK315
      clear BK320
      clear HB
      have HO299 := n0_
      have HO304 := n1_
      have HO307 := n2_
      have HO313 := n3_
      have HO319 := n4_
      have BK289 := n5_
      have BK290 := n6_
      have BK291 := n7_
      have BK310 := n8_
      have BK315 := n9_
      have BK320 := n10_
      have HB := n11_
      have BK329 := n12_
      have GW329 := n13_
      have GE329 := n14_
      have NB289_329 := n15_
      have NB329_289 := n16_
      have NB290_329 := n17_
      have NB329_290 := n18_
      have NB291_329 := n19_
      have NB329_291 := n20_
      have NB310_329 := n21_
      have NB329_310 := n22_
      have NB315_329 := n23_
      have NB329_315 := n24_
      have NB320_329 := n25_
      have NB329_320 := n26_
      clear n0_ n1_ n2_ n3_ n4_ n5_ n6_ n7_ n8_ n9_ n10_ n11_ n12_ n13_ n14_ n15_ n16_ n17_ n18_ n19_ n20_ n21_ n22_ n23_ n24_ n25_ n26_
      clear hb hbox hg
      refine hK.out _ _ ⟨(blk_cell BK289.out 0).trans rfl, (blk_cell BK289.out 1).trans rfl, (blk_cell BK289.out 2).trans rfl, (blk_cell BK315.out 0).trans rfl, (blk_cell BK315.out 1).trans rfl, (blk_cell BK320.out 0).trans rfl, (blk_cell BK320.out 1).trans rfl⟩ (fun hHeld => ?_)
      clear hK K
      refine norm_ (a' := ?_) ?_ ?_
      rotate_left
      ·show Act.put _ (some 12) _ = _
       simp only [Act.put, List.setIfInBounds_toArray, List.set_cons_zero, List.set_cons_succ, i64_w, i32_w]
       rfl
      refine one_ (i := 1) (N := some 45) #[true, true, true, true, false, false, false, false, true, false, false] rfl rfl (one_of HT_.out (by kernel_rfl)) (by decide) (fun K hK => ?_)
      refine goes_ Try.func7 (by kernel_rfl) rfl #[.agg #[.int .i64 a0_0, .int .i64 a0_1, .int .i64 a0_2]] (by rfl) rfl rfl X.M ?_
      with_reducible refine (laws_toIsles.calls a0_0 a0_1 a0_2 t321 t322 t323 _ A31.out).mono ?_
      rintro e w80 ⟨rfl, hb⟩
      refine ⟨_, rfl, ?_⟩
      have n0_ := Aside0.mk (Kd.R_below (X.K HO299) hb)
      have n1_ := Aside0.mk (Kd.R_below (X.K HO304) hb)
      have n2_ := Aside0.mk (Kd.R_below (X.K HO307) hb)
      have n3_ := Aside0.mk (Kd.R_below (X.K HO313) hb)
      have n4_ := Aside0.mk (Kd.R_below (X.K HO319) hb)
      have n5_ := Aside0.mk (X.BB BK289 hb)
      have n6_ := Aside0.mk (X.BB BK290 hb)
      have n7_ := Aside0.mk (X.BB BK291 hb)
      have n8_ := Aside0.mk (X.BB BK310 hb)
      have n9_ := Aside0.mk (X.BB BK315 hb)
      have n10_ := Aside0.mk (X.BB BK320 hb)
      have n11_ := Aside0.mk (X.BB BK329 hb)
      have n12_ := Aside0.mk (below_step X.G hb)
      clear HO299
      clear HO304
      clear HO307
      clear HO313
      clear HO319
      clear BK289
      clear BK290
      clear BK291
      clear BK310
      clear BK315
      clear BK320
      clear BK329
      clear HB
      have HO299 := n0_
      have HO304 := n1_
      have HO307 := n2_
      have HO313 := n3_
      have HO319 := n4_
      have BK289 := n5_
      have BK290 := n6_
      have BK291 := n7_
      have BK310 := n8_
      have BK315 := n9_
      have BK320 := n10_
      have BK329 := n11_
      have HB := n12_
      clear n0_ n1_ n2_ n3_ n4_ n5_ n6_ n7_ n8_ n9_ n10_ n11_ n12_
      (try clear hb)
      (try clear hb2)
      (try clear hk)
      (try clear hi)
      refine hK.out _ _ ⟨(blk_cell BK289.out 0).trans rfl, (blk_cell BK289.out 1).trans rfl, (blk_cell BK289.out 2).trans rfl, (blk_cell BK315.out 0).trans rfl, (blk_cell BK315.out 1).trans rfl, (blk_cell BK320.out 0).trans rfl, (blk_cell BK320.out 1).trans rfl⟩ (fun hHeld => ?_)
      clear hK K
      refine norm_ (a' := ?_) ?_ ?_
      rotate_left
      ·show Act.put _ (some 45) _ = _
       simp only [Act.put, List.setIfInBounds_toArray, List.set_cons_zero, List.set_cons_succ, i64_w, i32_w]
       rfl
      refine one_ (i := 4) (N := some 48) #[true, true, true, true, true, false, false, false, true, false, false] rfl rfl (one_of HT_.out (by kernel_rfl)) (by decide) (fun K hK => ?_)
      refine goes_ Try.func10 (by kernel_rfl) rfl #[.agg #[.int .i64 t321, .int .i64 t322, .int .i64 t323], .agg #[.slice Ao60 t311.length co60, .int .i64 t314], .agg #[.int .i64 t316, .slice Ao76 t317.length co76]] (by rfl) rfl rfl X.M ?_
      with_reducible refine (impl_Sail.calls k t321 t322 t323 _ _ t311 t314 t316 _ _ t317 t324 t327 t328 _ ?side1 ?side2 ?side3 ?side4 A32.out).mono ?_
      (case side1 => exact X.C (Kd.R_reads' HO313.out).2.2)
      (case side2 => exact (Kd.R_reads' HO313.out).2.1)
      (case side3 => exact X.C (Kd.R_reads' HO319.out).2.2)
      (case side4 => exact (Kd.R_reads' HO319.out).2.1)
      rintro e w81 ⟨v325, rfl, ho0, hb⟩
      refine ⟨_, rfl, ?_⟩
      have n0_ := Aside0.mk (Kd.R_elder' (X.K HO299) (Kd.R_base ho0) hb)
      have n1_ := Aside0.mk (Kd.R_elder' (X.K HO304) (Kd.R_base ho0) hb)
      have n2_ := Aside0.mk (Kd.R_elder' (X.K HO307) (Kd.R_base ho0) hb)
      have n3_ := Aside0.mk (Kd.R_elder' (X.K HO313) (Kd.R_base ho0) hb)
      have n4_ := Aside0.mk (Kd.R_elder' (X.K HO319) (Kd.R_base ho0) hb)
      have n5_ := Aside0.mk (Kd.R_lower (Kd.R_new' (Kd.R_new' (Kd.R_new' (Kd.R_new' (Kd.R_new' ho0 (Kd.R_lt (X.K HO299))) (Kd.R_lt (X.K HO304))) (Kd.R_lt (X.K HO307))) (Kd.R_lt (X.K HO313))) (Kd.R_lt (X.K HO319))) (below_size X.G))
      have n6_ := Aside0.mk (X.BB BK289 hb)
      have n7_ := Aside0.mk (X.BB BK290 hb)
      have n8_ := Aside0.mk (X.BB BK291 hb)
      have n9_ := Aside0.mk (X.BB BK310 hb)
      have n10_ := Aside0.mk (X.BB BK315 hb)
      have n11_ := Aside0.mk (X.BB BK320 hb)
      have n12_ := Aside0.mk (X.BB BK329 hb)
      have n13_ := Aside0.mk (below_step X.G hb)
      clear HO299
      clear HO304
      clear HO307
      clear HO313
      clear HO319
      clear BK289
      clear BK290
      clear BK291
      clear BK310
      clear BK315
      clear BK320
      clear BK329
      clear HB
      have HO299 := n0_
      have HO304 := n1_
      have HO307 := n2_
      have HO313 := n3_
      have HO319 := n4_
      have HO326 := n5_
      have BK289 := n6_
      have BK290 := n7_
      have BK291 := n8_
      have BK310 := n9_
      have BK315 := n10_
      have BK320 := n11_
      have BK329 := n12_
      have HB := n13_
      clear n0_ n1_ n2_ n3_ n4_ n5_ n6_ n7_ n8_ n9_ n10_ n11_ n12_ n13_
      (try clear hb)
      (try clear hb2)
      (try clear hk)
      (try clear hi)
      (try clear ho0)
      refine hK.out _ _ ⟨(blk_cell BK289.out 0).trans rfl, (blk_cell BK289.out 1).trans rfl, (blk_cell BK289.out 2).trans rfl, (blk_cell BK315.out 0).trans rfl, (blk_cell BK315.out 1).trans rfl, (blk_cell BK320.out 0).trans rfl, (blk_cell BK320.out 1).trans rfl⟩ (fun hHeld => ?_)
      clear hK K
      refine norm_ (a' := ?_) ?_ ?_
      rotate_left
      ·show Act.put _ (some 48) _ = _
       simp only [Act.put, List.setIfInBounds_toArray, List.set_cons_zero, List.set_cons_succ, i64_w, i32_w]
       rfl
      refine pure_ (i := 5) (N := some 43) (v := ?_) (a' := ?_) #[true, true, true, true, true, true, false, false, true, false, false] rfl rfl (any_of HT_.out (by kernel_rfl)) (fun _ _ _ h => h) (Or.inl ⟨by rfl, ?_⟩) ?_ ?_
      rotate_left
      ·intro w'
       go_simp
       with_reducible rfl
      rotate_left
      ·exact X.Pu
      refine pure_ (i := 6) (N := some 49) (v := ?_) (a' := ?_) #[true, true, true, true, true, true, true, false, true, false, false] rfl rfl (any_of HT_.out (by kernel_rfl)) (fun _ _ _ h => h) (Or.inl ⟨by rfl, ?_⟩) ?_ ?_
      rotate_left
      ·intro w'
       go_simp
       with_reducible rfl
      rotate_left
      ·exact X.Pu
      refine pure_ (i := 7) (N := some 50) (v := ?_) (a' := ?_) #[true, true, true, true, true, true, true, true, true, false, false] rfl rfl (any_of HT_.out (by kernel_rfl)) (fun _ _ _ h => h) (Or.inl ⟨by rfl, ?_⟩) ?_ ?_
      rotate_left
      ·intro w'
       go_simp
       with_reducible rfl
      rotate_left
      ·exact X.Pu
      exact norm_ (by simp only [putAll, Act.put, List.setIfInBounds_toArray, List.set_cons_zero, List.set_cons_succ]) (hCont (v325, gb329) _ ⟨hHeld, (by (with_reducible repeat (first | apply Kd.R_alloc | apply Kd.R_drewN | apply Kd.R_drew)); exact Kd.R_mono HO299.out (fun _ hk => ⟨hk.1.1, ⟨hk.1.2.1, ⟨hk.1.2.2.1, ⟨hk.1.2.2.2, hk.2⟩⟩⟩⟩)), (by (with_reducible repeat (first | apply Kd.R_alloc | apply Kd.R_drewN | apply Kd.R_drew)); exact Kd.R_mono HO304.out (fun _ hk => ⟨hk.1.1, ⟨hk.1.2.1, ⟨hk.1.2.2.1, ⟨hk.1.2.2.2, hk.2⟩⟩⟩⟩)), (by (with_reducible repeat (first | apply Kd.R_alloc | apply Kd.R_drewN | apply Kd.R_drew)); exact Kd.R_mono HO307.out (fun _ hk => ⟨hk.1.1, ⟨hk.1.2.1, ⟨hk.1.2.2.1, ⟨hk.1.2.2.2, hk.2⟩⟩⟩⟩)), (by (with_reducible repeat (first | apply Kd.R_alloc | apply Kd.R_drewN | apply Kd.R_drew)); exact Kd.R_mono HO313.out (fun _ hk => ⟨hk.1.1, ⟨hk.1.2.1, ⟨hk.1.2.2.1, ⟨hk.1.2.2.2, hk.2⟩⟩⟩⟩)), (by (with_reducible repeat (first | apply Kd.R_alloc | apply Kd.R_drewN | apply Kd.R_drew)); exact Kd.R_mono HO319.out (fun _ hk => ⟨hk.1.1, ⟨hk.1.2.1, ⟨hk.1.2.2.1, ⟨hk.1.2.2.2, hk.2⟩⟩⟩⟩)), (by (with_reducible repeat (first | apply Kd.R_alloc | apply Kd.R_drewN | apply Kd.R_drew)); exact Kd.R_mono HO326.out (fun _ hk => ⟨hk.1.1.1.1.2, ⟨hk.1.1.1.2, ⟨hk.1.1.2, ⟨hk.1.2, hk.2⟩⟩⟩⟩)), (X.B BK289), (X.B BK290), (X.B BK291), (X.B BK310), (X.B BK315), (X.B BK320), (X.B BK329), GW329.out, GE329.out, NB289_329.out, NB329_289.out, NB290_329.out, NB329_290.out, NB291_329.out, NB329_291.out, NB310_329.out, NB329_310.out, NB315_329.out, NB329_315.out, NB320_329.out, NB329_320.out, X.G⟩)
    rintro ⟨v325, gb329⟩ w82 ⟨hS_, h0_, h1_, h2_, h3_, h4_, h5_, h6_, h7_, h8_, h9_, h10_, h11_, h12_, h13_, h14_, h15_, h16_, h17_, h18_, h19_, h20_, h21_, h22_, h23_, h24_, h25_, h26_, h27_⟩
    have n0_ : Aside0 (Kd.R (Kd.int .i64) 3 w82 w.heap.size (fun k_ => some k_ ≠ (v303 : Value).ownBlock ∧ some k_ ≠ (.slice Ao53 t305.length co53 : Value).ownBlock ∧ some k_ ≠ (.slice Ao60 t311.length co60 : Value).ownBlock ∧ some k_ ≠ (.slice Ao76 t317.length co76 : Value).ownBlock ∧ some k_ ≠ (v325 : Value).ownBlock) v298 t297) := ⟨h0_⟩
    have n1_ : Aside0 (Kd.R (Kd.int .i64) 3 w82 w.heap.size (fun k_ => some k_ ≠ (v298 : Value).ownBlock ∧ some k_ ≠ (.slice Ao53 t305.length co53 : Value).ownBlock ∧ some k_ ≠ (.slice Ao60 t311.length co60 : Value).ownBlock ∧ some k_ ≠ (.slice Ao76 t317.length co76 : Value).ownBlock ∧ some k_ ≠ (v325 : Value).ownBlock) v303 t302) := ⟨h1_⟩
    have n2_ : Aside0 (Kd.R (Kd.int .i64) 3 w82 w.heap.size (fun k_ => some k_ ≠ (v298 : Value).ownBlock ∧ some k_ ≠ (v303 : Value).ownBlock ∧ some k_ ≠ (.slice Ao60 t311.length co60 : Value).ownBlock ∧ some k_ ≠ (.slice Ao76 t317.length co76 : Value).ownBlock ∧ some k_ ≠ (v325 : Value).ownBlock) (.slice Ao53 t305.length co53) t305) := ⟨h2_⟩
    have n3_ : Aside0 (Kd.R (Kd.int .i64) 3 w82 w.heap.size (fun k_ => some k_ ≠ (v298 : Value).ownBlock ∧ some k_ ≠ (v303 : Value).ownBlock ∧ some k_ ≠ (.slice Ao53 t305.length co53 : Value).ownBlock ∧ some k_ ≠ (.slice Ao76 t317.length co76 : Value).ownBlock ∧ some k_ ≠ (v325 : Value).ownBlock) (.slice Ao60 t311.length co60) t311) := ⟨h3_⟩
    have n4_ : Aside0 (Kd.R (Kd.int .i64) 3 w82 w.heap.size (fun k_ => some k_ ≠ (v298 : Value).ownBlock ∧ some k_ ≠ (v303 : Value).ownBlock ∧ some k_ ≠ (.slice Ao53 t305.length co53 : Value).ownBlock ∧ some k_ ≠ (.slice Ao60 t311.length co60 : Value).ownBlock ∧ some k_ ≠ (v325 : Value).ownBlock) (.slice Ao76 t317.length co76) t317) := ⟨h4_⟩
    have n5_ : Aside0 (Kd.R (Kd.int .i64) 3 w82 w.heap.size (fun k_ => some k_ ≠ (v298 : Value).ownBlock ∧ some k_ ≠ (v303 : Value).ownBlock ∧ some k_ ≠ (.slice Ao53 t305.length co53 : Value).ownBlock ∧ some k_ ≠ (.slice Ao60 t311.length co60 : Value).ownBlock ∧ some k_ ≠ (.slice Ao76 t317.length co76 : Value).ownBlock) v325 t324) := ⟨h5_⟩
    have n6_ : Aside0 (w82.heap[gb289]? = some (.cells #[.int .i64 a0_0, .int .i64 a0_1, .int .i64 a0_2] 23 (0, 0))) := ⟨h6_⟩
    have n7_ : Aside0 (w82.heap[gb290]? = some (.cells #[.slice A1_0 l1_0.length c1_0, .int .i64 a1_1] 26 (0, 0))) := ⟨h7_⟩
    have n8_ : Aside0 (w82.heap[gb291]? = some (.cells #[.int .i64 a2_0, .slice A2_1 l2_1.length c2_1] 28 (0, 0))) := ⟨h8_⟩
    have n9_ : Aside0 (w82.heap[gb310]? = some (.cells #[.slice Ao53 t305.length co53, .int .i64 t308] 31 (0, 0))) := ⟨h9_⟩
    have n10_ : Aside0 (w82.heap[gb315]? = some (.cells #[.slice Ao60 t311.length co60, .int .i64 t314] 31 (0, 0))) := ⟨h10_⟩
    have n11_ : Aside0 (w82.heap[gb320]? = some (.cells #[.int .i64 t316, .slice Ao76 t317.length co76] 37 (0, 0))) := ⟨h11_⟩
    have n12_ : Aside0 (w82.heap[gb329]? = some (.cells #[.slice none 0 0, .int .i64 0] 31 (0, 0))) := ⟨h12_⟩
    have n13_ : Aside0 (w.heap.size ≤ gb329) := ⟨h13_⟩
    have n14_ : Aside0 (w.heap.size ≤ gb329) := ⟨h14_⟩
    have n15_ : Aside0 (gb289 ≠ gb329) := ⟨h15_⟩
    have n16_ : Aside0 (gb329 ≠ gb289) := ⟨h16_⟩
    have n17_ : Aside0 (gb290 ≠ gb329) := ⟨h17_⟩
    have n18_ : Aside0 (gb329 ≠ gb290) := ⟨h18_⟩
    have n19_ : Aside0 (gb291 ≠ gb329) := ⟨h19_⟩
    have n20_ : Aside0 (gb329 ≠ gb291) := ⟨h20_⟩
    have n21_ : Aside0 (gb310 ≠ gb329) := ⟨h21_⟩
    have n22_ : Aside0 (gb329 ≠ gb310) := ⟨h22_⟩
    have n23_ : Aside0 (gb315 ≠ gb329) := ⟨h23_⟩
    have n24_ : Aside0 (gb329 ≠ gb315) := ⟨h24_⟩
    have n25_ : Aside0 (gb320 ≠ gb329) := ⟨h25_⟩
    have n26_ : Aside0 (gb329 ≠ gb320) := ⟨h26_⟩
    have n27_ : Aside0 (Below w.heap.size w w82) := ⟨h27_⟩
    clear HO299
    clear HO304
    clear HO307
    clear HO313
    clear HO319
    clear BK289
    clear BK290
    clear BK291
    clear BK310
    clear BK315
    clear BK320
    clear HB
    clear h0_ h1_ h2_ h3_ h4_ h5_ h6_ h7_ h8_ h9_ h10_ h11_ h12_ h13_ h14_ h15_ h16_ h17_ h18_ h19_ h20_ h21_ h22_ h23_ h24_ h25_ h26_ h27_
    have HO299 := n0_
    have HO304 := n1_
    have HO307 := n2_
    have HO313 := n3_
    have HO319 := n4_
    have HO326 := n5_
    have BK289 := n6_
    have BK290 := n7_
    have BK291 := n8_
    have BK310 := n9_
    have BK315 := n10_
    have BK320 := n11_
    have BK329 := n12_
    have GW329 := n13_
    have GE329 := n14_
    have NB289_329 := n15_
    have NB329_289 := n16_
    have NB290_329 := n17_
    have NB329_290 := n18_
    have NB291_329 := n19_
    have NB329_291 := n20_
    have NB310_329 := n21_
    have NB329_310 := n22_
    have NB315_329 := n23_
    have NB329_315 := n24_
    have NB320_329 := n25_
    have NB329_320 := n26_
    have HB := n27_
    clear n0_ n1_ n2_ n3_ n4_ n5_ n6_ n7_ n8_ n9_ n10_ n11_ n12_ n13_ n14_ n15_ n16_ n17_ n18_ n19_ n20_ n21_ n22_ n23_ n24_ n25_ n26_ n27_
    have hHeld : w82.cell? ⟨gb289, 0, none⟩ = some (.int .i64 a0_0) ∧ w82.cell? ⟨gb289, 1, none⟩ = some (.int .i64 a0_1) ∧ w82.cell? ⟨gb289, 2, none⟩ = some (.int .i64 a0_2) ∧ w82.cell? ⟨gb315, 0, none⟩ = some (.slice Ao60 t311.length co60) ∧ w82.cell? ⟨gb315, 1, none⟩ = some (.int .i64 t314) ∧ w82.cell? ⟨gb320, 0, none⟩ = some (.int .i64 t316) ∧ w82.cell? ⟨gb320, 1, none⟩ = some (.slice Ao76 t317.length co76) := hS_
    obtain ⟨Ao83, co83, eo83⟩ := Kd.R_slice HO326.out
    (first | subst eo83 | (injection eo83 with f1_ f2_ f3_; have f4_ := f1_.symm; have f5_ := f3_.symm; clear f1_ f2_ f3_; subst f4_; subst f5_))
    refine norm_ (a' := ?_) ?_ ?_
    rotate_left
    ·simp only [putAll, Act.put, List.setIfInBounds_toArray, List.set_cons_zero, List.set_cons_succ]
     rfl
    refine one_ (i := 9) (N := none) #[true, true, true, true, true, true, true, true, true, true, false] rfl rfl (one_of HT_.out (by kernel_rfl)) (by decide) (fun K hK => ?_)
    have hs84 : w82.cell? ⟨gb329, 0, none⟩ = some (.slice none 0 0) := (blk_cell BK329.out 0).trans rfl
    have hfs84 := blk_frozen BK329.out 0
    have hns84_0 := NB289_329.out
    have hns84_1 := NB290_329.out
    have hns84_2 := NB291_329.out
    have hns84_3 := NB310_329.out
    have hns84_4 := NB315_329.out
    have hns84_5 := NB320_329.out
    have hms84_0 := NB329_289.out
    have hms84_1 := NB329_290.out
    have hms84_2 := NB329_291.out
    have hms84_3 := NB329_310.out
    have hms84_4 := NB329_315.out
    have hms84_5 := NB329_320.out
    have hs85 : w82.cell? ⟨gb329, 1, none⟩ = some (.int .i64 0) := (blk_cell BK329.out 1).trans rfl
    have hfs85 := blk_frozen BK329.out 1
    have hns85_0 := NB289_329.out
    have hns85_1 := NB290_329.out
    have hns85_2 := NB291_329.out
    have hns85_3 := NB310_329.out
    have hns85_4 := NB315_329.out
    have hns85_5 := NB320_329.out
    have hms85_0 := NB329_289.out
    have hms85_1 := NB329_290.out
    have hms85_2 := NB329_291.out
    have hms85_3 := NB329_310.out
    have hms85_4 := NB329_315.out
    have hms85_5 := NB329_320.out
    refine skip_ (w1 := ?_) (by rfl) rfl ?_ ?_
    rotate_left
    ·go_simp
     rfl
    refine hK.out _ _ ⟨((cell_far (p := ⟨gb329, _, none⟩) NB289_329.out _).trans (((cell_far (p := ⟨gb329, _, none⟩) NB289_329.out _).trans (hHeld.1)))), ((cell_far (p := ⟨gb329, _, none⟩) NB289_329.out _).trans (((cell_far (p := ⟨gb329, _, none⟩) NB289_329.out _).trans (hHeld.2.1)))), ((cell_far (p := ⟨gb329, _, none⟩) NB289_329.out _).trans (((cell_far (p := ⟨gb329, _, none⟩) NB289_329.out _).trans (hHeld.2.2.1)))), ((cell_far (p := ⟨gb329, _, none⟩) NB315_329.out _).trans (((cell_far (p := ⟨gb329, _, none⟩) NB315_329.out _).trans (hHeld.2.2.2.1)))), ((cell_far (p := ⟨gb329, _, none⟩) NB315_329.out _).trans (((cell_far (p := ⟨gb329, _, none⟩) NB315_329.out _).trans (hHeld.2.2.2.2.1)))), ((cell_far (p := ⟨gb329, _, none⟩) NB320_329.out _).trans (((cell_far (p := ⟨gb329, _, none⟩) NB320_329.out _).trans (hHeld.2.2.2.2.2.1)))), ((cell_far (p := ⟨gb329, _, none⟩) NB320_329.out _).trans (((cell_far (p := ⟨gb329, _, none⟩) NB320_329.out _).trans (hHeld.2.2.2.2.2.2))))⟩ (fun hHeld => ?_)
    clear hK K
    refine pure_ (i := 10) (N := some 13) (v := ?_) (a' := ?_) #[true, true, true, true, true, true, true, true, true, true, true] rfl rfl (any_of HT_.out (by kernel_rfl)) (fun _ _ _ h => h) (Or.inl ⟨by rfl, ?_⟩) ?_ ?_
    rotate_left
    ·intro w'
     go_simp
     with_reducible rfl
    rotate_left
    ·exact X.Pu
    refine done_ (done_of HT_.out (by kernel_rfl)) ?_
    go_upto_region 12 with (fail)
    go_cut [59] (fun v59 wc => ∃ (kq : Nat) (x59_32 : Bool), v59 = .bool x59_32 ∧ Aside0 (laws_FnExactSail.j0 kq t309 t328 x59_32 a0_0 a0_1 a0_2 l1_0 a1_1 a2_0 l2_1 t305 t308 t311 t314 t316 t317 t324 t327 = some r) ∧ Aside0 (kq ≤ k) ∧ Aside0 (Kd.R (Kd.int .i64) 3 wc w.heap.size (fun k_ => some k_ ≠ ((.slice Ao60 t311.length co60) : Value).ownBlock ∧ some k_ ≠ ((.slice Ao76 t317.length co76) : Value).ownBlock ∧ some k_ ≠ ((.slice Ao83 t324.length co83) : Value).ownBlock) (.slice Ao53 t305.length co53) t305) ∧ Aside0 (Kd.R (Kd.int .i64) 3 wc w.heap.size (fun k_ => some k_ ≠ ((.slice Ao53 t305.length co53) : Value).ownBlock ∧ some k_ ≠ ((.slice Ao76 t317.length co76) : Value).ownBlock ∧ some k_ ≠ ((.slice Ao83 t324.length co83) : Value).ownBlock) (.slice Ao60 t311.length co60) t311) ∧ Aside0 (Kd.R (Kd.int .i64) 3 wc w.heap.size (fun k_ => some k_ ≠ ((.slice Ao53 t305.length co53) : Value).ownBlock ∧ some k_ ≠ ((.slice Ao60 t311.length co60) : Value).ownBlock ∧ some k_ ≠ ((.slice Ao83 t324.length co83) : Value).ownBlock) (.slice Ao76 t317.length co76) t317) ∧ Aside0 (Kd.R (Kd.int .i64) 3 wc w.heap.size (fun k_ => some k_ ≠ ((.slice Ao53 t305.length co53) : Value).ownBlock ∧ some k_ ≠ ((.slice Ao60 t311.length co60) : Value).ownBlock ∧ some k_ ≠ ((.slice Ao76 t317.length co76) : Value).ownBlock) (.slice Ao83 t324.length co83) t324) ∧ Aside0 (wc.heap[gb289]? = some (.cells #[.int .i64 a0_0, .int .i64 a0_1, .int .i64 a0_2] 23 (0, 0))) ∧ Aside0 (wc.heap[gb290]? = some (.cells #[(.slice A1_0 l1_0.length c1_0), .int .i64 a1_1] 26 (0, 0))) ∧ Aside0 (wc.heap[gb291]? = some (.cells #[.int .i64 a2_0, (.slice A2_1 l2_1.length c2_1)] 28 (0, 0))) ∧ Aside0 (wc.heap[gb310]? = some (.cells #[(.slice Ao53 t305.length co53), .int .i64 t308] 31 (0, 0))) ∧ Aside0 (wc.heap[gb315]? = some (.cells #[(.slice Ao60 t311.length co60), .int .i64 t314] 31 (0, 0))) ∧ Aside0 (wc.heap[gb320]? = some (.cells #[.int .i64 t316, (.slice Ao76 t317.length co76)] 37 (0, 0))) ∧ Aside0 (wc.heap[gb329]? = some (.cells #[(.slice Ao83 t324.length co83), .int .i64 t327] 31 (0, 0))) ∧ Aside0 (Below w.heap.size w wc))
    case first =>
     have H := HC33.out
     clear HC33
     replace H := Option.bind_eq_some_iff.mp H
     obtain ⟨t330, A860, H⟩ := H
     replace H : (if t330 = true then (laws_FnExactSail.j0 k t309 t328 (t328 != t309) a0_0 a0_1 a0_2 l1_0 a1_1 a2_0 l2_1 t305 t308 t311 t314 t316 t317 t324 t327) else (laws_FnExactSail.j0 k t309 t328 true a0_0 a0_1 a0_2 l1_0 a1_1 a2_0 l2_1 t305 t308 t311 t314 t316 t317 t324 t327)) = some r := H
     have A86 := Aside0.mk A860
     clear A860
     by_cases c87 : t330 = true
     ·subst c87
      have H1 : (laws_FnExactSail.j0 k t309 t328 (t328 != t309) a0_0 a0_1 a0_2 l1_0 a1_1 a2_0 l2_1 t305 t308 t311 t314 t316 t317 t324 t327) = some r := by rw [if_pos rfl] at H; exact H
      clear H
      have H := H1
      clear H1
      have H' := Aside0.mk H
      clear H
      have hnb88 := NB329_289.out
      have hnc88 := NB289_329.out
      have hnb89 := NB329_290.out
      have hnc89 := NB290_329.out
      have hnb90 := NB329_291.out
      have hnc90 := NB291_329.out
      have hnb91 := NB329_310.out
      have hnc91 := NB310_329.out
      have hnb92 := NB329_315.out
      have hnc92 := NB315_329.out
      have hnb93 := NB329_320.out
      have hnc93 := NB320_329.out
      have hcz94_0 : w82.cell? ⟨gb329, 0, none⟩ = some (.slice none 0 0) := (blk_cell BK329.out 0).trans rfl
      have hcz94_1 : w82.cell? ⟨gb329, 1, none⟩ = some (.int .i64 0) := (blk_cell BK329.out 1).trans rfl
      have hfz94_0 := blk_frozen BK329.out 0
      have hfz94_1 := blk_frozen BK329.out 1
      have hnb95 := NB310_289.out
      have hnc95 := NB289_310.out
      have hnb96 := NB310_290.out
      have hnc96 := NB290_310.out
      have hnb97 := NB310_291.out
      have hnc97 := NB291_310.out
      have hnb98 := NB310_315.out
      have hnc98 := NB315_310.out
      have hnb99 := NB310_320.out
      have hnc99 := NB320_310.out
      have hcz100_0 : w82.cell? ⟨gb310, 0, none⟩ = some (.slice Ao53 t305.length co53) := (blk_cell BK310.out 0).trans rfl
      have hcz100_1 : w82.cell? ⟨gb310, 1, none⟩ = some (.int .i64 t308) := (blk_cell BK310.out 1).trans rfl
      have hfz100_0 := blk_frozen BK310.out 0
      have hfz100_1 := blk_frozen BK310.out 1
      go_wp2_with (first | ((with_reducible refine gate_callee (f := 11) rfl ?_); refine goesL_ (some 53) rfl rfl Try.func11 (by kernel_rfl) rfl #[.agg #[.slice Ao83 t324.length co83, .int .i64 t327], .agg #[.slice Ao53 t305.length co53, .int .i64 t308]] rfl X.M ?_; (with_reducible refine (laws_eqPlaces.calls k _ _ t324 t327 _ _ t305 t308 true _ ?side1 ?side2 ?side3 ?side4 A86.out).mono ?_); (case side1 => refine (Kd.R_reads' (e := 3) (base := w.heap.size) (ok := fun k_ => (some k_ ≠ (v298 : Value).ownBlock ∧ (some k_ ≠ (v303 : Value).ownBlock ∧ (some k_ ≠ (.slice Ao53 t305.length co53 : Value).ownBlock ∧ (some k_ ≠ (.slice Ao60 t311.length co60 : Value).ownBlock ∧ some k_ ≠ (.slice Ao76 t317.length co76 : Value).ownBlock))))) (n := t324.length) (c := co83) ?_).2.2; exact (by (with_reducible repeat (first | apply Kd.R_alloc | apply Kd.R_drewN | apply Kd.R_drew)); exact (Kd.R_mono (Kd.R_far (p := ⟨gb329, 1, none⟩) (Kd.R_far (p := ⟨gb329, 0, none⟩) (Kd.R_types HO326.out BK329.out (by decide)) (fun _ hk => hk.2) (.slice Ao83 t324.length co83)) (fun _ hk => hk.2) (.int .i64 t327)) (fun _ h_ => h_.1)))); (case side2 => exact (Kd.R_reads' HO326.out).2.1); (case side3 => refine (Kd.R_reads' (e := 3) (base := w.heap.size) (ok := fun k_ => (some k_ ≠ (v298 : Value).ownBlock ∧ (some k_ ≠ (v303 : Value).ownBlock ∧ (some k_ ≠ (.slice Ao60 t311.length co60 : Value).ownBlock ∧ (some k_ ≠ (.slice Ao76 t317.length co76 : Value).ownBlock ∧ some k_ ≠ (.slice Ao83 t324.length co83 : Value).ownBlock))))) (n := t305.length) (c := co53) ?_).2.2; exact (by (with_reducible repeat (first | apply Kd.R_alloc | apply Kd.R_drewN | apply Kd.R_drew)); exact (Kd.R_mono (Kd.R_far (p := ⟨gb329, 1, none⟩) (Kd.R_far (p := ⟨gb329, 0, none⟩) (Kd.R_types HO307.out BK329.out (by decide)) (fun _ hk => hk.2) (.slice Ao83 t324.length co83)) (fun _ hk => hk.2) (.int .i64 t327)) (fun _ h_ => h_.1)))); (case side4 => exact (Kd.R_reads' HO307.out).2.1); rintro e w101 ⟨rfl, hb⟩; refine ⟨_, rfl, ?_⟩; have n0_ := Aside0.mk (Kd.R_below (by (with_reducible repeat (first | apply Kd.R_alloc | apply Kd.R_drewN | apply Kd.R_drew)); exact (Kd.R_mono (Kd.R_far (p := ⟨gb329, 1, none⟩) (Kd.R_far (p := ⟨gb329, 0, none⟩) (Kd.R_types HO299.out BK329.out (by decide)) (fun _ hk => hk.2) (.slice Ao83 t324.length co83)) (fun _ hk => hk.2) (.int .i64 t327)) (fun _ h_ => h_.1))) hb); have n1_ := Aside0.mk (Kd.R_below (by (with_reducible repeat (first | apply Kd.R_alloc | apply Kd.R_drewN | apply Kd.R_drew)); exact (Kd.R_mono (Kd.R_far (p := ⟨gb329, 1, none⟩) (Kd.R_far (p := ⟨gb329, 0, none⟩) (Kd.R_types HO304.out BK329.out (by decide)) (fun _ hk => hk.2) (.slice Ao83 t324.length co83)) (fun _ hk => hk.2) (.int .i64 t327)) (fun _ h_ => h_.1))) hb); have n2_ := Aside0.mk (Kd.R_below (by (with_reducible repeat (first | apply Kd.R_alloc | apply Kd.R_drewN | apply Kd.R_drew)); exact (Kd.R_mono (Kd.R_far (p := ⟨gb329, 1, none⟩) (Kd.R_far (p := ⟨gb329, 0, none⟩) (Kd.R_types HO307.out BK329.out (by decide)) (fun _ hk => hk.2) (.slice Ao83 t324.length co83)) (fun _ hk => hk.2) (.int .i64 t327)) (fun _ h_ => h_.1))) hb); have n3_ := Aside0.mk (Kd.R_below (by (with_reducible repeat (first | apply Kd.R_alloc | apply Kd.R_drewN | apply Kd.R_drew)); exact (Kd.R_mono (Kd.R_far (p := ⟨gb329, 1, none⟩) (Kd.R_far (p := ⟨gb329, 0, none⟩) (Kd.R_types HO313.out BK329.out (by decide)) (fun _ hk => hk.2) (.slice Ao83 t324.length co83)) (fun _ hk => hk.2) (.int .i64 t327)) (fun _ h_ => h_.1))) hb); have n4_ := Aside0.mk (Kd.R_below (by (with_reducible repeat (first | apply Kd.R_alloc | apply Kd.R_drewN | apply Kd.R_drew)); exact (Kd.R_mono (Kd.R_far (p := ⟨gb329, 1, none⟩) (Kd.R_far (p := ⟨gb329, 0, none⟩) (Kd.R_types HO319.out BK329.out (by decide)) (fun _ hk => hk.2) (.slice Ao83 t324.length co83)) (fun _ hk => hk.2) (.int .i64 t327)) (fun _ h_ => h_.1))) hb); have n5_ := Aside0.mk (Kd.R_below (by (with_reducible repeat (first | apply Kd.R_alloc | apply Kd.R_drewN | apply Kd.R_drew)); exact (Kd.R_mono (Kd.R_far (p := ⟨gb329, 1, none⟩) (Kd.R_far (p := ⟨gb329, 0, none⟩) (Kd.R_types HO326.out BK329.out (by decide)) (fun _ hk => hk.2) (.slice Ao83 t324.length co83)) (fun _ hk => hk.2) (.int .i64 t327)) (fun _ h_ => h_.1))) hb); have n6_ := Aside0.mk (blk_below (g := gb289) (o := .cells #[.int .i64 a0_0, .int .i64 a0_1, .int .i64 a0_2] 23 (0, 0)) (by (with_reducible repeat (first | refine blk_drewN ?_ _ | refine blk_drew ?_ | refine blk_alloc ?_ _)); refine blk_far ?_ NB289_329.out _; (with_reducible repeat (first | refine blk_drewN ?_ _ | refine blk_drew ?_ | refine blk_alloc ?_ _)); refine blk_far ?_ NB289_329.out _; (with_reducible repeat (first | refine blk_drewN ?_ _ | refine blk_drew ?_ | refine blk_alloc ?_ _)); exact BK289.out) hb); have n7_ := Aside0.mk (blk_below (g := gb290) (o := .cells #[.slice A1_0 l1_0.length c1_0, .int .i64 a1_1] 26 (0, 0)) (by (with_reducible repeat (first | refine blk_drewN ?_ _ | refine blk_drew ?_ | refine blk_alloc ?_ _)); refine blk_far ?_ NB290_329.out _; (with_reducible repeat (first | refine blk_drewN ?_ _ | refine blk_drew ?_ | refine blk_alloc ?_ _)); refine blk_far ?_ NB290_329.out _; (with_reducible repeat (first | refine blk_drewN ?_ _ | refine blk_drew ?_ | refine blk_alloc ?_ _)); exact BK290.out) hb); have n8_ := Aside0.mk (blk_below (g := gb291) (o := .cells #[.int .i64 a2_0, .slice A2_1 l2_1.length c2_1] 28 (0, 0)) (by (with_reducible repeat (first | refine blk_drewN ?_ _ | refine blk_drew ?_ | refine blk_alloc ?_ _)); refine blk_far ?_ NB291_329.out _; (with_reducible repeat (first | refine blk_drewN ?_ _ | refine blk_drew ?_ | refine blk_alloc ?_ _)); refine blk_far ?_ NB291_329.out _; (with_reducible repeat (first | refine blk_drewN ?_ _ | refine blk_drew ?_ | refine blk_alloc ?_ _)); exact BK291.out) hb); have n9_ := Aside0.mk (blk_below (g := gb310) (o := .cells #[.slice Ao53 t305.length co53, .int .i64 t308] 31 (0, 0)) (by (with_reducible repeat (first | refine blk_drewN ?_ _ | refine blk_drew ?_ | refine blk_alloc ?_ _)); refine blk_far ?_ NB310_329.out _; (with_reducible repeat (first | refine blk_drewN ?_ _ | refine blk_drew ?_ | refine blk_alloc ?_ _)); refine blk_far ?_ NB310_329.out _; (with_reducible repeat (first | refine blk_drewN ?_ _ | refine blk_drew ?_ | refine blk_alloc ?_ _)); exact BK310.out) hb); have n10_ := Aside0.mk (blk_below (g := gb315) (o := .cells #[.slice Ao60 t311.length co60, .int .i64 t314] 31 (0, 0)) (by (with_reducible repeat (first | refine blk_drewN ?_ _ | refine blk_drew ?_ | refine blk_alloc ?_ _)); refine blk_far ?_ NB315_329.out _; (with_reducible repeat (first | refine blk_drewN ?_ _ | refine blk_drew ?_ | refine blk_alloc ?_ _)); refine blk_far ?_ NB315_329.out _; (with_reducible repeat (first | refine blk_drewN ?_ _ | refine blk_drew ?_ | refine blk_alloc ?_ _)); exact BK315.out) hb); have n11_ := Aside0.mk (blk_below (g := gb320) (o := .cells #[.int .i64 t316, .slice Ao76 t317.length co76] 37 (0, 0)) (by (with_reducible repeat (first | refine blk_drewN ?_ _ | refine blk_drew ?_ | refine blk_alloc ?_ _)); refine blk_far ?_ NB320_329.out _; (with_reducible repeat (first | refine blk_drewN ?_ _ | refine blk_drew ?_ | refine blk_alloc ?_ _)); refine blk_far ?_ NB320_329.out _; (with_reducible repeat (first | refine blk_drewN ?_ _ | refine blk_drew ?_ | refine blk_alloc ?_ _)); exact BK320.out) hb); have n12_ := Aside0.mk (blk_below (g := gb329) (o := .cells #[.slice Ao83 t324.length co83, .int .i64 t327] 31 (0, 0)) (by (with_reducible repeat (first | refine blk_drewN ?_ _ | refine blk_drew ?_ | refine blk_alloc ?_ _)); refine blk_put (cs := #[.slice Ao83 t324.length co83, .int .i64 0]) ?_ 1 _ rfl; (with_reducible repeat (first | refine blk_drewN ?_ _ | refine blk_drew ?_ | refine blk_alloc ?_ _)); refine blk_put (cs := #[.slice none 0 0, .int .i64 0]) ?_ 0 _ rfl; (with_reducible repeat (first | refine blk_drewN ?_ _ | refine blk_drew ?_ | refine blk_alloc ?_ _)); exact BK329.out) hb); have n13_ := Aside0.mk (below_step X.G hb); clear HO299; clear HO304; clear HO307; clear HO313; clear HO319; clear HO326; clear BK289; clear BK290; clear BK291; clear BK310; clear BK315; clear BK320; clear BK329; clear HB; have HO299 := n0_; have HO304 := n1_; have HO307 := n2_; have HO313 := n3_; have HO319 := n4_; have HO326 := n5_; have BK289 := n6_; have BK290 := n7_; have BK291 := n8_; have BK310 := n9_; have BK315 := n10_; have BK320 := n11_; have BK329 := n12_; have HB := n13_; clear n0_ n1_ n2_ n3_ n4_ n5_ n6_ n7_ n8_ n9_ n10_ n11_ n12_ n13_; (try clear hb); (try clear hb2); (try clear hk); (try clear hi)))
      go_meet
      case rel => exact ⟨_, ((t328 != t309)), (by first | rfl | (simp; done) | (simp [*]; done)), H', ⟨by first | omega | exact Nat.le_refl _⟩, ⟨by (with_reducible repeat (first | apply Kd.R_alloc | apply Kd.R_drewN | apply Kd.R_drew)); exact Kd.R_mono HO307.out (fun _ hk => ⟨hk.2.2.1, ⟨hk.2.2.2.1, hk.2.2.2.2⟩⟩)⟩, ⟨by (with_reducible repeat (first | apply Kd.R_alloc | apply Kd.R_drewN | apply Kd.R_drew)); exact Kd.R_mono HO313.out (fun _ hk => ⟨hk.2.2.1, ⟨hk.2.2.2.1, hk.2.2.2.2⟩⟩)⟩, ⟨by (with_reducible repeat (first | apply Kd.R_alloc | apply Kd.R_drewN | apply Kd.R_drew)); exact Kd.R_mono HO319.out (fun _ hk => ⟨hk.2.2.1, ⟨hk.2.2.2.1, hk.2.2.2.2⟩⟩)⟩, ⟨by (with_reducible repeat (first | apply Kd.R_alloc | apply Kd.R_drewN | apply Kd.R_drew)); exact Kd.R_mono HO326.out (fun _ hk => ⟨hk.2.2.1, ⟨hk.2.2.2.1, hk.2.2.2.2⟩⟩)⟩, ⟨by (with_reducible repeat (first | refine blk_drewN ?_ _ | refine blk_drew ?_ | refine blk_alloc ?_ _)); exact BK289.out⟩, ⟨by (with_reducible repeat (first | refine blk_drewN ?_ _ | refine blk_drew ?_ | refine blk_alloc ?_ _)); exact BK290.out⟩, ⟨by (with_reducible repeat (first | refine blk_drewN ?_ _ | refine blk_drew ?_ | refine blk_alloc ?_ _)); exact BK291.out⟩, ⟨by (with_reducible repeat (first | refine blk_drewN ?_ _ | refine blk_drew ?_ | refine blk_alloc ?_ _)); exact BK310.out⟩, ⟨by (with_reducible repeat (first | refine blk_drewN ?_ _ | refine blk_drew ?_ | refine blk_alloc ?_ _)); exact BK315.out⟩, ⟨by (with_reducible repeat (first | refine blk_drewN ?_ _ | refine blk_drew ?_ | refine blk_alloc ?_ _)); exact BK320.out⟩, ⟨by (with_reducible repeat (first | refine blk_drewN ?_ _ | refine blk_drew ?_ | refine blk_alloc ?_ _)); exact BK329.out⟩, ⟨X.G⟩⟩
     ·replace c87 := Bool.eq_false_iff.mpr c87
      subst c87
      have H1 : (laws_FnExactSail.j0 k t309 t328 true a0_0 a0_1 a0_2 l1_0 a1_1 a2_0 l2_1 t305 t308 t311 t314 t316 t317 t324 t327) = some r := by rw [if_neg (show ¬ (false = true) by decide)] at H; exact H
      clear H
      have H := H1
      clear H1
      have H' := Aside0.mk H
      clear H
      have hnb102 := NB329_289.out
      have hnc102 := NB289_329.out
      have hnb103 := NB329_290.out
      have hnc103 := NB290_329.out
      have hnb104 := NB329_291.out
      have hnc104 := NB291_329.out
      have hnb105 := NB329_310.out
      have hnc105 := NB310_329.out
      have hnb106 := NB329_315.out
      have hnc106 := NB315_329.out
      have hnb107 := NB329_320.out
      have hnc107 := NB320_329.out
      have hcz108_0 : w82.cell? ⟨gb329, 0, none⟩ = some (.slice none 0 0) := (blk_cell BK329.out 0).trans rfl
      have hcz108_1 : w82.cell? ⟨gb329, 1, none⟩ = some (.int .i64 0) := (blk_cell BK329.out 1).trans rfl
      have hfz108_0 := blk_frozen BK329.out 0
      have hfz108_1 := blk_frozen BK329.out 1
      have hnb109 := NB310_289.out
      have hnc109 := NB289_310.out
      have hnb110 := NB310_290.out
      have hnc110 := NB290_310.out
      have hnb111 := NB310_291.out
      have hnc111 := NB291_310.out
      have hnb112 := NB310_315.out
      have hnc112 := NB315_310.out
      have hnb113 := NB310_320.out
      have hnc113 := NB320_310.out
      have hcz114_0 : w82.cell? ⟨gb310, 0, none⟩ = some (.slice Ao53 t305.length co53) := (blk_cell BK310.out 0).trans rfl
      have hcz114_1 : w82.cell? ⟨gb310, 1, none⟩ = some (.int .i64 t308) := (blk_cell BK310.out 1).trans rfl
      have hfz114_0 := blk_frozen BK310.out 0
      have hfz114_1 := blk_frozen BK310.out 1
      go_wp2_with (first | ((with_reducible refine gate_callee (f := 11) rfl ?_); refine goesL_ (some 53) rfl rfl Try.func11 (by kernel_rfl) rfl #[.agg #[.slice Ao83 t324.length co83, .int .i64 t327], .agg #[.slice Ao53 t305.length co53, .int .i64 t308]] rfl X.M ?_; (with_reducible refine (laws_eqPlaces.calls k _ _ t324 t327 _ _ t305 t308 false _ ?side1 ?side2 ?side3 ?side4 A86.out).mono ?_); (case side1 => refine (Kd.R_reads' (e := 3) (base := w.heap.size) (ok := fun k_ => (some k_ ≠ (v298 : Value).ownBlock ∧ (some k_ ≠ (v303 : Value).ownBlock ∧ (some k_ ≠ (.slice Ao53 t305.length co53 : Value).ownBlock ∧ (some k_ ≠ (.slice Ao60 t311.length co60 : Value).ownBlock ∧ some k_ ≠ (.slice Ao76 t317.length co76 : Value).ownBlock))))) (n := t324.length) (c := co83) ?_).2.2; exact (by (with_reducible repeat (first | apply Kd.R_alloc | apply Kd.R_drewN | apply Kd.R_drew)); exact (Kd.R_mono (Kd.R_far (p := ⟨gb329, 1, none⟩) (Kd.R_far (p := ⟨gb329, 0, none⟩) (Kd.R_types HO326.out BK329.out (by decide)) (fun _ hk => hk.2) (.slice Ao83 t324.length co83)) (fun _ hk => hk.2) (.int .i64 t327)) (fun _ h_ => h_.1)))); (case side2 => exact (Kd.R_reads' HO326.out).2.1); (case side3 => refine (Kd.R_reads' (e := 3) (base := w.heap.size) (ok := fun k_ => (some k_ ≠ (v298 : Value).ownBlock ∧ (some k_ ≠ (v303 : Value).ownBlock ∧ (some k_ ≠ (.slice Ao60 t311.length co60 : Value).ownBlock ∧ (some k_ ≠ (.slice Ao76 t317.length co76 : Value).ownBlock ∧ some k_ ≠ (.slice Ao83 t324.length co83 : Value).ownBlock))))) (n := t305.length) (c := co53) ?_).2.2; exact (by (with_reducible repeat (first | apply Kd.R_alloc | apply Kd.R_drewN | apply Kd.R_drew)); exact (Kd.R_mono (Kd.R_far (p := ⟨gb329, 1, none⟩) (Kd.R_far (p := ⟨gb329, 0, none⟩) (Kd.R_types HO307.out BK329.out (by decide)) (fun _ hk => hk.2) (.slice Ao83 t324.length co83)) (fun _ hk => hk.2) (.int .i64 t327)) (fun _ h_ => h_.1)))); (case side4 => exact (Kd.R_reads' HO307.out).2.1); rintro e w115 ⟨rfl, hb⟩; refine ⟨_, rfl, ?_⟩; have n0_ := Aside0.mk (Kd.R_below (by (with_reducible repeat (first | apply Kd.R_alloc | apply Kd.R_drewN | apply Kd.R_drew)); exact (Kd.R_mono (Kd.R_far (p := ⟨gb329, 1, none⟩) (Kd.R_far (p := ⟨gb329, 0, none⟩) (Kd.R_types HO299.out BK329.out (by decide)) (fun _ hk => hk.2) (.slice Ao83 t324.length co83)) (fun _ hk => hk.2) (.int .i64 t327)) (fun _ h_ => h_.1))) hb); have n1_ := Aside0.mk (Kd.R_below (by (with_reducible repeat (first | apply Kd.R_alloc | apply Kd.R_drewN | apply Kd.R_drew)); exact (Kd.R_mono (Kd.R_far (p := ⟨gb329, 1, none⟩) (Kd.R_far (p := ⟨gb329, 0, none⟩) (Kd.R_types HO304.out BK329.out (by decide)) (fun _ hk => hk.2) (.slice Ao83 t324.length co83)) (fun _ hk => hk.2) (.int .i64 t327)) (fun _ h_ => h_.1))) hb); have n2_ := Aside0.mk (Kd.R_below (by (with_reducible repeat (first | apply Kd.R_alloc | apply Kd.R_drewN | apply Kd.R_drew)); exact (Kd.R_mono (Kd.R_far (p := ⟨gb329, 1, none⟩) (Kd.R_far (p := ⟨gb329, 0, none⟩) (Kd.R_types HO307.out BK329.out (by decide)) (fun _ hk => hk.2) (.slice Ao83 t324.length co83)) (fun _ hk => hk.2) (.int .i64 t327)) (fun _ h_ => h_.1))) hb); have n3_ := Aside0.mk (Kd.R_below (by (with_reducible repeat (first | apply Kd.R_alloc | apply Kd.R_drewN | apply Kd.R_drew)); exact (Kd.R_mono (Kd.R_far (p := ⟨gb329, 1, none⟩) (Kd.R_far (p := ⟨gb329, 0, none⟩) (Kd.R_types HO313.out BK329.out (by decide)) (fun _ hk => hk.2) (.slice Ao83 t324.length co83)) (fun _ hk => hk.2) (.int .i64 t327)) (fun _ h_ => h_.1))) hb); have n4_ := Aside0.mk (Kd.R_below (by (with_reducible repeat (first | apply Kd.R_alloc | apply Kd.R_drewN | apply Kd.R_drew)); exact (Kd.R_mono (Kd.R_far (p := ⟨gb329, 1, none⟩) (Kd.R_far (p := ⟨gb329, 0, none⟩) (Kd.R_types HO319.out BK329.out (by decide)) (fun _ hk => hk.2) (.slice Ao83 t324.length co83)) (fun _ hk => hk.2) (.int .i64 t327)) (fun _ h_ => h_.1))) hb); have n5_ := Aside0.mk (Kd.R_below (by (with_reducible repeat (first | apply Kd.R_alloc | apply Kd.R_drewN | apply Kd.R_drew)); exact (Kd.R_mono (Kd.R_far (p := ⟨gb329, 1, none⟩) (Kd.R_far (p := ⟨gb329, 0, none⟩) (Kd.R_types HO326.out BK329.out (by decide)) (fun _ hk => hk.2) (.slice Ao83 t324.length co83)) (fun _ hk => hk.2) (.int .i64 t327)) (fun _ h_ => h_.1))) hb); have n6_ := Aside0.mk (blk_below (g := gb289) (o := .cells #[.int .i64 a0_0, .int .i64 a0_1, .int .i64 a0_2] 23 (0, 0)) (by (with_reducible repeat (first | refine blk_drewN ?_ _ | refine blk_drew ?_ | refine blk_alloc ?_ _)); refine blk_far ?_ NB289_329.out _; (with_reducible repeat (first | refine blk_drewN ?_ _ | refine blk_drew ?_ | refine blk_alloc ?_ _)); refine blk_far ?_ NB289_329.out _; (with_reducible repeat (first | refine blk_drewN ?_ _ | refine blk_drew ?_ | refine blk_alloc ?_ _)); exact BK289.out) hb); have n7_ := Aside0.mk (blk_below (g := gb290) (o := .cells #[.slice A1_0 l1_0.length c1_0, .int .i64 a1_1] 26 (0, 0)) (by (with_reducible repeat (first | refine blk_drewN ?_ _ | refine blk_drew ?_ | refine blk_alloc ?_ _)); refine blk_far ?_ NB290_329.out _; (with_reducible repeat (first | refine blk_drewN ?_ _ | refine blk_drew ?_ | refine blk_alloc ?_ _)); refine blk_far ?_ NB290_329.out _; (with_reducible repeat (first | refine blk_drewN ?_ _ | refine blk_drew ?_ | refine blk_alloc ?_ _)); exact BK290.out) hb); have n8_ := Aside0.mk (blk_below (g := gb291) (o := .cells #[.int .i64 a2_0, .slice A2_1 l2_1.length c2_1] 28 (0, 0)) (by (with_reducible repeat (first | refine blk_drewN ?_ _ | refine blk_drew ?_ | refine blk_alloc ?_ _)); refine blk_far ?_ NB291_329.out _; (with_reducible repeat (first | refine blk_drewN ?_ _ | refine blk_drew ?_ | refine blk_alloc ?_ _)); refine blk_far ?_ NB291_329.out _; (with_reducible repeat (first | refine blk_drewN ?_ _ | refine blk_drew ?_ | refine blk_alloc ?_ _)); exact BK291.out) hb); have n9_ := Aside0.mk (blk_below (g := gb310) (o := .cells #[.slice Ao53 t305.length co53, .int .i64 t308] 31 (0, 0)) (by (with_reducible repeat (first | refine blk_drewN ?_ _ | refine blk_drew ?_ | refine blk_alloc ?_ _)); refine blk_far ?_ NB310_329.out _; (with_reducible repeat (first | refine blk_drewN ?_ _ | refine blk_drew ?_ | refine blk_alloc ?_ _)); refine blk_far ?_ NB310_329.out _; (with_reducible repeat (first | refine blk_drewN ?_ _ | refine blk_drew ?_ | refine blk_alloc ?_ _)); exact BK310.out) hb); have n10_ := Aside0.mk (blk_below (g := gb315) (o := .cells #[.slice Ao60 t311.length co60, .int .i64 t314] 31 (0, 0)) (by (with_reducible repeat (first | refine blk_drewN ?_ _ | refine blk_drew ?_ | refine blk_alloc ?_ _)); refine blk_far ?_ NB315_329.out _; (with_reducible repeat (first | refine blk_drewN ?_ _ | refine blk_drew ?_ | refine blk_alloc ?_ _)); refine blk_far ?_ NB315_329.out _; (with_reducible repeat (first | refine blk_drewN ?_ _ | refine blk_drew ?_ | refine blk_alloc ?_ _)); exact BK315.out) hb); have n11_ := Aside0.mk (blk_below (g := gb320) (o := .cells #[.int .i64 t316, .slice Ao76 t317.length co76] 37 (0, 0)) (by (with_reducible repeat (first | refine blk_drewN ?_ _ | refine blk_drew ?_ | refine blk_alloc ?_ _)); refine blk_far ?_ NB320_329.out _; (with_reducible repeat (first | refine blk_drewN ?_ _ | refine blk_drew ?_ | refine blk_alloc ?_ _)); refine blk_far ?_ NB320_329.out _; (with_reducible repeat (first | refine blk_drewN ?_ _ | refine blk_drew ?_ | refine blk_alloc ?_ _)); exact BK320.out) hb); have n12_ := Aside0.mk (blk_below (g := gb329) (o := .cells #[.slice Ao83 t324.length co83, .int .i64 t327] 31 (0, 0)) (by (with_reducible repeat (first | refine blk_drewN ?_ _ | refine blk_drew ?_ | refine blk_alloc ?_ _)); refine blk_put (cs := #[.slice Ao83 t324.length co83, .int .i64 0]) ?_ 1 _ rfl; (with_reducible repeat (first | refine blk_drewN ?_ _ | refine blk_drew ?_ | refine blk_alloc ?_ _)); refine blk_put (cs := #[.slice none 0 0, .int .i64 0]) ?_ 0 _ rfl; (with_reducible repeat (first | refine blk_drewN ?_ _ | refine blk_drew ?_ | refine blk_alloc ?_ _)); exact BK329.out) hb); have n13_ := Aside0.mk (below_step X.G hb); clear HO299; clear HO304; clear HO307; clear HO313; clear HO319; clear HO326; clear BK289; clear BK290; clear BK291; clear BK310; clear BK315; clear BK320; clear BK329; clear HB; have HO299 := n0_; have HO304 := n1_; have HO307 := n2_; have HO313 := n3_; have HO319 := n4_; have HO326 := n5_; have BK289 := n6_; have BK290 := n7_; have BK291 := n8_; have BK310 := n9_; have BK315 := n10_; have BK320 := n11_; have BK329 := n12_; have HB := n13_; clear n0_ n1_ n2_ n3_ n4_ n5_ n6_ n7_ n8_ n9_ n10_ n11_ n12_ n13_; (try clear hb); (try clear hb2); (try clear hk); (try clear hi)))
      go_meet
      case rel => exact ⟨_, (true), (by first | rfl | (simp; done) | (simp [*]; done)), H', ⟨by first | omega | exact Nat.le_refl _⟩, ⟨by (with_reducible repeat (first | apply Kd.R_alloc | apply Kd.R_drewN | apply Kd.R_drew)); exact Kd.R_mono HO307.out (fun _ hk => ⟨hk.2.2.1, ⟨hk.2.2.2.1, hk.2.2.2.2⟩⟩)⟩, ⟨by (with_reducible repeat (first | apply Kd.R_alloc | apply Kd.R_drewN | apply Kd.R_drew)); exact Kd.R_mono HO313.out (fun _ hk => ⟨hk.2.2.1, ⟨hk.2.2.2.1, hk.2.2.2.2⟩⟩)⟩, ⟨by (with_reducible repeat (first | apply Kd.R_alloc | apply Kd.R_drewN | apply Kd.R_drew)); exact Kd.R_mono HO319.out (fun _ hk => ⟨hk.2.2.1, ⟨hk.2.2.2.1, hk.2.2.2.2⟩⟩)⟩, ⟨by (with_reducible repeat (first | apply Kd.R_alloc | apply Kd.R_drewN | apply Kd.R_drew)); exact Kd.R_mono HO326.out (fun _ hk => ⟨hk.2.2.1, ⟨hk.2.2.2.1, hk.2.2.2.2⟩⟩)⟩, ⟨by (with_reducible repeat (first | refine blk_drewN ?_ _ | refine blk_drew ?_ | refine blk_alloc ?_ _)); exact BK289.out⟩, ⟨by (with_reducible repeat (first | refine blk_drewN ?_ _ | refine blk_drew ?_ | refine blk_alloc ?_ _)); exact BK290.out⟩, ⟨by (with_reducible repeat (first | refine blk_drewN ?_ _ | refine blk_drew ?_ | refine blk_alloc ?_ _)); exact BK291.out⟩, ⟨by (with_reducible repeat (first | refine blk_drewN ?_ _ | refine blk_drew ?_ | refine blk_alloc ?_ _)); exact BK310.out⟩, ⟨by (with_reducible repeat (first | refine blk_drewN ?_ _ | refine blk_drew ?_ | refine blk_alloc ?_ _)); exact BK315.out⟩, ⟨by (with_reducible repeat (first | refine blk_drewN ?_ _ | refine blk_drew ?_ | refine blk_alloc ?_ _)); exact BK320.out⟩, ⟨by (with_reducible repeat (first | refine blk_drewN ?_ _ | refine blk_drew ?_ | refine blk_alloc ?_ _)); exact BK329.out⟩, ⟨X.G⟩⟩
    case rest =>
     clear HC33
     try clear c1
     try clear c2
     try clear p2
     try clear c7
     try clear c8
     try clear c9
     try clear c10
     try clear c11
     try clear c87
     try clear c88
     try clear c89
     try clear c90
     try clear c91
     try clear c92
     try clear c93
     try clear c95
     try clear c96
     try clear c97
     try clear c98
     try clear c99
     try clear c102
     try clear c103
     try clear c104
     try clear c105
     try clear c106
     try clear c107
     try clear c109
     try clear c110
     try clear c111
     try clear c112
     try clear c113
     try clear hcz100_0
     try clear hcz100_1
     try clear hcz108_0
     try clear hcz108_1
     try clear hcz114_0
     try clear hcz114_1
     try clear hcz94_0
     try clear hcz94_1
     try clear hfz100_0
     try clear hfz100_1
     try clear hfz108_0
     try clear hfz108_1
     try clear hfz114_0
     try clear hfz114_1
     try clear hfz94_0
     try clear hfz94_1
     expose_names
     revert k a0_0 a0_1 a0_2 A1_0 c1_0 l1_0 a1_1 a2_0 A2_1 c2_1 l2_1 r w hu23 hu26 hu28 hu31 hu37 HR1_0 HC1_0 HR2_1 HC2_1 t292 A4 c5b0 t293 A13 c14b0 t294 t295 t296 A25 t297 t300 A26 t301 t302 A27 t305 t308 t309 A28 t311 t314 A29 t316 t317 A30 t321 t322 t323 A31 t324 t327 t328 A32 Q' gb289 w34 GW289 GE289 gb290 w35 GW290 GE290 NB289_290 NB290_289 gb291 w36 GW291 GE291 NB289_291 NB291_289 NB290_291 NB291_290 hnb37 hnc37 hnb38 hnc38 hcz39_0 hcz39_1 hfz39_0 hfz39_1 w40 hnb41 hnc41 hcz42_0 hcz42_1 hfz42_0 hfz42_1 w43 HT__1 HW__1 w44 hHeld_1 v298 v303 gb310 w52 hS__1 GW310 GE310 NB289_310 NB310_289 NB290_310 NB310_290 NB291_310 NB310_291 hHeld_2 Ao53 co53 hs54 hfs54 hns54_0 hns54_1 hns54_2 hms54_0 hms54_1 hms54_2 hs55 hfs55 hns55_0 hns55_1 hns55_2 hms55_0 hms55_1 hms55_2 hHeld_3 hnb56 hnc56 hcz57_0 hcz57_1 hfz57_0 hfz57_1 w58 gb315 w59 GW315 GE315 NB289_315 NB315_289 NB290_315 NB315_290 NB291_315 NB315_291 NB310_315 NB315_310 Ao60 co60 hnb61 hnc61 hnb62 hnc62 hnb63 hnc63 hnb64 hnc64 hcz65_0 hcz65_1 hfz65_0 hfz65_1 hnb66 hnc66 hcz67_0 hcz67_1 hfz67_0 hfz67_1 w68 gb320 w69 GW320 GE320 NB289_320 NB320_289 NB290_320 NB320_290 NB291_320 NB320_291 NB310_320 NB320_310 NB315_320 NB320_315 hnb70 hnc70 hnb71 hnc71 hnb72 hnc72 hnb73 hnc73 hnb74 hnc74 hcz75_0 hcz75_1 hfz75_0 hfz75_1 Ao76 co76 w77 HT_ HW_ w78 hHeld_4 gb329 w82 hS_ BK289 BK290 BK291 BK310 BK315 BK320 BK329 GW329 GE329 NB289_329 NB329_289 NB290_329 NB329_290 NB291_329 NB329_291 NB310_329 NB329_310 NB315_329 NB329_315 NB320_329 NB329_320 HB hHeld_5 Ao83 co83 HO299 HO304 HO307 HO313 HO319 HO326 hs84 hfs84 hns84_0 hns84_1 hns84_2 hns84_3 hns84_4 hns84_5 hms84_0 hms84_1 hms84_2 hms84_3 hms84_4 hms84_5 hs85 hfs85 hns85_0 hns85_1 hns85_2 hns85_3 hns85_4 hns85_5 hms85_0 hms85_1 hms85_2 hms85_3 hms85_4 hms85_5 hHeld K h K_1 h_1 wc u19 u20 u21 u22 u23 u24 u25 u26 u27 u28 u29 u30 u31 u32 u33 u34 u35 u36 u37 u38 u39 u40 u41 u42 u43 u44 u45 u46 u47 u48 u49 u50 u51 u52 u53 u54 u55 u56 u57 u58 u59 u60 u61 u62 u63 u64 u65 u66 u67 u68 u69 u70 u71 u72 u73 u74 u75 u76 u77 u78 u79 u80 u81 u82 u83 u84 u85 u86 u87 u88 u89 u90 u91 u92 u93 u94 u95 u96 u97 u98 u99 u100 u101 u102 u103 u104 u105 u106 u107 u108 u109 u110 u111 u112 u113 u114 u115 u116 u117 u118 u119 u120 u121 u122 u123 u124 u125 u126 hcut
     exact hRest_.out

end Go.Proofs.Ytjllgibfcnkgpaf.Q
