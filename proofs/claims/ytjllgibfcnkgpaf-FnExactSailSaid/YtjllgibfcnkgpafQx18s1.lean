import Derived.Test.YtjllgibfcnkgpafXShort
import Derived.Test.YtjllgibfcnkgpafQx0
import Derived.Test.YtjllgibfcnkgpafQx1
import Derived.Test.YtjllgibfcnkgpafQx5
import Derived.Test.YtjllgibfcnkgpafQx17
import Derived.Test.YtjllgibfcnkgpafQx18s0
-- by wip/xprint.py, a program of this session over the kit's print: not trusted, Lean checks it.
namespace Go.Proofs.Ytjllgibfcnkgpaf.Q
open Go.RowKit Go.Proofs.YtjllgibfcnkgpafW.PrintWords Go.Proofs.YtjllgibfcnkgpafW.PrintLast Go.Proofs.YtjllgibfcnkgpafW.PrintMore
attribute [local go_sem] max2_int min2_int max_two min_two max_three min_three max_four min_four   -- for this text's walks alone
set_option linter.unusedVariables false
set_option linter.unusedSimpArgs false

set_option maxHeartbeats 8000000 in
set_option maxRecDepth 100000 in
noncomputable def laws_FnExactSail.callsB : X.Rest (laws_FnExactSail.callsA.P) := by
  apply X.Rest.mk
  intro hRest_
  intro k a0_0 a0_1 a0_2 A1_0 c1_0 l1_0 a1_1 a2_0 A2_1 c2_1 l2_1 r w hu23 hu26 hu28 hu31 hu37 HR1_0 HC1_0 HR2_1 HC2_1 t292 A4 c5b0 t293 A13 c14b0 t294 t295 t296 A25 t297 t300 A26 t301 t302 A27 t305 t308 t309 A28 t311 t314 A29 t316 t317 A30 t321 t322 t323 A31 t324 t327 t328 A32 Q' gb289 w34 GW289 GE289 gb290 w35 GW290 GE290 NB289_290 NB290_289 gb291 w36 GW291 GE291 NB289_291 NB291_289 NB290_291 NB291_290 hnb37 hnc37 hnb38 hnc38 hcz39_0 hcz39_1 hfz39_0 hfz39_1 w40 hnb41 hnc41 hcz42_0 hcz42_1 hfz42_0 hfz42_1 w43 HT__1 HW__1 w44 hHeld_1 v298 v303 gb310 w52 hS__1 GW310 GE310 NB289_310 NB310_289 NB290_310 NB310_290 NB291_310 NB310_291 hHeld_2 Ao53 co53 hs54 hfs54 hns54_0 hns54_1 hns54_2 hms54_0 hms54_1 hms54_2 hs55 hfs55 hns55_0 hns55_1 hns55_2 hms55_0 hms55_1 hms55_2 hHeld_3 hnb56 hnc56 hcz57_0 hcz57_1 hfz57_0 hfz57_1 w58 gb315 w59 GW315 GE315 NB289_315 NB315_289 NB290_315 NB315_290 NB291_315 NB315_291 NB310_315 NB315_310 Ao60 co60 hnb61 hnc61 hnb62 hnc62 hnb63 hnc63 hnb64 hnc64 hcz65_0 hcz65_1 hfz65_0 hfz65_1 hnb66 hnc66 hcz67_0 hcz67_1 hfz67_0 hfz67_1 w68 gb320 w69 GW320 GE320 NB289_320 NB320_289 NB290_320 NB320_290 NB291_320 NB320_291 NB310_320 NB320_310 NB315_320 NB320_315 hnb70 hnc70 hnb71 hnc71 hnb72 hnc72 hnb73 hnc73 hnb74 hnc74 hcz75_0 hcz75_1 hfz75_0 hfz75_1 Ao76 co76 w77 HT_ HW_ w78 hHeld_4 gb329 w82 hS_ BK289 BK290 BK291 BK310 BK315 BK320 BK329 GW329 GE329 NB289_329 NB329_289 NB290_329 NB329_290 NB291_329 NB329_291 NB310_329 NB329_310 NB315_329 NB329_315 NB320_329 NB329_320 HB hHeld_5 Ao83 co83 HO299 HO304 HO307 HO313 HO319 HO326 hs84 hfs84 hns84_0 hns84_1 hns84_2 hns84_3 hns84_4 hns84_5 hms84_0 hms84_1 hms84_2 hms84_3 hms84_4 hms84_5 hs85 hfs85 hns85_0 hns85_1 hns85_2 hns85_3 hns85_4 hns85_5 hms85_0 hms85_1 hms85_2 hms85_3 hms85_4 hms85_5 hHeld K h K_1 h_1 wc u19 u20 u21 u22 u23 u24 u25 u26 u27 u28 u29 u30 u31 u32 u33 u34 u35 u36 u37 u38 u39 u40 u41 u42 u43 u44 u45 u46 u47 u48 u49 u50 u51 u52 u53 u54 u55 u56 u57 u58 u59 u60 u61 u62 u63 u64 u65 u66 u67 u68 u69 u70 u71 u72 u73 u74 u75 u76 u77 u78 u79 u80 u81 u82 u83 u84 u85 u86 u87 u88 u89 u90 u91 u92 u93 u94 u95 u96 u97 u98 u99 u100 u101 u102 u103 u104 u105 u106 u107 u108 u109 u110 u111 u112 u113 u114 u115 u116 u117 u118 u119 u120 u121 u122 u123 u124 u125 u126 hcut
  obtain ⟨kq, x59_32, rfl, HA, HJ32, HO_311000, HO_316000, HO_321001, HO_330000, BK289, BK290, BK291, BK310, BK315, BK320, BK329, HB⟩ := hcut
  cases kq with
  | zero => exact absurd HA.out (by simp [laws_FnExactSail.j0])
  | succ kj32 =>
   have H := HA.out
   clear HA
   simp only [laws_FnExactSail.j0] at H
   by_cases c116 : x59_32 = true
   ·subst c116
    have H1 : (some false) = some r := by rw [if_pos rfl] at H; exact H
    clear H
    have H := H1
    clear H1
    obtain rfl := Option.some.inj H
    go_wp2
    go_ret
    exact ⟨by first | rfl | (simp [errW_none, errW_some] <;> rfl) | (simp [*, errW_none, errW_some] <;> rfl), X.G⟩
   ·replace c116 := Bool.eq_false_iff.mpr c116
    subst c116
    have H1 : ((laws_toPlaces.f kj32 l1_0 a1_1).bind fun bt331 => ((laws_eqPlaces.f kj32 t311 t314 bt331.1 bt331.2).bind fun t335 => (if t335 = true then ((laws_toVoyage.f kj32 a2_0 l2_1).bind fun bt336 => ((laws_eqVoyage.f kj32 t316 t317 bt336.1 bt336.2).bind fun t340 => (if t340 = true then ((laws_markPlaces.f kj32 t311 t314 1).bind fun bt341 => ((laws_markVoyage.f kj32 t316 t317 bt341.1).bind fun bt343 => (if bt343.1 < 0 then (laws_FnExactSail.j1 kj32 t309 true a0_0 a0_1 a0_2 l1_0 a1_1 a2_0 l2_1 t305 t308 t324 t327) else ((laws_eqPlaces.f kj32 t324 t327 t305 t308).bind fun t345 => (if t345 = true then (laws_FnExactSail.j1 kj32 t309 (t328 != t309) a0_0 a0_1 a0_2 l1_0 a1_1 a2_0 l2_1 t305 t308 t324 t327) else (laws_FnExactSail.j1 kj32 t309 true a0_0 a0_1 a0_2 l1_0 a1_1 a2_0 l2_1 t305 t308 t324 t327)))))) else (some false)))) else (some false)))) = some r := by rw [if_neg (show ¬ (false = true) by decide)] at H; exact H
    clear H
    have H := H1
    clear H1
    replace H := Option.bind_eq_some_iff.mp H
    obtain ⟨⟨t331, t334⟩, A1170, H⟩ := H
    replace H : ((laws_eqPlaces.f kj32 t311 t314 t331 t334).bind fun t335 => (if t335 = true then ((laws_toVoyage.f kj32 a2_0 l2_1).bind fun bt336 => ((laws_eqVoyage.f kj32 t316 t317 bt336.1 bt336.2).bind fun t340 => (if t340 = true then ((laws_markPlaces.f kj32 t311 t314 1).bind fun bt341 => ((laws_markVoyage.f kj32 t316 t317 bt341.1).bind fun bt343 => (if bt343.1 < 0 then (laws_FnExactSail.j1 kj32 t309 true a0_0 a0_1 a0_2 l1_0 a1_1 a2_0 l2_1 t305 t308 t324 t327) else ((laws_eqPlaces.f kj32 t324 t327 t305 t308).bind fun t345 => (if t345 = true then (laws_FnExactSail.j1 kj32 t309 (t328 != t309) a0_0 a0_1 a0_2 l1_0 a1_1 a2_0 l2_1 t305 t308 t324 t327) else (laws_FnExactSail.j1 kj32 t309 true a0_0 a0_1 a0_2 l1_0 a1_1 a2_0 l2_1 t305 t308 t324 t327)))))) else (some false)))) else (some false))) = some r := H
    have A117 := Aside0.mk A1170
    clear A1170
    replace H := Option.bind_eq_some_iff.mp H
    obtain ⟨t335, A1180, H⟩ := H
    replace H : (if t335 = true then ((laws_toVoyage.f kj32 a2_0 l2_1).bind fun bt336 => ((laws_eqVoyage.f kj32 t316 t317 bt336.1 bt336.2).bind fun t340 => (if t340 = true then ((laws_markPlaces.f kj32 t311 t314 1).bind fun bt341 => ((laws_markVoyage.f kj32 t316 t317 bt341.1).bind fun bt343 => (if bt343.1 < 0 then (laws_FnExactSail.j1 kj32 t309 true a0_0 a0_1 a0_2 l1_0 a1_1 a2_0 l2_1 t305 t308 t324 t327) else ((laws_eqPlaces.f kj32 t324 t327 t305 t308).bind fun t345 => (if t345 = true then (laws_FnExactSail.j1 kj32 t309 (t328 != t309) a0_0 a0_1 a0_2 l1_0 a1_1 a2_0 l2_1 t305 t308 t324 t327) else (laws_FnExactSail.j1 kj32 t309 true a0_0 a0_1 a0_2 l1_0 a1_1 a2_0 l2_1 t305 t308 t324 t327)))))) else (some false)))) else (some false)) = some r := H
    have A118 := Aside0.mk A1180
    clear A1180
    by_cases c119 : t335 = true
    ·subst c119
     have H1 : ((laws_toVoyage.f kj32 a2_0 l2_1).bind fun bt336 => ((laws_eqVoyage.f kj32 t316 t317 bt336.1 bt336.2).bind fun t340 => (if t340 = true then ((laws_markPlaces.f kj32 t311 t314 1).bind fun bt341 => ((laws_markVoyage.f kj32 t316 t317 bt341.1).bind fun bt343 => (if bt343.1 < 0 then (laws_FnExactSail.j1 kj32 t309 true a0_0 a0_1 a0_2 l1_0 a1_1 a2_0 l2_1 t305 t308 t324 t327) else ((laws_eqPlaces.f kj32 t324 t327 t305 t308).bind fun t345 => (if t345 = true then (laws_FnExactSail.j1 kj32 t309 (t328 != t309) a0_0 a0_1 a0_2 l1_0 a1_1 a2_0 l2_1 t305 t308 t324 t327) else (laws_FnExactSail.j1 kj32 t309 true a0_0 a0_1 a0_2 l1_0 a1_1 a2_0 l2_1 t305 t308 t324 t327)))))) else (some false)))) = some r := by rw [if_pos rfl] at H; exact H
     clear H
     have H := H1
     clear H1
     replace H := Option.bind_eq_some_iff.mp H
     obtain ⟨⟨t336, t337⟩, A1200, H⟩ := H
     replace H : ((laws_eqVoyage.f kj32 t316 t317 t336 t337).bind fun t340 => (if t340 = true then ((laws_markPlaces.f kj32 t311 t314 1).bind fun bt341 => ((laws_markVoyage.f kj32 t316 t317 bt341.1).bind fun bt343 => (if bt343.1 < 0 then (laws_FnExactSail.j1 kj32 t309 true a0_0 a0_1 a0_2 l1_0 a1_1 a2_0 l2_1 t305 t308 t324 t327) else ((laws_eqPlaces.f kj32 t324 t327 t305 t308).bind fun t345 => (if t345 = true then (laws_FnExactSail.j1 kj32 t309 (t328 != t309) a0_0 a0_1 a0_2 l1_0 a1_1 a2_0 l2_1 t305 t308 t324 t327) else (laws_FnExactSail.j1 kj32 t309 true a0_0 a0_1 a0_2 l1_0 a1_1 a2_0 l2_1 t305 t308 t324 t327)))))) else (some false))) = some r := H
     have A120 := Aside0.mk A1200
     clear A1200
     replace H := Option.bind_eq_some_iff.mp H
     obtain ⟨t340, A1210, H⟩ := H
     replace H : (if t340 = true then ((laws_markPlaces.f kj32 t311 t314 1).bind fun bt341 => ((laws_markVoyage.f kj32 t316 t317 bt341.1).bind fun bt343 => (if bt343.1 < 0 then (laws_FnExactSail.j1 kj32 t309 true a0_0 a0_1 a0_2 l1_0 a1_1 a2_0 l2_1 t305 t308 t324 t327) else ((laws_eqPlaces.f kj32 t324 t327 t305 t308).bind fun t345 => (if t345 = true then (laws_FnExactSail.j1 kj32 t309 (t328 != t309) a0_0 a0_1 a0_2 l1_0 a1_1 a2_0 l2_1 t305 t308 t324 t327) else (laws_FnExactSail.j1 kj32 t309 true a0_0 a0_1 a0_2 l1_0 a1_1 a2_0 l2_1 t305 t308 t324 t327)))))) else (some false)) = some r := H
     have A121 := Aside0.mk A1210
     clear A1210
     by_cases c122 : t340 = true
     ·subst c122
      have H1 : ((laws_markPlaces.f kj32 t311 t314 1).bind fun bt341 => ((laws_markVoyage.f kj32 t316 t317 bt341.1).bind fun bt343 => (if bt343.1 < 0 then (laws_FnExactSail.j1 kj32 t309 true a0_0 a0_1 a0_2 l1_0 a1_1 a2_0 l2_1 t305 t308 t324 t327) else ((laws_eqPlaces.f kj32 t324 t327 t305 t308).bind fun t345 => (if t345 = true then (laws_FnExactSail.j1 kj32 t309 (t328 != t309) a0_0 a0_1 a0_2 l1_0 a1_1 a2_0 l2_1 t305 t308 t324 t327) else (laws_FnExactSail.j1 kj32 t309 true a0_0 a0_1 a0_2 l1_0 a1_1 a2_0 l2_1 t305 t308 t324 t327)))))) = some r := by rw [if_pos rfl] at H; exact H
      clear H
      have H := H1
      clear H1
      replace H := Option.bind_eq_some_iff.mp H
      obtain ⟨⟨t341, t342⟩, A1230, H⟩ := H
      replace H : ((laws_markVoyage.f kj32 t316 t317 t341).bind fun bt343 => (if bt343.1 < 0 then (laws_FnExactSail.j1 kj32 t309 true a0_0 a0_1 a0_2 l1_0 a1_1 a2_0 l2_1 t305 t308 t324 t327) else ((laws_eqPlaces.f kj32 t324 t327 t305 t308).bind fun t345 => (if t345 = true then (laws_FnExactSail.j1 kj32 t309 (t328 != t309) a0_0 a0_1 a0_2 l1_0 a1_1 a2_0 l2_1 t305 t308 t324 t327) else (laws_FnExactSail.j1 kj32 t309 true a0_0 a0_1 a0_2 l1_0 a1_1 a2_0 l2_1 t305 t308 t324 t327))))) = some r := H
      have A123 := Aside0.mk A1230
      clear A1230
      replace H := Option.bind_eq_some_iff.mp H
      obtain ⟨⟨t343, t344⟩, A1240, H⟩ := H
      replace H : (if t343 < 0 then (laws_FnExactSail.j1 kj32 t309 true a0_0 a0_1 a0_2 l1_0 a1_1 a2_0 l2_1 t305 t308 t324 t327) else ((laws_eqPlaces.f kj32 t324 t327 t305 t308).bind fun t345 => (if t345 = true then (laws_FnExactSail.j1 kj32 t309 (t328 != t309) a0_0 a0_1 a0_2 l1_0 a1_1 a2_0 l2_1 t305 t308 t324 t327) else (laws_FnExactSail.j1 kj32 t309 true a0_0 a0_1 a0_2 l1_0 a1_1 a2_0 l2_1 t305 t308 t324 t327)))) = some r := H
      have A124 := Aside0.mk A1240
      clear A1240
      have HC125 := Aside0.mk H
      clear H
      try go_wp2
      have n0_ := Aside0.mk (Kd.R_drew HO_311000.out)
      have n1_ := Aside0.mk (Kd.R_drew HO_316000.out)
      have n2_ := Aside0.mk (Kd.R_drew HO_321001.out)
      have n3_ := Aside0.mk (Kd.R_drew HO_330000.out)
      have n4_ := Aside0.mk (blk_drew BK289.out)
      have n5_ := Aside0.mk (blk_drew BK290.out)
      have n6_ := Aside0.mk (blk_drew BK291.out)
      have n7_ := Aside0.mk (blk_drew BK310.out)
      have n8_ := Aside0.mk (blk_drew BK315.out)
      have n9_ := Aside0.mk (blk_drew BK320.out)
      have n10_ := Aside0.mk (blk_drew BK329.out)
      have n11_ := Aside0.mk (below_drew1 HB.out)
      clear HO_311000
      clear HO_316000
      clear HO_321001
      clear HO_330000
      clear BK289
      clear BK290
      clear BK291
      clear BK310
      clear BK315
      clear BK320
      clear BK329
      clear HB
      have HO_311000 := n0_
      have HO_316000 := n1_
      have HO_321001 := n2_
      have HO_330000 := n3_
      have BK289 := n4_
      have BK290 := n5_
      have BK291 := n6_
      have BK310 := n7_
      have BK315 := n8_
      have BK320 := n9_
      have BK329 := n10_
      have HB := n11_
      clear n0_ n1_ n2_ n3_ n4_ n5_ n6_ n7_ n8_ n9_ n10_ n11_
      refine start_ (n := 5) (S := fun w' => w'.cell? ⟨gb315, 0, none⟩ = some (.slice Ao60 t311.length co60) ∧ w'.cell? ⟨gb315, 1, none⟩ = some (.int .i64 t314) ∧ w'.cell? ⟨gb290, 0, none⟩ = some (.slice A1_0 l1_0.length c1_0) ∧ w'.cell? ⟨gb290, 1, none⟩ = some (.int .i64 a1_1)) (ds := []) #[false, false, false, false, false] (by kernel_rfl) rfl rfl ⟨(blk_cell BK315.out 0).trans rfl, (blk_cell BK315.out 1).trans rfl, (blk_cell BK290.out 0).trans rfl, (blk_cell BK290.out 1).trans rfl⟩ (fun hHeld => ?_)
      generalize wc.drew = w126 at HO_311000 HO_316000 HO_321001 HO_330000 BK289 BK290 BK291 BK310 BK315 BK320 BK329 HB hHeld ⊢
      refine take_ (i := 0) (N := some 60) (v := ?_) (a' := ?_) #[true, false, false, false, false] rfl rfl (by kernel_rfl) (fun _ _ _ h => h) (Or.inl ⟨by rfl, ?_⟩) hHeld ?_ ?_
      rotate_left
      ·rintro w' ⟨s0, s1, s2, s3⟩
       go_simp
       with_reducible rfl
      rotate_left
      ·exact X.Pu
      refine take_ (i := 1) (N := some 61) (v := ?_) (a' := ?_) #[true, true, false, false, false] rfl rfl (by kernel_rfl) (fun _ _ _ h => h) (Or.inl ⟨by rfl, ?_⟩) hHeld ?_ ?_
      rotate_left
      ·rintro w' ⟨s0, s1, s2, s3⟩
       go_simp
       with_reducible rfl
      rotate_left
      ·exact X.Pu
      refine one_ (i := 2) (N := some 62) #[true, true, true, false, false] rfl rfl (by kernel_rfl) (by decide) (fun K hK => ?_)
      refine goes_ Try.func8 (by kernel_rfl) rfl #[.agg #[.slice A1_0 l1_0.length c1_0, .int .i64 a1_1]] (by rfl) rfl rfl X.M ?_
      with_reducible refine (laws_toPlaces.calls kj32 _ _ l1_0 a1_1 t331 t334 _ ?side1 ?side2 A117.out).mono ?_
      (case side1 => exact X.C (Kd.C_below HR1_0.out HB.out))
      (case side2 => exact HC1_0.out)
      rintro e w127 ⟨v332, rfl, ho0, hb⟩
      refine ⟨_, rfl, ?_⟩
      have n0_ := Aside0.mk (Kd.R_elder' (X.K HO_311000) (Kd.R_base ho0) hb)
      have n1_ := Aside0.mk (Kd.R_elder' (X.K HO_316000) (Kd.R_base ho0) hb)
      have n2_ := Aside0.mk (Kd.R_elder' (X.K HO_321001) (Kd.R_base ho0) hb)
      have n3_ := Aside0.mk (Kd.R_elder' (X.K HO_330000) (Kd.R_base ho0) hb)
      have n4_ := Aside0.mk (Kd.R_lower (Kd.R_new' (Kd.R_new' (Kd.R_new' (Kd.R_new' ho0 (Kd.R_lt (X.K HO_311000))) (Kd.R_lt (X.K HO_316000))) (Kd.R_lt (X.K HO_321001))) (Kd.R_lt (X.K HO_330000))) (below_size X.G))
      have n5_ := Aside0.mk (X.BB BK289 hb)
      have n6_ := Aside0.mk (X.BB BK290 hb)
      have n7_ := Aside0.mk (X.BB BK291 hb)
      have n8_ := Aside0.mk (X.BB BK310 hb)
      have n9_ := Aside0.mk (X.BB BK315 hb)
      have n10_ := Aside0.mk (X.BB BK320 hb)
      have n11_ := Aside0.mk (X.BB BK329 hb)
      have n12_ := Aside0.mk (below_step X.G hb)
      clear HO_311000
      clear HO_316000
      clear HO_321001
      clear HO_330000
      clear BK289
      clear BK290
      clear BK291
      clear BK310
      clear BK315
      clear BK320
      clear BK329
      clear HB
      have HO_311000 := n0_
      have HO_316000 := n1_
      have HO_321001 := n2_
      have HO_330000 := n3_
      have HO333 := n4_
      have BK289 := n5_
      have BK290 := n6_
      have BK291 := n7_
      have BK310 := n8_
      have BK315 := n9_
      have BK320 := n10_
      have BK329 := n11_
      have HB := n12_
      clear n0_ n1_ n2_ n3_ n4_ n5_ n6_ n7_ n8_ n9_ n10_ n11_ n12_
      (try clear hb)
      (try clear hb2)
      (try clear hk)
      (try clear hi)
      (try clear ho0)
      obtain ⟨Ao128, co128, eo128⟩ := Kd.R_slice HO333.out
      (first | subst eo128 | (injection eo128 with f1_ f2_ f3_; have f4_ := f1_.symm; have f5_ := f3_.symm; clear f1_ f2_ f3_; subst f4_; subst f5_))
      refine hK.out _ _ ⟨(blk_cell BK315.out 0).trans rfl, (blk_cell BK315.out 1).trans rfl, (blk_cell BK290.out 0).trans rfl, (blk_cell BK290.out 1).trans rfl⟩ (fun hHeld => ?_)
      clear hK K
      refine norm_ (a' := ?_) ?_ ?_
      rotate_left
      ·show Act.put _ (some 62) _ = _
       simp only [Act.put, List.setIfInBounds_toArray, List.set_cons_zero, List.set_cons_succ, i64_w, i32_w]
       rfl
      refine one_ (i := 3) (N := some 63) #[true, true, true, true, false] rfl rfl (by kernel_rfl) (by decide) (fun K hK => ?_)
      refine goes_ Try.func11 (by kernel_rfl) rfl #[.agg #[.slice Ao60 t311.length co60, .int .i64 t314], .agg #[.slice Ao128 t331.length co128, .int .i64 t334]] (by rfl) rfl rfl X.M ?_
      with_reducible refine (laws_eqPlaces.calls kj32 _ _ t311 t314 _ _ t331 t334 true _ ?side1 ?side2 ?side3 ?side4 A118.out).mono ?_
      (case side1 => exact X.C (Kd.R_reads' HO_316000.out).2.2)
      (case side2 => exact (Kd.R_reads' HO_316000.out).2.1)
      (case side3 => exact X.C (Kd.R_reads' HO333.out).2.2)
      (case side4 => exact (Kd.R_reads' HO333.out).2.1)
      rintro e w129 ⟨rfl, hb⟩
      refine ⟨_, rfl, ?_⟩
      have n0_ := Aside0.mk (Kd.R_below (X.K HO_311000) hb)
      have n1_ := Aside0.mk (Kd.R_below (X.K HO_316000) hb)
      have n2_ := Aside0.mk (Kd.R_below (X.K HO_321001) hb)
      have n3_ := Aside0.mk (Kd.R_below (X.K HO_330000) hb)
      have n4_ := Aside0.mk (Kd.R_below (X.K HO333) hb)
      have n5_ := Aside0.mk (X.BB BK289 hb)
      have n6_ := Aside0.mk (X.BB BK290 hb)
      have n7_ := Aside0.mk (X.BB BK291 hb)
      have n8_ := Aside0.mk (X.BB BK310 hb)
      have n9_ := Aside0.mk (X.BB BK315 hb)
      have n10_ := Aside0.mk (X.BB BK320 hb)
      have n11_ := Aside0.mk (X.BB BK329 hb)
      have n12_ := Aside0.mk (below_step X.G hb)
      clear HO_311000
      clear HO_316000
      clear HO_321001
      clear HO_330000
      clear HO333
      clear BK289
      clear BK290
      clear BK291
      clear BK310
      clear BK315
      clear BK320
      clear BK329
      clear HB
      have HO_311000 := n0_
      have HO_316000 := n1_
      have HO_321001 := n2_
      have HO_330000 := n3_
      have HO333 := n4_
      have BK289 := n5_
      have BK290 := n6_
      have BK291 := n7_
      have BK310 := n8_
      have BK315 := n9_
      have BK320 := n10_
      have BK329 := n11_
      have HB := n12_
      clear n0_ n1_ n2_ n3_ n4_ n5_ n6_ n7_ n8_ n9_ n10_ n11_ n12_
      (try clear hb)
      (try clear hb2)
      (try clear hk)
      (try clear hi)
      refine hK.out _ _ ⟨(blk_cell BK315.out 0).trans rfl, (blk_cell BK315.out 1).trans rfl, (blk_cell BK290.out 0).trans rfl, (blk_cell BK290.out 1).trans rfl⟩ (fun hHeld => ?_)
      clear hK K
      refine norm_ (a' := ?_) ?_ ?_
      rotate_left
      ·show Act.put _ (some 63) _ = _
       simp only [Act.put, List.setIfInBounds_toArray, List.set_cons_zero, List.set_cons_succ, i64_w, i32_w]
       rfl
      refine pure_ (i := 4) (N := some 64) (v := ?_) (a' := ?_) #[true, true, true, true, true] rfl rfl (by kernel_rfl) (fun _ _ _ h => h) (Or.inl ⟨by rfl, ?_⟩) ?_ ?_
      rotate_left
      ·intro w'
       go_simp
       with_reducible rfl
      rotate_left
      ·exact X.Pu
      refine done_ (by kernel_rfl) ?_
      try go_wp2
      have n0_ := Aside0.mk (Kd.R_drew HO_311000.out)
      have n1_ := Aside0.mk (Kd.R_drew HO_316000.out)
      have n2_ := Aside0.mk (Kd.R_drew HO_321001.out)
      have n3_ := Aside0.mk (Kd.R_drew HO_330000.out)
      have n4_ := Aside0.mk (Kd.R_drew HO333.out)
      have n5_ := Aside0.mk (blk_drew BK289.out)
      have n6_ := Aside0.mk (blk_drew BK290.out)
      have n7_ := Aside0.mk (blk_drew BK291.out)
      have n8_ := Aside0.mk (blk_drew BK310.out)
      have n9_ := Aside0.mk (blk_drew BK315.out)
      have n10_ := Aside0.mk (blk_drew BK320.out)
      have n11_ := Aside0.mk (blk_drew BK329.out)
      have n12_ := Aside0.mk (below_drew1 HB.out)
      clear HO_311000
      clear HO_316000
      clear HO_321001
      clear HO_330000
      clear HO333
      clear BK289
      clear BK290
      clear BK291
      clear BK310
      clear BK315
      clear BK320
      clear BK329
      clear HB
      have HO_311000 := n0_
      have HO_316000 := n1_
      have HO_321001 := n2_
      have HO_330000 := n3_
      have HO333 := n4_
      have BK289 := n5_
      have BK290 := n6_
      have BK291 := n7_
      have BK310 := n8_
      have BK315 := n9_
      have BK320 := n10_
      have BK329 := n11_
      have HB := n12_
      clear n0_ n1_ n2_ n3_ n4_ n5_ n6_ n7_ n8_ n9_ n10_ n11_ n12_
      refine start_ (n := 5) (S := fun w' => w'.cell? ⟨gb320, 0, none⟩ = some (.int .i64 t316) ∧ w'.cell? ⟨gb320, 1, none⟩ = some (.slice Ao76 t317.length co76) ∧ w'.cell? ⟨gb291, 0, none⟩ = some (.int .i64 a2_0) ∧ w'.cell? ⟨gb291, 1, none⟩ = some (.slice A2_1 l2_1.length c2_1)) (ds := []) #[false, false, false, false, false] (by kernel_rfl) rfl rfl ⟨(blk_cell BK320.out 0).trans rfl, (blk_cell BK320.out 1).trans rfl, (blk_cell BK291.out 0).trans rfl, (blk_cell BK291.out 1).trans rfl⟩ (fun hHeld => ?_)
      generalize w129.drew = w130 at HO_311000 HO_316000 HO_321001 HO_330000 HO333 BK289 BK290 BK291 BK310 BK315 BK320 BK329 HB hHeld ⊢
      refine take_ (i := 0) (N := some 65) (v := ?_) (a' := ?_) #[true, false, false, false, false] rfl rfl (by kernel_rfl) (fun _ _ _ h => h) (Or.inl ⟨by rfl, ?_⟩) hHeld ?_ ?_
      rotate_left
      ·rintro w' ⟨s0, s1, s2, s3⟩
       go_simp
       with_reducible rfl
      rotate_left
      ·exact X.Pu
      refine take_ (i := 1) (N := some 66) (v := ?_) (a' := ?_) #[true, true, false, false, false] rfl rfl (by kernel_rfl) (fun _ _ _ h => h) (Or.inl ⟨by rfl, ?_⟩) hHeld ?_ ?_
      rotate_left
      ·rintro w' ⟨s0, s1, s2, s3⟩
       go_simp
       with_reducible rfl
      rotate_left
      ·exact X.Pu
      refine one_ (i := 2) (N := some 67) #[true, true, true, false, false] rfl rfl (by kernel_rfl) (by decide) (fun K hK => ?_)
      refine goes_ Try.func9 (by kernel_rfl) rfl #[.agg #[.int .i64 a2_0, .slice A2_1 l2_1.length c2_1]] (by rfl) rfl rfl X.M ?_
      with_reducible refine (laws_toVoyage.calls kj32 a2_0 _ _ l2_1 t336 t337 _ ?side1 ?side2 A120.out).mono ?_
      (case side1 => exact X.C (Kd.C_below HR2_1.out HB.out))
      (case side2 => exact HC2_1.out)
      rintro e w131 ⟨v338, rfl, ho0, hb⟩
      refine ⟨_, rfl, ?_⟩
      have n0_ := Aside0.mk (Kd.R_elder' (X.K HO_311000) (Kd.R_base ho0) hb)
      have n1_ := Aside0.mk (Kd.R_elder' (X.K HO_316000) (Kd.R_base ho0) hb)
      have n2_ := Aside0.mk (Kd.R_elder' (X.K HO_321001) (Kd.R_base ho0) hb)
      have n3_ := Aside0.mk (Kd.R_elder' (X.K HO_330000) (Kd.R_base ho0) hb)
      have n4_ := Aside0.mk (Kd.R_elder' (X.K HO333) (Kd.R_base ho0) hb)
      have n5_ := Aside0.mk (Kd.R_lower (Kd.R_new' (Kd.R_new' (Kd.R_new' (Kd.R_new' (Kd.R_new' ho0 (Kd.R_lt (X.K HO_311000))) (Kd.R_lt (X.K HO_316000))) (Kd.R_lt (X.K HO_321001))) (Kd.R_lt (X.K HO_330000))) (Kd.R_lt (X.K HO333))) (below_size X.G))
      have n6_ := Aside0.mk (X.BB BK289 hb)
      have n7_ := Aside0.mk (X.BB BK290 hb)
      have n8_ := Aside0.mk (X.BB BK291 hb)
      have n9_ := Aside0.mk (X.BB BK310 hb)
      have n10_ := Aside0.mk (X.BB BK315 hb)
      have n11_ := Aside0.mk (X.BB BK320 hb)
      have n12_ := Aside0.mk (X.BB BK329 hb)
      have n13_ := Aside0.mk (below_step X.G hb)
      clear HO_311000
      clear HO_316000
      clear HO_321001
      clear HO_330000
      clear HO333
      clear BK289
      clear BK290
      clear BK291
      clear BK310
      clear BK315
      clear BK320
      clear BK329
      clear HB
      have HO_311000 := n0_
      have HO_316000 := n1_
      have HO_321001 := n2_
      have HO_330000 := n3_
      have HO333 := n4_
      have HO339 := n5_
      have BK289 := n6_
      have BK290 := n7_
      have BK291 := n8_
      have BK310 := n9_
      have BK315 := n10_
      have BK320 := n11_
      have BK329 := n12_
      have HB := n13_
      clear n0_ n1_ n2_ n3_ n4_ n5_ n6_ n7_ n8_ n9_ n10_ n11_ n12_ n13_
      (try clear hb)
      (try clear hb2)
      (try clear hk)
      (try clear hi)
      (try clear ho0)
      obtain ⟨Ao132, co132, eo132⟩ := Kd.R_slice HO339.out
      (first | subst eo132 | (injection eo132 with f1_ f2_ f3_; have f4_ := f1_.symm; have f5_ := f3_.symm; clear f1_ f2_ f3_; subst f4_; subst f5_))
      refine hK.out _ _ ⟨(blk_cell BK320.out 0).trans rfl, (blk_cell BK320.out 1).trans rfl, (blk_cell BK291.out 0).trans rfl, (blk_cell BK291.out 1).trans rfl⟩ (fun hHeld => ?_)
      clear hK K
      refine norm_ (a' := ?_) ?_ ?_
      rotate_left
      ·show Act.put _ (some 67) _ = _
       simp only [Act.put, List.setIfInBounds_toArray, List.set_cons_zero, List.set_cons_succ, i64_w, i32_w]
       rfl
      refine one_ (i := 3) (N := some 68) #[true, true, true, true, false] rfl rfl (by kernel_rfl) (by decide) (fun K hK => ?_)
      refine goes_ Try.func12 (by kernel_rfl) rfl #[.agg #[.int .i64 t316, .slice Ao76 t317.length co76], .agg #[.int .i64 t336, .slice Ao132 t337.length co132]] (by rfl) rfl rfl X.M ?_
      with_reducible refine (laws_eqVoyage.calls kj32 t316 _ _ t317 t336 _ _ t337 true _ ?side1 ?side2 ?side3 ?side4 A121.out).mono ?_
      (case side1 => exact X.C (Kd.R_reads' HO_321001.out).2.2)
      (case side2 => exact (Kd.R_reads' HO_321001.out).2.1)
      (case side3 => exact X.C (Kd.R_reads' HO339.out).2.2)
      (case side4 => exact (Kd.R_reads' HO339.out).2.1)
      rintro e w133 ⟨rfl, hb⟩
      refine ⟨_, rfl, ?_⟩
      have n0_ := Aside0.mk (Kd.R_below (X.K HO_311000) hb)
      have n1_ := Aside0.mk (Kd.R_below (X.K HO_316000) hb)
      have n2_ := Aside0.mk (Kd.R_below (X.K HO_321001) hb)
      have n3_ := Aside0.mk (Kd.R_below (X.K HO_330000) hb)
      have n4_ := Aside0.mk (Kd.R_below (X.K HO333) hb)
      have n5_ := Aside0.mk (Kd.R_below (X.K HO339) hb)
      have n6_ := Aside0.mk (X.BB BK289 hb)
      have n7_ := Aside0.mk (X.BB BK290 hb)
      have n8_ := Aside0.mk (X.BB BK291 hb)
      have n9_ := Aside0.mk (X.BB BK310 hb)
      have n10_ := Aside0.mk (X.BB BK315 hb)
      have n11_ := Aside0.mk (X.BB BK320 hb)
      have n12_ := Aside0.mk (X.BB BK329 hb)
      have n13_ := Aside0.mk (below_step X.G hb)
      clear HO_311000
      clear HO_316000
      clear HO_321001
      clear HO_330000
      clear HO333
      clear HO339
      clear BK289
      clear BK290
      clear BK291
      clear BK310
      clear BK315
      clear BK320
      clear BK329
      clear HB
      have HO_311000 := n0_
      have HO_316000 := n1_
      have HO_321001 := n2_
      have HO_330000 := n3_
      have HO333 := n4_
      have HO339 := n5_
      have BK289 := n6_
      have BK290 := n7_
      have BK291 := n8_
      have BK310 := n9_
      have BK315 := n10_
      have BK320 := n11_
      have BK329 := n12_
      have HB := n13_
      clear n0_ n1_ n2_ n3_ n4_ n5_ n6_ n7_ n8_ n9_ n10_ n11_ n12_ n13_
      (try clear hb)
      (try clear hb2)
      (try clear hk)
      (try clear hi)
      refine hK.out _ _ ⟨(blk_cell BK320.out 0).trans rfl, (blk_cell BK320.out 1).trans rfl, (blk_cell BK291.out 0).trans rfl, (blk_cell BK291.out 1).trans rfl⟩ (fun hHeld => ?_)
      clear hK K
      refine norm_ (a' := ?_) ?_ ?_
      rotate_left
      ·show Act.put _ (some 68) _ = _
       simp only [Act.put, List.setIfInBounds_toArray, List.set_cons_zero, List.set_cons_succ, i64_w, i32_w]
       rfl
      refine pure_ (i := 4) (N := some 69) (v := ?_) (a' := ?_) #[true, true, true, true, true] rfl rfl (by kernel_rfl) (fun _ _ _ h => h) (Or.inl ⟨by rfl, ?_⟩) ?_ ?_
      rotate_left
      ·intro w'
       go_simp
       with_reducible rfl
      rotate_left
      ·exact X.Pu
      refine done_ (by kernel_rfl) ?_
      have hnb134 := NB315_289.out
      have hnc134 := NB289_315.out
      have hnb135 := NB315_290.out
      have hnc135 := NB290_315.out
      have hnb136 := NB315_291.out
      have hnc136 := NB291_315.out
      have hnb137 := NB315_310.out
      have hnc137 := NB310_315.out
      have hnb138 := NB315_320.out
      have hnc138 := NB320_315.out
      have hnb139 := NB315_329.out
      have hnc139 := NB329_315.out
      have hcz140_0 : w133.cell? ⟨gb315, 0, none⟩ = some (.slice Ao60 t311.length co60) := (blk_cell BK315.out 0).trans rfl
      have hcz140_1 : w133.cell? ⟨gb315, 1, none⟩ = some (.int .i64 t314) := (blk_cell BK315.out 1).trans rfl
      have hfz140_0 := blk_frozen BK315.out 0
      have hfz140_1 := blk_frozen BK315.out 1
      go_upto_region 21 with (first | ((with_reducible refine gate_callee (f := 13) rfl ?_); refine goesL_ (some 72) rfl rfl Try.func13 (by kernel_rfl) rfl #[.agg #[.slice Ao60 t311.length co60, .int .i64 t314], .int .i64 1] rfl X.M ?_; (with_reducible refine (laws_markPlaces.calls kj32 (fun k_ => some k_ = (.slice Ao60 t311.length co60 : Value).ownBlock) (.slice Ao60 t311.length co60) t311 t314 1 t341 t342 w _ ?side1 ?side2 A123.out).mono ?_); (case side1 => repeat (first | (with_reducible first | exact HB.out | apply below_alloc | apply pw_below_drewN | apply below_drew1 | refine below_set ?_ GE289.out | refine below_set ?_ GE290.out | refine below_set ?_ GE291.out | refine below_set ?_ GE310.out | refine below_set ?_ GE315.out | refine below_set ?_ GE320.out | refine below_set ?_ GE329.out) | exact HB.out)); (case side2 => exact Kd.R_tight rfl HO_316000.out); rintro e w141 ⟨rfl, hy0, hb, hkp⟩; refine ⟨_, rfl, ?_⟩; have n0_ := Aside0.mk (Kd.R_mono (ok' := fun k_ => some k_ ≠ (.slice Ao60 t311.length co60 : Value).ownBlock ∧ some k_ ≠ (.slice Ao76 t317.length co76 : Value).ownBlock ∧ some k_ ≠ (.slice Ao83 t324.length co83 : Value).ownBlock ∧ some k_ ≠ (.slice Ao128 t331.length co128 : Value).ownBlock ∧ some k_ ≠ (.slice Ao132 t337.length co132 : Value).ownBlock) (Kd.R_keptB (HO_311000.out) hkp (fun k_ hk_ hs_ => (hk_.1.1.1) hs_)) (fun k_ hk_ => ⟨hk_.1.1.1.1, hk_.1.1.1.2.1, hk_.1.1.1.2.2, hk_.1.1.2, hk_.1.2⟩)); have n1_ := Aside0.mk (Kd.R_reok rfl hy0 (fun k_ e_ => HO_316000.out.1 k_ e_)); have n2_ := Aside0.mk (Kd.R_mono (ok' := fun k_ => some k_ ≠ (.slice Ao53 t305.length co53 : Value).ownBlock ∧ some k_ ≠ (.slice Ao60 t311.length co60 : Value).ownBlock ∧ some k_ ≠ (.slice Ao83 t324.length co83 : Value).ownBlock ∧ some k_ ≠ (.slice Ao128 t331.length co128 : Value).ownBlock ∧ some k_ ≠ (.slice Ao132 t337.length co132 : Value).ownBlock) (Kd.R_keptB (HO_321001.out) hkp (fun k_ hk_ hs_ => (hk_.1.1.2.1) hs_)) (fun k_ hk_ => ⟨hk_.1.1.1.1, hk_.1.1.1.2.1, hk_.1.1.1.2.2, hk_.1.1.2, hk_.1.2⟩)); have n3_ := Aside0.mk (Kd.R_mono (ok' := fun k_ => some k_ ≠ (.slice Ao53 t305.length co53 : Value).ownBlock ∧ some k_ ≠ (.slice Ao60 t311.length co60 : Value).ownBlock ∧ some k_ ≠ (.slice Ao76 t317.length co76 : Value).ownBlock ∧ some k_ ≠ (.slice Ao128 t331.length co128 : Value).ownBlock ∧ some k_ ≠ (.slice Ao132 t337.length co132 : Value).ownBlock) (Kd.R_keptB (HO_330000.out) hkp (fun k_ hk_ hs_ => (hk_.1.1.2.1) hs_)) (fun k_ hk_ => ⟨hk_.1.1.1.1, hk_.1.1.1.2.1, hk_.1.1.1.2.2, hk_.1.1.2, hk_.1.2⟩)); have n4_ := Aside0.mk (blk_kept (X.B BK289) hkp (fun hs_ => (fun e_ => (Kd.R_ne HO_316000.out BK289.out (by decide)) e_) hs_)); have n5_ := Aside0.mk (blk_kept (X.B BK290) hkp (fun hs_ => (fun e_ => (Kd.R_ne HO_316000.out BK290.out (by decide)) e_) hs_)); have n6_ := Aside0.mk (blk_kept (X.B BK291) hkp (fun hs_ => (fun e_ => (Kd.R_ne HO_316000.out BK291.out (by decide)) e_) hs_)); have n7_ := Aside0.mk (blk_kept (X.B BK310) hkp (fun hs_ => (fun e_ => (Kd.R_ne HO_316000.out BK310.out (by decide)) e_) hs_)); have n8_ := Aside0.mk (blk_kept (X.B BK315) hkp (fun hs_ => (fun e_ => (Kd.R_ne HO_316000.out BK315.out (by decide)) e_) hs_)); have n9_ := Aside0.mk (blk_kept (X.B BK320) hkp (fun hs_ => (fun e_ => (Kd.R_ne HO_316000.out BK320.out (by decide)) e_) hs_)); have n10_ := Aside0.mk (blk_kept (X.B BK329) hkp (fun hs_ => (fun e_ => (Kd.R_ne HO_316000.out BK329.out (by decide)) e_) hs_)); have n11_ := Aside0.mk (Kd.R_mono (ok' := fun k_ => some k_ ≠ (.slice Ao53 t305.length co53 : Value).ownBlock ∧ some k_ ≠ (.slice Ao60 t311.length co60 : Value).ownBlock ∧ some k_ ≠ (.slice Ao76 t317.length co76 : Value).ownBlock ∧ some k_ ≠ (.slice Ao83 t324.length co83 : Value).ownBlock ∧ some k_ ≠ (.slice Ao132 t337.length co132 : Value).ownBlock) (Kd.R_keptB (HO333.out) hkp (fun k_ hk_ hs_ => (hk_.1.1.1.2) hs_)) (fun k_ hk_ => ⟨hk_.1.1.1.1.1.2, hk_.1.1.1.1.2, hk_.1.1.1.2, hk_.1.1.2, hk_.1.2⟩)); have n12_ := Aside0.mk (Kd.R_mono (ok' := fun k_ => some k_ ≠ (.slice Ao53 t305.length co53 : Value).ownBlock ∧ some k_ ≠ (.slice Ao60 t311.length co60 : Value).ownBlock ∧ some k_ ≠ (.slice Ao76 t317.length co76 : Value).ownBlock ∧ some k_ ≠ (.slice Ao83 t324.length co83 : Value).ownBlock ∧ some k_ ≠ (.slice Ao128 t331.length co128 : Value).ownBlock) (Kd.R_keptB (HO339.out) hkp (fun k_ hk_ hs_ => (hk_.1.1.1.2) hs_)) (fun k_ hk_ => ⟨hk_.1.1.1.1.1.2, hk_.1.1.1.1.2, hk_.1.1.1.2, hk_.1.1.2, hk_.1.2⟩)); have n13_ := Aside0.mk (hb); clear HO_311000; clear HO_316000; clear HO_321001; clear HO_330000; clear BK289; clear BK290; clear BK291; clear BK310; clear BK315; clear BK320; clear BK329; clear HO333; clear HO339; clear HB; have HO_311000 := n0_; have HO_316000 := n1_; have HO_321001 := n2_; have HO_330000 := n3_; have BK289 := n4_; have BK290 := n5_; have BK291 := n6_; have BK310 := n7_; have BK315 := n8_; have BK320 := n9_; have BK329 := n10_; have HO333 := n11_; have HO339 := n12_; have HB := n13_; clear n0_ n1_ n2_ n3_ n4_ n5_ n6_ n7_ n8_ n9_ n10_ n11_ n12_ n13_; (try clear hb); (try clear hkp); (try clear hy0); have hnb142 := NB320_289.out; have hnc142 := NB289_320.out; have hnb143 := NB320_290.out; have hnc143 := NB290_320.out; have hnb144 := NB320_291.out; have hnc144 := NB291_320.out; have hnb145 := NB320_310.out; have hnc145 := NB310_320.out; have hnb146 := NB320_329.out; have hnc146 := NB329_320.out; have hcz147_0 : w141.cell? ⟨gb320, 0, none⟩ = some (.int .i64 t316) := (blk_cell BK320.out 0).trans rfl; have hcz147_1 : w141.cell? ⟨gb320, 1, none⟩ = some (.slice Ao76 t317.length co76) := (blk_cell BK320.out 1).trans rfl; have hfz147_0 := blk_frozen BK320.out 0; have hfz147_1 := blk_frozen BK320.out 1) | ((with_reducible refine gate_callee (f := 14) rfl ?_); refine goesL_ (some 75) rfl rfl Try.func14 (by kernel_rfl) rfl #[.agg #[.int .i64 t316, .slice Ao76 t317.length co76], .int .i64 t341] rfl X.M ?_; (with_reducible refine (laws_markVoyage.calls kj32 t316 (fun k_ => some k_ = (.slice Ao76 t317.length co76 : Value).ownBlock) (.slice Ao76 t317.length co76) t317 t341 t343 t344 w _ ?side1 ?side2 A124.out).mono ?_); (case side1 => repeat (first | (with_reducible first | exact HB.out | apply below_alloc | apply pw_below_drewN | apply below_drew1 | refine below_set ?_ GE289.out | refine below_set ?_ GE290.out | refine below_set ?_ GE291.out | refine below_set ?_ GE310.out | refine below_set ?_ GE315.out | refine below_set ?_ GE320.out | refine below_set ?_ GE329.out) | exact HB.out)); (case side2 => exact Kd.R_tight rfl HO_321001.out); rintro e w148 ⟨rfl, hy0, hb, hkp⟩; refine ⟨_, rfl, ?_⟩; have n0_ := Aside0.mk (Kd.R_mono (ok' := fun k_ => some k_ ≠ (.slice Ao60 t311.length co60 : Value).ownBlock ∧ some k_ ≠ (.slice Ao76 t317.length co76 : Value).ownBlock ∧ some k_ ≠ (.slice Ao83 t324.length co83 : Value).ownBlock ∧ some k_ ≠ (.slice Ao128 t331.length co128 : Value).ownBlock ∧ some k_ ≠ (.slice Ao132 t337.length co132 : Value).ownBlock) (Kd.R_keptB (HO_311000.out) hkp (fun k_ hk_ hs_ => (hk_.2.1) hs_)) (fun k_ hk_ => ⟨hk_.1.1, hk_.1.2.1, hk_.1.2.2.1, hk_.1.2.2.2.1, hk_.1.2.2.2.2⟩)); have n1_ := Aside0.mk (Kd.R_mono (ok' := fun k_ => some k_ ≠ (.slice Ao53 t305.length co53 : Value).ownBlock ∧ some k_ ≠ (.slice Ao76 t317.length co76 : Value).ownBlock ∧ some k_ ≠ (.slice Ao83 t324.length co83 : Value).ownBlock ∧ some k_ ≠ (.slice Ao128 t331.length co128 : Value).ownBlock ∧ some k_ ≠ (.slice Ao132 t337.length co132 : Value).ownBlock) (Kd.R_keptB (HO_316000.out) hkp (fun k_ hk_ hs_ => (hk_.1.1.2.1) hs_)) (fun k_ hk_ => ⟨hk_.1.1.1.1, hk_.1.1.1.2.1, hk_.1.1.1.2.2, hk_.1.1.2, hk_.1.2⟩)); have n2_ := Aside0.mk (Kd.R_reok rfl hy0 (fun k_ e_ => HO_321001.out.1 k_ e_)); have n3_ := Aside0.mk (Kd.R_mono (ok' := fun k_ => some k_ ≠ (.slice Ao53 t305.length co53 : Value).ownBlock ∧ some k_ ≠ (.slice Ao60 t311.length co60 : Value).ownBlock ∧ some k_ ≠ (.slice Ao76 t317.length co76 : Value).ownBlock ∧ some k_ ≠ (.slice Ao128 t331.length co128 : Value).ownBlock ∧ some k_ ≠ (.slice Ao132 t337.length co132 : Value).ownBlock) (Kd.R_keptB (HO_330000.out) hkp (fun k_ hk_ hs_ => (hk_.2.2.1) hs_)) (fun k_ hk_ => ⟨hk_.1.1, hk_.1.2.1, hk_.1.2.2.1, hk_.1.2.2.2.1, hk_.1.2.2.2.2⟩)); have n4_ := Aside0.mk (blk_kept (X.B BK289) hkp (fun hs_ => (fun e_ => (Kd.R_ne HO_321001.out BK289.out (by decide)) e_) hs_)); have n5_ := Aside0.mk (blk_kept (X.B BK290) hkp (fun hs_ => (fun e_ => (Kd.R_ne HO_321001.out BK290.out (by decide)) e_) hs_)); have n6_ := Aside0.mk (blk_kept (X.B BK291) hkp (fun hs_ => (fun e_ => (Kd.R_ne HO_321001.out BK291.out (by decide)) e_) hs_)); have n7_ := Aside0.mk (blk_kept (X.B BK310) hkp (fun hs_ => (fun e_ => (Kd.R_ne HO_321001.out BK310.out (by decide)) e_) hs_)); have n8_ := Aside0.mk (blk_kept (X.B BK315) hkp (fun hs_ => (fun e_ => (Kd.R_ne HO_321001.out BK315.out (by decide)) e_) hs_)); have n9_ := Aside0.mk (blk_kept (X.B BK320) hkp (fun hs_ => (fun e_ => (Kd.R_ne HO_321001.out BK320.out (by decide)) e_) hs_)); have n10_ := Aside0.mk (blk_kept (X.B BK329) hkp (fun hs_ => (fun e_ => (Kd.R_ne HO_321001.out BK329.out (by decide)) e_) hs_)); have n11_ := Aside0.mk (Kd.R_mono (ok' := fun k_ => some k_ ≠ (.slice Ao53 t305.length co53 : Value).ownBlock ∧ some k_ ≠ (.slice Ao60 t311.length co60 : Value).ownBlock ∧ some k_ ≠ (.slice Ao76 t317.length co76 : Value).ownBlock ∧ some k_ ≠ (.slice Ao83 t324.length co83 : Value).ownBlock ∧ some k_ ≠ (.slice Ao132 t337.length co132 : Value).ownBlock) (Kd.R_keptB (HO333.out) hkp (fun k_ hk_ hs_ => (hk_.2.2.1) hs_)) (fun k_ hk_ => ⟨hk_.1.1, hk_.1.2.1, hk_.1.2.2.1, hk_.1.2.2.2.1, hk_.1.2.2.2.2⟩)); have n12_ := Aside0.mk (Kd.R_mono (ok' := fun k_ => some k_ ≠ (.slice Ao53 t305.length co53 : Value).ownBlock ∧ some k_ ≠ (.slice Ao60 t311.length co60 : Value).ownBlock ∧ some k_ ≠ (.slice Ao76 t317.length co76 : Value).ownBlock ∧ some k_ ≠ (.slice Ao83 t324.length co83 : Value).ownBlock ∧ some k_ ≠ (.slice Ao128 t331.length co128 : Value).ownBlock) (Kd.R_keptB (HO339.out) hkp (fun k_ hk_ hs_ => (hk_.2.2.1) hs_)) (fun k_ hk_ => ⟨hk_.1.1, hk_.1.2.1, hk_.1.2.2.1, hk_.1.2.2.2.1, hk_.1.2.2.2.2⟩)); have n13_ := Aside0.mk (hb); clear HO_311000; clear HO_316000; clear HO_321001; clear HO_330000; clear BK289; clear BK290; clear BK291; clear BK310; clear BK315; clear BK320; clear BK329; clear HO333; clear HO339; clear HB; have HO_311000 := n0_; have HO_316000 := n1_; have HO_321001 := n2_; have HO_330000 := n3_; have BK289 := n4_; have BK290 := n5_; have BK291 := n6_; have BK310 := n7_; have BK315 := n8_; have BK320 := n9_; have BK329 := n10_; have HO333 := n11_; have HO339 := n12_; have HB := n13_; clear n0_ n1_ n2_ n3_ n4_ n5_ n6_ n7_ n8_ n9_ n10_ n11_ n12_ n13_; (try clear hb); (try clear hkp); (try clear hy0)))
      (try simp only [Act.put, List.setIfInBounds_toArray, List.set_cons_zero, List.set_cons_succ])
      go_cut [88] (fun v88 wc => ∃ (kq : Nat) (x88_124 : Bool), v88 = .bool x88_124 ∧ Aside0 (laws_FnExactSail.j1 kq t309 x88_124 a0_0 a0_1 a0_2 l1_0 a1_1 a2_0 l2_1 t305 t308 t324 t327 = some r) ∧ Aside0 (kq ≤ kj32) ∧ Aside0 (Kd.R (Kd.int .i64) 3 wc w.heap.size (fun k_ => some k_ ≠ ((.slice Ao60 t311.length co60) : Value).ownBlock ∧ some k_ ≠ ((.slice Ao76 t317.length co76) : Value).ownBlock ∧ some k_ ≠ ((.slice Ao83 t324.length co83) : Value).ownBlock) (.slice Ao53 t305.length co53) t305) ∧ Aside0 (Kd.R (Kd.int .i64) 3 wc w.heap.size (fun k_ => some k_ ≠ ((.slice Ao53 t305.length co53) : Value).ownBlock ∧ some k_ ≠ ((.slice Ao76 t317.length co76) : Value).ownBlock ∧ some k_ ≠ ((.slice Ao83 t324.length co83) : Value).ownBlock) (.slice Ao60 t311.length co60) t342) ∧ Aside0 (Kd.R (Kd.int .i64) 3 wc w.heap.size (fun k_ => some k_ ≠ ((.slice Ao53 t305.length co53) : Value).ownBlock ∧ some k_ ≠ ((.slice Ao60 t311.length co60) : Value).ownBlock ∧ some k_ ≠ ((.slice Ao83 t324.length co83) : Value).ownBlock) (.slice Ao76 t317.length co76) t344) ∧ Aside0 (Kd.R (Kd.int .i64) 3 wc w.heap.size (fun k_ => some k_ ≠ ((.slice Ao53 t305.length co53) : Value).ownBlock ∧ some k_ ≠ ((.slice Ao60 t311.length co60) : Value).ownBlock ∧ some k_ ≠ ((.slice Ao76 t317.length co76) : Value).ownBlock) (.slice Ao83 t324.length co83) t324) ∧ Aside0 (wc.heap[gb289]? = some (.cells #[.int .i64 a0_0, .int .i64 a0_1, .int .i64 a0_2] 23 (0, 0))) ∧ Aside0 (wc.heap[gb290]? = some (.cells #[(.slice A1_0 l1_0.length c1_0), .int .i64 a1_1] 26 (0, 0))) ∧ Aside0 (wc.heap[gb291]? = some (.cells #[.int .i64 a2_0, (.slice A2_1 l2_1.length c2_1)] 28 (0, 0))) ∧ Aside0 (wc.heap[gb310]? = some (.cells #[(.slice Ao53 t305.length co53), .int .i64 t308] 31 (0, 0))) ∧ Aside0 (wc.heap[gb315]? = some (.cells #[(.slice Ao60 t311.length co60), .int .i64 t314] 31 (0, 0))) ∧ Aside0 (wc.heap[gb320]? = some (.cells #[.int .i64 t316, (.slice Ao76 t317.length co76)] 37 (0, 0))) ∧ Aside0 (wc.heap[gb329]? = some (.cells #[(.slice Ao83 t324.length co83), .int .i64 t327] 31 (0, 0))) ∧ Aside0 (Below w.heap.size w wc))
      case first =>
       have H := HC125.out
       clear HC125
       by_cases c149 : t343 < 0
       ·rw [if_pos c149] at H
        have c149b0 : decide (t343 < 0) = true := decide_eq_true c149
        clear c149
        (first | rw [c149b0] | (simp only [i64_w, i32_w]; rw [c149b0]) | skip)
        have H' := Aside0.mk H
        clear H
        go_wp2
        go_meet
        case rel => exact ⟨_, (true), (by first | rfl | (simp; done) | (simp [*]; done)), H', ⟨by have := HJ32.out; first | omega | exact Nat.le_refl _⟩, ⟨by (with_reducible repeat (first | apply Kd.R_alloc | apply Kd.R_drewN | apply Kd.R_drew)); exact Kd.R_mono HO_311000.out (fun _ hk => ⟨hk.1, ⟨hk.2.1, hk.2.2.1⟩⟩)⟩, ⟨by (with_reducible repeat (first | apply Kd.R_alloc | apply Kd.R_drewN | apply Kd.R_drew)); exact Kd.R_mono HO_316000.out (fun _ hk => ⟨hk.1, ⟨hk.2.1, hk.2.2.1⟩⟩)⟩, ⟨by (with_reducible repeat (first | apply Kd.R_alloc | apply Kd.R_drewN | apply Kd.R_drew)); exact Kd.R_mono HO_321001.out (fun _ hk => ⟨hk.1, ⟨hk.2.1, hk.2.2.1⟩⟩)⟩, ⟨by (with_reducible repeat (first | apply Kd.R_alloc | apply Kd.R_drewN | apply Kd.R_drew)); exact Kd.R_mono HO_330000.out (fun _ hk => ⟨hk.1, ⟨hk.2.1, hk.2.2.1⟩⟩)⟩, ⟨by (with_reducible repeat (first | refine blk_drewN ?_ _ | refine blk_drew ?_ | refine blk_alloc ?_ _)); exact BK289.out⟩, ⟨by (with_reducible repeat (first | refine blk_drewN ?_ _ | refine blk_drew ?_ | refine blk_alloc ?_ _)); exact BK290.out⟩, ⟨by (with_reducible repeat (first | refine blk_drewN ?_ _ | refine blk_drew ?_ | refine blk_alloc ?_ _)); exact BK291.out⟩, ⟨by (with_reducible repeat (first | refine blk_drewN ?_ _ | refine blk_drew ?_ | refine blk_alloc ?_ _)); exact BK310.out⟩, ⟨by (with_reducible repeat (first | refine blk_drewN ?_ _ | refine blk_drew ?_ | refine blk_alloc ?_ _)); exact BK315.out⟩, ⟨by (with_reducible repeat (first | refine blk_drewN ?_ _ | refine blk_drew ?_ | refine blk_alloc ?_ _)); exact BK320.out⟩, ⟨by (with_reducible repeat (first | refine blk_drewN ?_ _ | refine blk_drew ?_ | refine blk_alloc ?_ _)); exact BK329.out⟩, ⟨X.G⟩⟩
       ·rw [if_neg c149] at H
        have c149b0 : decide (t343 < 0) = false := decide_eq_false c149
        clear c149
        (first | rw [c149b0] | (simp only [i64_w, i32_w]; rw [c149b0]) | skip)
        replace H := Option.bind_eq_some_iff.mp H
        obtain ⟨t345, A1500, H⟩ := H
        replace H : (if t345 = true then (laws_FnExactSail.j1 kj32 t309 (t328 != t309) a0_0 a0_1 a0_2 l1_0 a1_1 a2_0 l2_1 t305 t308 t324 t327) else (laws_FnExactSail.j1 kj32 t309 true a0_0 a0_1 a0_2 l1_0 a1_1 a2_0 l2_1 t305 t308 t324 t327)) = some r := H
        have A150 := Aside0.mk A1500
        clear A1500
        by_cases c151 : t345 = true
        ·subst c151
         have H1 : (laws_FnExactSail.j1 kj32 t309 (t328 != t309) a0_0 a0_1 a0_2 l1_0 a1_1 a2_0 l2_1 t305 t308 t324 t327) = some r := by rw [if_pos rfl] at H; exact H
         clear H
         have H := H1
         clear H1
         have H' := Aside0.mk H
         clear H
         have hnb152 := NB329_289.out
         have hnc152 := NB289_329.out
         have hnb153 := NB329_290.out
         have hnc153 := NB290_329.out
         have hnb154 := NB329_291.out
         have hnc154 := NB291_329.out
         have hnb155 := NB329_310.out
         have hnc155 := NB310_329.out
         have hnb156 := NB329_315.out
         have hnc156 := NB315_329.out
         have hnb157 := NB329_320.out
         have hnc157 := NB320_329.out
         have hcz158_0 : w148.cell? ⟨gb329, 0, none⟩ = some (.slice Ao83 t324.length co83) := (blk_cell BK329.out 0).trans rfl
         have hcz158_1 : w148.cell? ⟨gb329, 1, none⟩ = some (.int .i64 t327) := (blk_cell BK329.out 1).trans rfl
         have hfz158_0 := blk_frozen BK329.out 0
         have hfz158_1 := blk_frozen BK329.out 1
         have hnb159 := NB310_289.out
         have hnc159 := NB289_310.out
         have hnb160 := NB310_290.out
         have hnc160 := NB290_310.out
         have hnb161 := NB310_291.out
         have hnc161 := NB291_310.out
         have hnb162 := NB310_315.out
         have hnc162 := NB315_310.out
         have hnb163 := NB310_320.out
         have hnc163 := NB320_310.out
         have hcz164_0 : w148.cell? ⟨gb310, 0, none⟩ = some (.slice Ao53 t305.length co53) := (blk_cell BK310.out 0).trans rfl
         have hcz164_1 : w148.cell? ⟨gb310, 1, none⟩ = some (.int .i64 t308) := (blk_cell BK310.out 1).trans rfl
         have hfz164_0 := blk_frozen BK310.out 0
         have hfz164_1 := blk_frozen BK310.out 1
         go_wp2_with (first | (go_at_call 11; (with_reducible refine (laws_eqPlaces.calls kj32 _ _ t324 t327 _ _ t305 t308 true _ ?side1 ?side2 ?side3 ?side4 A150.out).mono ?_); (case side1 => exact X.C (Kd.R_reads' HO_330000.out).2.2); (case side2 => exact (Kd.R_reads' HO_330000.out).2.1); (case side3 => exact X.C (Kd.R_reads' HO_311000.out).2.2); (case side4 => exact (Kd.R_reads' HO_311000.out).2.1); rintro e w165 ⟨rfl, hb⟩; have n0_ := Aside0.mk (Kd.R_below (X.K HO_311000) hb); have n1_ := Aside0.mk (Kd.R_below (X.K HO_316000) hb); have n2_ := Aside0.mk (Kd.R_below (X.K HO_321001) hb); have n3_ := Aside0.mk (Kd.R_below (X.K HO_330000) hb); have n4_ := Aside0.mk (Kd.R_below (X.K HO333) hb); have n5_ := Aside0.mk (Kd.R_below (X.K HO339) hb); have n6_ := Aside0.mk (X.BB BK289 hb); have n7_ := Aside0.mk (X.BB BK290 hb); have n8_ := Aside0.mk (X.BB BK291 hb); have n9_ := Aside0.mk (X.BB BK310 hb); have n10_ := Aside0.mk (X.BB BK315 hb); have n11_ := Aside0.mk (X.BB BK320 hb); have n12_ := Aside0.mk (X.BB BK329 hb); have n13_ := Aside0.mk (below_step X.G hb); clear HO_311000; clear HO_316000; clear HO_321001; clear HO_330000; clear HO333; clear HO339; clear BK289; clear BK290; clear BK291; clear BK310; clear BK315; clear BK320; clear BK329; clear HB; have HO_311000 := n0_; have HO_316000 := n1_; have HO_321001 := n2_; have HO_330000 := n3_; have HO333 := n4_; have HO339 := n5_; have BK289 := n6_; have BK290 := n7_; have BK291 := n8_; have BK310 := n9_; have BK315 := n10_; have BK320 := n11_; have BK329 := n12_; have HB := n13_; clear n0_ n1_ n2_ n3_ n4_ n5_ n6_ n7_ n8_ n9_ n10_ n11_ n12_ n13_; (try clear hb); (try clear hb2); (try clear hk); (try clear hi)))
         go_meet
         case rel => exact ⟨_, ((t328 != t309)), (by first | rfl | (simp; done) | (simp [*]; done)), H', ⟨by have := HJ32.out; first | omega | exact Nat.le_refl _⟩, ⟨by (with_reducible repeat (first | apply Kd.R_alloc | apply Kd.R_drewN | apply Kd.R_drew)); exact Kd.R_mono HO_311000.out (fun _ hk => ⟨hk.1, ⟨hk.2.1, hk.2.2.1⟩⟩)⟩, ⟨by (with_reducible repeat (first | apply Kd.R_alloc | apply Kd.R_drewN | apply Kd.R_drew)); exact Kd.R_mono HO_316000.out (fun _ hk => ⟨hk.1, ⟨hk.2.1, hk.2.2.1⟩⟩)⟩, ⟨by (with_reducible repeat (first | apply Kd.R_alloc | apply Kd.R_drewN | apply Kd.R_drew)); exact Kd.R_mono HO_321001.out (fun _ hk => ⟨hk.1, ⟨hk.2.1, hk.2.2.1⟩⟩)⟩, ⟨by (with_reducible repeat (first | apply Kd.R_alloc | apply Kd.R_drewN | apply Kd.R_drew)); exact Kd.R_mono HO_330000.out (fun _ hk => ⟨hk.1, ⟨hk.2.1, hk.2.2.1⟩⟩)⟩, ⟨by (with_reducible repeat (first | refine blk_drewN ?_ _ | refine blk_drew ?_ | refine blk_alloc ?_ _)); exact BK289.out⟩, ⟨by (with_reducible repeat (first | refine blk_drewN ?_ _ | refine blk_drew ?_ | refine blk_alloc ?_ _)); exact BK290.out⟩, ⟨by (with_reducible repeat (first | refine blk_drewN ?_ _ | refine blk_drew ?_ | refine blk_alloc ?_ _)); exact BK291.out⟩, ⟨by (with_reducible repeat (first | refine blk_drewN ?_ _ | refine blk_drew ?_ | refine blk_alloc ?_ _)); exact BK310.out⟩, ⟨by (with_reducible repeat (first | refine blk_drewN ?_ _ | refine blk_drew ?_ | refine blk_alloc ?_ _)); exact BK315.out⟩, ⟨by (with_reducible repeat (first | refine blk_drewN ?_ _ | refine blk_drew ?_ | refine blk_alloc ?_ _)); exact BK320.out⟩, ⟨by (with_reducible repeat (first | refine blk_drewN ?_ _ | refine blk_drew ?_ | refine blk_alloc ?_ _)); exact BK329.out⟩, ⟨X.G⟩⟩
        ·replace c151 := Bool.eq_false_iff.mpr c151
         subst c151
         have H1 : (laws_FnExactSail.j1 kj32 t309 true a0_0 a0_1 a0_2 l1_0 a1_1 a2_0 l2_1 t305 t308 t324 t327) = some r := by rw [if_neg (show ¬ (false = true) by decide)] at H; exact H
         clear H
         have H := H1
         clear H1
         have H' := Aside0.mk H
         clear H
         have hnb166 := NB329_289.out
         have hnc166 := NB289_329.out
         have hnb167 := NB329_290.out
         have hnc167 := NB290_329.out
         have hnb168 := NB329_291.out
         have hnc168 := NB291_329.out
         have hnb169 := NB329_310.out
         have hnc169 := NB310_329.out
         have hnb170 := NB329_315.out
         have hnc170 := NB315_329.out
         have hnb171 := NB329_320.out
         have hnc171 := NB320_329.out
         have hcz172_0 : w148.cell? ⟨gb329, 0, none⟩ = some (.slice Ao83 t324.length co83) := (blk_cell BK329.out 0).trans rfl
         have hcz172_1 : w148.cell? ⟨gb329, 1, none⟩ = some (.int .i64 t327) := (blk_cell BK329.out 1).trans rfl
         have hfz172_0 := blk_frozen BK329.out 0
         have hfz172_1 := blk_frozen BK329.out 1
         have hnb173 := NB310_289.out
         have hnc173 := NB289_310.out
         have hnb174 := NB310_290.out
         have hnc174 := NB290_310.out
         have hnb175 := NB310_291.out
         have hnc175 := NB291_310.out
         have hnb176 := NB310_315.out
         have hnc176 := NB315_310.out
         have hnb177 := NB310_320.out
         have hnc177 := NB320_310.out
         have hcz178_0 : w148.cell? ⟨gb310, 0, none⟩ = some (.slice Ao53 t305.length co53) := (blk_cell BK310.out 0).trans rfl
         have hcz178_1 : w148.cell? ⟨gb310, 1, none⟩ = some (.int .i64 t308) := (blk_cell BK310.out 1).trans rfl
         have hfz178_0 := blk_frozen BK310.out 0
         have hfz178_1 := blk_frozen BK310.out 1
         go_wp2_with (first | (go_at_call 11; (with_reducible refine (laws_eqPlaces.calls kj32 _ _ t324 t327 _ _ t305 t308 false _ ?side1 ?side2 ?side3 ?side4 A150.out).mono ?_); (case side1 => exact X.C (Kd.R_reads' HO_330000.out).2.2); (case side2 => exact (Kd.R_reads' HO_330000.out).2.1); (case side3 => exact X.C (Kd.R_reads' HO_311000.out).2.2); (case side4 => exact (Kd.R_reads' HO_311000.out).2.1); rintro e w179 ⟨rfl, hb⟩; have n0_ := Aside0.mk (Kd.R_below (X.K HO_311000) hb); have n1_ := Aside0.mk (Kd.R_below (X.K HO_316000) hb); have n2_ := Aside0.mk (Kd.R_below (X.K HO_321001) hb); have n3_ := Aside0.mk (Kd.R_below (X.K HO_330000) hb); have n4_ := Aside0.mk (Kd.R_below (X.K HO333) hb); have n5_ := Aside0.mk (Kd.R_below (X.K HO339) hb); have n6_ := Aside0.mk (X.BB BK289 hb); have n7_ := Aside0.mk (X.BB BK290 hb); have n8_ := Aside0.mk (X.BB BK291 hb); have n9_ := Aside0.mk (X.BB BK310 hb); have n10_ := Aside0.mk (X.BB BK315 hb); have n11_ := Aside0.mk (X.BB BK320 hb); have n12_ := Aside0.mk (X.BB BK329 hb); have n13_ := Aside0.mk (below_step X.G hb); clear HO_311000; clear HO_316000; clear HO_321001; clear HO_330000; clear HO333; clear HO339; clear BK289; clear BK290; clear BK291; clear BK310; clear BK315; clear BK320; clear BK329; clear HB; have HO_311000 := n0_; have HO_316000 := n1_; have HO_321001 := n2_; have HO_330000 := n3_; have HO333 := n4_; have HO339 := n5_; have BK289 := n6_; have BK290 := n7_; have BK291 := n8_; have BK310 := n9_; have BK315 := n10_; have BK320 := n11_; have BK329 := n12_; have HB := n13_; clear n0_ n1_ n2_ n3_ n4_ n5_ n6_ n7_ n8_ n9_ n10_ n11_ n12_ n13_; (try clear hb); (try clear hb2); (try clear hk); (try clear hi)))
         go_meet
         case rel => exact ⟨_, (true), (by first | rfl | (simp; done) | (simp [*]; done)), H', ⟨by have := HJ32.out; first | omega | exact Nat.le_refl _⟩, ⟨by (with_reducible repeat (first | apply Kd.R_alloc | apply Kd.R_drewN | apply Kd.R_drew)); exact Kd.R_mono HO_311000.out (fun _ hk => ⟨hk.1, ⟨hk.2.1, hk.2.2.1⟩⟩)⟩, ⟨by (with_reducible repeat (first | apply Kd.R_alloc | apply Kd.R_drewN | apply Kd.R_drew)); exact Kd.R_mono HO_316000.out (fun _ hk => ⟨hk.1, ⟨hk.2.1, hk.2.2.1⟩⟩)⟩, ⟨by (with_reducible repeat (first | apply Kd.R_alloc | apply Kd.R_drewN | apply Kd.R_drew)); exact Kd.R_mono HO_321001.out (fun _ hk => ⟨hk.1, ⟨hk.2.1, hk.2.2.1⟩⟩)⟩, ⟨by (with_reducible repeat (first | apply Kd.R_alloc | apply Kd.R_drewN | apply Kd.R_drew)); exact Kd.R_mono HO_330000.out (fun _ hk => ⟨hk.1, ⟨hk.2.1, hk.2.2.1⟩⟩)⟩, ⟨by (with_reducible repeat (first | refine blk_drewN ?_ _ | refine blk_drew ?_ | refine blk_alloc ?_ _)); exact BK289.out⟩, ⟨by (with_reducible repeat (first | refine blk_drewN ?_ _ | refine blk_drew ?_ | refine blk_alloc ?_ _)); exact BK290.out⟩, ⟨by (with_reducible repeat (first | refine blk_drewN ?_ _ | refine blk_drew ?_ | refine blk_alloc ?_ _)); exact BK291.out⟩, ⟨by (with_reducible repeat (first | refine blk_drewN ?_ _ | refine blk_drew ?_ | refine blk_alloc ?_ _)); exact BK310.out⟩, ⟨by (with_reducible repeat (first | refine blk_drewN ?_ _ | refine blk_drew ?_ | refine blk_alloc ?_ _)); exact BK315.out⟩, ⟨by (with_reducible repeat (first | refine blk_drewN ?_ _ | refine blk_drew ?_ | refine blk_alloc ?_ _)); exact BK320.out⟩, ⟨by (with_reducible repeat (first | refine blk_drewN ?_ _ | refine blk_drew ?_ | refine blk_alloc ?_ _)); exact BK329.out⟩, ⟨X.G⟩⟩
      case rest =>
       clear HC125
       try clear c1
       try clear c2
       try clear p2
       try clear c8
       try clear c9
       try clear c10
       try clear c11
       try clear c12
       try clear c13
       try clear c14
       try clear c15
       try clear c16
       try clear c17
       try clear c98
       try clear c99
       try clear c102
       try clear c103
       try clear c104
       try clear c105
       try clear c106
       try clear c107
       try clear c109
       try clear c110
       try clear c111
       try clear c112
       try clear c113
       try clear c116
       try clear c119
       try clear c122
       try clear c134
       try clear c135
       try clear c136
       try clear c137
       try clear c138
       try clear c139
       try clear c142
       try clear c143
       try clear c144
       try clear c145
       try clear c146
       try clear c149
       try clear c149b0
       try clear c151
       try clear c152
       try clear c153
       try clear c154
       try clear c155
       try clear c156
       try clear c157
       try clear c159
       try clear c160
       try clear c161
       try clear c162
       try clear c163
       try clear c166
       try clear c167
       try clear c168
       try clear c169
       try clear c170
       try clear c171
       try clear c173
       try clear c174
       try clear c175
       try clear c176
       try clear c177
       try clear hcz100_0
       try clear hcz100_1
       try clear hcz108_0
       try clear hcz108_1
       try clear hcz114_0
       try clear hcz114_1
       try clear hcz140_0
       try clear hcz140_1
       try clear hcz147_0
       try clear hcz147_1
       try clear hcz158_0
       try clear hcz158_1
       try clear hcz164_0
       try clear hcz164_1
       try clear hcz172_0
       try clear hcz172_1
       try clear hcz178_0
       try clear hcz178_1
       try clear hcz94_0
       try clear hcz94_1
       try clear hfz100_0
       try clear hfz100_1
       try clear hfz108_0
       try clear hfz108_1
       try clear hfz114_0
       try clear hfz114_1
       try clear hfz140_0
       try clear hfz140_1
       try clear hfz147_0
       try clear hfz147_1
       try clear hfz158_0
       try clear hfz158_1
       try clear hfz164_0
       try clear hfz164_1
       try clear hfz172_0
       try clear hfz172_1
       try clear hfz178_0
       try clear hfz178_1
       try clear hfz94_0
       try clear hfz94_1
       expose_names
       revert k a0_0 a0_1 a0_2 A1_0 c1_0 l1_0 a1_1 a2_0 A2_1 c2_1 l2_1 r w hu23 hu26 hu28 hu31 hu37 HR1_0 HC1_0 HR2_1 HC2_1 t292 A4 c5b0 t293 A13 c14b0 t294 t295 t296 A25 t297 t300 A26 t301 t302 A27 t305 t308 t309 A28 t311 t314 A29 t316 t317 A30 t321 t322 t323 A31 t324 t327 t328 A32 Q' gb289 w34 GW289 GE289 gb290 w35 GW290 GE290 NB289_290 NB290_289 gb291 w36 GW291 GE291 NB289_291 NB291_289 NB290_291 NB291_290 hnb37 hnc37 hnb38 hnc38 hcz39_0 hcz39_1 hfz39_0 hfz39_1 w40 hnb41 hnc41 hcz42_0 hcz42_1 hfz42_0 hfz42_1 w43 HT__1 HW__1 w44 hHeld_1 v298 v303 gb310 w52 hS__1 GW310 GE310 NB289_310 NB310_289 NB290_310 NB310_290 NB291_310 NB310_291 hHeld_2 Ao53 co53 hs54 hfs54 hns54_0 hns54_1 hns54_2 hms54_0 hms54_1 hms54_2 hs55 hfs55 hns55_0 hns55_1 hns55_2 hms55_0 hms55_1 hms55_2 hHeld_3 hnb56 hnc56 hcz57_0 hcz57_1 hfz57_0 hfz57_1 w58 gb315 w59 GW315 GE315 NB289_315 NB315_289 NB290_315 NB315_290 NB291_315 NB315_291 NB310_315 NB315_310 Ao60 co60 hnb61 hnc61 hnb62 hnc62 hnb63 hnc63 hnb64 hnc64 hcz65_0 hcz65_1 hfz65_0 hfz65_1 hnb66 hnc66 hcz67_0 hcz67_1 hfz67_0 hfz67_1 w68 gb320 w69 GW320 GE320 NB289_320 NB320_289 NB290_320 NB320_290 NB291_320 NB320_291 NB310_320 NB320_310 NB315_320 NB320_315 hnb70 hnc70 hnb71 hnc71 hnb72 hnc72 hnb73 hnc73 hnb74 hnc74 hcz75_0 hcz75_1 hfz75_0 hfz75_1 Ao76 co76 w77 HT_ HW_ w78 hHeld_4 gb329 w82 hS_ BK289_1 BK290_1 BK291_1 BK310_1 BK315_1 BK320_1 BK329_1 GW329 GE329 NB289_329 NB329_289 NB290_329 NB329_290 NB291_329 NB329_291 NB310_329 NB329_310 NB315_329 NB329_315 NB320_329 NB329_320 HB_1 hHeld_5 Ao83 co83 HO299 HO304 HO307 HO313 HO319 HO326 hs84 hfs84 hns84_0 hns84_1 hns84_2 hns84_3 hns84_4 hns84_5 hms84_0 hms84_1 hms84_2 hms84_3 hms84_4 hms84_5 hs85 hfs85 hns85_0 hns85_1 hns85_2 hns85_3 hns85_4 hns85_5 hms85_0 hms85_1 hms85_2 hms85_3 hms85_4 hms85_5 hHeld_6 wc_1 u19_1 u20_1 u21_1 u22_1 u23_1 u24_1 u25_1 u26_1 u27_1 u28_1 u29_1 u30_1 u31_1 u32_1 u33_1 u34_1 u35_1 u36_1 u37_1 u38_1 u39_1 u40_1 u41_1 u42_1 u43_1 u44_1 u45_1 u46_1 u47_1 u48_1 u49_1 u50_1 u51_1 u52_1 u53_1 u54_1 u55_1 u56_1 u57_1 u58_1 u60_1 u61_1 u62_1 u63_1 u64_1 u65_1 u66_1 u67_1 u68_1 u69_1 u70_1 u71_1 u72_1 u73_1 u74_1 u75_1 u76_1 u77_1 u78_1 u79_1 u80_1 u81_1 u82_1 u83_1 u84_1 u85_1 u86_1 u87_1 u88_1 u89_1 u90_1 u91_1 u92_1 u93_1 u94_1 u95_1 u96_1 u97_1 u98_1 u99_1 u100_1 u101_1 u102_1 u103_1 u104_1 u105_1 u106_1 u107_1 u108_1 u109_1 u110_1 u111_1 u112_1 u113_1 u114_1 u115_1 u116_1 u117_1 u118_1 u119_1 u120_1 u121_1 u122_1 u123_1 u124_1 u125_1 u126_1 kj32 HJ32 t331 t334 A117 A118 t336 t337 A120 A121 t341 t342 A123 t343 t344 A124 w126 hHeld_7 w127 Ao128 co128 hHeld_8 w129 hHeld_9 w130 hHeld_10 w131 Ao132 co132 hHeld_11 w133 hHeld hnb134 hnc134 hnb135 hnc135 hnb136 hnc136 hnb137 hnc137 hnb138 hnc138 hnb139 hnc139 w141 hnb142 hnc142 hnb143 hnc143 hnb144 hnc144 hnb145 hnc145 hnb146 hnc146 w148 HO_311000 HO_316000 HO_321001 HO_330000 BK289 BK290 BK291 BK310 BK315 BK320 BK329 HO333 HO339 HB K h K_1 h_1 wc u19 u20 u21 u22 u23 u24 u25 u26 u27 u28 u29 u30 u31 u32 u33 u34 u35 u36 u37 u38 u39 u40 u41 u42 u43 u44 u45 u46 u47 u48 u49 u50 u51 u52 u53 u54 u55 u56 u57 u58 u59 u60 u61 u62 u63 u64 u65 u66 u67 u68 u69 u70 u71 u72 u73 u74 u75 u76 u77 u78 u79 u80 u81 u82 u83 u84 u85 u86 u87 u88 u89 u90 u91 u92 u93 u94 u95 u96 u97 u98 u99 u100 u101 u102 u103 u104 u105 u106 u107 u108 u109 u110 u111 u112 u113 u114 u115 u116 u117 u118 u119 u120 u121 u122 u123 u124 u125 u126 hcut
       exact hRest_.out
     ·replace c122 := Bool.eq_false_iff.mpr c122
      subst c122
      have H1 : (some false) = some r := by rw [if_neg (show ¬ (false = true) by decide)] at H; exact H
      clear H
      have H := H1
      clear H1
      obtain rfl := Option.some.inj H
      try go_wp2
      have n0_ := Aside0.mk (Kd.R_drew HO_311000.out)
      have n1_ := Aside0.mk (Kd.R_drew HO_316000.out)
      have n2_ := Aside0.mk (Kd.R_drew HO_321001.out)
      have n3_ := Aside0.mk (Kd.R_drew HO_330000.out)
      have n4_ := Aside0.mk (blk_drew BK289.out)
      have n5_ := Aside0.mk (blk_drew BK290.out)
      have n6_ := Aside0.mk (blk_drew BK291.out)
      have n7_ := Aside0.mk (blk_drew BK310.out)
      have n8_ := Aside0.mk (blk_drew BK315.out)
      have n9_ := Aside0.mk (blk_drew BK320.out)
      have n10_ := Aside0.mk (blk_drew BK329.out)
      have n11_ := Aside0.mk (below_drew1 HB.out)
      clear HO_311000
      clear HO_316000
      clear HO_321001
      clear HO_330000
      clear BK289
      clear BK290
      clear BK291
      clear BK310
      clear BK315
      clear BK320
      clear BK329
      clear HB
      have HO_311000 := n0_
      have HO_316000 := n1_
      have HO_321001 := n2_
      have HO_330000 := n3_
      have BK289 := n4_
      have BK290 := n5_
      have BK291 := n6_
      have BK310 := n7_
      have BK315 := n8_
      have BK320 := n9_
      have BK329 := n10_
      have HB := n11_
      clear n0_ n1_ n2_ n3_ n4_ n5_ n6_ n7_ n8_ n9_ n10_ n11_
      refine start_ (n := 5) (S := fun w' => w'.cell? ⟨gb315, 0, none⟩ = some (.slice Ao60 t311.length co60) ∧ w'.cell? ⟨gb315, 1, none⟩ = some (.int .i64 t314) ∧ w'.cell? ⟨gb290, 0, none⟩ = some (.slice A1_0 l1_0.length c1_0) ∧ w'.cell? ⟨gb290, 1, none⟩ = some (.int .i64 a1_1)) (ds := []) #[false, false, false, false, false] (by kernel_rfl) rfl rfl ⟨(blk_cell BK315.out 0).trans rfl, (blk_cell BK315.out 1).trans rfl, (blk_cell BK290.out 0).trans rfl, (blk_cell BK290.out 1).trans rfl⟩ (fun hHeld => ?_)
      generalize wc.drew = w297 at HO_311000 HO_316000 HO_321001 HO_330000 BK289 BK290 BK291 BK310 BK315 BK320 BK329 HB hHeld ⊢
      refine take_ (i := 0) (N := some 60) (v := ?_) (a' := ?_) #[true, false, false, false, false] rfl rfl (by kernel_rfl) (fun _ _ _ h => h) (Or.inl ⟨by rfl, ?_⟩) hHeld ?_ ?_
      rotate_left
      ·rintro w' ⟨s0, s1, s2, s3⟩
       go_simp
       with_reducible rfl
      rotate_left
      ·exact X.Pu
      refine take_ (i := 1) (N := some 61) (v := ?_) (a' := ?_) #[true, true, false, false, false] rfl rfl (by kernel_rfl) (fun _ _ _ h => h) (Or.inl ⟨by rfl, ?_⟩) hHeld ?_ ?_
      rotate_left
      ·rintro w' ⟨s0, s1, s2, s3⟩
       go_simp
       with_reducible rfl
      rotate_left
      ·exact X.Pu
      refine one_ (i := 2) (N := some 62) #[true, true, true, false, false] rfl rfl (by kernel_rfl) (by decide) (fun K hK => ?_)
      refine goes_ Try.func8 (by kernel_rfl) rfl #[.agg #[.slice A1_0 l1_0.length c1_0, .int .i64 a1_1]] (by rfl) rfl rfl X.M ?_
      with_reducible refine (laws_toPlaces.calls kj32 _ _ l1_0 a1_1 t331 t334 _ ?side1 ?side2 A117.out).mono ?_
      (case side1 => exact X.C (Kd.C_below HR1_0.out HB.out))
      (case side2 => exact HC1_0.out)
      rintro e w298 ⟨v332, rfl, ho0, hb⟩
      refine ⟨_, rfl, ?_⟩
      have n0_ := Aside0.mk (Kd.R_elder' (X.K HO_311000) (Kd.R_base ho0) hb)
      have n1_ := Aside0.mk (Kd.R_elder' (X.K HO_316000) (Kd.R_base ho0) hb)
      have n2_ := Aside0.mk (Kd.R_elder' (X.K HO_321001) (Kd.R_base ho0) hb)
      have n3_ := Aside0.mk (Kd.R_elder' (X.K HO_330000) (Kd.R_base ho0) hb)
      have n4_ := Aside0.mk (Kd.R_lower (Kd.R_new' (Kd.R_new' (Kd.R_new' (Kd.R_new' ho0 (Kd.R_lt (X.K HO_311000))) (Kd.R_lt (X.K HO_316000))) (Kd.R_lt (X.K HO_321001))) (Kd.R_lt (X.K HO_330000))) (below_size X.G))
      have n5_ := Aside0.mk (X.BB BK289 hb)
      have n6_ := Aside0.mk (X.BB BK290 hb)
      have n7_ := Aside0.mk (X.BB BK291 hb)
      have n8_ := Aside0.mk (X.BB BK310 hb)
      have n9_ := Aside0.mk (X.BB BK315 hb)
      have n10_ := Aside0.mk (X.BB BK320 hb)
      have n11_ := Aside0.mk (X.BB BK329 hb)
      have n12_ := Aside0.mk (below_step X.G hb)
      clear HO_311000
      clear HO_316000
      clear HO_321001
      clear HO_330000
      clear BK289
      clear BK290
      clear BK291
      clear BK310
      clear BK315
      clear BK320
      clear BK329
      clear HB
      have HO_311000 := n0_
      have HO_316000 := n1_
      have HO_321001 := n2_
      have HO_330000 := n3_
      have HO333 := n4_
      have BK289 := n5_
      have BK290 := n6_
      have BK291 := n7_
      have BK310 := n8_
      have BK315 := n9_
      have BK320 := n10_
      have BK329 := n11_
      have HB := n12_
      clear n0_ n1_ n2_ n3_ n4_ n5_ n6_ n7_ n8_ n9_ n10_ n11_ n12_
      (try clear hb)
      (try clear hb2)
      (try clear hk)
      (try clear hi)
      (try clear ho0)
      obtain ⟨Ao299, co299, eo299⟩ := Kd.R_slice HO333.out
      (first | subst eo299 | (injection eo299 with f1_ f2_ f3_; have f4_ := f1_.symm; have f5_ := f3_.symm; clear f1_ f2_ f3_; subst f4_; subst f5_))
      refine hK.out _ _ ⟨(blk_cell BK315.out 0).trans rfl, (blk_cell BK315.out 1).trans rfl, (blk_cell BK290.out 0).trans rfl, (blk_cell BK290.out 1).trans rfl⟩ (fun hHeld => ?_)
      clear hK K
      refine norm_ (a' := ?_) ?_ ?_
      rotate_left
      ·show Act.put _ (some 62) _ = _
       simp only [Act.put, List.setIfInBounds_toArray, List.set_cons_zero, List.set_cons_succ, i64_w, i32_w]
       rfl
      refine one_ (i := 3) (N := some 63) #[true, true, true, true, false] rfl rfl (by kernel_rfl) (by decide) (fun K hK => ?_)
      refine goes_ Try.func11 (by kernel_rfl) rfl #[.agg #[.slice Ao60 t311.length co60, .int .i64 t314], .agg #[.slice Ao299 t331.length co299, .int .i64 t334]] (by rfl) rfl rfl X.M ?_
      with_reducible refine (laws_eqPlaces.calls kj32 _ _ t311 t314 _ _ t331 t334 true _ ?side1 ?side2 ?side3 ?side4 A118.out).mono ?_
      (case side1 => exact X.C (Kd.R_reads' HO_316000.out).2.2)
      (case side2 => exact (Kd.R_reads' HO_316000.out).2.1)
      (case side3 => exact X.C (Kd.R_reads' HO333.out).2.2)
      (case side4 => exact (Kd.R_reads' HO333.out).2.1)
      rintro e w300 ⟨rfl, hb⟩
      refine ⟨_, rfl, ?_⟩
      have n0_ := Aside0.mk (Kd.R_below (X.K HO_311000) hb)
      have n1_ := Aside0.mk (Kd.R_below (X.K HO_316000) hb)
      have n2_ := Aside0.mk (Kd.R_below (X.K HO_321001) hb)
      have n3_ := Aside0.mk (Kd.R_below (X.K HO_330000) hb)
      have n4_ := Aside0.mk (Kd.R_below (X.K HO333) hb)
      have n5_ := Aside0.mk (X.BB BK289 hb)
      have n6_ := Aside0.mk (X.BB BK290 hb)
      have n7_ := Aside0.mk (X.BB BK291 hb)
      have n8_ := Aside0.mk (X.BB BK310 hb)
      have n9_ := Aside0.mk (X.BB BK315 hb)
      have n10_ := Aside0.mk (X.BB BK320 hb)
      have n11_ := Aside0.mk (X.BB BK329 hb)
      have n12_ := Aside0.mk (below_step X.G hb)
      clear HO_311000
      clear HO_316000
      clear HO_321001
      clear HO_330000
      clear HO333
      clear BK289
      clear BK290
      clear BK291
      clear BK310
      clear BK315
      clear BK320
      clear BK329
      clear HB
      have HO_311000 := n0_
      have HO_316000 := n1_
      have HO_321001 := n2_
      have HO_330000 := n3_
      have HO333 := n4_
      have BK289 := n5_
      have BK290 := n6_
      have BK291 := n7_
      have BK310 := n8_
      have BK315 := n9_
      have BK320 := n10_
      have BK329 := n11_
      have HB := n12_
      clear n0_ n1_ n2_ n3_ n4_ n5_ n6_ n7_ n8_ n9_ n10_ n11_ n12_
      (try clear hb)
      (try clear hb2)
      (try clear hk)
      (try clear hi)
      refine hK.out _ _ ⟨(blk_cell BK315.out 0).trans rfl, (blk_cell BK315.out 1).trans rfl, (blk_cell BK290.out 0).trans rfl, (blk_cell BK290.out 1).trans rfl⟩ (fun hHeld => ?_)
      clear hK K
      refine norm_ (a' := ?_) ?_ ?_
      rotate_left
      ·show Act.put _ (some 63) _ = _
       simp only [Act.put, List.setIfInBounds_toArray, List.set_cons_zero, List.set_cons_succ, i64_w, i32_w]
       rfl
      refine pure_ (i := 4) (N := some 64) (v := ?_) (a' := ?_) #[true, true, true, true, true] rfl rfl (by kernel_rfl) (fun _ _ _ h => h) (Or.inl ⟨by rfl, ?_⟩) ?_ ?_
      rotate_left
      ·intro w'
       go_simp
       with_reducible rfl
      rotate_left
      ·exact X.Pu
      refine done_ (by kernel_rfl) ?_
      try go_wp2
      have n0_ := Aside0.mk (Kd.R_drew HO_311000.out)
      have n1_ := Aside0.mk (Kd.R_drew HO_316000.out)
      have n2_ := Aside0.mk (Kd.R_drew HO_321001.out)
      have n3_ := Aside0.mk (Kd.R_drew HO_330000.out)
      have n4_ := Aside0.mk (Kd.R_drew HO333.out)
      have n5_ := Aside0.mk (blk_drew BK289.out)
      have n6_ := Aside0.mk (blk_drew BK290.out)
      have n7_ := Aside0.mk (blk_drew BK291.out)
      have n8_ := Aside0.mk (blk_drew BK310.out)
      have n9_ := Aside0.mk (blk_drew BK315.out)
      have n10_ := Aside0.mk (blk_drew BK320.out)
      have n11_ := Aside0.mk (blk_drew BK329.out)
      have n12_ := Aside0.mk (below_drew1 HB.out)
      clear HO_311000
      clear HO_316000
      clear HO_321001
      clear HO_330000
      clear HO333
      clear BK289
      clear BK290
      clear BK291
      clear BK310
      clear BK315
      clear BK320
      clear BK329
      clear HB
      have HO_311000 := n0_
      have HO_316000 := n1_
      have HO_321001 := n2_
      have HO_330000 := n3_
      have HO333 := n4_
      have BK289 := n5_
      have BK290 := n6_
      have BK291 := n7_
      have BK310 := n8_
      have BK315 := n9_
      have BK320 := n10_
      have BK329 := n11_
      have HB := n12_
      clear n0_ n1_ n2_ n3_ n4_ n5_ n6_ n7_ n8_ n9_ n10_ n11_ n12_
      refine start_ (n := 5) (S := fun w' => w'.cell? ⟨gb320, 0, none⟩ = some (.int .i64 t316) ∧ w'.cell? ⟨gb320, 1, none⟩ = some (.slice Ao76 t317.length co76) ∧ w'.cell? ⟨gb291, 0, none⟩ = some (.int .i64 a2_0) ∧ w'.cell? ⟨gb291, 1, none⟩ = some (.slice A2_1 l2_1.length c2_1)) (ds := []) #[false, false, false, false, false] (by kernel_rfl) rfl rfl ⟨(blk_cell BK320.out 0).trans rfl, (blk_cell BK320.out 1).trans rfl, (blk_cell BK291.out 0).trans rfl, (blk_cell BK291.out 1).trans rfl⟩ (fun hHeld => ?_)
      generalize w300.drew = w301 at HO_311000 HO_316000 HO_321001 HO_330000 HO333 BK289 BK290 BK291 BK310 BK315 BK320 BK329 HB hHeld ⊢
      refine take_ (i := 0) (N := some 65) (v := ?_) (a' := ?_) #[true, false, false, false, false] rfl rfl (by kernel_rfl) (fun _ _ _ h => h) (Or.inl ⟨by rfl, ?_⟩) hHeld ?_ ?_
      rotate_left
      ·rintro w' ⟨s0, s1, s2, s3⟩
       go_simp
       with_reducible rfl
      rotate_left
      ·exact X.Pu
      refine take_ (i := 1) (N := some 66) (v := ?_) (a' := ?_) #[true, true, false, false, false] rfl rfl (by kernel_rfl) (fun _ _ _ h => h) (Or.inl ⟨by rfl, ?_⟩) hHeld ?_ ?_
      rotate_left
      ·rintro w' ⟨s0, s1, s2, s3⟩
       go_simp
       with_reducible rfl
      rotate_left
      ·exact X.Pu
      refine one_ (i := 2) (N := some 67) #[true, true, true, false, false] rfl rfl (by kernel_rfl) (by decide) (fun K hK => ?_)
      refine goes_ Try.func9 (by kernel_rfl) rfl #[.agg #[.int .i64 a2_0, .slice A2_1 l2_1.length c2_1]] (by rfl) rfl rfl X.M ?_
      with_reducible refine (laws_toVoyage.calls kj32 a2_0 _ _ l2_1 t336 t337 _ ?side1 ?side2 A120.out).mono ?_
      (case side1 => exact X.C (Kd.C_below HR2_1.out HB.out))
      (case side2 => exact HC2_1.out)
      rintro e w302 ⟨v338, rfl, ho0, hb⟩
      refine ⟨_, rfl, ?_⟩
      have n0_ := Aside0.mk (Kd.R_elder' (X.K HO_311000) (Kd.R_base ho0) hb)
      have n1_ := Aside0.mk (Kd.R_elder' (X.K HO_316000) (Kd.R_base ho0) hb)
      have n2_ := Aside0.mk (Kd.R_elder' (X.K HO_321001) (Kd.R_base ho0) hb)
      have n3_ := Aside0.mk (Kd.R_elder' (X.K HO_330000) (Kd.R_base ho0) hb)
      have n4_ := Aside0.mk (Kd.R_elder' (X.K HO333) (Kd.R_base ho0) hb)
      have n5_ := Aside0.mk (Kd.R_lower (Kd.R_new' (Kd.R_new' (Kd.R_new' (Kd.R_new' (Kd.R_new' ho0 (Kd.R_lt (X.K HO_311000))) (Kd.R_lt (X.K HO_316000))) (Kd.R_lt (X.K HO_321001))) (Kd.R_lt (X.K HO_330000))) (Kd.R_lt (X.K HO333))) (below_size X.G))
      have n6_ := Aside0.mk (X.BB BK289 hb)
      have n7_ := Aside0.mk (X.BB BK290 hb)
      have n8_ := Aside0.mk (X.BB BK291 hb)
      have n9_ := Aside0.mk (X.BB BK310 hb)
      have n10_ := Aside0.mk (X.BB BK315 hb)
      have n11_ := Aside0.mk (X.BB BK320 hb)
      have n12_ := Aside0.mk (X.BB BK329 hb)
      have n13_ := Aside0.mk (below_step X.G hb)
      clear HO_311000
      clear HO_316000
      clear HO_321001
      clear HO_330000
      clear HO333
      clear BK289
      clear BK290
      clear BK291
      clear BK310
      clear BK315
      clear BK320
      clear BK329
      clear HB
      have HO_311000 := n0_
      have HO_316000 := n1_
      have HO_321001 := n2_
      have HO_330000 := n3_
      have HO333 := n4_
      have HO339 := n5_
      have BK289 := n6_
      have BK290 := n7_
      have BK291 := n8_
      have BK310 := n9_
      have BK315 := n10_
      have BK320 := n11_
      have BK329 := n12_
      have HB := n13_
      clear n0_ n1_ n2_ n3_ n4_ n5_ n6_ n7_ n8_ n9_ n10_ n11_ n12_ n13_
      (try clear hb)
      (try clear hb2)
      (try clear hk)
      (try clear hi)
      (try clear ho0)
      obtain ⟨Ao303, co303, eo303⟩ := Kd.R_slice HO339.out
      (first | subst eo303 | (injection eo303 with f1_ f2_ f3_; have f4_ := f1_.symm; have f5_ := f3_.symm; clear f1_ f2_ f3_; subst f4_; subst f5_))
      refine hK.out _ _ ⟨(blk_cell BK320.out 0).trans rfl, (blk_cell BK320.out 1).trans rfl, (blk_cell BK291.out 0).trans rfl, (blk_cell BK291.out 1).trans rfl⟩ (fun hHeld => ?_)
      clear hK K
      refine norm_ (a' := ?_) ?_ ?_
      rotate_left
      ·show Act.put _ (some 67) _ = _
       simp only [Act.put, List.setIfInBounds_toArray, List.set_cons_zero, List.set_cons_succ, i64_w, i32_w]
       rfl
      refine one_ (i := 3) (N := some 68) #[true, true, true, true, false] rfl rfl (by kernel_rfl) (by decide) (fun K hK => ?_)
      refine goes_ Try.func12 (by kernel_rfl) rfl #[.agg #[.int .i64 t316, .slice Ao76 t317.length co76], .agg #[.int .i64 t336, .slice Ao303 t337.length co303]] (by rfl) rfl rfl X.M ?_
      with_reducible refine (laws_eqVoyage.calls kj32 t316 _ _ t317 t336 _ _ t337 false _ ?side1 ?side2 ?side3 ?side4 A121.out).mono ?_
      (case side1 => exact X.C (Kd.R_reads' HO_321001.out).2.2)
      (case side2 => exact (Kd.R_reads' HO_321001.out).2.1)
      (case side3 => exact X.C (Kd.R_reads' HO339.out).2.2)
      (case side4 => exact (Kd.R_reads' HO339.out).2.1)
      rintro e w304 ⟨rfl, hb⟩
      refine ⟨_, rfl, ?_⟩
      have n0_ := Aside0.mk (Kd.R_below (X.K HO_311000) hb)
      have n1_ := Aside0.mk (Kd.R_below (X.K HO_316000) hb)
      have n2_ := Aside0.mk (Kd.R_below (X.K HO_321001) hb)
      have n3_ := Aside0.mk (Kd.R_below (X.K HO_330000) hb)
      have n4_ := Aside0.mk (Kd.R_below (X.K HO333) hb)
      have n5_ := Aside0.mk (Kd.R_below (X.K HO339) hb)
      have n6_ := Aside0.mk (X.BB BK289 hb)
      have n7_ := Aside0.mk (X.BB BK290 hb)
      have n8_ := Aside0.mk (X.BB BK291 hb)
      have n9_ := Aside0.mk (X.BB BK310 hb)
      have n10_ := Aside0.mk (X.BB BK315 hb)
      have n11_ := Aside0.mk (X.BB BK320 hb)
      have n12_ := Aside0.mk (X.BB BK329 hb)
      have n13_ := Aside0.mk (below_step X.G hb)
      clear HO_311000
      clear HO_316000
      clear HO_321001
      clear HO_330000
      clear HO333
      clear HO339
      clear BK289
      clear BK290
      clear BK291
      clear BK310
      clear BK315
      clear BK320
      clear BK329
      clear HB
      have HO_311000 := n0_
      have HO_316000 := n1_
      have HO_321001 := n2_
      have HO_330000 := n3_
      have HO333 := n4_
      have HO339 := n5_
      have BK289 := n6_
      have BK290 := n7_
      have BK291 := n8_
      have BK310 := n9_
      have BK315 := n10_
      have BK320 := n11_
      have BK329 := n12_
      have HB := n13_
      clear n0_ n1_ n2_ n3_ n4_ n5_ n6_ n7_ n8_ n9_ n10_ n11_ n12_ n13_
      (try clear hb)
      (try clear hb2)
      (try clear hk)
      (try clear hi)
      refine hK.out _ _ ⟨(blk_cell BK320.out 0).trans rfl, (blk_cell BK320.out 1).trans rfl, (blk_cell BK291.out 0).trans rfl, (blk_cell BK291.out 1).trans rfl⟩ (fun hHeld => ?_)
      clear hK K
      refine norm_ (a' := ?_) ?_ ?_
      rotate_left
      ·show Act.put _ (some 68) _ = _
       simp only [Act.put, List.setIfInBounds_toArray, List.set_cons_zero, List.set_cons_succ, i64_w, i32_w]
       rfl
      refine pure_ (i := 4) (N := some 69) (v := ?_) (a' := ?_) #[true, true, true, true, true] rfl rfl (by kernel_rfl) (fun _ _ _ h => h) (Or.inl ⟨by rfl, ?_⟩) ?_ ?_
      rotate_left
      ·intro w'
       go_simp
       with_reducible rfl
      rotate_left
      ·exact X.Pu
      refine done_ (by kernel_rfl) ?_
      try go_wp2
      go_ret
      exact ⟨by first | rfl | (simp [errW_none, errW_some] <;> rfl) | (simp [*, errW_none, errW_some] <;> rfl), X.G⟩
    ·replace c119 := Bool.eq_false_iff.mpr c119
     subst c119
     have H1 : (some false) = some r := by rw [if_neg (show ¬ (false = true) by decide)] at H; exact H
     clear H
     have H := H1
     clear H1
     obtain rfl := Option.some.inj H
     try go_wp2
     have n0_ := Aside0.mk (Kd.R_drew HO_311000.out)
     have n1_ := Aside0.mk (Kd.R_drew HO_316000.out)
     have n2_ := Aside0.mk (Kd.R_drew HO_321001.out)
     have n3_ := Aside0.mk (Kd.R_drew HO_330000.out)
     have n4_ := Aside0.mk (blk_drew BK289.out)
     have n5_ := Aside0.mk (blk_drew BK290.out)
     have n6_ := Aside0.mk (blk_drew BK291.out)
     have n7_ := Aside0.mk (blk_drew BK310.out)
     have n8_ := Aside0.mk (blk_drew BK315.out)
     have n9_ := Aside0.mk (blk_drew BK320.out)
     have n10_ := Aside0.mk (blk_drew BK329.out)
     have n11_ := Aside0.mk (below_drew1 HB.out)
     clear HO_311000
     clear HO_316000
     clear HO_321001
     clear HO_330000
     clear BK289
     clear BK290
     clear BK291
     clear BK310
     clear BK315
     clear BK320
     clear BK329
     clear HB
     have HO_311000 := n0_
     have HO_316000 := n1_
     have HO_321001 := n2_
     have HO_330000 := n3_
     have BK289 := n4_
     have BK290 := n5_
     have BK291 := n6_
     have BK310 := n7_
     have BK315 := n8_
     have BK320 := n9_
     have BK329 := n10_
     have HB := n11_
     clear n0_ n1_ n2_ n3_ n4_ n5_ n6_ n7_ n8_ n9_ n10_ n11_
     refine start_ (n := 5) (S := fun w' => w'.cell? ⟨gb315, 0, none⟩ = some (.slice Ao60 t311.length co60) ∧ w'.cell? ⟨gb315, 1, none⟩ = some (.int .i64 t314) ∧ w'.cell? ⟨gb290, 0, none⟩ = some (.slice A1_0 l1_0.length c1_0) ∧ w'.cell? ⟨gb290, 1, none⟩ = some (.int .i64 a1_1)) (ds := []) #[false, false, false, false, false] (by kernel_rfl) rfl rfl ⟨(blk_cell BK315.out 0).trans rfl, (blk_cell BK315.out 1).trans rfl, (blk_cell BK290.out 0).trans rfl, (blk_cell BK290.out 1).trans rfl⟩ (fun hHeld => ?_)
     generalize wc.drew = w305 at HO_311000 HO_316000 HO_321001 HO_330000 BK289 BK290 BK291 BK310 BK315 BK320 BK329 HB hHeld ⊢
     refine take_ (i := 0) (N := some 60) (v := ?_) (a' := ?_) #[true, false, false, false, false] rfl rfl (by kernel_rfl) (fun _ _ _ h => h) (Or.inl ⟨by rfl, ?_⟩) hHeld ?_ ?_
     rotate_left
     ·rintro w' ⟨s0, s1, s2, s3⟩
      go_simp
      with_reducible rfl
     rotate_left
     ·exact X.Pu
     refine take_ (i := 1) (N := some 61) (v := ?_) (a' := ?_) #[true, true, false, false, false] rfl rfl (by kernel_rfl) (fun _ _ _ h => h) (Or.inl ⟨by rfl, ?_⟩) hHeld ?_ ?_
     rotate_left
     ·rintro w' ⟨s0, s1, s2, s3⟩
      go_simp
      with_reducible rfl
     rotate_left
     ·exact X.Pu
     refine one_ (i := 2) (N := some 62) #[true, true, true, false, false] rfl rfl (by kernel_rfl) (by decide) (fun K hK => ?_)
     refine goes_ Try.func8 (by kernel_rfl) rfl #[.agg #[.slice A1_0 l1_0.length c1_0, .int .i64 a1_1]] (by rfl) rfl rfl X.M ?_
     with_reducible refine (laws_toPlaces.calls kj32 _ _ l1_0 a1_1 t331 t334 _ ?side1 ?side2 A117.out).mono ?_
     (case side1 => exact X.C (Kd.C_below HR1_0.out HB.out))
     (case side2 => exact HC1_0.out)
     rintro e w306 ⟨v332, rfl, ho0, hb⟩
     refine ⟨_, rfl, ?_⟩
     have n0_ := Aside0.mk (Kd.R_elder' (X.K HO_311000) (Kd.R_base ho0) hb)
     have n1_ := Aside0.mk (Kd.R_elder' (X.K HO_316000) (Kd.R_base ho0) hb)
     have n2_ := Aside0.mk (Kd.R_elder' (X.K HO_321001) (Kd.R_base ho0) hb)
     have n3_ := Aside0.mk (Kd.R_elder' (X.K HO_330000) (Kd.R_base ho0) hb)
     have n4_ := Aside0.mk (Kd.R_lower (Kd.R_new' (Kd.R_new' (Kd.R_new' (Kd.R_new' ho0 (Kd.R_lt (X.K HO_311000))) (Kd.R_lt (X.K HO_316000))) (Kd.R_lt (X.K HO_321001))) (Kd.R_lt (X.K HO_330000))) (below_size X.G))
     have n5_ := Aside0.mk (X.BB BK289 hb)
     have n6_ := Aside0.mk (X.BB BK290 hb)
     have n7_ := Aside0.mk (X.BB BK291 hb)
     have n8_ := Aside0.mk (X.BB BK310 hb)
     have n9_ := Aside0.mk (X.BB BK315 hb)
     have n10_ := Aside0.mk (X.BB BK320 hb)
     have n11_ := Aside0.mk (X.BB BK329 hb)
     have n12_ := Aside0.mk (below_step X.G hb)
     clear HO_311000
     clear HO_316000
     clear HO_321001
     clear HO_330000
     clear BK289
     clear BK290
     clear BK291
     clear BK310
     clear BK315
     clear BK320
     clear BK329
     clear HB
     have HO_311000 := n0_
     have HO_316000 := n1_
     have HO_321001 := n2_
     have HO_330000 := n3_
     have HO333 := n4_
     have BK289 := n5_
     have BK290 := n6_
     have BK291 := n7_
     have BK310 := n8_
     have BK315 := n9_
     have BK320 := n10_
     have BK329 := n11_
     have HB := n12_
     clear n0_ n1_ n2_ n3_ n4_ n5_ n6_ n7_ n8_ n9_ n10_ n11_ n12_
     (try clear hb)
     (try clear hb2)
     (try clear hk)
     (try clear hi)
     (try clear ho0)
     obtain ⟨Ao307, co307, eo307⟩ := Kd.R_slice HO333.out
     (first | subst eo307 | (injection eo307 with f1_ f2_ f3_; have f4_ := f1_.symm; have f5_ := f3_.symm; clear f1_ f2_ f3_; subst f4_; subst f5_))
     refine hK.out _ _ ⟨(blk_cell BK315.out 0).trans rfl, (blk_cell BK315.out 1).trans rfl, (blk_cell BK290.out 0).trans rfl, (blk_cell BK290.out 1).trans rfl⟩ (fun hHeld => ?_)
     clear hK K
     refine norm_ (a' := ?_) ?_ ?_
     rotate_left
     ·show Act.put _ (some 62) _ = _
      simp only [Act.put, List.setIfInBounds_toArray, List.set_cons_zero, List.set_cons_succ, i64_w, i32_w]
      rfl
     refine one_ (i := 3) (N := some 63) #[true, true, true, true, false] rfl rfl (by kernel_rfl) (by decide) (fun K hK => ?_)
     refine goes_ Try.func11 (by kernel_rfl) rfl #[.agg #[.slice Ao60 t311.length co60, .int .i64 t314], .agg #[.slice Ao307 t331.length co307, .int .i64 t334]] (by rfl) rfl rfl X.M ?_
     with_reducible refine (laws_eqPlaces.calls kj32 _ _ t311 t314 _ _ t331 t334 false _ ?side1 ?side2 ?side3 ?side4 A118.out).mono ?_
     (case side1 => exact X.C (Kd.R_reads' HO_316000.out).2.2)
     (case side2 => exact (Kd.R_reads' HO_316000.out).2.1)
     (case side3 => exact X.C (Kd.R_reads' HO333.out).2.2)
     (case side4 => exact (Kd.R_reads' HO333.out).2.1)
     rintro e w308 ⟨rfl, hb⟩
     refine ⟨_, rfl, ?_⟩
     have n0_ := Aside0.mk (Kd.R_below (X.K HO_311000) hb)
     have n1_ := Aside0.mk (Kd.R_below (X.K HO_316000) hb)
     have n2_ := Aside0.mk (Kd.R_below (X.K HO_321001) hb)
     have n3_ := Aside0.mk (Kd.R_below (X.K HO_330000) hb)
     have n4_ := Aside0.mk (Kd.R_below (X.K HO333) hb)
     have n5_ := Aside0.mk (X.BB BK289 hb)
     have n6_ := Aside0.mk (X.BB BK290 hb)
     have n7_ := Aside0.mk (X.BB BK291 hb)
     have n8_ := Aside0.mk (X.BB BK310 hb)
     have n9_ := Aside0.mk (X.BB BK315 hb)
     have n10_ := Aside0.mk (X.BB BK320 hb)
     have n11_ := Aside0.mk (X.BB BK329 hb)
     have n12_ := Aside0.mk (below_step X.G hb)
     clear HO_311000
     clear HO_316000
     clear HO_321001
     clear HO_330000
     clear HO333
     clear BK289
     clear BK290
     clear BK291
     clear BK310
     clear BK315
     clear BK320
     clear BK329
     clear HB
     have HO_311000 := n0_
     have HO_316000 := n1_
     have HO_321001 := n2_
     have HO_330000 := n3_
     have HO333 := n4_
     have BK289 := n5_
     have BK290 := n6_
     have BK291 := n7_
     have BK310 := n8_
     have BK315 := n9_
     have BK320 := n10_
     have BK329 := n11_
     have HB := n12_
     clear n0_ n1_ n2_ n3_ n4_ n5_ n6_ n7_ n8_ n9_ n10_ n11_ n12_
     (try clear hb)
     (try clear hb2)
     (try clear hk)
     (try clear hi)
     refine hK.out _ _ ⟨(blk_cell BK315.out 0).trans rfl, (blk_cell BK315.out 1).trans rfl, (blk_cell BK290.out 0).trans rfl, (blk_cell BK290.out 1).trans rfl⟩ (fun hHeld => ?_)
     clear hK K
     refine norm_ (a' := ?_) ?_ ?_
     rotate_left
     ·show Act.put _ (some 63) _ = _
      simp only [Act.put, List.setIfInBounds_toArray, List.set_cons_zero, List.set_cons_succ, i64_w, i32_w]
      rfl
     refine pure_ (i := 4) (N := some 64) (v := ?_) (a' := ?_) #[true, true, true, true, true] rfl rfl (by kernel_rfl) (fun _ _ _ h => h) (Or.inl ⟨by rfl, ?_⟩) ?_ ?_
     rotate_left
     ·intro w'
      go_simp
      with_reducible rfl
     rotate_left
     ·exact X.Pu
     refine done_ (by kernel_rfl) ?_
     try go_wp2
     go_ret
     exact ⟨by first | rfl | (simp [errW_none, errW_some] <;> rfl) | (simp [*, errW_none, errW_some] <;> rfl), X.G⟩

end Go.Proofs.Ytjllgibfcnkgpaf.Q
