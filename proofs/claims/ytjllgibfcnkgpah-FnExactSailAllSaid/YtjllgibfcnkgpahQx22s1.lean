import Derived.Test.YtjllgibfcnkgpahXShort
import Derived.Test.YtjllgibfcnkgpahQx0
import Derived.Test.YtjllgibfcnkgpahQx1
import Derived.Test.YtjllgibfcnkgpahQx5
import Derived.Test.YtjllgibfcnkgpahQx6
import Derived.Test.YtjllgibfcnkgpahQx18
import Derived.Test.YtjllgibfcnkgpahQx19
import Derived.Test.YtjllgibfcnkgpahQx20
import Derived.Test.YtjllgibfcnkgpahQx21
import Derived.Test.YtjllgibfcnkgpahXMark
import Derived.Test.YtjllgibfcnkgpahQx22s0
-- by wip/xprint.py, a program of this session over the kit's print: not trusted, Lean checks it.
namespace Go.Proofs.Ytjllgibfcnkgpah.Q
open Go.RowKit Go.Proofs.YtjllgibfcnkgpahW.PrintWords Go.Proofs.YtjllgibfcnkgpahW.PrintLast Go.Proofs.YtjllgibfcnkgpahW.PrintMore
attribute [local go_sem] max2_int min2_int max_two min_two max_three min_three max_four min_four   -- for this text's walks alone
set_option linter.unusedVariables false
set_option linter.unusedSimpArgs false

set_option maxHeartbeats 8000000 in
set_option maxRecDepth 100000 in
theorem laws_FnExactSailAll.callsB : laws_FnExactSailAll.callsA.P := by
  intro k a0_0 a0_1 a0_2 A1_0 c1_0 l1_0 a1_1 A2 c2 l2 w hu23 hu26 hu30 HR1_0 HC1_0 HR2 HC2 t329 A4 c5b0 t330 A11 c12b0 t331 t332 t333 A19 t334 t337 A20 t338 A21 t341 t344 t345 A22 t347 t350 A23 t352 A24 t355 t356 t357 A25 t358 t361 t362 A26 A27 c29b0 c29b1 c29b2 t365 t368 A30 A31 t370 A33 A34 t374 t375 A36 t376 t377 A37 c38b0 A39 t379 t380 A41 t381 A42 c43b0 c44b0 c44b1 t382 t383 t384 A45 t385 t388 A46 t389 A47 t392 t395 t396 A48 A49 c51b0 c51b1 c51b2 t399 A52 c53b0 c54b0 c54b1 Q' gb327 w55 GW327 GE327 gb328 w56 GW328 GE328 NB327_328 NB328_327 hnb57 hnc57 hcz58_0 hcz58_1 hfz58_0 hfz58_1 w59 w60 H HT__1 HW__1 w61 hHeld_1 v335 v339 gb346 w69 hS__1 GW346 GE346 NB327_346 NB346_327 NB328_346 NB346_328 hHeld_2 Ao70 co70 hs71 hfs71 hns71_0 hns71_1 hms71_0 hms71_1 hs72 hfs72 hns72_0 hns72_1 hms72_0 hms72_1 hHeld_3 hnb73 hnc73 hcz74_0 hcz74_1 hfz74_0 hfz74_1 w75 gb351 w76 GW351 GE351 NB327_351 NB351_327 NB328_351 NB351_328 NB346_351 NB351_346 Ao77 co77 hnb78 hnc78 hnb79 hnc79 hnb80 hnc80 hcz81_0 hcz81_1 hfz81_0 hfz81_1 w82 nb83 hnb83 Ao84 co84 HT_ HW_ w85 hHeld_4 gb363 w89 hS_ GW363 GE363 NB327_363 NB363_327 NB328_363 NB363_328 NB346_363 NB363_346 NB351_363 NB363_351 hHeld_5 Ao90 co90 hs91 hfs91 hns91_0 hns91_1 hns91_2 hns91_3 hms91_0 hms91_1 hms91_2 hms91_3 hs92 hfs92 hns92_0 hns92_1 hns92_2 hns92_3 hms92_0 hms92_1 hms92_2 hms92_3 hHeld_6 hnb93 hnc93 hnb94 hnc94 hnb95 hnc95 hnb96 hnc96 hcz97_0 hcz97_1 hfz97_0 hfz97_1 hnb98 hnc98 hcz99_0 hcz99_1 hfz99_0 hfz99_1 w100 K h K_1 h_1 w101 hHeld_7 w102 Ao103 co103 hHeld_8 w104 HO336 HO340 HO343 HO349 HO354 HO360 HO367 BK327 BK328 BK346 BK351 BK363 HB hHeld
  try go_wp2_with (first | ((with_reducible refine gate_callee (f := 9) rfl ?_); refine goesL_ (some 67) rfl rfl Try.func9 (by kernel_rfl) rfl #[.slice A2 l2.length c2] rfl X.M ?_; (with_reducible refine (laws_toVoyageS.calls k _ _ l2 t370 _ ?side1 ?side2 A33.out).mono ?_); (case side1 => exact X.C (Kd.C_below HR2.out HB.out)); (case side2 => exact HC2.out); rintro e w105 ⟨v371, rfl, ho0, hb⟩; refine ⟨_, rfl, ?_⟩; obtain ⟨nb106, hnb106⟩ := X.nb_of hb; have n0_ := X.A (Kd.R_below (X.K HO336) hb); have n1_ := X.A (Kd.S_elder' ((X.S_ltb hnb106 (X.L HO340))) (Kd.S_base ho0) hb); have n2_ := X.A (Kd.R_below (X.K HO343) hb); have n3_ := X.A (Kd.R_below (X.K HO349) hb); have n4_ := X.A (Kd.S_elder' ((X.S_ltb hnb106 (X.L HO354))) (Kd.S_base ho0) hb); have n5_ := X.A (Kd.R_below (X.K HO360) hb); have n6_ := X.A (Kd.R_below (X.K HO367) hb); have n7_ := X.A (Kd.S_lower (Kd.S_new' (Kd.S_new' (Kd.S_new' (Kd.S_new' (Kd.S_new' (Kd.S_new' (Kd.S_new' (X.S_geb hnb106 ho0) (Kd.R_lt (X.K HO336))) (Kd.S_lt (X.L HO340))) (Kd.R_lt (X.K HO343))) (Kd.R_lt (X.K HO349))) (Kd.S_lt (X.L HO354))) (Kd.R_lt (X.K HO360))) (Kd.R_lt (X.K HO367))) (below_size X.G)); have n8_ := X.A (X.BB BK327 hb); have n9_ := X.A (X.BB BK328 hb); have n10_ := X.A (X.BB BK346 hb); have n11_ := X.A (X.BB BK351 hb); have n12_ := X.A (X.BB BK363 hb); have n13_ := X.A (below_step X.G hb); clear HO336 HO340 HO343 HO349 HO354 HO360 HO367 BK327 BK328 BK346 BK351 BK363 HB; have HO336 := n0_; have HO340 := n1_; have HO343 := n2_; have HO349 := n3_; have HO354 := n4_; have HO360 := n5_; have HO367 := n6_; have HO372 := n7_; have BK327 := n8_; have BK328 := n9_; have BK346 := n10_; have BK351 := n11_; have BK363 := n12_; have HB := n13_; clear n0_ n1_ n2_ n3_ n4_ n5_ n6_ n7_ n8_ n9_ n10_ n11_ n12_ n13_; (try clear hb); (try clear hb2); (try clear hk); (try clear hi); (try clear ho0); obtain ⟨Ao107, co107, eo107⟩ := Kd.S_slice HO372.out; subst eo107) | ((with_reducible refine gate_callee (f := 12) rfl ?_); refine goesL_ (some 68) rfl rfl Try.func12 (by kernel_rfl) rfl #[.slice Ao84 t352.length co84, .slice Ao107 t370.length co107] rfl X.M ?_; (with_reducible refine (laws_eqVoyageS.calls k _ _ t352 _ _ t370 true _ ?side1 ?side2 ?side3 ?side4 A34.out).mono ?_); (case side1 => exact X.C (Kd.S_reads' HO354.out).2.2); (case side2 => exact (Kd.S_reads' HO354.out).2.1); (case side3 => exact X.C (Kd.S_reads' HO372.out).2.2); (case side4 => exact (Kd.S_reads' HO372.out).2.1); rintro e w108 ⟨rfl, hb⟩; refine ⟨_, rfl, ?_⟩; have n0_ := X.A (Kd.R_below (X.K HO336) hb); have n1_ := X.A (Kd.S_below (X.L HO340) hb); have n2_ := X.A (Kd.R_below (X.K HO343) hb); have n3_ := X.A (Kd.R_below (X.K HO349) hb); have n4_ := X.A (Kd.S_below (X.L HO354) hb); have n5_ := X.A (Kd.R_below (X.K HO360) hb); have n6_ := X.A (Kd.R_below (X.K HO367) hb); have n7_ := X.A (Kd.S_below (X.L HO372) hb); have n8_ := X.A (X.BB BK327 hb); have n9_ := X.A (X.BB BK328 hb); have n10_ := X.A (X.BB BK346 hb); have n11_ := X.A (X.BB BK351 hb); have n12_ := X.A (X.BB BK363 hb); have n13_ := X.A (below_step X.G hb); clear HO336 HO340 HO343 HO349 HO354 HO360 HO367 HO372 BK327 BK328 BK346 BK351 BK363 HB; have HO336 := n0_; have HO340 := n1_; have HO343 := n2_; have HO349 := n3_; have HO354 := n4_; have HO360 := n5_; have HO367 := n6_; have HO372 := n7_; have BK327 := n8_; have BK328 := n9_; have BK346 := n10_; have BK351 := n11_; have BK363 := n12_; have HB := n13_; clear n0_ n1_ n2_ n3_ n4_ n5_ n6_ n7_ n8_ n9_ n10_ n11_ n12_ n13_; (try clear hb); (try clear hb2); (try clear hk); (try clear hi); have hcz109_0 : w108.cell? ⟨gb351, 0, none⟩ = some (.slice Ao77 t347.length co77) := (blk_cell BK351.out 0).trans rfl; have hcz109_1 : w108.cell? ⟨gb351, 1, none⟩ = some (.int .i64 t350) := (blk_cell BK351.out 1).trans rfl; have hfz109_0 := blk_frozen BK351.out 0; have hfz109_1 := blk_frozen BK351.out 1) | ((with_reducible refine gate_callee (f := 13) rfl ?_); refine goesL_ (some 72) rfl rfl Try.func13 (by kernel_rfl) rfl #[.agg #[.slice Ao77 t347.length co77, .int .i64 t350], .int .i64 1] rfl X.M ?_; (with_reducible refine (laws_markPlaces.calls k (fun k_ => some k_ = (.slice Ao77 t347.length co77 : Value).ownBlock) (.slice Ao77 t347.length co77) t347 t350 1 t374 t375 w _ ?side1 ?side2 A36.out).mono ?_); (case side1 => repeat (first | (with_reducible first | exact HB.out | apply below_alloc | apply pw_below_drewN | apply below_drew1 | refine below_set ?_ GE327.out | refine below_set ?_ GE328.out | refine below_set ?_ GE346.out | refine below_set ?_ GE351.out | refine below_set ?_ GE363.out) | exact HB.out)); (case side2 => exact Kd.R_tight rfl HO349.out); rintro e w110 ⟨rfl, hy0, hb, hkp⟩; refine ⟨_, rfl, ?_⟩; have n0_ := X.A (blk_kept (X.B BK327) hkp (fun hs_ => (fun e_ => (Kd.R_ne HO349.out BK327.out (by decide)) e_) hs_)); have n1_ := X.A (blk_kept (X.B BK328) hkp (fun hs_ => (fun e_ => (Kd.R_ne HO349.out BK328.out (by decide)) e_) hs_)); have n2_ := X.A (Kd.R_mono (ok' := fun k_ => some k_ ≠ (.slice Ao70 t341.length co70 : Value).ownBlock ∧ some k_ ≠ (.slice Ao77 t347.length co77 : Value).ownBlock ∧ some k_ ≠ (.slice Ao90 t358.length co90 : Value).ownBlock ∧ some k_ ≠ (.slice Ao103 t365.length co103 : Value).ownBlock) (Kd.R_keptB (HO336.out) hkp (fun k_ hk_ hs_ => (hk_.1.2.1) hs_)) (fun k_ hk_ => ⟨hk_.1.1.1, hk_.1.1.2.1, hk_.1.1.2.2, hk_.1.2⟩)); have n3_ := X.A (Kd.S_mono (ok' := fun k_ => some k_ ≠ (v335 : Value).ownBlock ∧ some k_ ≠ (.slice Ao70 t341.length co70 : Value).ownBlock ∧ some k_ ≠ (.slice Ao77 t347.length co77 : Value).ownBlock ∧ some k_ ≠ (.slice Ao84 t352.length co84 : Value).ownBlock ∧ some k_ ≠ (.slice Ao90 t358.length co90 : Value).ownBlock ∧ some k_ ≠ (.slice Ao103 t365.length co103 : Value).ownBlock ∧ some k_ ≠ (.slice Ao107 t370.length co107 : Value).ownBlock ∧ k_ < nb83 ∧ k_ < nb106) (Kd.S_keptB (HO340.out) hkp (fun k_ hk_ hs_ => (hk_.1.1.1.2.2.1) hs_)) (fun k_ hk_ => ⟨hk_.1.1.1.1.1, hk_.1.1.1.1.2.1, hk_.1.1.1.1.2.2.1, hk_.1.1.1.1.2.2.2.1, hk_.1.1.1.1.2.2.2.2.1, hk_.1.1.1.2, hk_.1.2, hk_.1.1.1.1.2.2.2.2.2, hk_.1.1.2⟩)); have n4_ := X.A (Kd.R_mono (ok' := fun k_ => some k_ ≠ (v335 : Value).ownBlock ∧ some k_ ≠ (.slice Ao77 t347.length co77 : Value).ownBlock ∧ some k_ ≠ (.slice Ao90 t358.length co90 : Value).ownBlock ∧ some k_ ≠ (.slice Ao103 t365.length co103 : Value).ownBlock) (Kd.R_keptB (HO343.out) hkp (fun k_ hk_ hs_ => (hk_.1.2.1) hs_)) (fun k_ hk_ => ⟨hk_.1.1.1, hk_.1.1.2.1, hk_.1.1.2.2, hk_.1.2⟩)); have n5_ := X.A (blk_kept (X.B BK346) hkp (fun hs_ => (fun e_ => (Kd.R_ne HO349.out BK346.out (by decide)) e_) hs_)); have n6_ := X.A (Kd.R_reok rfl hy0 (fun k_ e_ => HO349.out.1 k_ e_)); have n7_ := X.A (blk_kept (X.B BK351) hkp (fun hs_ => (fun e_ => (Kd.R_ne HO349.out BK351.out (by decide)) e_) hs_)); have n8_ := X.A (Kd.S_mono (ok' := fun k_ => some k_ ≠ (v335 : Value).ownBlock ∧ some k_ ≠ (v339 : Value).ownBlock ∧ some k_ ≠ (.slice Ao70 t341.length co70 : Value).ownBlock ∧ some k_ ≠ (.slice Ao77 t347.length co77 : Value).ownBlock ∧ some k_ ≠ (.slice Ao90 t358.length co90 : Value).ownBlock ∧ some k_ ≠ (.slice Ao103 t365.length co103 : Value).ownBlock ∧ some k_ ≠ (.slice Ao107 t370.length co107 : Value).ownBlock ∧ nb83 ≤ k_ ∧ k_ < nb106) (Kd.S_keptB (HO354.out) hkp (fun k_ hk_ hs_ => (hk_.1.1.1.2.2.2.1) hs_)) (fun k_ hk_ => ⟨hk_.1.1.1.1.1, hk_.1.1.1.1.2.1, hk_.1.1.1.1.2.2.1, hk_.1.1.1.1.2.2.2.1, hk_.1.1.1.1.2.2.2.2.1, hk_.1.1.1.2, hk_.1.2, hk_.1.1.1.1.2.2.2.2.2, hk_.1.1.2⟩)); have n9_ := X.A (Kd.R_mono (ok' := fun k_ => some k_ ≠ (v335 : Value).ownBlock ∧ some k_ ≠ (.slice Ao70 t341.length co70 : Value).ownBlock ∧ some k_ ≠ (.slice Ao77 t347.length co77 : Value).ownBlock ∧ some k_ ≠ (.slice Ao103 t365.length co103 : Value).ownBlock) (Kd.R_keptB (HO360.out) hkp (fun k_ hk_ hs_ => (hk_.1.2.2) hs_)) (fun k_ hk_ => ⟨hk_.1.1.1, hk_.1.1.2.1, hk_.1.1.2.2, hk_.1.2⟩)); have n10_ := X.A (blk_kept (X.B BK363) hkp (fun hs_ => (fun e_ => (Kd.R_ne HO349.out BK363.out (by decide)) e_) hs_)); have n11_ := X.A (Kd.R_mono (ok' := fun k_ => some k_ ≠ (v335 : Value).ownBlock ∧ some k_ ≠ (.slice Ao70 t341.length co70 : Value).ownBlock ∧ some k_ ≠ (.slice Ao77 t347.length co77 : Value).ownBlock ∧ some k_ ≠ (.slice Ao90 t358.length co90 : Value).ownBlock) (Kd.R_keptB (HO367.out) hkp (fun k_ hk_ hs_ => (hk_.1.2) hs_)) (fun k_ hk_ => ⟨hk_.1.1.1.1.2, hk_.1.1.1.2, hk_.1.1.2, hk_.1.2⟩)); have n12_ := X.A (Kd.S_mono (ok' := fun k_ => some k_ ≠ (v335 : Value).ownBlock ∧ some k_ ≠ (v339 : Value).ownBlock ∧ some k_ ≠ (.slice Ao70 t341.length co70 : Value).ownBlock ∧ some k_ ≠ (.slice Ao77 t347.length co77 : Value).ownBlock ∧ some k_ ≠ (.slice Ao84 t352.length co84 : Value).ownBlock ∧ some k_ ≠ (.slice Ao90 t358.length co90 : Value).ownBlock ∧ some k_ ≠ (.slice Ao103 t365.length co103 : Value).ownBlock ∧ nb106 ≤ k_) (Kd.S_keptB (HO372.out) hkp (fun k_ hk_ hs_ => (hk_.1.1.1.2) hs_)) (fun k_ hk_ => ⟨hk_.1.1.1.1.1.1.1.2, hk_.1.1.1.1.1.1.2, hk_.1.1.1.1.1.2, hk_.1.1.1.1.2, hk_.1.1.1.2, hk_.1.1.2, hk_.1.2, hk_.1.1.1.1.1.1.1.1.2⟩)); have n13_ := X.A (hb); clear BK327 BK328 HO336 HO340 HO343 BK346 HO349 BK351 HO354 HO360 BK363 HO367 HO372 HB; have BK327 := n0_; have BK328 := n1_; have HO336 := n2_; have HO340 := n3_; have HO343 := n4_; have BK346 := n5_; have HO349 := n6_; have BK351 := n7_; have HO354 := n8_; have HO360 := n9_; have BK363 := n10_; have HO367 := n11_; have HO372 := n12_; have HB := n13_; clear n0_ n1_ n2_ n3_ n4_ n5_ n6_ n7_ n8_ n9_ n10_ n11_ n12_ n13_; (try clear hb); (try clear hkp); (try clear hy0); obtain ⟨PPHO354, hpp_, hpq_⟩ := X.S_given HO354.out; clear HO354; have HO354 := X.A hpp_; have PQHO354 := X.A hpq_; clear hpp_ hpq_; have NPHO354_327 := X.A (X.box_sepE BK327.out (fun k_ hp_ => (PQHO354.out k_ hp_).2.2.2) (by decide)); have NPHO354_328 := X.A (X.box_sepE BK328.out (fun k_ hp_ => (PQHO354.out k_ hp_).2.2.2) (by decide)); have n_ := X.A (X.R_sepT rfl HO336.out (fun k_ hp_ => (PQHO354.out k_ hp_).1.1)); clear HO336; have HO336 := n_; clear n_; have n_ := X.A (X.S_sep HO340.out (fun k_ h_ hp_ => Nat.not_le.2 h_.2.2.2.2.2.2.2.1 (PQHO354.out k_ hp_).1.2.2.2.2.2.2.2.1)); clear HO340; have HO340 := n_; clear n_; have n_ := X.A (X.R_sepT rfl HO343.out (fun k_ hp_ => (PQHO354.out k_ hp_).1.2.2.1)); clear HO343; have HO343 := n_; clear n_; have NPHO354_346 := X.A (X.box_sepE BK346.out (fun k_ hp_ => (PQHO354.out k_ hp_).2.2.2) (by decide)); have n_ := X.A (X.R_sepT rfl HO349.out (fun k_ hp_ => (PQHO354.out k_ hp_).1.2.2.2.1)); clear HO349; have HO349 := n_; clear n_; have NPHO354_351 := X.A (X.box_sepE BK351.out (fun k_ hp_ => (PQHO354.out k_ hp_).2.2.2) (by decide)); have n_ := X.A (X.R_sepT rfl HO360.out (fun k_ hp_ => (PQHO354.out k_ hp_).1.2.2.2.2.1)); clear HO360; have HO360 := n_; clear n_; have NPHO354_363 := X.A (X.box_sepE BK363.out (fun k_ hp_ => (PQHO354.out k_ hp_).2.2.2) (by decide)); have n_ := X.A (X.R_sepT rfl HO367.out (fun k_ hp_ => (PQHO354.out k_ hp_).1.2.2.2.2.2.1)); clear HO367; have HO367 := n_; clear n_; have n_ := X.A (X.S_sep HO372.out (fun k_ h_ hp_ => Nat.not_le.2 (PQHO354.out k_ hp_).1.2.2.2.2.2.2.2.2 h_.2.2.2.2.2.2.2)); clear HO372; have HO372 := n_; clear n_) | ((with_reducible refine gate_callee (f := 14) rfl ?_); refine goesL_ (some 75) rfl rfl Try.func14 (by kernel_rfl) rfl #[.slice Ao84 t352.length co84, .int .i64 t374] rfl X.M ?_; (with_reducible refine (laws_markVoyageS.calls k PPHO354 (.slice Ao84 t352.length co84) t352 t374 t376 t377 w _ ?side1 ?side2 A37.out).mono ?_); (case side1 => repeat (first | (with_reducible first | exact HB.out | apply below_alloc | apply pw_below_drewN | apply below_drew1 | refine below_set ?_ GE327.out | refine below_set ?_ GE328.out | refine below_set ?_ GE346.out | refine below_set ?_ GE351.out | refine below_set ?_ GE363.out) | exact HB.out)); (case side2 => exact HO354.out); rintro e w111 ⟨rfl, hy0, hb, hkp⟩; refine ⟨_, rfl, ?_⟩; have n0_ := X.A (blk_kept (X.B BK327) hkp (fun hs_ => (fun e_ => NPHO354_327.out e_) hs_)); have n1_ := X.A (blk_kept (X.B BK328) hkp (fun hs_ => (fun e_ => NPHO354_328.out e_) hs_)); have n2_ := X.A (Kd.R_mono (ok' := fun k_ => some k_ ≠ (.slice Ao70 t341.length co70 : Value).ownBlock ∧ some k_ ≠ (.slice Ao77 t347.length co77 : Value).ownBlock ∧ some k_ ≠ (.slice Ao90 t358.length co90 : Value).ownBlock ∧ some k_ ≠ (.slice Ao103 t365.length co103 : Value).ownBlock) (Kd.R_keptB (HO336.out) hkp (fun k_ hk_ hs_ => (hk_.2) hs_)) (fun k_ hk_ => ⟨hk_.1.1.1, hk_.1.1.2.1, hk_.1.1.2.2.1, hk_.1.1.2.2.2⟩)); have n3_ := X.A (Kd.S_mono (ok' := fun k_ => some k_ ≠ (v335 : Value).ownBlock ∧ some k_ ≠ (.slice Ao70 t341.length co70 : Value).ownBlock ∧ some k_ ≠ (.slice Ao77 t347.length co77 : Value).ownBlock ∧ some k_ ≠ (.slice Ao84 t352.length co84 : Value).ownBlock ∧ some k_ ≠ (.slice Ao90 t358.length co90 : Value).ownBlock ∧ some k_ ≠ (.slice Ao103 t365.length co103 : Value).ownBlock ∧ some k_ ≠ (.slice Ao107 t370.length co107 : Value).ownBlock ∧ k_ < nb83 ∧ k_ < nb106) (Kd.S_keptB (HO340.out) hkp (fun k_ hk_ hs_ => (hk_.2) hs_)) (fun k_ hk_ => ⟨hk_.1.1.1, hk_.1.1.2.1, hk_.1.1.2.2.1, hk_.1.1.2.2.2.1, hk_.1.1.2.2.2.2.1, hk_.1.1.2.2.2.2.2.1, hk_.1.1.2.2.2.2.2.2.1, hk_.1.1.2.2.2.2.2.2.2.1, hk_.1.1.2.2.2.2.2.2.2.2⟩)); have n4_ := X.A (Kd.R_mono (ok' := fun k_ => some k_ ≠ (v335 : Value).ownBlock ∧ some k_ ≠ (.slice Ao77 t347.length co77 : Value).ownBlock ∧ some k_ ≠ (.slice Ao90 t358.length co90 : Value).ownBlock ∧ some k_ ≠ (.slice Ao103 t365.length co103 : Value).ownBlock) (Kd.R_keptB (HO343.out) hkp (fun k_ hk_ hs_ => (hk_.2) hs_)) (fun k_ hk_ => ⟨hk_.1.1.1, hk_.1.1.2.1, hk_.1.1.2.2.1, hk_.1.1.2.2.2⟩)); have n5_ := X.A (blk_kept (X.B BK346) hkp (fun hs_ => (fun e_ => NPHO354_346.out e_) hs_)); have n6_ := X.A (Kd.R_mono (ok' := fun k_ => some k_ ≠ (v335 : Value).ownBlock ∧ some k_ ≠ (.slice Ao70 t341.length co70 : Value).ownBlock ∧ some k_ ≠ (.slice Ao90 t358.length co90 : Value).ownBlock ∧ some k_ ≠ (.slice Ao103 t365.length co103 : Value).ownBlock) (Kd.R_keptB (HO349.out) hkp (fun k_ hk_ hs_ => (hk_.2) hs_)) (fun k_ hk_ => ⟨hk_.1.1.1.1, hk_.1.1.1.2.1, hk_.1.1.1.2.2, hk_.1.1.2⟩)); have n7_ := X.A (blk_kept (X.B BK351) hkp (fun hs_ => (fun e_ => NPHO354_351.out e_) hs_)); have n8_ := X.A (Kd.S_mono hy0 (fun k_ h_ => (PQHO354.out k_ h_).1)); have n9_ := X.A (Kd.R_mono (ok' := fun k_ => some k_ ≠ (v335 : Value).ownBlock ∧ some k_ ≠ (.slice Ao70 t341.length co70 : Value).ownBlock ∧ some k_ ≠ (.slice Ao77 t347.length co77 : Value).ownBlock ∧ some k_ ≠ (.slice Ao103 t365.length co103 : Value).ownBlock) (Kd.R_keptB (HO360.out) hkp (fun k_ hk_ hs_ => (hk_.2) hs_)) (fun k_ hk_ => ⟨hk_.1.1.1, hk_.1.1.2.1, hk_.1.1.2.2.1, hk_.1.1.2.2.2⟩)); have n10_ := X.A (blk_kept (X.B BK363) hkp (fun hs_ => (fun e_ => NPHO354_363.out e_) hs_)); have n11_ := X.A (Kd.R_mono (ok' := fun k_ => some k_ ≠ (v335 : Value).ownBlock ∧ some k_ ≠ (.slice Ao70 t341.length co70 : Value).ownBlock ∧ some k_ ≠ (.slice Ao77 t347.length co77 : Value).ownBlock ∧ some k_ ≠ (.slice Ao90 t358.length co90 : Value).ownBlock) (Kd.R_keptB (HO367.out) hkp (fun k_ hk_ hs_ => (hk_.2) hs_)) (fun k_ hk_ => ⟨hk_.1.1.1, hk_.1.1.2.1, hk_.1.1.2.2.1, hk_.1.1.2.2.2⟩)); have n12_ := X.A (Kd.S_mono (ok' := fun k_ => some k_ ≠ (v335 : Value).ownBlock ∧ some k_ ≠ (v339 : Value).ownBlock ∧ some k_ ≠ (.slice Ao70 t341.length co70 : Value).ownBlock ∧ some k_ ≠ (.slice Ao77 t347.length co77 : Value).ownBlock ∧ some k_ ≠ (.slice Ao84 t352.length co84 : Value).ownBlock ∧ some k_ ≠ (.slice Ao90 t358.length co90 : Value).ownBlock ∧ some k_ ≠ (.slice Ao103 t365.length co103 : Value).ownBlock ∧ nb106 ≤ k_) (Kd.S_keptB (HO372.out) hkp (fun k_ hk_ hs_ => (hk_.2) hs_)) (fun k_ hk_ => ⟨hk_.1.1.1, hk_.1.1.2.1, hk_.1.1.2.2.1, hk_.1.1.2.2.2.1, hk_.1.1.2.2.2.2.1, hk_.1.1.2.2.2.2.2.1, hk_.1.1.2.2.2.2.2.2.1, hk_.1.1.2.2.2.2.2.2.2⟩)); have n13_ := X.A (hb); clear BK327 BK328 HO336 HO340 HO343 BK346 HO349 BK351 HO354 HO360 BK363 HO367 HO372 HB; have BK327 := n0_; have BK328 := n1_; have HO336 := n2_; have HO340 := n3_; have HO343 := n4_; have BK346 := n5_; have HO349 := n6_; have BK351 := n7_; have HO354 := n8_; have HO360 := n9_; have BK363 := n10_; have HO367 := n11_; have HO372 := n12_; have HB := n13_; clear n0_ n1_ n2_ n3_ n4_ n5_ n6_ n7_ n8_ n9_ n10_ n11_ n12_ n13_; (try clear hb); (try clear hkp); (try clear hy0); have hcz112_0 : w111.cell? ⟨gb363, 0, none⟩ = some (.slice Ao90 t358.length co90) := (blk_cell BK363.out 0).trans rfl; have hcz112_1 : w111.cell? ⟨gb363, 1, none⟩ = some (.int .i64 t361) := (blk_cell BK363.out 1).trans rfl; have hfz112_0 := blk_frozen BK363.out 0; have hfz112_1 := blk_frozen BK363.out 1; have hcz113_0 : w111.cell? ⟨gb346, 0, none⟩ = some (.slice Ao70 t341.length co70) := (blk_cell BK346.out 0).trans rfl; have hcz113_1 : w111.cell? ⟨gb346, 1, none⟩ = some (.int .i64 t344) := (blk_cell BK346.out 1).trans rfl; have hfz113_0 := blk_frozen BK346.out 0; have hfz113_1 := blk_frozen BK346.out 1) | (go_at_call 11; (with_reducible refine (laws_eqPlaces.calls k _ _ t358 t361 _ _ t341 t344 true _ ?side1 ?side2 ?side3 ?side4 A39.out).mono ?_); (case side1 => exact X.C (Kd.R_reads' HO360.out).2.2); (case side2 => exact (Kd.R_reads' HO360.out).2.1); (case side3 => exact X.C (Kd.R_reads' HO343.out).2.2); (case side4 => exact (Kd.R_reads' HO343.out).2.1); rintro e w114 ⟨rfl, hb⟩; have n0_ := X.A (Kd.R_below (X.K HO336) hb); have n1_ := X.A (Kd.S_below (X.L HO340) hb); have n2_ := X.A (Kd.R_below (X.K HO343) hb); have n3_ := X.A (Kd.R_below (X.K HO349) hb); have n4_ := X.A (Kd.S_below (X.L HO354) hb); have n5_ := X.A (Kd.R_below (X.K HO360) hb); have n6_ := X.A (Kd.R_below (X.K HO367) hb); have n7_ := X.A (Kd.S_below (X.L HO372) hb); have n8_ := X.A (X.BB BK327 hb); have n9_ := X.A (X.BB BK328 hb); have n10_ := X.A (X.BB BK346 hb); have n11_ := X.A (X.BB BK351 hb); have n12_ := X.A (X.BB BK363 hb); have n13_ := X.A (below_step X.G hb); clear HO336 HO340 HO343 HO349 HO354 HO360 HO367 HO372 BK327 BK328 BK346 BK351 BK363 HB; have HO336 := n0_; have HO340 := n1_; have HO343 := n2_; have HO349 := n3_; have HO354 := n4_; have HO360 := n5_; have HO367 := n6_; have HO372 := n7_; have BK327 := n8_; have BK328 := n9_; have BK346 := n10_; have BK351 := n11_; have BK363 := n12_; have HB := n13_; clear n0_ n1_ n2_ n3_ n4_ n5_ n6_ n7_ n8_ n9_ n10_ n11_ n12_ n13_; (try clear hb); (try clear hb2); (try clear hk); (try clear hi); have hcz115_0 : w114.cell? ⟨gb363, 0, none⟩ = some (.slice Ao90 t358.length co90) := (blk_cell BK363.out 0).trans rfl; have hcz115_1 : w114.cell? ⟨gb363, 1, none⟩ = some (.int .i64 t361) := (blk_cell BK363.out 1).trans rfl; have hfz115_0 := blk_frozen BK363.out 0; have hfz115_1 := blk_frozen BK363.out 1) | ((with_reducible refine gate_callee (f := 13) rfl ?_); refine goesL_ (some 91) rfl rfl Try.func13 (by kernel_rfl) rfl #[.agg #[.slice Ao90 t358.length co90, .int .i64 t361], .int .i64 1] rfl X.M ?_; (with_reducible refine (laws_markPlaces.calls k (fun k_ => some k_ = (.slice Ao90 t358.length co90 : Value).ownBlock) (.slice Ao90 t358.length co90) t358 t361 1 t379 t380 w _ ?side1 ?side2 A41.out).mono ?_); (case side1 => repeat (first | (with_reducible first | exact HB.out | apply below_alloc | apply pw_below_drewN | apply below_drew1 | refine below_set ?_ GE327.out | refine below_set ?_ GE328.out | refine below_set ?_ GE346.out | refine below_set ?_ GE351.out | refine below_set ?_ GE363.out) | exact HB.out)); (case side2 => exact Kd.R_tight rfl HO360.out); rintro e w116 ⟨rfl, hy0, hb, hkp⟩; refine ⟨_, rfl, ?_⟩; have n0_ := X.A (blk_kept (X.B BK327) hkp (fun hs_ => (fun e_ => (Kd.R_ne HO360.out BK327.out (by decide)) e_) hs_)); have n1_ := X.A (blk_kept (X.B BK328) hkp (fun hs_ => (fun e_ => (Kd.R_ne HO360.out BK328.out (by decide)) e_) hs_)); have n2_ := X.A (Kd.R_mono (ok' := fun k_ => some k_ ≠ (.slice Ao70 t341.length co70 : Value).ownBlock ∧ some k_ ≠ (.slice Ao77 t347.length co77 : Value).ownBlock ∧ some k_ ≠ (.slice Ao90 t358.length co90 : Value).ownBlock ∧ some k_ ≠ (.slice Ao103 t365.length co103 : Value).ownBlock) (Kd.R_keptB (HO336.out) hkp (fun k_ hk_ hs_ => (hk_.2.2.1) hs_)) (fun k_ hk_ => ⟨hk_.1.1, hk_.1.2.1, hk_.1.2.2.1, hk_.1.2.2.2⟩)); have n3_ := X.A (Kd.S_mono (ok' := fun k_ => some k_ ≠ (v335 : Value).ownBlock ∧ some k_ ≠ (.slice Ao70 t341.length co70 : Value).ownBlock ∧ some k_ ≠ (.slice Ao77 t347.length co77 : Value).ownBlock ∧ some k_ ≠ (.slice Ao84 t352.length co84 : Value).ownBlock ∧ some k_ ≠ (.slice Ao90 t358.length co90 : Value).ownBlock ∧ some k_ ≠ (.slice Ao103 t365.length co103 : Value).ownBlock ∧ some k_ ≠ (.slice Ao107 t370.length co107 : Value).ownBlock ∧ k_ < nb83 ∧ k_ < nb106) (Kd.S_keptB (HO340.out) hkp (fun k_ hk_ hs_ => (hk_.2.2.2.2.1) hs_)) (fun k_ hk_ => ⟨hk_.1.1, hk_.1.2.1, hk_.1.2.2.1, hk_.1.2.2.2.1, hk_.1.2.2.2.2.1, hk_.1.2.2.2.2.2.1, hk_.1.2.2.2.2.2.2.1, hk_.1.2.2.2.2.2.2.2.1, hk_.1.2.2.2.2.2.2.2.2⟩)); have n4_ := X.A (Kd.R_mono (ok' := fun k_ => some k_ ≠ (v335 : Value).ownBlock ∧ some k_ ≠ (.slice Ao77 t347.length co77 : Value).ownBlock ∧ some k_ ≠ (.slice Ao90 t358.length co90 : Value).ownBlock ∧ some k_ ≠ (.slice Ao103 t365.length co103 : Value).ownBlock) (Kd.R_keptB (HO343.out) hkp (fun k_ hk_ hs_ => (hk_.2.2.1) hs_)) (fun k_ hk_ => ⟨hk_.1.1, hk_.1.2.1, hk_.1.2.2.1, hk_.1.2.2.2⟩)); have n5_ := X.A (blk_kept (X.B BK346) hkp (fun hs_ => (fun e_ => (Kd.R_ne HO360.out BK346.out (by decide)) e_) hs_)); have n6_ := X.A (Kd.R_mono (ok' := fun k_ => some k_ ≠ (v335 : Value).ownBlock ∧ some k_ ≠ (.slice Ao70 t341.length co70 : Value).ownBlock ∧ some k_ ≠ (.slice Ao90 t358.length co90 : Value).ownBlock ∧ some k_ ≠ (.slice Ao103 t365.length co103 : Value).ownBlock) (Kd.R_keptB (HO349.out) hkp (fun k_ hk_ hs_ => (hk_.2.2.1) hs_)) (fun k_ hk_ => ⟨hk_.1.1, hk_.1.2.1, hk_.1.2.2.1, hk_.1.2.2.2⟩)); have n7_ := X.A (blk_kept (X.B BK351) hkp (fun hs_ => (fun e_ => (Kd.R_ne HO360.out BK351.out (by decide)) e_) hs_)); have n8_ := X.A (Kd.S_mono (ok' := fun k_ => some k_ ≠ (v335 : Value).ownBlock ∧ some k_ ≠ (v339 : Value).ownBlock ∧ some k_ ≠ (.slice Ao70 t341.length co70 : Value).ownBlock ∧ some k_ ≠ (.slice Ao77 t347.length co77 : Value).ownBlock ∧ some k_ ≠ (.slice Ao90 t358.length co90 : Value).ownBlock ∧ some k_ ≠ (.slice Ao103 t365.length co103 : Value).ownBlock ∧ some k_ ≠ (.slice Ao107 t370.length co107 : Value).ownBlock ∧ nb83 ≤ k_ ∧ k_ < nb106) (Kd.S_keptB (HO354.out) hkp (fun k_ hk_ hs_ => (hk_.2.2.2.2.1) hs_)) (fun k_ hk_ => ⟨hk_.1.1, hk_.1.2.1, hk_.1.2.2.1, hk_.1.2.2.2.1, hk_.1.2.2.2.2.1, hk_.1.2.2.2.2.2.1, hk_.1.2.2.2.2.2.2.1, hk_.1.2.2.2.2.2.2.2.1, hk_.1.2.2.2.2.2.2.2.2⟩)); have n9_ := X.A (Kd.R_reok rfl hy0 (fun k_ e_ => HO360.out.1 k_ e_)); have n10_ := X.A (blk_kept (X.B BK363) hkp (fun hs_ => (fun e_ => (Kd.R_ne HO360.out BK363.out (by decide)) e_) hs_)); have n11_ := X.A (Kd.R_mono (ok' := fun k_ => some k_ ≠ (v335 : Value).ownBlock ∧ some k_ ≠ (.slice Ao70 t341.length co70 : Value).ownBlock ∧ some k_ ≠ (.slice Ao77 t347.length co77 : Value).ownBlock ∧ some k_ ≠ (.slice Ao90 t358.length co90 : Value).ownBlock) (Kd.R_keptB (HO367.out) hkp (fun k_ hk_ hs_ => (hk_.2.2.2) hs_)) (fun k_ hk_ => ⟨hk_.1.1, hk_.1.2.1, hk_.1.2.2.1, hk_.1.2.2.2⟩)); have n12_ := X.A (Kd.S_mono (ok' := fun k_ => some k_ ≠ (v335 : Value).ownBlock ∧ some k_ ≠ (v339 : Value).ownBlock ∧ some k_ ≠ (.slice Ao70 t341.length co70 : Value).ownBlock ∧ some k_ ≠ (.slice Ao77 t347.length co77 : Value).ownBlock ∧ some k_ ≠ (.slice Ao84 t352.length co84 : Value).ownBlock ∧ some k_ ≠ (.slice Ao90 t358.length co90 : Value).ownBlock ∧ some k_ ≠ (.slice Ao103 t365.length co103 : Value).ownBlock ∧ nb106 ≤ k_) (Kd.S_keptB (HO372.out) hkp (fun k_ hk_ hs_ => (hk_.2.2.2.2.2.1) hs_)) (fun k_ hk_ => ⟨hk_.1.1, hk_.1.2.1, hk_.1.2.2.1, hk_.1.2.2.2.1, hk_.1.2.2.2.2.1, hk_.1.2.2.2.2.2.1, hk_.1.2.2.2.2.2.2.1, hk_.1.2.2.2.2.2.2.2⟩)); have n13_ := X.A (hb); clear BK327 BK328 HO336 HO340 HO343 BK346 HO349 BK351 HO354 HO360 BK363 HO367 HO372 HB; have BK327 := n0_; have BK328 := n1_; have HO336 := n2_; have HO340 := n3_; have HO343 := n4_; have BK346 := n5_; have HO349 := n6_; have BK351 := n7_; have HO354 := n8_; have HO360 := n9_; have BK363 := n10_; have HO367 := n11_; have HO372 := n12_; have HB := n13_; clear n0_ n1_ n2_ n3_ n4_ n5_ n6_ n7_ n8_ n9_ n10_ n11_ n12_ n13_; (try clear hb); (try clear hkp); (try clear hy0); have hcz117_0 : w116.cell? ⟨gb363, 0, none⟩ = some (.slice Ao90 t358.length co90) := (blk_cell BK363.out 0).trans rfl; have hcz117_1 : w116.cell? ⟨gb363, 1, none⟩ = some (.int .i64 t361) := (blk_cell BK363.out 1).trans rfl; have hfz117_0 := blk_frozen BK363.out 0; have hfz117_1 := blk_frozen BK363.out 1) | ((with_reducible refine gate_callee (f := 15) rfl ?_); refine goesL_ (some 94) rfl rfl Try.func15 (by kernel_rfl) rfl #[.agg #[.slice Ao90 t380.length co90, .int .i64 t361], .int .i64 1] rfl (by (try simp only [List.map_toArray, List.map_cons, List.map_nil]); first | done | (rw [show t380.length = t358.length from (Kd.R_reads' HO360.out).1.symm] <;> rfl) | rfl | (simp only [List.length_drop, List.length_take]; rfl)) ?_; (with_reducible refine (laws_heldPlaces.calls k _ _ t380 t361 1 t381 _ ?side1 ?side2 A42.out).mono ?_); (case side1 => exact X.C (Kd.R_reads' HO360.out).2.2); (case side2 => rw [show t380.length = t358.length from (Kd.R_reads' HO360.out).1.symm]; exact (Kd.R_reads' HO360.out).2.1); rintro e w118 ⟨rfl, hb⟩; refine ⟨_, rfl, ?_⟩; have n0_ := X.A (Kd.R_below (X.K HO336) hb); have n1_ := X.A (Kd.S_below (X.L HO340) hb); have n2_ := X.A (Kd.R_below (X.K HO343) hb); have n3_ := X.A (Kd.R_below (X.K HO349) hb); have n4_ := X.A (Kd.S_below (X.L HO354) hb); have n5_ := X.A (Kd.R_below (X.K HO360) hb); have n6_ := X.A (Kd.R_below (X.K HO367) hb); have n7_ := X.A (Kd.S_below (X.L HO372) hb); have n8_ := X.A (X.BB BK327 hb); have n9_ := X.A (X.BB BK328 hb); have n10_ := X.A (X.BB BK346 hb); have n11_ := X.A (X.BB BK351 hb); have n12_ := X.A (X.BB BK363 hb); have n13_ := X.A (below_step X.G hb); clear HO336 HO340 HO343 HO349 HO354 HO360 HO367 HO372 BK327 BK328 BK346 BK351 BK363 HB; have HO336 := n0_; have HO340 := n1_; have HO343 := n2_; have HO349 := n3_; have HO354 := n4_; have HO360 := n5_; have HO367 := n6_; have HO372 := n7_; have BK327 := n8_; have BK328 := n9_; have BK346 := n10_; have BK351 := n11_; have BK363 := n12_; have HB := n13_; clear n0_ n1_ n2_ n3_ n4_ n5_ n6_ n7_ n8_ n9_ n10_ n11_ n12_ n13_; (try clear hb); (try clear hb2); (try clear hk); (try clear hi)))
  have n0_ := X.A (Kd.R_drew HO336.out)
  have n1_ := X.A (Kd.S_drew HO340.out)
  have n2_ := X.A (Kd.R_drew HO343.out)
  have n3_ := X.A (Kd.R_drew HO349.out)
  have n4_ := X.A (Kd.S_drew HO354.out)
  have n5_ := X.A (Kd.R_drew HO360.out)
  have n6_ := X.A (Kd.R_drew HO367.out)
  have n7_ := X.A (Kd.S_drew HO372.out)
  have n8_ := X.A (blk_drew BK327.out)
  have n9_ := X.A (blk_drew BK328.out)
  have n10_ := X.A (blk_drew BK346.out)
  have n11_ := X.A (blk_drew BK351.out)
  have n12_ := X.A (blk_drew BK363.out)
  have n13_ := X.A (below_drew1 HB.out)
  clear HO336 HO340 HO343 HO349 HO354 HO360 HO367 HO372 BK327 BK328 BK346 BK351 BK363 HB
  have HO336 := n0_
  have HO340 := n1_
  have HO343 := n2_
  have HO349 := n3_
  have HO354 := n4_
  have HO360 := n5_
  have HO367 := n6_
  have HO372 := n7_
  have BK327 := n8_
  have BK328 := n9_
  have BK346 := n10_
  have BK351 := n11_
  have BK363 := n12_
  have HB := n13_
  clear n0_ n1_ n2_ n3_ n4_ n5_ n6_ n7_ n8_ n9_ n10_ n11_ n12_ n13_
  refine start_ (n := 13) (S := fun w' => w'.cell? ⟨gb327, 0, none⟩ = some (.int .i64 a0_0) ∧ w'.cell? ⟨gb327, 1, none⟩ = some (.int .i64 a0_1) ∧ w'.cell? ⟨gb327, 2, none⟩ = some (.int .i64 a0_2) ∧ w'.cell? ⟨gb328, 0, none⟩ = some (.slice A1_0 l1_0.length c1_0) ∧ w'.cell? ⟨gb328, 1, none⟩ = some (.int .i64 a1_1)) (ds := []) #[false, false, false, false, false, false, false, false, false, false, false, false, false] (by kernel_rfl) rfl rfl ⟨(blk_cell BK327.out 0).trans rfl, (blk_cell BK327.out 1).trans rfl, (blk_cell BK327.out 2).trans rfl, (blk_cell BK328.out 0).trans rfl, (blk_cell BK328.out 1).trans rfl⟩ (fun hHeld => ?_); refine with_tabW laws_FnExactSailAll.tab31 laws_FnExactSailAll.bits31 (fun HT_ HW_ => ?_)
  generalize w118.drew = w119 at HO336 HO340 HO343 HO349 HO354 HO360 HO367 HO372 BK327 BK328 BK346 BK351 BK363 HB hHeld ⊢
  refine pure_ (i := 4) (N := some 105) (v := ?_) (a' := ?_) #[false, false, false, false, true, false, false, false, false, false, false, false, false] rfl rfl (any_of HT_.out (by kernel_rfl)) (fun _ _ _ h => h) (Or.inl ⟨by rfl, ?_⟩) ?_ ?_
  rotate_left
  ·intro w'
   go_simp
   with_reducible rfl
  rotate_left
  ·exact X.Pu
  refine take_ (i := 0) (N := some 101) (v := ?_) (a' := ?_) #[true, false, false, false, true, false, false, false, false, false, false, false, false] rfl rfl (take_ofW HT_.out HW_.out (by kernel_rfl)) (fun _ _ _ h => h) (Or.inl ⟨by rfl, ?_⟩) hHeld ?_ ?_
  rotate_left
  ·rintro w' ⟨s0, s1, s2, s3, s4⟩
   go_simp
   with_reducible rfl
  rotate_left
  ·exact X.Pu
  refine take_ (i := 2) (N := some 103) (v := ?_) (a' := ?_) #[true, false, true, false, true, false, false, false, false, false, false, false, false] rfl rfl (take_ofW HT_.out HW_.out (by kernel_rfl)) (fun _ _ _ h => h) (Or.inl ⟨by rfl, ?_⟩) hHeld ?_ ?_
  rotate_left
  ·rintro w' ⟨s0, s1, s2, s3, s4⟩
   go_simp
   with_reducible rfl
  rotate_left
  ·exact X.Pu
  refine join_ (σ := Value × Value × Value × Nat) 2 #[true, true, true, true, true, true, true, true, true, true, true, false, false] (fun s_ => [(102, .agg #[.int .i64 t382, .int .i64 t383, .int .i64 t384]), (104, .agg #[s_.1, .int .i64 t388]), (106, s_.2.1), (107, .tuple #[.agg #[s_.2.2.1, .int .i64 t395], .bool t396]), (17, .pointer (some ⟨s_.2.2.2, 0, none⟩)), (100, .tuple #[.agg #[s_.2.2.1, .int .i64 t395], .bool t396]), (108, .agg #[s_.2.2.1, .int .i64 t395]), (109, .bool t396)]) (fun s_ w' => (w'.cell? ⟨gb327, 0, none⟩ = some (.int .i64 a0_0) ∧ w'.cell? ⟨gb327, 1, none⟩ = some (.int .i64 a0_1) ∧ w'.cell? ⟨gb327, 2, none⟩ = some (.int .i64 a0_2) ∧ w'.cell? ⟨gb328, 0, none⟩ = some (.slice A1_0 l1_0.length c1_0) ∧ w'.cell? ⟨gb328, 1, none⟩ = some (.int .i64 a1_1)) ∧ (Kd.R (Kd.int .i64) 3 w' w.heap.size (fun k_ => some k_ ≠ (.slice Ao70 t341.length co70 : Value).ownBlock ∧ some k_ ≠ (.slice Ao77 t347.length co77 : Value).ownBlock ∧ some k_ ≠ (.slice Ao90 t358.length co90 : Value).ownBlock ∧ some k_ ≠ (.slice Ao103 t365.length co103 : Value).ownBlock ∧ some k_ ≠ (s_.1 : Value).ownBlock ∧ some k_ ≠ (s_.2.2.1 : Value).ownBlock) v335 t334) ∧ (Kd.S k51 51 w' w.heap.size (fun k_ => some k_ ≠ (v335 : Value).ownBlock ∧ some k_ ≠ (.slice Ao70 t341.length co70 : Value).ownBlock ∧ some k_ ≠ (.slice Ao77 t347.length co77 : Value).ownBlock ∧ some k_ ≠ (.slice Ao84 t352.length co84 : Value).ownBlock ∧ some k_ ≠ (.slice Ao90 t358.length co90 : Value).ownBlock ∧ some k_ ≠ (.slice Ao103 t365.length co103 : Value).ownBlock ∧ some k_ ≠ (.slice Ao107 t370.length co107 : Value).ownBlock ∧ some k_ ≠ (s_.1 : Value).ownBlock ∧ some k_ ≠ (s_.2.1 : Value).ownBlock ∧ some k_ ≠ (s_.2.2.1 : Value).ownBlock ∧ k_ < nb106 ∧ k_ < nb83) v339 t338) ∧ (Kd.R (Kd.int .i64) 3 w' w.heap.size (fun k_ => some k_ ≠ (v335 : Value).ownBlock ∧ some k_ ≠ (.slice Ao77 t347.length co77 : Value).ownBlock ∧ some k_ ≠ (.slice Ao90 t358.length co90 : Value).ownBlock ∧ some k_ ≠ (.slice Ao103 t365.length co103 : Value).ownBlock ∧ some k_ ≠ (s_.1 : Value).ownBlock ∧ some k_ ≠ (s_.2.2.1 : Value).ownBlock) (.slice Ao70 t341.length co70) t341) ∧ (Kd.R (Kd.int .i64) 3 w' w.heap.size (fun k_ => some k_ ≠ (v335 : Value).ownBlock ∧ some k_ ≠ (.slice Ao70 t341.length co70 : Value).ownBlock ∧ some k_ ≠ (.slice Ao90 t358.length co90 : Value).ownBlock ∧ some k_ ≠ (.slice Ao103 t365.length co103 : Value).ownBlock ∧ some k_ ≠ (s_.1 : Value).ownBlock ∧ some k_ ≠ (s_.2.2.1 : Value).ownBlock) (.slice Ao77 t347.length co77) t375) ∧ (Kd.S k51 51 w' w.heap.size (fun k_ => some k_ ≠ (v335 : Value).ownBlock ∧ some k_ ≠ (v339 : Value).ownBlock ∧ some k_ ≠ (.slice Ao70 t341.length co70 : Value).ownBlock ∧ some k_ ≠ (.slice Ao77 t347.length co77 : Value).ownBlock ∧ some k_ ≠ (.slice Ao90 t358.length co90 : Value).ownBlock ∧ some k_ ≠ (.slice Ao103 t365.length co103 : Value).ownBlock ∧ some k_ ≠ (.slice Ao107 t370.length co107 : Value).ownBlock ∧ some k_ ≠ (s_.1 : Value).ownBlock ∧ some k_ ≠ (s_.2.1 : Value).ownBlock ∧ some k_ ≠ (s_.2.2.1 : Value).ownBlock ∧ k_ < nb106 ∧ nb83 ≤ k_) (.slice Ao84 t352.length co84) t377) ∧ (Kd.R (Kd.int .i64) 3 w' w.heap.size (fun k_ => some k_ ≠ (v335 : Value).ownBlock ∧ some k_ ≠ (.slice Ao70 t341.length co70 : Value).ownBlock ∧ some k_ ≠ (.slice Ao77 t347.length co77 : Value).ownBlock ∧ some k_ ≠ (.slice Ao103 t365.length co103 : Value).ownBlock ∧ some k_ ≠ (s_.1 : Value).ownBlock ∧ some k_ ≠ (s_.2.2.1 : Value).ownBlock) (.slice Ao90 t358.length co90) t380) ∧ (Kd.R (Kd.int .i64) 3 w' w.heap.size (fun k_ => some k_ ≠ (v335 : Value).ownBlock ∧ some k_ ≠ (.slice Ao70 t341.length co70 : Value).ownBlock ∧ some k_ ≠ (.slice Ao77 t347.length co77 : Value).ownBlock ∧ some k_ ≠ (.slice Ao90 t358.length co90 : Value).ownBlock ∧ some k_ ≠ (s_.1 : Value).ownBlock ∧ some k_ ≠ (s_.2.2.1 : Value).ownBlock) (.slice Ao103 t365.length co103) t365) ∧ (Kd.S k51 51 w' w.heap.size (fun k_ => some k_ ≠ (v335 : Value).ownBlock ∧ some k_ ≠ (v339 : Value).ownBlock ∧ some k_ ≠ (.slice Ao70 t341.length co70 : Value).ownBlock ∧ some k_ ≠ (.slice Ao77 t347.length co77 : Value).ownBlock ∧ some k_ ≠ (.slice Ao84 t352.length co84 : Value).ownBlock ∧ some k_ ≠ (.slice Ao90 t358.length co90 : Value).ownBlock ∧ some k_ ≠ (.slice Ao103 t365.length co103 : Value).ownBlock ∧ some k_ ≠ (s_.1 : Value).ownBlock ∧ some k_ ≠ (s_.2.1 : Value).ownBlock ∧ some k_ ≠ (s_.2.2.1 : Value).ownBlock ∧ nb106 ≤ k_) (.slice Ao107 t370.length co107) t370) ∧ (Kd.R (Kd.int .i64) 3 w' w.heap.size (fun k_ => some k_ ≠ (v335 : Value).ownBlock ∧ some k_ ≠ (.slice Ao70 t341.length co70 : Value).ownBlock ∧ some k_ ≠ (.slice Ao77 t347.length co77 : Value).ownBlock ∧ some k_ ≠ (.slice Ao90 t358.length co90 : Value).ownBlock ∧ some k_ ≠ (.slice Ao103 t365.length co103 : Value).ownBlock ∧ some k_ ≠ (s_.2.2.1 : Value).ownBlock) s_.1 t385) ∧ (Kd.S k51 51 w' w.heap.size (fun k_ => some k_ ≠ (v335 : Value).ownBlock ∧ some k_ ≠ (v339 : Value).ownBlock ∧ some k_ ≠ (.slice Ao70 t341.length co70 : Value).ownBlock ∧ some k_ ≠ (.slice Ao77 t347.length co77 : Value).ownBlock ∧ some k_ ≠ (.slice Ao84 t352.length co84 : Value).ownBlock ∧ some k_ ≠ (.slice Ao90 t358.length co90 : Value).ownBlock ∧ some k_ ≠ (.slice Ao103 t365.length co103 : Value).ownBlock ∧ some k_ ≠ (.slice Ao107 t370.length co107 : Value).ownBlock ∧ some k_ ≠ (s_.1 : Value).ownBlock ∧ some k_ ≠ (s_.2.2.1 : Value).ownBlock) s_.2.1 t389) ∧ (Kd.R (Kd.int .i64) 3 w' w.heap.size (fun k_ => some k_ ≠ (v335 : Value).ownBlock ∧ some k_ ≠ (.slice Ao70 t341.length co70 : Value).ownBlock ∧ some k_ ≠ (.slice Ao77 t347.length co77 : Value).ownBlock ∧ some k_ ≠ (.slice Ao90 t358.length co90 : Value).ownBlock ∧ some k_ ≠ (.slice Ao103 t365.length co103 : Value).ownBlock ∧ some k_ ≠ (s_.1 : Value).ownBlock) s_.2.2.1 t392) ∧ (w'.heap[gb327]? = some (.cells #[.int .i64 a0_0, .int .i64 a0_1, .int .i64 a0_2] 23 (0, 0))) ∧ (w'.heap[gb328]? = some (.cells #[.slice A1_0 l1_0.length c1_0, .int .i64 a1_1] 26 (0, 0))) ∧ (w'.heap[gb346]? = some (.cells #[.slice Ao70 t341.length co70, .int .i64 t344] 30 (0, 0))) ∧ (w'.heap[gb351]? = some (.cells #[.slice Ao77 t347.length co77, .int .i64 t350] 30 (0, 0))) ∧ (w'.heap[gb363]? = some (.cells #[.slice Ao90 t358.length co90, .int .i64 t361] 30 (0, 0))) ∧ (w'.heap[s_.2.2.2]? = some (.cells #[.slice none 0 0, .int .i64 0] 30 (0, 0))) ∧ (w.heap.size ≤ s_.2.2.2) ∧ (w.heap.size ≤ s_.2.2.2) ∧ (gb327 ≠ s_.2.2.2) ∧ (s_.2.2.2 ≠ gb327) ∧ (gb328 ≠ s_.2.2.2) ∧ (s_.2.2.2 ≠ gb328) ∧ (gb346 ≠ s_.2.2.2) ∧ (s_.2.2.2 ≠ gb346) ∧ (gb351 ≠ s_.2.2.2) ∧ (s_.2.2.2 ≠ gb351) ∧ (gb363 ≠ s_.2.2.2) ∧ (s_.2.2.2 ≠ gb363) ∧ (Below w.heap.size w w')) ?_ ?_
  rotate_left
  ·intro hJ1_3_5_6_10
   refine join_ (σ := Value × Value × Value) 3 #[true, true, true, true, true, true, true, true, true, true, false, false, false] (fun s_ => [(102, .agg #[.int .i64 t382, .int .i64 t383, .int .i64 t384]), (104, .agg #[s_.1, .int .i64 t388]), (106, s_.2.1), (107, .tuple #[.agg #[s_.2.2, .int .i64 t395], .bool t396]), (100, .tuple #[.agg #[s_.2.2, .int .i64 t395], .bool t396]), (108, .agg #[s_.2.2, .int .i64 t395]), (109, .bool t396)]) (fun s_ w' => (w'.cell? ⟨gb327, 0, none⟩ = some (.int .i64 a0_0) ∧ w'.cell? ⟨gb327, 1, none⟩ = some (.int .i64 a0_1) ∧ w'.cell? ⟨gb327, 2, none⟩ = some (.int .i64 a0_2) ∧ w'.cell? ⟨gb328, 0, none⟩ = some (.slice A1_0 l1_0.length c1_0) ∧ w'.cell? ⟨gb328, 1, none⟩ = some (.int .i64 a1_1)) ∧ (Kd.R (Kd.int .i64) 3 w' w.heap.size (fun k_ => some k_ ≠ (.slice Ao70 t341.length co70 : Value).ownBlock ∧ some k_ ≠ (.slice Ao77 t347.length co77 : Value).ownBlock ∧ some k_ ≠ (.slice Ao90 t358.length co90 : Value).ownBlock ∧ some k_ ≠ (.slice Ao103 t365.length co103 : Value).ownBlock ∧ some k_ ≠ (s_.1 : Value).ownBlock ∧ some k_ ≠ (s_.2.2 : Value).ownBlock) v335 t334) ∧ (Kd.S k51 51 w' w.heap.size (fun k_ => some k_ ≠ (v335 : Value).ownBlock ∧ some k_ ≠ (.slice Ao70 t341.length co70 : Value).ownBlock ∧ some k_ ≠ (.slice Ao77 t347.length co77 : Value).ownBlock ∧ some k_ ≠ (.slice Ao84 t352.length co84 : Value).ownBlock ∧ some k_ ≠ (.slice Ao90 t358.length co90 : Value).ownBlock ∧ some k_ ≠ (.slice Ao103 t365.length co103 : Value).ownBlock ∧ some k_ ≠ (.slice Ao107 t370.length co107 : Value).ownBlock ∧ some k_ ≠ (s_.1 : Value).ownBlock ∧ some k_ ≠ (s_.2.1 : Value).ownBlock ∧ some k_ ≠ (s_.2.2 : Value).ownBlock ∧ k_ < nb106 ∧ k_ < nb83) v339 t338) ∧ (Kd.R (Kd.int .i64) 3 w' w.heap.size (fun k_ => some k_ ≠ (v335 : Value).ownBlock ∧ some k_ ≠ (.slice Ao77 t347.length co77 : Value).ownBlock ∧ some k_ ≠ (.slice Ao90 t358.length co90 : Value).ownBlock ∧ some k_ ≠ (.slice Ao103 t365.length co103 : Value).ownBlock ∧ some k_ ≠ (s_.1 : Value).ownBlock ∧ some k_ ≠ (s_.2.2 : Value).ownBlock) (.slice Ao70 t341.length co70) t341) ∧ (Kd.R (Kd.int .i64) 3 w' w.heap.size (fun k_ => some k_ ≠ (v335 : Value).ownBlock ∧ some k_ ≠ (.slice Ao70 t341.length co70 : Value).ownBlock ∧ some k_ ≠ (.slice Ao90 t358.length co90 : Value).ownBlock ∧ some k_ ≠ (.slice Ao103 t365.length co103 : Value).ownBlock ∧ some k_ ≠ (s_.1 : Value).ownBlock ∧ some k_ ≠ (s_.2.2 : Value).ownBlock) (.slice Ao77 t347.length co77) t375) ∧ (Kd.S k51 51 w' w.heap.size (fun k_ => some k_ ≠ (v335 : Value).ownBlock ∧ some k_ ≠ (v339 : Value).ownBlock ∧ some k_ ≠ (.slice Ao70 t341.length co70 : Value).ownBlock ∧ some k_ ≠ (.slice Ao77 t347.length co77 : Value).ownBlock ∧ some k_ ≠ (.slice Ao90 t358.length co90 : Value).ownBlock ∧ some k_ ≠ (.slice Ao103 t365.length co103 : Value).ownBlock ∧ some k_ ≠ (.slice Ao107 t370.length co107 : Value).ownBlock ∧ some k_ ≠ (s_.1 : Value).ownBlock ∧ some k_ ≠ (s_.2.1 : Value).ownBlock ∧ some k_ ≠ (s_.2.2 : Value).ownBlock ∧ k_ < nb106 ∧ nb83 ≤ k_) (.slice Ao84 t352.length co84) t377) ∧ (Kd.R (Kd.int .i64) 3 w' w.heap.size (fun k_ => some k_ ≠ (v335 : Value).ownBlock ∧ some k_ ≠ (.slice Ao70 t341.length co70 : Value).ownBlock ∧ some k_ ≠ (.slice Ao77 t347.length co77 : Value).ownBlock ∧ some k_ ≠ (.slice Ao103 t365.length co103 : Value).ownBlock ∧ some k_ ≠ (s_.1 : Value).ownBlock ∧ some k_ ≠ (s_.2.2 : Value).ownBlock) (.slice Ao90 t358.length co90) t380) ∧ (Kd.R (Kd.int .i64) 3 w' w.heap.size (fun k_ => some k_ ≠ (v335 : Value).ownBlock ∧ some k_ ≠ (.slice Ao70 t341.length co70 : Value).ownBlock ∧ some k_ ≠ (.slice Ao77 t347.length co77 : Value).ownBlock ∧ some k_ ≠ (.slice Ao90 t358.length co90 : Value).ownBlock ∧ some k_ ≠ (s_.1 : Value).ownBlock ∧ some k_ ≠ (s_.2.2 : Value).ownBlock) (.slice Ao103 t365.length co103) t365) ∧ (Kd.S k51 51 w' w.heap.size (fun k_ => some k_ ≠ (v335 : Value).ownBlock ∧ some k_ ≠ (v339 : Value).ownBlock ∧ some k_ ≠ (.slice Ao70 t341.length co70 : Value).ownBlock ∧ some k_ ≠ (.slice Ao77 t347.length co77 : Value).ownBlock ∧ some k_ ≠ (.slice Ao84 t352.length co84 : Value).ownBlock ∧ some k_ ≠ (.slice Ao90 t358.length co90 : Value).ownBlock ∧ some k_ ≠ (.slice Ao103 t365.length co103 : Value).ownBlock ∧ some k_ ≠ (s_.1 : Value).ownBlock ∧ some k_ ≠ (s_.2.1 : Value).ownBlock ∧ some k_ ≠ (s_.2.2 : Value).ownBlock ∧ nb106 ≤ k_) (.slice Ao107 t370.length co107) t370) ∧ (Kd.R (Kd.int .i64) 3 w' w.heap.size (fun k_ => some k_ ≠ (v335 : Value).ownBlock ∧ some k_ ≠ (.slice Ao70 t341.length co70 : Value).ownBlock ∧ some k_ ≠ (.slice Ao77 t347.length co77 : Value).ownBlock ∧ some k_ ≠ (.slice Ao90 t358.length co90 : Value).ownBlock ∧ some k_ ≠ (.slice Ao103 t365.length co103 : Value).ownBlock ∧ some k_ ≠ (s_.2.2 : Value).ownBlock) s_.1 t385) ∧ (Kd.S k51 51 w' w.heap.size (fun k_ => some k_ ≠ (v335 : Value).ownBlock ∧ some k_ ≠ (v339 : Value).ownBlock ∧ some k_ ≠ (.slice Ao70 t341.length co70 : Value).ownBlock ∧ some k_ ≠ (.slice Ao77 t347.length co77 : Value).ownBlock ∧ some k_ ≠ (.slice Ao84 t352.length co84 : Value).ownBlock ∧ some k_ ≠ (.slice Ao90 t358.length co90 : Value).ownBlock ∧ some k_ ≠ (.slice Ao103 t365.length co103 : Value).ownBlock ∧ some k_ ≠ (.slice Ao107 t370.length co107 : Value).ownBlock ∧ some k_ ≠ (s_.1 : Value).ownBlock ∧ some k_ ≠ (s_.2.2 : Value).ownBlock) s_.2.1 t389) ∧ (Kd.R (Kd.int .i64) 3 w' w.heap.size (fun k_ => some k_ ≠ (v335 : Value).ownBlock ∧ some k_ ≠ (.slice Ao70 t341.length co70 : Value).ownBlock ∧ some k_ ≠ (.slice Ao77 t347.length co77 : Value).ownBlock ∧ some k_ ≠ (.slice Ao90 t358.length co90 : Value).ownBlock ∧ some k_ ≠ (.slice Ao103 t365.length co103 : Value).ownBlock ∧ some k_ ≠ (s_.1 : Value).ownBlock) s_.2.2 t392) ∧ (w'.heap[gb327]? = some (.cells #[.int .i64 a0_0, .int .i64 a0_1, .int .i64 a0_2] 23 (0, 0))) ∧ (w'.heap[gb328]? = some (.cells #[.slice A1_0 l1_0.length c1_0, .int .i64 a1_1] 26 (0, 0))) ∧ (w'.heap[gb346]? = some (.cells #[.slice Ao70 t341.length co70, .int .i64 t344] 30 (0, 0))) ∧ (w'.heap[gb351]? = some (.cells #[.slice Ao77 t347.length co77, .int .i64 t350] 30 (0, 0))) ∧ (w'.heap[gb363]? = some (.cells #[.slice Ao90 t358.length co90, .int .i64 t361] 30 (0, 0))) ∧ (Below w.heap.size w w')) ?_ ?_
   rotate_left
   ·intro hJ1_3_5_6
    refine join_ (σ := Value × Value × Nat) 6 #[true, true, true, true, true, true, false, false, false, false, true, false, false] (fun s_ => [(102, .agg #[.int .i64 t382, .int .i64 t383, .int .i64 t384]), (104, .agg #[s_.1, .int .i64 t388]), (106, s_.2.1), (17, .pointer (some ⟨s_.2.2, 0, none⟩))]) (fun s_ w' => (w'.cell? ⟨gb327, 0, none⟩ = some (.int .i64 a0_0) ∧ w'.cell? ⟨gb327, 1, none⟩ = some (.int .i64 a0_1) ∧ w'.cell? ⟨gb327, 2, none⟩ = some (.int .i64 a0_2) ∧ w'.cell? ⟨gb328, 0, none⟩ = some (.slice A1_0 l1_0.length c1_0) ∧ w'.cell? ⟨gb328, 1, none⟩ = some (.int .i64 a1_1)) ∧ (Kd.R (Kd.int .i64) 3 w' w.heap.size (fun k_ => some k_ ≠ (.slice Ao70 t341.length co70 : Value).ownBlock ∧ some k_ ≠ (.slice Ao77 t347.length co77 : Value).ownBlock ∧ some k_ ≠ (.slice Ao90 t358.length co90 : Value).ownBlock ∧ some k_ ≠ (.slice Ao103 t365.length co103 : Value).ownBlock ∧ some k_ ≠ (s_.1 : Value).ownBlock) v335 t334) ∧ (Kd.S k51 51 w' w.heap.size (fun k_ => some k_ ≠ (v335 : Value).ownBlock ∧ some k_ ≠ (.slice Ao70 t341.length co70 : Value).ownBlock ∧ some k_ ≠ (.slice Ao77 t347.length co77 : Value).ownBlock ∧ some k_ ≠ (.slice Ao84 t352.length co84 : Value).ownBlock ∧ some k_ ≠ (.slice Ao90 t358.length co90 : Value).ownBlock ∧ some k_ ≠ (.slice Ao103 t365.length co103 : Value).ownBlock ∧ some k_ ≠ (.slice Ao107 t370.length co107 : Value).ownBlock ∧ some k_ ≠ (s_.1 : Value).ownBlock ∧ some k_ ≠ (s_.2.1 : Value).ownBlock ∧ k_ < nb106 ∧ k_ < nb83) v339 t338) ∧ (Kd.R (Kd.int .i64) 3 w' w.heap.size (fun k_ => some k_ ≠ (v335 : Value).ownBlock ∧ some k_ ≠ (.slice Ao77 t347.length co77 : Value).ownBlock ∧ some k_ ≠ (.slice Ao90 t358.length co90 : Value).ownBlock ∧ some k_ ≠ (.slice Ao103 t365.length co103 : Value).ownBlock ∧ some k_ ≠ (s_.1 : Value).ownBlock) (.slice Ao70 t341.length co70) t341) ∧ (Kd.R (Kd.int .i64) 3 w' w.heap.size (fun k_ => some k_ ≠ (v335 : Value).ownBlock ∧ some k_ ≠ (.slice Ao70 t341.length co70 : Value).ownBlock ∧ some k_ ≠ (.slice Ao90 t358.length co90 : Value).ownBlock ∧ some k_ ≠ (.slice Ao103 t365.length co103 : Value).ownBlock ∧ some k_ ≠ (s_.1 : Value).ownBlock) (.slice Ao77 t347.length co77) t375) ∧ (Kd.S k51 51 w' w.heap.size (fun k_ => some k_ ≠ (v335 : Value).ownBlock ∧ some k_ ≠ (v339 : Value).ownBlock ∧ some k_ ≠ (.slice Ao70 t341.length co70 : Value).ownBlock ∧ some k_ ≠ (.slice Ao77 t347.length co77 : Value).ownBlock ∧ some k_ ≠ (.slice Ao90 t358.length co90 : Value).ownBlock ∧ some k_ ≠ (.slice Ao103 t365.length co103 : Value).ownBlock ∧ some k_ ≠ (.slice Ao107 t370.length co107 : Value).ownBlock ∧ some k_ ≠ (s_.1 : Value).ownBlock ∧ some k_ ≠ (s_.2.1 : Value).ownBlock ∧ k_ < nb106 ∧ nb83 ≤ k_) (.slice Ao84 t352.length co84) t377) ∧ (Kd.R (Kd.int .i64) 3 w' w.heap.size (fun k_ => some k_ ≠ (v335 : Value).ownBlock ∧ some k_ ≠ (.slice Ao70 t341.length co70 : Value).ownBlock ∧ some k_ ≠ (.slice Ao77 t347.length co77 : Value).ownBlock ∧ some k_ ≠ (.slice Ao103 t365.length co103 : Value).ownBlock ∧ some k_ ≠ (s_.1 : Value).ownBlock) (.slice Ao90 t358.length co90) t380) ∧ (Kd.R (Kd.int .i64) 3 w' w.heap.size (fun k_ => some k_ ≠ (v335 : Value).ownBlock ∧ some k_ ≠ (.slice Ao70 t341.length co70 : Value).ownBlock ∧ some k_ ≠ (.slice Ao77 t347.length co77 : Value).ownBlock ∧ some k_ ≠ (.slice Ao90 t358.length co90 : Value).ownBlock ∧ some k_ ≠ (s_.1 : Value).ownBlock) (.slice Ao103 t365.length co103) t365) ∧ (Kd.S k51 51 w' w.heap.size (fun k_ => some k_ ≠ (v335 : Value).ownBlock ∧ some k_ ≠ (v339 : Value).ownBlock ∧ some k_ ≠ (.slice Ao70 t341.length co70 : Value).ownBlock ∧ some k_ ≠ (.slice Ao77 t347.length co77 : Value).ownBlock ∧ some k_ ≠ (.slice Ao84 t352.length co84 : Value).ownBlock ∧ some k_ ≠ (.slice Ao90 t358.length co90 : Value).ownBlock ∧ some k_ ≠ (.slice Ao103 t365.length co103 : Value).ownBlock ∧ some k_ ≠ (s_.1 : Value).ownBlock ∧ some k_ ≠ (s_.2.1 : Value).ownBlock ∧ nb106 ≤ k_) (.slice Ao107 t370.length co107) t370) ∧ (Kd.R (Kd.int .i64) 3 w' w.heap.size (fun k_ => some k_ ≠ (v335 : Value).ownBlock ∧ some k_ ≠ (.slice Ao70 t341.length co70 : Value).ownBlock ∧ some k_ ≠ (.slice Ao77 t347.length co77 : Value).ownBlock ∧ some k_ ≠ (.slice Ao90 t358.length co90 : Value).ownBlock ∧ some k_ ≠ (.slice Ao103 t365.length co103 : Value).ownBlock) s_.1 t385) ∧ (Kd.S k51 51 w' w.heap.size (fun k_ => some k_ ≠ (v335 : Value).ownBlock ∧ some k_ ≠ (v339 : Value).ownBlock ∧ some k_ ≠ (.slice Ao70 t341.length co70 : Value).ownBlock ∧ some k_ ≠ (.slice Ao77 t347.length co77 : Value).ownBlock ∧ some k_ ≠ (.slice Ao84 t352.length co84 : Value).ownBlock ∧ some k_ ≠ (.slice Ao90 t358.length co90 : Value).ownBlock ∧ some k_ ≠ (.slice Ao103 t365.length co103 : Value).ownBlock ∧ some k_ ≠ (.slice Ao107 t370.length co107 : Value).ownBlock ∧ some k_ ≠ (s_.1 : Value).ownBlock) s_.2.1 t389) ∧ (w'.heap[gb327]? = some (.cells #[.int .i64 a0_0, .int .i64 a0_1, .int .i64 a0_2] 23 (0, 0))) ∧ (w'.heap[gb328]? = some (.cells #[.slice A1_0 l1_0.length c1_0, .int .i64 a1_1] 26 (0, 0))) ∧ (w'.heap[gb346]? = some (.cells #[.slice Ao70 t341.length co70, .int .i64 t344] 30 (0, 0))) ∧ (w'.heap[gb351]? = some (.cells #[.slice Ao77 t347.length co77, .int .i64 t350] 30 (0, 0))) ∧ (w'.heap[gb363]? = some (.cells #[.slice Ao90 t358.length co90, .int .i64 t361] 30 (0, 0))) ∧ (w'.heap[s_.2.2]? = some (.cells #[.slice none 0 0, .int .i64 0] 30 (0, 0))) ∧ (w.heap.size ≤ s_.2.2) ∧ (w.heap.size ≤ s_.2.2) ∧ (gb327 ≠ s_.2.2) ∧ (s_.2.2 ≠ gb327) ∧ (gb328 ≠ s_.2.2) ∧ (s_.2.2 ≠ gb328) ∧ (gb346 ≠ s_.2.2) ∧ (s_.2.2 ≠ gb346) ∧ (gb351 ≠ s_.2.2) ∧ (s_.2.2 ≠ gb351) ∧ (gb363 ≠ s_.2.2) ∧ (s_.2.2 ≠ gb363) ∧ (Below w.heap.size w w')) ?_ ?_
    rotate_left
    ·intro hJ1_3_5_10
     refine join_ (σ := Value × Value) 7 #[true, true, true, true, true, true, false, false, false, false, false, false, false] (fun s_ => [(102, .agg #[.int .i64 t382, .int .i64 t383, .int .i64 t384]), (104, .agg #[s_.1, .int .i64 t388]), (106, s_.2)]) (fun s_ w' => (w'.cell? ⟨gb327, 0, none⟩ = some (.int .i64 a0_0) ∧ w'.cell? ⟨gb327, 1, none⟩ = some (.int .i64 a0_1) ∧ w'.cell? ⟨gb327, 2, none⟩ = some (.int .i64 a0_2) ∧ w'.cell? ⟨gb328, 0, none⟩ = some (.slice A1_0 l1_0.length c1_0) ∧ w'.cell? ⟨gb328, 1, none⟩ = some (.int .i64 a1_1)) ∧ (Kd.R (Kd.int .i64) 3 w' w.heap.size (fun k_ => some k_ ≠ (.slice Ao70 t341.length co70 : Value).ownBlock ∧ some k_ ≠ (.slice Ao77 t347.length co77 : Value).ownBlock ∧ some k_ ≠ (.slice Ao90 t358.length co90 : Value).ownBlock ∧ some k_ ≠ (.slice Ao103 t365.length co103 : Value).ownBlock ∧ some k_ ≠ (s_.1 : Value).ownBlock) v335 t334) ∧ (Kd.S k51 51 w' w.heap.size (fun k_ => some k_ ≠ (v335 : Value).ownBlock ∧ some k_ ≠ (.slice Ao70 t341.length co70 : Value).ownBlock ∧ some k_ ≠ (.slice Ao77 t347.length co77 : Value).ownBlock ∧ some k_ ≠ (.slice Ao84 t352.length co84 : Value).ownBlock ∧ some k_ ≠ (.slice Ao90 t358.length co90 : Value).ownBlock ∧ some k_ ≠ (.slice Ao103 t365.length co103 : Value).ownBlock ∧ some k_ ≠ (.slice Ao107 t370.length co107 : Value).ownBlock ∧ some k_ ≠ (s_.1 : Value).ownBlock ∧ some k_ ≠ (s_.2 : Value).ownBlock ∧ k_ < nb106 ∧ k_ < nb83) v339 t338) ∧ (Kd.R (Kd.int .i64) 3 w' w.heap.size (fun k_ => some k_ ≠ (v335 : Value).ownBlock ∧ some k_ ≠ (.slice Ao77 t347.length co77 : Value).ownBlock ∧ some k_ ≠ (.slice Ao90 t358.length co90 : Value).ownBlock ∧ some k_ ≠ (.slice Ao103 t365.length co103 : Value).ownBlock ∧ some k_ ≠ (s_.1 : Value).ownBlock) (.slice Ao70 t341.length co70) t341) ∧ (Kd.R (Kd.int .i64) 3 w' w.heap.size (fun k_ => some k_ ≠ (v335 : Value).ownBlock ∧ some k_ ≠ (.slice Ao70 t341.length co70 : Value).ownBlock ∧ some k_ ≠ (.slice Ao90 t358.length co90 : Value).ownBlock ∧ some k_ ≠ (.slice Ao103 t365.length co103 : Value).ownBlock ∧ some k_ ≠ (s_.1 : Value).ownBlock) (.slice Ao77 t347.length co77) t375) ∧ (Kd.S k51 51 w' w.heap.size (fun k_ => some k_ ≠ (v335 : Value).ownBlock ∧ some k_ ≠ (v339 : Value).ownBlock ∧ some k_ ≠ (.slice Ao70 t341.length co70 : Value).ownBlock ∧ some k_ ≠ (.slice Ao77 t347.length co77 : Value).ownBlock ∧ some k_ ≠ (.slice Ao90 t358.length co90 : Value).ownBlock ∧ some k_ ≠ (.slice Ao103 t365.length co103 : Value).ownBlock ∧ some k_ ≠ (.slice Ao107 t370.length co107 : Value).ownBlock ∧ some k_ ≠ (s_.1 : Value).ownBlock ∧ some k_ ≠ (s_.2 : Value).ownBlock ∧ k_ < nb106 ∧ nb83 ≤ k_) (.slice Ao84 t352.length co84) t377) ∧ (Kd.R (Kd.int .i64) 3 w' w.heap.size (fun k_ => some k_ ≠ (v335 : Value).ownBlock ∧ some k_ ≠ (.slice Ao70 t341.length co70 : Value).ownBlock ∧ some k_ ≠ (.slice Ao77 t347.length co77 : Value).ownBlock ∧ some k_ ≠ (.slice Ao103 t365.length co103 : Value).ownBlock ∧ some k_ ≠ (s_.1 : Value).ownBlock) (.slice Ao90 t358.length co90) t380) ∧ (Kd.R (Kd.int .i64) 3 w' w.heap.size (fun k_ => some k_ ≠ (v335 : Value).ownBlock ∧ some k_ ≠ (.slice Ao70 t341.length co70 : Value).ownBlock ∧ some k_ ≠ (.slice Ao77 t347.length co77 : Value).ownBlock ∧ some k_ ≠ (.slice Ao90 t358.length co90 : Value).ownBlock ∧ some k_ ≠ (s_.1 : Value).ownBlock) (.slice Ao103 t365.length co103) t365) ∧ (Kd.S k51 51 w' w.heap.size (fun k_ => some k_ ≠ (v335 : Value).ownBlock ∧ some k_ ≠ (v339 : Value).ownBlock ∧ some k_ ≠ (.slice Ao70 t341.length co70 : Value).ownBlock ∧ some k_ ≠ (.slice Ao77 t347.length co77 : Value).ownBlock ∧ some k_ ≠ (.slice Ao84 t352.length co84 : Value).ownBlock ∧ some k_ ≠ (.slice Ao90 t358.length co90 : Value).ownBlock ∧ some k_ ≠ (.slice Ao103 t365.length co103 : Value).ownBlock ∧ some k_ ≠ (s_.1 : Value).ownBlock ∧ some k_ ≠ (s_.2 : Value).ownBlock ∧ nb106 ≤ k_) (.slice Ao107 t370.length co107) t370) ∧ (Kd.R (Kd.int .i64) 3 w' w.heap.size (fun k_ => some k_ ≠ (v335 : Value).ownBlock ∧ some k_ ≠ (.slice Ao70 t341.length co70 : Value).ownBlock ∧ some k_ ≠ (.slice Ao77 t347.length co77 : Value).ownBlock ∧ some k_ ≠ (.slice Ao90 t358.length co90 : Value).ownBlock ∧ some k_ ≠ (.slice Ao103 t365.length co103 : Value).ownBlock) s_.1 t385) ∧ (Kd.S k51 51 w' w.heap.size (fun k_ => some k_ ≠ (v335 : Value).ownBlock ∧ some k_ ≠ (v339 : Value).ownBlock ∧ some k_ ≠ (.slice Ao70 t341.length co70 : Value).ownBlock ∧ some k_ ≠ (.slice Ao77 t347.length co77 : Value).ownBlock ∧ some k_ ≠ (.slice Ao84 t352.length co84 : Value).ownBlock ∧ some k_ ≠ (.slice Ao90 t358.length co90 : Value).ownBlock ∧ some k_ ≠ (.slice Ao103 t365.length co103 : Value).ownBlock ∧ some k_ ≠ (.slice Ao107 t370.length co107 : Value).ownBlock ∧ some k_ ≠ (s_.1 : Value).ownBlock) s_.2 t389) ∧ (w'.heap[gb327]? = some (.cells #[.int .i64 a0_0, .int .i64 a0_1, .int .i64 a0_2] 23 (0, 0))) ∧ (w'.heap[gb328]? = some (.cells #[.slice A1_0 l1_0.length c1_0, .int .i64 a1_1] 26 (0, 0))) ∧ (w'.heap[gb346]? = some (.cells #[.slice Ao70 t341.length co70, .int .i64 t344] 30 (0, 0))) ∧ (w'.heap[gb351]? = some (.cells #[.slice Ao77 t347.length co77, .int .i64 t350] 30 (0, 0))) ∧ (w'.heap[gb363]? = some (.cells #[.slice Ao90 t358.length co90, .int .i64 t361] 30 (0, 0))) ∧ (Below w.heap.size w w')) ?_ ?_
     rotate_left
     ·intro hJ1_3_5
      refine join_ (σ := Value × Nat) 7 #[true, true, true, true, true, false, false, false, false, false, true, false, false] (fun s_ => [(102, .agg #[.int .i64 t382, .int .i64 t383, .int .i64 t384]), (104, .agg #[s_.1, .int .i64 t388]), (17, .pointer (some ⟨s_.2, 0, none⟩))]) (fun s_ w' => (w'.cell? ⟨gb327, 0, none⟩ = some (.int .i64 a0_0) ∧ w'.cell? ⟨gb327, 1, none⟩ = some (.int .i64 a0_1) ∧ w'.cell? ⟨gb327, 2, none⟩ = some (.int .i64 a0_2) ∧ w'.cell? ⟨gb328, 0, none⟩ = some (.slice A1_0 l1_0.length c1_0) ∧ w'.cell? ⟨gb328, 1, none⟩ = some (.int .i64 a1_1)) ∧ (Kd.R (Kd.int .i64) 3 w' w.heap.size (fun k_ => some k_ ≠ (.slice Ao70 t341.length co70 : Value).ownBlock ∧ some k_ ≠ (.slice Ao77 t347.length co77 : Value).ownBlock ∧ some k_ ≠ (.slice Ao90 t358.length co90 : Value).ownBlock ∧ some k_ ≠ (.slice Ao103 t365.length co103 : Value).ownBlock ∧ some k_ ≠ (s_.1 : Value).ownBlock) v335 t334) ∧ (Kd.S k51 51 w' w.heap.size (fun k_ => some k_ ≠ (v335 : Value).ownBlock ∧ some k_ ≠ (.slice Ao70 t341.length co70 : Value).ownBlock ∧ some k_ ≠ (.slice Ao77 t347.length co77 : Value).ownBlock ∧ some k_ ≠ (.slice Ao84 t352.length co84 : Value).ownBlock ∧ some k_ ≠ (.slice Ao90 t358.length co90 : Value).ownBlock ∧ some k_ ≠ (.slice Ao103 t365.length co103 : Value).ownBlock ∧ some k_ ≠ (.slice Ao107 t370.length co107 : Value).ownBlock ∧ some k_ ≠ (s_.1 : Value).ownBlock ∧ k_ < nb106 ∧ k_ < nb83) v339 t338) ∧ (Kd.R (Kd.int .i64) 3 w' w.heap.size (fun k_ => some k_ ≠ (v335 : Value).ownBlock ∧ some k_ ≠ (.slice Ao77 t347.length co77 : Value).ownBlock ∧ some k_ ≠ (.slice Ao90 t358.length co90 : Value).ownBlock ∧ some k_ ≠ (.slice Ao103 t365.length co103 : Value).ownBlock ∧ some k_ ≠ (s_.1 : Value).ownBlock) (.slice Ao70 t341.length co70) t341) ∧ (Kd.R (Kd.int .i64) 3 w' w.heap.size (fun k_ => some k_ ≠ (v335 : Value).ownBlock ∧ some k_ ≠ (.slice Ao70 t341.length co70 : Value).ownBlock ∧ some k_ ≠ (.slice Ao90 t358.length co90 : Value).ownBlock ∧ some k_ ≠ (.slice Ao103 t365.length co103 : Value).ownBlock ∧ some k_ ≠ (s_.1 : Value).ownBlock) (.slice Ao77 t347.length co77) t375) ∧ (Kd.S k51 51 w' w.heap.size (fun k_ => some k_ ≠ (v335 : Value).ownBlock ∧ some k_ ≠ (v339 : Value).ownBlock ∧ some k_ ≠ (.slice Ao70 t341.length co70 : Value).ownBlock ∧ some k_ ≠ (.slice Ao77 t347.length co77 : Value).ownBlock ∧ some k_ ≠ (.slice Ao90 t358.length co90 : Value).ownBlock ∧ some k_ ≠ (.slice Ao103 t365.length co103 : Value).ownBlock ∧ some k_ ≠ (.slice Ao107 t370.length co107 : Value).ownBlock ∧ some k_ ≠ (s_.1 : Value).ownBlock ∧ k_ < nb106 ∧ nb83 ≤ k_) (.slice Ao84 t352.length co84) t377) ∧ (Kd.R (Kd.int .i64) 3 w' w.heap.size (fun k_ => some k_ ≠ (v335 : Value).ownBlock ∧ some k_ ≠ (.slice Ao70 t341.length co70 : Value).ownBlock ∧ some k_ ≠ (.slice Ao77 t347.length co77 : Value).ownBlock ∧ some k_ ≠ (.slice Ao103 t365.length co103 : Value).ownBlock ∧ some k_ ≠ (s_.1 : Value).ownBlock) (.slice Ao90 t358.length co90) t380) ∧ (Kd.R (Kd.int .i64) 3 w' w.heap.size (fun k_ => some k_ ≠ (v335 : Value).ownBlock ∧ some k_ ≠ (.slice Ao70 t341.length co70 : Value).ownBlock ∧ some k_ ≠ (.slice Ao77 t347.length co77 : Value).ownBlock ∧ some k_ ≠ (.slice Ao90 t358.length co90 : Value).ownBlock ∧ some k_ ≠ (s_.1 : Value).ownBlock) (.slice Ao103 t365.length co103) t365) ∧ (Kd.S k51 51 w' w.heap.size (fun k_ => some k_ ≠ (v335 : Value).ownBlock ∧ some k_ ≠ (v339 : Value).ownBlock ∧ some k_ ≠ (.slice Ao70 t341.length co70 : Value).ownBlock ∧ some k_ ≠ (.slice Ao77 t347.length co77 : Value).ownBlock ∧ some k_ ≠ (.slice Ao84 t352.length co84 : Value).ownBlock ∧ some k_ ≠ (.slice Ao90 t358.length co90 : Value).ownBlock ∧ some k_ ≠ (.slice Ao103 t365.length co103 : Value).ownBlock ∧ some k_ ≠ (s_.1 : Value).ownBlock ∧ nb106 ≤ k_) (.slice Ao107 t370.length co107) t370) ∧ (Kd.R (Kd.int .i64) 3 w' w.heap.size (fun k_ => some k_ ≠ (v335 : Value).ownBlock ∧ some k_ ≠ (.slice Ao70 t341.length co70 : Value).ownBlock ∧ some k_ ≠ (.slice Ao77 t347.length co77 : Value).ownBlock ∧ some k_ ≠ (.slice Ao90 t358.length co90 : Value).ownBlock ∧ some k_ ≠ (.slice Ao103 t365.length co103 : Value).ownBlock) s_.1 t385) ∧ (w'.heap[gb327]? = some (.cells #[.int .i64 a0_0, .int .i64 a0_1, .int .i64 a0_2] 23 (0, 0))) ∧ (w'.heap[gb328]? = some (.cells #[.slice A1_0 l1_0.length c1_0, .int .i64 a1_1] 26 (0, 0))) ∧ (w'.heap[gb346]? = some (.cells #[.slice Ao70 t341.length co70, .int .i64 t344] 30 (0, 0))) ∧ (w'.heap[gb351]? = some (.cells #[.slice Ao77 t347.length co77, .int .i64 t350] 30 (0, 0))) ∧ (w'.heap[gb363]? = some (.cells #[.slice Ao90 t358.length co90, .int .i64 t361] 30 (0, 0))) ∧ (w'.heap[s_.2]? = some (.cells #[.slice none 0 0, .int .i64 0] 30 (0, 0))) ∧ (w.heap.size ≤ s_.2) ∧ (w.heap.size ≤ s_.2) ∧ (gb327 ≠ s_.2) ∧ (s_.2 ≠ gb327) ∧ (gb328 ≠ s_.2) ∧ (s_.2 ≠ gb328) ∧ (gb346 ≠ s_.2) ∧ (s_.2 ≠ gb346) ∧ (gb351 ≠ s_.2) ∧ (s_.2 ≠ gb351) ∧ (gb363 ≠ s_.2) ∧ (s_.2 ≠ gb363) ∧ (Below w.heap.size w w')) ?_ ?_
      rotate_left
      ·intro hJ1_3_10
       refine join_ (σ := Value) 8 #[true, true, true, true, true, false, false, false, false, false, false, false, false] (fun s_ => [(102, .agg #[.int .i64 t382, .int .i64 t383, .int .i64 t384]), (104, .agg #[s_, .int .i64 t388])]) (fun s_ w' => (w'.cell? ⟨gb327, 0, none⟩ = some (.int .i64 a0_0) ∧ w'.cell? ⟨gb327, 1, none⟩ = some (.int .i64 a0_1) ∧ w'.cell? ⟨gb327, 2, none⟩ = some (.int .i64 a0_2) ∧ w'.cell? ⟨gb328, 0, none⟩ = some (.slice A1_0 l1_0.length c1_0) ∧ w'.cell? ⟨gb328, 1, none⟩ = some (.int .i64 a1_1)) ∧ (Kd.R (Kd.int .i64) 3 w' w.heap.size (fun k_ => some k_ ≠ (.slice Ao70 t341.length co70 : Value).ownBlock ∧ some k_ ≠ (.slice Ao77 t347.length co77 : Value).ownBlock ∧ some k_ ≠ (.slice Ao90 t358.length co90 : Value).ownBlock ∧ some k_ ≠ (.slice Ao103 t365.length co103 : Value).ownBlock ∧ some k_ ≠ (s_ : Value).ownBlock) v335 t334) ∧ (Kd.S k51 51 w' w.heap.size (fun k_ => some k_ ≠ (v335 : Value).ownBlock ∧ some k_ ≠ (.slice Ao70 t341.length co70 : Value).ownBlock ∧ some k_ ≠ (.slice Ao77 t347.length co77 : Value).ownBlock ∧ some k_ ≠ (.slice Ao84 t352.length co84 : Value).ownBlock ∧ some k_ ≠ (.slice Ao90 t358.length co90 : Value).ownBlock ∧ some k_ ≠ (.slice Ao103 t365.length co103 : Value).ownBlock ∧ some k_ ≠ (.slice Ao107 t370.length co107 : Value).ownBlock ∧ some k_ ≠ (s_ : Value).ownBlock ∧ k_ < nb106 ∧ k_ < nb83) v339 t338) ∧ (Kd.R (Kd.int .i64) 3 w' w.heap.size (fun k_ => some k_ ≠ (v335 : Value).ownBlock ∧ some k_ ≠ (.slice Ao77 t347.length co77 : Value).ownBlock ∧ some k_ ≠ (.slice Ao90 t358.length co90 : Value).ownBlock ∧ some k_ ≠ (.slice Ao103 t365.length co103 : Value).ownBlock ∧ some k_ ≠ (s_ : Value).ownBlock) (.slice Ao70 t341.length co70) t341) ∧ (Kd.R (Kd.int .i64) 3 w' w.heap.size (fun k_ => some k_ ≠ (v335 : Value).ownBlock ∧ some k_ ≠ (.slice Ao70 t341.length co70 : Value).ownBlock ∧ some k_ ≠ (.slice Ao90 t358.length co90 : Value).ownBlock ∧ some k_ ≠ (.slice Ao103 t365.length co103 : Value).ownBlock ∧ some k_ ≠ (s_ : Value).ownBlock) (.slice Ao77 t347.length co77) t375) ∧ (Kd.S k51 51 w' w.heap.size (fun k_ => some k_ ≠ (v335 : Value).ownBlock ∧ some k_ ≠ (v339 : Value).ownBlock ∧ some k_ ≠ (.slice Ao70 t341.length co70 : Value).ownBlock ∧ some k_ ≠ (.slice Ao77 t347.length co77 : Value).ownBlock ∧ some k_ ≠ (.slice Ao90 t358.length co90 : Value).ownBlock ∧ some k_ ≠ (.slice Ao103 t365.length co103 : Value).ownBlock ∧ some k_ ≠ (.slice Ao107 t370.length co107 : Value).ownBlock ∧ some k_ ≠ (s_ : Value).ownBlock ∧ k_ < nb106 ∧ nb83 ≤ k_) (.slice Ao84 t352.length co84) t377) ∧ (Kd.R (Kd.int .i64) 3 w' w.heap.size (fun k_ => some k_ ≠ (v335 : Value).ownBlock ∧ some k_ ≠ (.slice Ao70 t341.length co70 : Value).ownBlock ∧ some k_ ≠ (.slice Ao77 t347.length co77 : Value).ownBlock ∧ some k_ ≠ (.slice Ao103 t365.length co103 : Value).ownBlock ∧ some k_ ≠ (s_ : Value).ownBlock) (.slice Ao90 t358.length co90) t380) ∧ (Kd.R (Kd.int .i64) 3 w' w.heap.size (fun k_ => some k_ ≠ (v335 : Value).ownBlock ∧ some k_ ≠ (.slice Ao70 t341.length co70 : Value).ownBlock ∧ some k_ ≠ (.slice Ao77 t347.length co77 : Value).ownBlock ∧ some k_ ≠ (.slice Ao90 t358.length co90 : Value).ownBlock ∧ some k_ ≠ (s_ : Value).ownBlock) (.slice Ao103 t365.length co103) t365) ∧ (Kd.S k51 51 w' w.heap.size (fun k_ => some k_ ≠ (v335 : Value).ownBlock ∧ some k_ ≠ (v339 : Value).ownBlock ∧ some k_ ≠ (.slice Ao70 t341.length co70 : Value).ownBlock ∧ some k_ ≠ (.slice Ao77 t347.length co77 : Value).ownBlock ∧ some k_ ≠ (.slice Ao84 t352.length co84 : Value).ownBlock ∧ some k_ ≠ (.slice Ao90 t358.length co90 : Value).ownBlock ∧ some k_ ≠ (.slice Ao103 t365.length co103 : Value).ownBlock ∧ some k_ ≠ (s_ : Value).ownBlock ∧ nb106 ≤ k_) (.slice Ao107 t370.length co107) t370) ∧ (Kd.R (Kd.int .i64) 3 w' w.heap.size (fun k_ => some k_ ≠ (v335 : Value).ownBlock ∧ some k_ ≠ (.slice Ao70 t341.length co70 : Value).ownBlock ∧ some k_ ≠ (.slice Ao77 t347.length co77 : Value).ownBlock ∧ some k_ ≠ (.slice Ao90 t358.length co90 : Value).ownBlock ∧ some k_ ≠ (.slice Ao103 t365.length co103 : Value).ownBlock) s_ t385) ∧ (w'.heap[gb327]? = some (.cells #[.int .i64 a0_0, .int .i64 a0_1, .int .i64 a0_2] 23 (0, 0))) ∧ (w'.heap[gb328]? = some (.cells #[.slice A1_0 l1_0.length c1_0, .int .i64 a1_1] 26 (0, 0))) ∧ (w'.heap[gb346]? = some (.cells #[.slice Ao70 t341.length co70, .int .i64 t344] 30 (0, 0))) ∧ (w'.heap[gb351]? = some (.cells #[.slice Ao77 t347.length co77, .int .i64 t350] 30 (0, 0))) ∧ (w'.heap[gb363]? = some (.cells #[.slice Ao90 t358.length co90, .int .i64 t361] 30 (0, 0))) ∧ (Below w.heap.size w w')) ?_ ?_
       rotate_left
       ·intro hJ1_3
        refine join_ (σ := Nat) 8 #[true, true, true, false, true, false, false, false, false, false, true, false, false] (fun s_ => [(102, .agg #[.int .i64 t382, .int .i64 t383, .int .i64 t384]), (17, .pointer (some ⟨s_, 0, none⟩))]) (fun s_ w' => (w'.cell? ⟨gb327, 0, none⟩ = some (.int .i64 a0_0) ∧ w'.cell? ⟨gb327, 1, none⟩ = some (.int .i64 a0_1) ∧ w'.cell? ⟨gb327, 2, none⟩ = some (.int .i64 a0_2) ∧ w'.cell? ⟨gb328, 0, none⟩ = some (.slice A1_0 l1_0.length c1_0) ∧ w'.cell? ⟨gb328, 1, none⟩ = some (.int .i64 a1_1)) ∧ (Kd.R (Kd.int .i64) 3 w' w.heap.size (fun k_ => some k_ ≠ (.slice Ao70 t341.length co70 : Value).ownBlock ∧ some k_ ≠ (.slice Ao77 t347.length co77 : Value).ownBlock ∧ some k_ ≠ (.slice Ao90 t358.length co90 : Value).ownBlock ∧ some k_ ≠ (.slice Ao103 t365.length co103 : Value).ownBlock) v335 t334) ∧ (Kd.S k51 51 w' w.heap.size (fun k_ => some k_ ≠ (v335 : Value).ownBlock ∧ some k_ ≠ (.slice Ao70 t341.length co70 : Value).ownBlock ∧ some k_ ≠ (.slice Ao77 t347.length co77 : Value).ownBlock ∧ some k_ ≠ (.slice Ao84 t352.length co84 : Value).ownBlock ∧ some k_ ≠ (.slice Ao90 t358.length co90 : Value).ownBlock ∧ some k_ ≠ (.slice Ao103 t365.length co103 : Value).ownBlock ∧ some k_ ≠ (.slice Ao107 t370.length co107 : Value).ownBlock ∧ k_ < nb106 ∧ k_ < nb83) v339 t338) ∧ (Kd.R (Kd.int .i64) 3 w' w.heap.size (fun k_ => some k_ ≠ (v335 : Value).ownBlock ∧ some k_ ≠ (.slice Ao77 t347.length co77 : Value).ownBlock ∧ some k_ ≠ (.slice Ao90 t358.length co90 : Value).ownBlock ∧ some k_ ≠ (.slice Ao103 t365.length co103 : Value).ownBlock) (.slice Ao70 t341.length co70) t341) ∧ (Kd.R (Kd.int .i64) 3 w' w.heap.size (fun k_ => some k_ ≠ (v335 : Value).ownBlock ∧ some k_ ≠ (.slice Ao70 t341.length co70 : Value).ownBlock ∧ some k_ ≠ (.slice Ao90 t358.length co90 : Value).ownBlock ∧ some k_ ≠ (.slice Ao103 t365.length co103 : Value).ownBlock) (.slice Ao77 t347.length co77) t375) ∧ (Kd.S k51 51 w' w.heap.size (fun k_ => some k_ ≠ (v335 : Value).ownBlock ∧ some k_ ≠ (v339 : Value).ownBlock ∧ some k_ ≠ (.slice Ao70 t341.length co70 : Value).ownBlock ∧ some k_ ≠ (.slice Ao77 t347.length co77 : Value).ownBlock ∧ some k_ ≠ (.slice Ao90 t358.length co90 : Value).ownBlock ∧ some k_ ≠ (.slice Ao103 t365.length co103 : Value).ownBlock ∧ some k_ ≠ (.slice Ao107 t370.length co107 : Value).ownBlock ∧ k_ < nb106 ∧ nb83 ≤ k_) (.slice Ao84 t352.length co84) t377) ∧ (Kd.R (Kd.int .i64) 3 w' w.heap.size (fun k_ => some k_ ≠ (v335 : Value).ownBlock ∧ some k_ ≠ (.slice Ao70 t341.length co70 : Value).ownBlock ∧ some k_ ≠ (.slice Ao77 t347.length co77 : Value).ownBlock ∧ some k_ ≠ (.slice Ao103 t365.length co103 : Value).ownBlock) (.slice Ao90 t358.length co90) t380) ∧ (Kd.R (Kd.int .i64) 3 w' w.heap.size (fun k_ => some k_ ≠ (v335 : Value).ownBlock ∧ some k_ ≠ (.slice Ao70 t341.length co70 : Value).ownBlock ∧ some k_ ≠ (.slice Ao77 t347.length co77 : Value).ownBlock ∧ some k_ ≠ (.slice Ao90 t358.length co90 : Value).ownBlock) (.slice Ao103 t365.length co103) t365) ∧ (Kd.S k51 51 w' w.heap.size (fun k_ => some k_ ≠ (v335 : Value).ownBlock ∧ some k_ ≠ (v339 : Value).ownBlock ∧ some k_ ≠ (.slice Ao70 t341.length co70 : Value).ownBlock ∧ some k_ ≠ (.slice Ao77 t347.length co77 : Value).ownBlock ∧ some k_ ≠ (.slice Ao84 t352.length co84 : Value).ownBlock ∧ some k_ ≠ (.slice Ao90 t358.length co90 : Value).ownBlock ∧ some k_ ≠ (.slice Ao103 t365.length co103 : Value).ownBlock ∧ nb106 ≤ k_) (.slice Ao107 t370.length co107) t370) ∧ (w'.heap[gb327]? = some (.cells #[.int .i64 a0_0, .int .i64 a0_1, .int .i64 a0_2] 23 (0, 0))) ∧ (w'.heap[gb328]? = some (.cells #[.slice A1_0 l1_0.length c1_0, .int .i64 a1_1] 26 (0, 0))) ∧ (w'.heap[gb346]? = some (.cells #[.slice Ao70 t341.length co70, .int .i64 t344] 30 (0, 0))) ∧ (w'.heap[gb351]? = some (.cells #[.slice Ao77 t347.length co77, .int .i64 t350] 30 (0, 0))) ∧ (w'.heap[gb363]? = some (.cells #[.slice Ao90 t358.length co90, .int .i64 t361] 30 (0, 0))) ∧ (w'.heap[s_]? = some (.cells #[.slice none 0 0, .int .i64 0] 30 (0, 0))) ∧ (w.heap.size ≤ s_) ∧ (w.heap.size ≤ s_) ∧ (gb327 ≠ s_) ∧ (s_ ≠ gb327) ∧ (gb328 ≠ s_) ∧ (s_ ≠ gb328) ∧ (gb346 ≠ s_) ∧ (s_ ≠ gb346) ∧ (gb351 ≠ s_) ∧ (s_ ≠ gb351) ∧ (gb363 ≠ s_) ∧ (s_ ≠ gb363) ∧ (Below w.heap.size w w')) ?_ ?_
        rotate_left
        ·intro hJ1_10
         refine join_ (σ := Unit) 9 #[true, true, true, false, true, false, false, false, false, false, false, false, false] (fun s_ => [(102, .agg #[.int .i64 t382, .int .i64 t383, .int .i64 t384])]) (fun s_ w' => (w'.cell? ⟨gb327, 0, none⟩ = some (.int .i64 a0_0) ∧ w'.cell? ⟨gb327, 1, none⟩ = some (.int .i64 a0_1) ∧ w'.cell? ⟨gb327, 2, none⟩ = some (.int .i64 a0_2) ∧ w'.cell? ⟨gb328, 0, none⟩ = some (.slice A1_0 l1_0.length c1_0) ∧ w'.cell? ⟨gb328, 1, none⟩ = some (.int .i64 a1_1)) ∧ (Kd.R (Kd.int .i64) 3 w' w.heap.size (fun k_ => some k_ ≠ (.slice Ao70 t341.length co70 : Value).ownBlock ∧ some k_ ≠ (.slice Ao77 t347.length co77 : Value).ownBlock ∧ some k_ ≠ (.slice Ao90 t358.length co90 : Value).ownBlock ∧ some k_ ≠ (.slice Ao103 t365.length co103 : Value).ownBlock) v335 t334) ∧ (Kd.S k51 51 w' w.heap.size (fun k_ => some k_ ≠ (v335 : Value).ownBlock ∧ some k_ ≠ (.slice Ao70 t341.length co70 : Value).ownBlock ∧ some k_ ≠ (.slice Ao77 t347.length co77 : Value).ownBlock ∧ some k_ ≠ (.slice Ao84 t352.length co84 : Value).ownBlock ∧ some k_ ≠ (.slice Ao90 t358.length co90 : Value).ownBlock ∧ some k_ ≠ (.slice Ao103 t365.length co103 : Value).ownBlock ∧ some k_ ≠ (.slice Ao107 t370.length co107 : Value).ownBlock ∧ k_ < nb106 ∧ k_ < nb83) v339 t338) ∧ (Kd.R (Kd.int .i64) 3 w' w.heap.size (fun k_ => some k_ ≠ (v335 : Value).ownBlock ∧ some k_ ≠ (.slice Ao77 t347.length co77 : Value).ownBlock ∧ some k_ ≠ (.slice Ao90 t358.length co90 : Value).ownBlock ∧ some k_ ≠ (.slice Ao103 t365.length co103 : Value).ownBlock) (.slice Ao70 t341.length co70) t341) ∧ (Kd.R (Kd.int .i64) 3 w' w.heap.size (fun k_ => some k_ ≠ (v335 : Value).ownBlock ∧ some k_ ≠ (.slice Ao70 t341.length co70 : Value).ownBlock ∧ some k_ ≠ (.slice Ao90 t358.length co90 : Value).ownBlock ∧ some k_ ≠ (.slice Ao103 t365.length co103 : Value).ownBlock) (.slice Ao77 t347.length co77) t375) ∧ (Kd.S k51 51 w' w.heap.size (fun k_ => some k_ ≠ (v335 : Value).ownBlock ∧ some k_ ≠ (v339 : Value).ownBlock ∧ some k_ ≠ (.slice Ao70 t341.length co70 : Value).ownBlock ∧ some k_ ≠ (.slice Ao77 t347.length co77 : Value).ownBlock ∧ some k_ ≠ (.slice Ao90 t358.length co90 : Value).ownBlock ∧ some k_ ≠ (.slice Ao103 t365.length co103 : Value).ownBlock ∧ some k_ ≠ (.slice Ao107 t370.length co107 : Value).ownBlock ∧ k_ < nb106 ∧ nb83 ≤ k_) (.slice Ao84 t352.length co84) t377) ∧ (Kd.R (Kd.int .i64) 3 w' w.heap.size (fun k_ => some k_ ≠ (v335 : Value).ownBlock ∧ some k_ ≠ (.slice Ao70 t341.length co70 : Value).ownBlock ∧ some k_ ≠ (.slice Ao77 t347.length co77 : Value).ownBlock ∧ some k_ ≠ (.slice Ao103 t365.length co103 : Value).ownBlock) (.slice Ao90 t358.length co90) t380) ∧ (Kd.R (Kd.int .i64) 3 w' w.heap.size (fun k_ => some k_ ≠ (v335 : Value).ownBlock ∧ some k_ ≠ (.slice Ao70 t341.length co70 : Value).ownBlock ∧ some k_ ≠ (.slice Ao77 t347.length co77 : Value).ownBlock ∧ some k_ ≠ (.slice Ao90 t358.length co90 : Value).ownBlock) (.slice Ao103 t365.length co103) t365) ∧ (Kd.S k51 51 w' w.heap.size (fun k_ => some k_ ≠ (v335 : Value).ownBlock ∧ some k_ ≠ (v339 : Value).ownBlock ∧ some k_ ≠ (.slice Ao70 t341.length co70 : Value).ownBlock ∧ some k_ ≠ (.slice Ao77 t347.length co77 : Value).ownBlock ∧ some k_ ≠ (.slice Ao84 t352.length co84 : Value).ownBlock ∧ some k_ ≠ (.slice Ao90 t358.length co90 : Value).ownBlock ∧ some k_ ≠ (.slice Ao103 t365.length co103 : Value).ownBlock ∧ nb106 ≤ k_) (.slice Ao107 t370.length co107) t370) ∧ (w'.heap[gb327]? = some (.cells #[.int .i64 a0_0, .int .i64 a0_1, .int .i64 a0_2] 23 (0, 0))) ∧ (w'.heap[gb328]? = some (.cells #[.slice A1_0 l1_0.length c1_0, .int .i64 a1_1] 26 (0, 0))) ∧ (w'.heap[gb346]? = some (.cells #[.slice Ao70 t341.length co70, .int .i64 t344] 30 (0, 0))) ∧ (w'.heap[gb351]? = some (.cells #[.slice Ao77 t347.length co77, .int .i64 t350] 30 (0, 0))) ∧ (w'.heap[gb363]? = some (.cells #[.slice Ao90 t358.length co90, .int .i64 t361] 30 (0, 0))) ∧ (Below w.heap.size w w')) ?_ ?_
         rotate_left
         ·intro hJ1
          refine join_ (σ := Nat) 9 #[true, false, true, false, true, false, false, false, false, false, true, false, false] (fun s_ => [(17, .pointer (some ⟨s_, 0, none⟩))]) (fun s_ w' => (w'.cell? ⟨gb327, 0, none⟩ = some (.int .i64 a0_0) ∧ w'.cell? ⟨gb327, 1, none⟩ = some (.int .i64 a0_1) ∧ w'.cell? ⟨gb327, 2, none⟩ = some (.int .i64 a0_2) ∧ w'.cell? ⟨gb328, 0, none⟩ = some (.slice A1_0 l1_0.length c1_0) ∧ w'.cell? ⟨gb328, 1, none⟩ = some (.int .i64 a1_1)) ∧ (Kd.R (Kd.int .i64) 3 w' w.heap.size (fun k_ => some k_ ≠ (.slice Ao70 t341.length co70 : Value).ownBlock ∧ some k_ ≠ (.slice Ao77 t347.length co77 : Value).ownBlock ∧ some k_ ≠ (.slice Ao90 t358.length co90 : Value).ownBlock ∧ some k_ ≠ (.slice Ao103 t365.length co103 : Value).ownBlock) v335 t334) ∧ (Kd.S k51 51 w' w.heap.size (fun k_ => some k_ ≠ (v335 : Value).ownBlock ∧ some k_ ≠ (.slice Ao70 t341.length co70 : Value).ownBlock ∧ some k_ ≠ (.slice Ao77 t347.length co77 : Value).ownBlock ∧ some k_ ≠ (.slice Ao84 t352.length co84 : Value).ownBlock ∧ some k_ ≠ (.slice Ao90 t358.length co90 : Value).ownBlock ∧ some k_ ≠ (.slice Ao103 t365.length co103 : Value).ownBlock ∧ some k_ ≠ (.slice Ao107 t370.length co107 : Value).ownBlock ∧ k_ < nb106 ∧ k_ < nb83) v339 t338) ∧ (Kd.R (Kd.int .i64) 3 w' w.heap.size (fun k_ => some k_ ≠ (v335 : Value).ownBlock ∧ some k_ ≠ (.slice Ao77 t347.length co77 : Value).ownBlock ∧ some k_ ≠ (.slice Ao90 t358.length co90 : Value).ownBlock ∧ some k_ ≠ (.slice Ao103 t365.length co103 : Value).ownBlock) (.slice Ao70 t341.length co70) t341) ∧ (Kd.R (Kd.int .i64) 3 w' w.heap.size (fun k_ => some k_ ≠ (v335 : Value).ownBlock ∧ some k_ ≠ (.slice Ao70 t341.length co70 : Value).ownBlock ∧ some k_ ≠ (.slice Ao90 t358.length co90 : Value).ownBlock ∧ some k_ ≠ (.slice Ao103 t365.length co103 : Value).ownBlock) (.slice Ao77 t347.length co77) t375) ∧ (Kd.S k51 51 w' w.heap.size (fun k_ => some k_ ≠ (v335 : Value).ownBlock ∧ some k_ ≠ (v339 : Value).ownBlock ∧ some k_ ≠ (.slice Ao70 t341.length co70 : Value).ownBlock ∧ some k_ ≠ (.slice Ao77 t347.length co77 : Value).ownBlock ∧ some k_ ≠ (.slice Ao90 t358.length co90 : Value).ownBlock ∧ some k_ ≠ (.slice Ao103 t365.length co103 : Value).ownBlock ∧ some k_ ≠ (.slice Ao107 t370.length co107 : Value).ownBlock ∧ k_ < nb106 ∧ nb83 ≤ k_) (.slice Ao84 t352.length co84) t377) ∧ (Kd.R (Kd.int .i64) 3 w' w.heap.size (fun k_ => some k_ ≠ (v335 : Value).ownBlock ∧ some k_ ≠ (.slice Ao70 t341.length co70 : Value).ownBlock ∧ some k_ ≠ (.slice Ao77 t347.length co77 : Value).ownBlock ∧ some k_ ≠ (.slice Ao103 t365.length co103 : Value).ownBlock) (.slice Ao90 t358.length co90) t380) ∧ (Kd.R (Kd.int .i64) 3 w' w.heap.size (fun k_ => some k_ ≠ (v335 : Value).ownBlock ∧ some k_ ≠ (.slice Ao70 t341.length co70 : Value).ownBlock ∧ some k_ ≠ (.slice Ao77 t347.length co77 : Value).ownBlock ∧ some k_ ≠ (.slice Ao90 t358.length co90 : Value).ownBlock) (.slice Ao103 t365.length co103) t365) ∧ (Kd.S k51 51 w' w.heap.size (fun k_ => some k_ ≠ (v335 : Value).ownBlock ∧ some k_ ≠ (v339 : Value).ownBlock ∧ some k_ ≠ (.slice Ao70 t341.length co70 : Value).ownBlock ∧ some k_ ≠ (.slice Ao77 t347.length co77 : Value).ownBlock ∧ some k_ ≠ (.slice Ao84 t352.length co84 : Value).ownBlock ∧ some k_ ≠ (.slice Ao90 t358.length co90 : Value).ownBlock ∧ some k_ ≠ (.slice Ao103 t365.length co103 : Value).ownBlock ∧ nb106 ≤ k_) (.slice Ao107 t370.length co107) t370) ∧ (w'.heap[gb327]? = some (.cells #[.int .i64 a0_0, .int .i64 a0_1, .int .i64 a0_2] 23 (0, 0))) ∧ (w'.heap[gb328]? = some (.cells #[.slice A1_0 l1_0.length c1_0, .int .i64 a1_1] 26 (0, 0))) ∧ (w'.heap[gb346]? = some (.cells #[.slice Ao70 t341.length co70, .int .i64 t344] 30 (0, 0))) ∧ (w'.heap[gb351]? = some (.cells #[.slice Ao77 t347.length co77, .int .i64 t350] 30 (0, 0))) ∧ (w'.heap[gb363]? = some (.cells #[.slice Ao90 t358.length co90, .int .i64 t361] 30 (0, 0))) ∧ (w'.heap[s_]? = some (.cells #[.slice none 0 0, .int .i64 0] 30 (0, 0))) ∧ (w.heap.size ≤ s_) ∧ (w.heap.size ≤ s_) ∧ (gb327 ≠ s_) ∧ (s_ ≠ gb327) ∧ (gb328 ≠ s_) ∧ (s_ ≠ gb328) ∧ (gb346 ≠ s_) ∧ (s_ ≠ gb346) ∧ (gb351 ≠ s_) ∧ (s_ ≠ gb351) ∧ (gb363 ≠ s_) ∧ (s_ ≠ gb363) ∧ (Below w.heap.size w w')) ?_ ?_
          rotate_left
          ·intro hJ10
           refine two_ (i := 1) (j := 10) (Ni := some 102) (Nj := some 17) #[true, true, true, false, true, false, false, false, false, false, false, false, false] #[true, false, true, false, true, false, false, false, false, false, true, false, false] rfl rfl rfl rfl (two_of HT_.out (by kernel_rfl)) (by decide) (by decide) (fun K hK => ?_) (fun K hK => ?_)
           ·skip
            refine goes_ Try.func7 (by kernel_rfl) rfl #[.agg #[.int .i64 a0_0, .int .i64 a0_1, .int .i64 a0_2]] (by rfl) rfl rfl X.M ?_
            with_reducible refine (laws_toIsles.calls a0_0 a0_1 a0_2 t382 t383 t384 _ A45.out).mono ?_
            rintro e w120 ⟨rfl, hb⟩
            refine ⟨_, rfl, ?_⟩
            have n0_ := X.A (Kd.R_below (X.K HO336) hb)
            have n1_ := X.A (Kd.S_below (X.L HO340) hb)
            have n2_ := X.A (Kd.R_below (X.K HO343) hb)
            have n3_ := X.A (Kd.R_below (X.K HO349) hb)
            have n4_ := X.A (Kd.S_below (X.L HO354) hb)
            have n5_ := X.A (Kd.R_below (X.K HO360) hb)
            have n6_ := X.A (Kd.R_below (X.K HO367) hb)
            have n7_ := X.A (Kd.S_below (X.L HO372) hb)
            have n8_ := X.A (X.BB BK327 hb)
            have n9_ := X.A (X.BB BK328 hb)
            have n10_ := X.A (X.BB BK346 hb)
            have n11_ := X.A (X.BB BK351 hb)
            have n12_ := X.A (X.BB BK363 hb)
            have n13_ := X.A (below_step X.G hb)
            clear HO336 HO340 HO343 HO349 HO354 HO360 HO367 HO372 BK327 BK328 BK346 BK351 BK363 HB
            have HO336 := n0_
            have HO340 := n1_
            have HO343 := n2_
            have HO349 := n3_
            have HO354 := n4_
            have HO360 := n5_
            have HO367 := n6_
            have HO372 := n7_
            have BK327 := n8_
            have BK328 := n9_
            have BK346 := n10_
            have BK351 := n11_
            have BK363 := n12_
            have HB := n13_
            clear n0_ n1_ n2_ n3_ n4_ n5_ n6_ n7_ n8_ n9_ n10_ n11_ n12_ n13_
            (try clear hb)
            (try clear hb2)
            (try clear hk)
            (try clear hi)
            refine hK.out _ _ ⟨(blk_cell BK327.out 0).trans rfl, (blk_cell BK327.out 1).trans rfl, (blk_cell BK327.out 2).trans rfl, (blk_cell BK328.out 0).trans rfl, (blk_cell BK328.out 1).trans rfl⟩ (fun hHeld => ?_)
            clear hK K
            refine norm_ (a' := ?_) ?_ ?_
            rotate_left
            ·exact (show Act.put _ (some 102) _ = _ from X.Pu)
            exact norm_ X.S (hJ1 () _ ⟨hHeld, (X.K HO336), (by (with_reducible repeat (first | apply Kd.S_alloc | apply Kd.S_drewN | apply Kd.S_drew)); exact Kd.S_mono HO340.out (fun _ hk => ⟨hk.1, ⟨hk.2.1, ⟨hk.2.2.1, ⟨hk.2.2.2.1, ⟨hk.2.2.2.2.1, ⟨hk.2.2.2.2.2.1, ⟨hk.2.2.2.2.2.2.1, ⟨hk.2.2.2.2.2.2.2.2, hk.2.2.2.2.2.2.2.1⟩⟩⟩⟩⟩⟩⟩⟩)), (X.K HO343), (X.K HO349), (by (with_reducible repeat (first | apply Kd.S_alloc | apply Kd.S_drewN | apply Kd.S_drew)); exact Kd.S_mono HO354.out (fun _ hk => ⟨hk.1, ⟨hk.2.1, ⟨hk.2.2.1, ⟨hk.2.2.2.1, ⟨hk.2.2.2.2.1, ⟨hk.2.2.2.2.2.1, ⟨hk.2.2.2.2.2.2.1, ⟨hk.2.2.2.2.2.2.2.2, hk.2.2.2.2.2.2.2.1⟩⟩⟩⟩⟩⟩⟩⟩)), (X.K HO360), (X.K HO367), (X.L HO372), (X.B BK327), (X.B BK328), (X.B BK346), (X.B BK351), (X.B BK363), X.G⟩)
           ·skip
            refine box_step ?hg (N := 17) ?hd (cs := #[.slice none 0 0, .int .i64 0]) (t := 30) ?hr ?_; (case hd => rfl); (case hg => rfl); (case hr => exact X.R)
            intro gb397 hg w120 hbox hb
            have n0_ := X.A (Kd.R_below (X.K HO336) hb)
            have n1_ := X.A (Kd.S_below (X.L HO340) hb)
            have n2_ := X.A (Kd.R_below (X.K HO343) hb)
            have n3_ := X.A (Kd.R_below (X.K HO349) hb)
            have n4_ := X.A (Kd.S_below (X.L HO354) hb)
            have n5_ := X.A (Kd.R_below (X.K HO360) hb)
            have n6_ := X.A (Kd.R_below (X.K HO367) hb)
            have n7_ := X.A (Kd.S_below (X.L HO372) hb)
            have n8_ := X.A (X.BB BK327 hb)
            have n9_ := X.A (X.BB BK328 hb)
            have n10_ := X.A (X.BB BK346 hb)
            have n11_ := X.A (X.BB BK351 hb)
            have n12_ := X.A (X.BB BK363 hb)
            have n13_ := X.A (below_step X.G hb)
            have n14_ := X.A (hbox)
            have n15_ := X.A ((by rw [hg]; exact (below_size X.G) : w.heap.size ≤ gb397))
            have n16_ := X.A ((by rw [hg]; exact (below_size X.G) : w.heap.size ≤ gb397))
            have n17_ := X.A (X.NL hg BK327)
            have n18_ := X.A (X.NG hg BK327)
            have n19_ := X.A (X.NL hg BK328)
            have n20_ := X.A (X.NG hg BK328)
            have n21_ := X.A (X.NL hg BK346)
            have n22_ := X.A (X.NG hg BK346)
            have n23_ := X.A (X.NL hg BK351)
            have n24_ := X.A (X.NG hg BK351)
            have n25_ := X.A (X.NL hg BK363)
            have n26_ := X.A (X.NG hg BK363)
            clear HO336 HO340 HO343 HO349 HO354 HO360 HO367 HO372 BK327 BK328 BK346 BK351 BK363 HB
            have HO336 := n0_
            have HO340 := n1_
            have HO343 := n2_
            have HO349 := n3_
            have HO354 := n4_
            have HO360 := n5_
            have HO367 := n6_
            have HO372 := n7_
            have BK327 := n8_
            have BK328 := n9_
            have BK346 := n10_
            have BK351 := n11_
            have BK363 := n12_
            have HB := n13_
            have BK397 := n14_
            have GW397 := n15_
            have GE397 := n16_
            have NB327_397 := n17_
            have NB397_327 := n18_
            have NB328_397 := n19_
            have NB397_328 := n20_
            have NB346_397 := n21_
            have NB397_346 := n22_
            have NB351_397 := n23_
            have NB397_351 := n24_
            have NB363_397 := n25_
            have NB397_363 := n26_
            clear n0_ n1_ n2_ n3_ n4_ n5_ n6_ n7_ n8_ n9_ n10_ n11_ n12_ n13_ n14_ n15_ n16_ n17_ n18_ n19_ n20_ n21_ n22_ n23_ n24_ n25_ n26_ hb hbox hg
            refine hK.out _ _ ⟨(blk_cell BK327.out 0).trans rfl, (blk_cell BK327.out 1).trans rfl, (blk_cell BK327.out 2).trans rfl, (blk_cell BK328.out 0).trans rfl, (blk_cell BK328.out 1).trans rfl⟩ (fun hHeld => ?_)
            clear hK K
            refine norm_ (a' := ?_) ?_ ?_
            rotate_left
            ·exact (show Act.put _ (some 17) _ = _ from X.Pu)
            exact norm_ X.S (hJ10 (gb397) _ ⟨hHeld, (X.K HO336), (by (with_reducible repeat (first | apply Kd.S_alloc | apply Kd.S_drewN | apply Kd.S_drew)); exact Kd.S_mono HO340.out (fun _ hk => ⟨hk.1, ⟨hk.2.1, ⟨hk.2.2.1, ⟨hk.2.2.2.1, ⟨hk.2.2.2.2.1, ⟨hk.2.2.2.2.2.1, ⟨hk.2.2.2.2.2.2.1, ⟨hk.2.2.2.2.2.2.2.2, hk.2.2.2.2.2.2.2.1⟩⟩⟩⟩⟩⟩⟩⟩)), (X.K HO343), (X.K HO349), (by (with_reducible repeat (first | apply Kd.S_alloc | apply Kd.S_drewN | apply Kd.S_drew)); exact Kd.S_mono HO354.out (fun _ hk => ⟨hk.1, ⟨hk.2.1, ⟨hk.2.2.1, ⟨hk.2.2.2.1, ⟨hk.2.2.2.2.1, ⟨hk.2.2.2.2.2.1, ⟨hk.2.2.2.2.2.2.1, ⟨hk.2.2.2.2.2.2.2.2, hk.2.2.2.2.2.2.2.1⟩⟩⟩⟩⟩⟩⟩⟩)), (X.K HO360), (X.K HO367), (X.L HO372), (X.B BK327), (X.B BK328), (X.B BK346), (X.B BK351), (X.B BK363), (X.B BK397), GW397.out, GE397.out, NB327_397.out, NB397_327.out, NB328_397.out, NB397_328.out, NB346_397.out, NB397_346.out, NB351_397.out, NB397_351.out, NB363_397.out, NB397_363.out, X.G⟩)
          ·skip
           rintro gb397 w121 ⟨hS_, h0_, h1_, h2_, h3_, h4_, h5_, h6_, h7_, h8_, h9_, h10_, h11_, h12_, h13_, h14_, h15_, h16_, h17_, h18_, h19_, h20_, h21_, h22_, h23_, h24_, h25_, h26_⟩
           have n0_ : Aside0 (Kd.R (Kd.int .i64) 3 w121 w.heap.size (fun k_ => some k_ ≠ (.slice Ao70 t341.length co70 : Value).ownBlock ∧ some k_ ≠ (.slice Ao77 t347.length co77 : Value).ownBlock ∧ some k_ ≠ (.slice Ao90 t358.length co90 : Value).ownBlock ∧ some k_ ≠ (.slice Ao103 t365.length co103 : Value).ownBlock) v335 t334) := ⟨h0_⟩
           have n1_ : Aside0 (Kd.S k51 51 w121 w.heap.size (fun k_ => some k_ ≠ (v335 : Value).ownBlock ∧ some k_ ≠ (.slice Ao70 t341.length co70 : Value).ownBlock ∧ some k_ ≠ (.slice Ao77 t347.length co77 : Value).ownBlock ∧ some k_ ≠ (.slice Ao84 t352.length co84 : Value).ownBlock ∧ some k_ ≠ (.slice Ao90 t358.length co90 : Value).ownBlock ∧ some k_ ≠ (.slice Ao103 t365.length co103 : Value).ownBlock ∧ some k_ ≠ (.slice Ao107 t370.length co107 : Value).ownBlock ∧ k_ < nb106 ∧ k_ < nb83) v339 t338) := ⟨h1_⟩
           have n2_ : Aside0 (Kd.R (Kd.int .i64) 3 w121 w.heap.size (fun k_ => some k_ ≠ (v335 : Value).ownBlock ∧ some k_ ≠ (.slice Ao77 t347.length co77 : Value).ownBlock ∧ some k_ ≠ (.slice Ao90 t358.length co90 : Value).ownBlock ∧ some k_ ≠ (.slice Ao103 t365.length co103 : Value).ownBlock) (.slice Ao70 t341.length co70) t341) := ⟨h2_⟩
           have n3_ : Aside0 (Kd.R (Kd.int .i64) 3 w121 w.heap.size (fun k_ => some k_ ≠ (v335 : Value).ownBlock ∧ some k_ ≠ (.slice Ao70 t341.length co70 : Value).ownBlock ∧ some k_ ≠ (.slice Ao90 t358.length co90 : Value).ownBlock ∧ some k_ ≠ (.slice Ao103 t365.length co103 : Value).ownBlock) (.slice Ao77 t347.length co77) t375) := ⟨h3_⟩
           have n4_ : Aside0 (Kd.S k51 51 w121 w.heap.size (fun k_ => some k_ ≠ (v335 : Value).ownBlock ∧ some k_ ≠ (v339 : Value).ownBlock ∧ some k_ ≠ (.slice Ao70 t341.length co70 : Value).ownBlock ∧ some k_ ≠ (.slice Ao77 t347.length co77 : Value).ownBlock ∧ some k_ ≠ (.slice Ao90 t358.length co90 : Value).ownBlock ∧ some k_ ≠ (.slice Ao103 t365.length co103 : Value).ownBlock ∧ some k_ ≠ (.slice Ao107 t370.length co107 : Value).ownBlock ∧ k_ < nb106 ∧ nb83 ≤ k_) (.slice Ao84 t352.length co84) t377) := ⟨h4_⟩
           have n5_ : Aside0 (Kd.R (Kd.int .i64) 3 w121 w.heap.size (fun k_ => some k_ ≠ (v335 : Value).ownBlock ∧ some k_ ≠ (.slice Ao70 t341.length co70 : Value).ownBlock ∧ some k_ ≠ (.slice Ao77 t347.length co77 : Value).ownBlock ∧ some k_ ≠ (.slice Ao103 t365.length co103 : Value).ownBlock) (.slice Ao90 t358.length co90) t380) := ⟨h5_⟩
           have n6_ : Aside0 (Kd.R (Kd.int .i64) 3 w121 w.heap.size (fun k_ => some k_ ≠ (v335 : Value).ownBlock ∧ some k_ ≠ (.slice Ao70 t341.length co70 : Value).ownBlock ∧ some k_ ≠ (.slice Ao77 t347.length co77 : Value).ownBlock ∧ some k_ ≠ (.slice Ao90 t358.length co90 : Value).ownBlock) (.slice Ao103 t365.length co103) t365) := ⟨h6_⟩
           have n7_ : Aside0 (Kd.S k51 51 w121 w.heap.size (fun k_ => some k_ ≠ (v335 : Value).ownBlock ∧ some k_ ≠ (v339 : Value).ownBlock ∧ some k_ ≠ (.slice Ao70 t341.length co70 : Value).ownBlock ∧ some k_ ≠ (.slice Ao77 t347.length co77 : Value).ownBlock ∧ some k_ ≠ (.slice Ao84 t352.length co84 : Value).ownBlock ∧ some k_ ≠ (.slice Ao90 t358.length co90 : Value).ownBlock ∧ some k_ ≠ (.slice Ao103 t365.length co103 : Value).ownBlock ∧ nb106 ≤ k_) (.slice Ao107 t370.length co107) t370) := ⟨h7_⟩
           have n8_ : Aside0 (w121.heap[gb327]? = some (.cells #[.int .i64 a0_0, .int .i64 a0_1, .int .i64 a0_2] 23 (0, 0))) := ⟨h8_⟩
           have n9_ : Aside0 (w121.heap[gb328]? = some (.cells #[.slice A1_0 l1_0.length c1_0, .int .i64 a1_1] 26 (0, 0))) := ⟨h9_⟩
           have n10_ : Aside0 (w121.heap[gb346]? = some (.cells #[.slice Ao70 t341.length co70, .int .i64 t344] 30 (0, 0))) := ⟨h10_⟩
           have n11_ : Aside0 (w121.heap[gb351]? = some (.cells #[.slice Ao77 t347.length co77, .int .i64 t350] 30 (0, 0))) := ⟨h11_⟩
           have n12_ : Aside0 (w121.heap[gb363]? = some (.cells #[.slice Ao90 t358.length co90, .int .i64 t361] 30 (0, 0))) := ⟨h12_⟩
           have n13_ : Aside0 (w121.heap[gb397]? = some (.cells #[.slice none 0 0, .int .i64 0] 30 (0, 0))) := ⟨h13_⟩
           have n14_ : Aside0 (w.heap.size ≤ gb397) := ⟨h14_⟩
           have n15_ : Aside0 (w.heap.size ≤ gb397) := ⟨h15_⟩
           have n16_ : Aside0 (gb327 ≠ gb397) := ⟨h16_⟩
           have n17_ : Aside0 (gb397 ≠ gb327) := ⟨h17_⟩
           have n18_ : Aside0 (gb328 ≠ gb397) := ⟨h18_⟩
           have n19_ : Aside0 (gb397 ≠ gb328) := ⟨h19_⟩
           have n20_ : Aside0 (gb346 ≠ gb397) := ⟨h20_⟩
           have n21_ : Aside0 (gb397 ≠ gb346) := ⟨h21_⟩
           have n22_ : Aside0 (gb351 ≠ gb397) := ⟨h22_⟩
           have n23_ : Aside0 (gb397 ≠ gb351) := ⟨h23_⟩
           have n24_ : Aside0 (gb363 ≠ gb397) := ⟨h24_⟩
           have n25_ : Aside0 (gb397 ≠ gb363) := ⟨h25_⟩
           have n26_ : Aside0 (Below w.heap.size w w121) := ⟨h26_⟩
           clear HO336 HO340 HO343 HO349 HO354 HO360 HO367 HO372 BK327 BK328 BK346 BK351 BK363 HB h0_ h1_ h2_ h3_ h4_ h5_ h6_ h7_ h8_ h9_ h10_ h11_ h12_ h13_ h14_ h15_ h16_ h17_ h18_ h19_ h20_ h21_ h22_ h23_ h24_ h25_ h26_
           have HO336 := n0_
           have HO340 := n1_
           have HO343 := n2_
           have HO349 := n3_
           have HO354 := n4_
           have HO360 := n5_
           have HO367 := n6_
           have HO372 := n7_
           have BK327 := n8_
           have BK328 := n9_
           have BK346 := n10_
           have BK351 := n11_
           have BK363 := n12_
           have BK397 := n13_
           have GW397 := n14_
           have GE397 := n15_
           have NB327_397 := n16_
           have NB397_327 := n17_
           have NB328_397 := n18_
           have NB397_328 := n19_
           have NB346_397 := n20_
           have NB397_346 := n21_
           have NB351_397 := n22_
           have NB397_351 := n23_
           have NB363_397 := n24_
           have NB397_363 := n25_
           have HB := n26_
           clear n0_ n1_ n2_ n3_ n4_ n5_ n6_ n7_ n8_ n9_ n10_ n11_ n12_ n13_ n14_ n15_ n16_ n17_ n18_ n19_ n20_ n21_ n22_ n23_ n24_ n25_ n26_
           have hHeld : w121.cell? ⟨gb327, 0, none⟩ = some (.int .i64 a0_0) ∧ w121.cell? ⟨gb327, 1, none⟩ = some (.int .i64 a0_1) ∧ w121.cell? ⟨gb327, 2, none⟩ = some (.int .i64 a0_2) ∧ w121.cell? ⟨gb328, 0, none⟩ = some (.slice A1_0 l1_0.length c1_0) ∧ w121.cell? ⟨gb328, 1, none⟩ = some (.int .i64 a1_1) := hS_
           refine norm_ (a' := ?_) ?_ ?_
           rotate_left
           ·simp only [putAll, Act.put, List.setIfInBounds_toArray, List.set_cons_zero, List.set_cons_succ]
            rfl
           refine one_ (i := 1) (N := some 102) #[true, true, true, false, true, false, false, false, false, false, true, false, false] rfl rfl (one_of HT_.out (by kernel_rfl)) (by decide) (fun K hK => ?_)
           refine goes_ Try.func7 (by kernel_rfl) rfl #[.agg #[.int .i64 a0_0, .int .i64 a0_1, .int .i64 a0_2]] (by rfl) rfl rfl X.M ?_
           with_reducible refine (laws_toIsles.calls a0_0 a0_1 a0_2 t382 t383 t384 _ A45.out).mono ?_
           rintro e w122 ⟨rfl, hb⟩
           refine ⟨_, rfl, ?_⟩
           have n0_ := X.A (Kd.R_below (X.K HO336) hb)
           have n1_ := X.A (Kd.S_below (X.L HO340) hb)
           have n2_ := X.A (Kd.R_below (X.K HO343) hb)
           have n3_ := X.A (Kd.R_below (X.K HO349) hb)
           have n4_ := X.A (Kd.S_below (X.L HO354) hb)
           have n5_ := X.A (Kd.R_below (X.K HO360) hb)
           have n6_ := X.A (Kd.R_below (X.K HO367) hb)
           have n7_ := X.A (Kd.S_below (X.L HO372) hb)
           have n8_ := X.A (X.BB BK327 hb)
           have n9_ := X.A (X.BB BK328 hb)
           have n10_ := X.A (X.BB BK346 hb)
           have n11_ := X.A (X.BB BK351 hb)
           have n12_ := X.A (X.BB BK363 hb)
           have n13_ := X.A (X.BB BK397 hb)
           have n14_ := X.A (below_step X.G hb)
           clear HO336 HO340 HO343 HO349 HO354 HO360 HO367 HO372 BK327 BK328 BK346 BK351 BK363 BK397 HB
           have HO336 := n0_
           have HO340 := n1_
           have HO343 := n2_
           have HO349 := n3_
           have HO354 := n4_
           have HO360 := n5_
           have HO367 := n6_
           have HO372 := n7_
           have BK327 := n8_
           have BK328 := n9_
           have BK346 := n10_
           have BK351 := n11_
           have BK363 := n12_
           have BK397 := n13_
           have HB := n14_
           clear n0_ n1_ n2_ n3_ n4_ n5_ n6_ n7_ n8_ n9_ n10_ n11_ n12_ n13_ n14_
           (try clear hb)
           (try clear hb2)
           (try clear hk)
           (try clear hi)
           refine hK.out _ _ ⟨(blk_cell BK327.out 0).trans rfl, (blk_cell BK327.out 1).trans rfl, (blk_cell BK327.out 2).trans rfl, (blk_cell BK328.out 0).trans rfl, (blk_cell BK328.out 1).trans rfl⟩ (fun hHeld => ?_)
           clear hK K
           refine norm_ (a' := ?_) ?_ ?_
           rotate_left
           ·exact (show Act.put _ (some 102) _ = _ from X.Pu)
           exact norm_ X.S (hJ1_10 (gb397) _ ⟨hHeld, (X.K HO336), (X.L HO340), (X.K HO343), (X.K HO349), (X.L HO354), (X.K HO360), (X.K HO367), (X.L HO372), (X.B BK327), (X.B BK328), (X.B BK346), (X.B BK351), (X.B BK363), (X.B BK397), GW397.out, GE397.out, NB327_397.out, NB397_327.out, NB328_397.out, NB397_328.out, NB346_397.out, NB397_346.out, NB351_397.out, NB397_351.out, NB363_397.out, NB397_363.out, X.G⟩)
         ·skip
          rintro _ w121 ⟨hS_, h0_, h1_, h2_, h3_, h4_, h5_, h6_, h7_, h8_, h9_, h10_, h11_, h12_, h13_⟩
          have n0_ : Aside0 (Kd.R (Kd.int .i64) 3 w121 w.heap.size (fun k_ => some k_ ≠ (.slice Ao70 t341.length co70 : Value).ownBlock ∧ some k_ ≠ (.slice Ao77 t347.length co77 : Value).ownBlock ∧ some k_ ≠ (.slice Ao90 t358.length co90 : Value).ownBlock ∧ some k_ ≠ (.slice Ao103 t365.length co103 : Value).ownBlock) v335 t334) := ⟨h0_⟩
          have n1_ : Aside0 (Kd.S k51 51 w121 w.heap.size (fun k_ => some k_ ≠ (v335 : Value).ownBlock ∧ some k_ ≠ (.slice Ao70 t341.length co70 : Value).ownBlock ∧ some k_ ≠ (.slice Ao77 t347.length co77 : Value).ownBlock ∧ some k_ ≠ (.slice Ao84 t352.length co84 : Value).ownBlock ∧ some k_ ≠ (.slice Ao90 t358.length co90 : Value).ownBlock ∧ some k_ ≠ (.slice Ao103 t365.length co103 : Value).ownBlock ∧ some k_ ≠ (.slice Ao107 t370.length co107 : Value).ownBlock ∧ k_ < nb106 ∧ k_ < nb83) v339 t338) := ⟨h1_⟩
          have n2_ : Aside0 (Kd.R (Kd.int .i64) 3 w121 w.heap.size (fun k_ => some k_ ≠ (v335 : Value).ownBlock ∧ some k_ ≠ (.slice Ao77 t347.length co77 : Value).ownBlock ∧ some k_ ≠ (.slice Ao90 t358.length co90 : Value).ownBlock ∧ some k_ ≠ (.slice Ao103 t365.length co103 : Value).ownBlock) (.slice Ao70 t341.length co70) t341) := ⟨h2_⟩
          have n3_ : Aside0 (Kd.R (Kd.int .i64) 3 w121 w.heap.size (fun k_ => some k_ ≠ (v335 : Value).ownBlock ∧ some k_ ≠ (.slice Ao70 t341.length co70 : Value).ownBlock ∧ some k_ ≠ (.slice Ao90 t358.length co90 : Value).ownBlock ∧ some k_ ≠ (.slice Ao103 t365.length co103 : Value).ownBlock) (.slice Ao77 t347.length co77) t375) := ⟨h3_⟩
          have n4_ : Aside0 (Kd.S k51 51 w121 w.heap.size (fun k_ => some k_ ≠ (v335 : Value).ownBlock ∧ some k_ ≠ (v339 : Value).ownBlock ∧ some k_ ≠ (.slice Ao70 t341.length co70 : Value).ownBlock ∧ some k_ ≠ (.slice Ao77 t347.length co77 : Value).ownBlock ∧ some k_ ≠ (.slice Ao90 t358.length co90 : Value).ownBlock ∧ some k_ ≠ (.slice Ao103 t365.length co103 : Value).ownBlock ∧ some k_ ≠ (.slice Ao107 t370.length co107 : Value).ownBlock ∧ k_ < nb106 ∧ nb83 ≤ k_) (.slice Ao84 t352.length co84) t377) := ⟨h4_⟩
          have n5_ : Aside0 (Kd.R (Kd.int .i64) 3 w121 w.heap.size (fun k_ => some k_ ≠ (v335 : Value).ownBlock ∧ some k_ ≠ (.slice Ao70 t341.length co70 : Value).ownBlock ∧ some k_ ≠ (.slice Ao77 t347.length co77 : Value).ownBlock ∧ some k_ ≠ (.slice Ao103 t365.length co103 : Value).ownBlock) (.slice Ao90 t358.length co90) t380) := ⟨h5_⟩
          have n6_ : Aside0 (Kd.R (Kd.int .i64) 3 w121 w.heap.size (fun k_ => some k_ ≠ (v335 : Value).ownBlock ∧ some k_ ≠ (.slice Ao70 t341.length co70 : Value).ownBlock ∧ some k_ ≠ (.slice Ao77 t347.length co77 : Value).ownBlock ∧ some k_ ≠ (.slice Ao90 t358.length co90 : Value).ownBlock) (.slice Ao103 t365.length co103) t365) := ⟨h6_⟩
          have n7_ : Aside0 (Kd.S k51 51 w121 w.heap.size (fun k_ => some k_ ≠ (v335 : Value).ownBlock ∧ some k_ ≠ (v339 : Value).ownBlock ∧ some k_ ≠ (.slice Ao70 t341.length co70 : Value).ownBlock ∧ some k_ ≠ (.slice Ao77 t347.length co77 : Value).ownBlock ∧ some k_ ≠ (.slice Ao84 t352.length co84 : Value).ownBlock ∧ some k_ ≠ (.slice Ao90 t358.length co90 : Value).ownBlock ∧ some k_ ≠ (.slice Ao103 t365.length co103 : Value).ownBlock ∧ nb106 ≤ k_) (.slice Ao107 t370.length co107) t370) := ⟨h7_⟩
          have n8_ : Aside0 (w121.heap[gb327]? = some (.cells #[.int .i64 a0_0, .int .i64 a0_1, .int .i64 a0_2] 23 (0, 0))) := ⟨h8_⟩
          have n9_ : Aside0 (w121.heap[gb328]? = some (.cells #[.slice A1_0 l1_0.length c1_0, .int .i64 a1_1] 26 (0, 0))) := ⟨h9_⟩
          have n10_ : Aside0 (w121.heap[gb346]? = some (.cells #[.slice Ao70 t341.length co70, .int .i64 t344] 30 (0, 0))) := ⟨h10_⟩
          have n11_ : Aside0 (w121.heap[gb351]? = some (.cells #[.slice Ao77 t347.length co77, .int .i64 t350] 30 (0, 0))) := ⟨h11_⟩
          have n12_ : Aside0 (w121.heap[gb363]? = some (.cells #[.slice Ao90 t358.length co90, .int .i64 t361] 30 (0, 0))) := ⟨h12_⟩
          have n13_ : Aside0 (Below w.heap.size w w121) := ⟨h13_⟩
          clear HO336 HO340 HO343 HO349 HO354 HO360 HO367 HO372 BK327 BK328 BK346 BK351 BK363 HB h0_ h1_ h2_ h3_ h4_ h5_ h6_ h7_ h8_ h9_ h10_ h11_ h12_ h13_
          have HO336 := n0_
          have HO340 := n1_
          have HO343 := n2_
          have HO349 := n3_
          have HO354 := n4_
          have HO360 := n5_
          have HO367 := n6_
          have HO372 := n7_
          have BK327 := n8_
          have BK328 := n9_
          have BK346 := n10_
          have BK351 := n11_
          have BK363 := n12_
          have HB := n13_
          clear n0_ n1_ n2_ n3_ n4_ n5_ n6_ n7_ n8_ n9_ n10_ n11_ n12_ n13_
          have hHeld : w121.cell? ⟨gb327, 0, none⟩ = some (.int .i64 a0_0) ∧ w121.cell? ⟨gb327, 1, none⟩ = some (.int .i64 a0_1) ∧ w121.cell? ⟨gb327, 2, none⟩ = some (.int .i64 a0_2) ∧ w121.cell? ⟨gb328, 0, none⟩ = some (.slice A1_0 l1_0.length c1_0) ∧ w121.cell? ⟨gb328, 1, none⟩ = some (.int .i64 a1_1) := hS_
          refine norm_ (a' := ?_) ?_ ?_
          rotate_left
          ·simp only [putAll, Act.put, List.setIfInBounds_toArray, List.set_cons_zero, List.set_cons_succ]
           rfl
          refine two_ (i := 3) (j := 10) (Ni := some 104) (Nj := some 17) #[true, true, true, true, true, false, false, false, false, false, false, false, false] #[true, true, true, false, true, false, false, false, false, false, true, false, false] rfl rfl rfl rfl (two_of HT_.out (by kernel_rfl)) (by decide) (by decide) (fun K hK => ?_) (fun K hK => ?_)
          ·skip
           refine goes_ Try.func8 (by kernel_rfl) rfl #[.agg #[.slice A1_0 l1_0.length c1_0, .int .i64 a1_1]] (by rfl) rfl rfl X.M ?_
           with_reducible refine (laws_toPlaces.calls k _ _ l1_0 a1_1 t385 t388 _ ?side1 ?side2 A46.out).mono ?_
           (case side1 => exact X.C (Kd.C_below HR1_0.out HB.out))
           (case side2 => exact HC1_0.out)
           rintro e w122 ⟨v386, rfl, ho0, hb⟩
           refine ⟨_, rfl, ?_⟩
           have n0_ := X.A (Kd.R_elder' (X.K HO336) (Kd.R_base ho0) hb)
           have n1_ := X.A (Kd.S_elder' (X.L HO340) (Kd.R_base ho0) hb)
           have n2_ := X.A (Kd.R_elder' (X.K HO343) (Kd.R_base ho0) hb)
           have n3_ := X.A (Kd.R_elder' (X.K HO349) (Kd.R_base ho0) hb)
           have n4_ := X.A (Kd.S_elder' (X.L HO354) (Kd.R_base ho0) hb)
           have n5_ := X.A (Kd.R_elder' (X.K HO360) (Kd.R_base ho0) hb)
           have n6_ := X.A (Kd.R_elder' (X.K HO367) (Kd.R_base ho0) hb)
           have n7_ := X.A (Kd.S_elder' (X.L HO372) (Kd.R_base ho0) hb)
           have n8_ := X.A (Kd.R_lower (Kd.R_new' (Kd.R_new' (Kd.R_new' (Kd.R_new' (Kd.R_new' ho0 (Kd.R_lt (X.K HO336))) (Kd.R_lt (X.K HO343))) (Kd.R_lt (X.K HO349))) (Kd.R_lt (X.K HO360))) (Kd.R_lt (X.K HO367))) (below_size X.G))
           have n9_ := X.A (X.BB BK327 hb)
           have n10_ := X.A (X.BB BK328 hb)
           have n11_ := X.A (X.BB BK346 hb)
           have n12_ := X.A (X.BB BK351 hb)
           have n13_ := X.A (X.BB BK363 hb)
           have n14_ := X.A (below_step X.G hb)
           clear HO336 HO340 HO343 HO349 HO354 HO360 HO367 HO372 BK327 BK328 BK346 BK351 BK363 HB
           have HO336 := n0_
           have HO340 := n1_
           have HO343 := n2_
           have HO349 := n3_
           have HO354 := n4_
           have HO360 := n5_
           have HO367 := n6_
           have HO372 := n7_
           have HO387 := n8_
           have BK327 := n9_
           have BK328 := n10_
           have BK346 := n11_
           have BK351 := n12_
           have BK363 := n13_
           have HB := n14_
           clear n0_ n1_ n2_ n3_ n4_ n5_ n6_ n7_ n8_ n9_ n10_ n11_ n12_ n13_ n14_
           (try clear hb)
           (try clear hb2)
           (try clear hk)
           (try clear hi)
           (try clear ho0)
           refine hK.out _ _ ⟨(blk_cell BK327.out 0).trans rfl, (blk_cell BK327.out 1).trans rfl, (blk_cell BK327.out 2).trans rfl, (blk_cell BK328.out 0).trans rfl, (blk_cell BK328.out 1).trans rfl⟩ (fun hHeld => ?_)
           clear hK K
           refine norm_ (a' := ?_) ?_ ?_
           rotate_left
           ·exact (show Act.put _ (some 104) _ = _ from X.Pu)
           exact norm_ X.S (hJ1_3 (v386) _ ⟨hHeld, (by (with_reducible repeat (first | apply Kd.R_alloc | apply Kd.R_drewN | apply Kd.R_drew)); exact Kd.R_mono HO336.out (fun _ hk => ⟨hk.1.1, ⟨hk.1.2.1, ⟨hk.1.2.2.1, ⟨hk.1.2.2.2, hk.2⟩⟩⟩⟩)), (by (with_reducible repeat (first | apply Kd.S_alloc | apply Kd.S_drewN | apply Kd.S_drew)); exact Kd.S_mono HO340.out (fun _ hk => ⟨hk.1.1, ⟨hk.1.2.1, ⟨hk.1.2.2.1, ⟨hk.1.2.2.2.1, ⟨hk.1.2.2.2.2.1, ⟨hk.1.2.2.2.2.2.1, ⟨hk.1.2.2.2.2.2.2.1, ⟨hk.2, ⟨hk.1.2.2.2.2.2.2.2.1, hk.1.2.2.2.2.2.2.2.2⟩⟩⟩⟩⟩⟩⟩⟩⟩)), (by (with_reducible repeat (first | apply Kd.R_alloc | apply Kd.R_drewN | apply Kd.R_drew)); exact Kd.R_mono HO343.out (fun _ hk => ⟨hk.1.1, ⟨hk.1.2.1, ⟨hk.1.2.2.1, ⟨hk.1.2.2.2, hk.2⟩⟩⟩⟩)), (by (with_reducible repeat (first | apply Kd.R_alloc | apply Kd.R_drewN | apply Kd.R_drew)); exact Kd.R_mono HO349.out (fun _ hk => ⟨hk.1.1, ⟨hk.1.2.1, ⟨hk.1.2.2.1, ⟨hk.1.2.2.2, hk.2⟩⟩⟩⟩)), (by (with_reducible repeat (first | apply Kd.S_alloc | apply Kd.S_drewN | apply Kd.S_drew)); exact Kd.S_mono HO354.out (fun _ hk => ⟨hk.1.1, ⟨hk.1.2.1, ⟨hk.1.2.2.1, ⟨hk.1.2.2.2.1, ⟨hk.1.2.2.2.2.1, ⟨hk.1.2.2.2.2.2.1, ⟨hk.1.2.2.2.2.2.2.1, ⟨hk.2, ⟨hk.1.2.2.2.2.2.2.2.1, hk.1.2.2.2.2.2.2.2.2⟩⟩⟩⟩⟩⟩⟩⟩⟩)), (by (with_reducible repeat (first | apply Kd.R_alloc | apply Kd.R_drewN | apply Kd.R_drew)); exact Kd.R_mono HO360.out (fun _ hk => ⟨hk.1.1, ⟨hk.1.2.1, ⟨hk.1.2.2.1, ⟨hk.1.2.2.2, hk.2⟩⟩⟩⟩)), (by (with_reducible repeat (first | apply Kd.R_alloc | apply Kd.R_drewN | apply Kd.R_drew)); exact Kd.R_mono HO367.out (fun _ hk => ⟨hk.1.1, ⟨hk.1.2.1, ⟨hk.1.2.2.1, ⟨hk.1.2.2.2, hk.2⟩⟩⟩⟩)), (by (with_reducible repeat (first | apply Kd.S_alloc | apply Kd.S_drewN | apply Kd.S_drew)); exact Kd.S_mono HO372.out (fun _ hk => ⟨hk.1.1, ⟨hk.1.2.1, ⟨hk.1.2.2.1, ⟨hk.1.2.2.2.1, ⟨hk.1.2.2.2.2.1, ⟨hk.1.2.2.2.2.2.1, ⟨hk.1.2.2.2.2.2.2.1, ⟨hk.2, hk.1.2.2.2.2.2.2.2⟩⟩⟩⟩⟩⟩⟩⟩)), (by (with_reducible repeat (first | apply Kd.R_alloc | apply Kd.R_drewN | apply Kd.R_drew)); exact Kd.R_mono HO387.out (fun _ hk => ⟨hk.1.1.1.1.2, ⟨hk.1.1.1.2, ⟨hk.1.1.2, ⟨hk.1.2, hk.2⟩⟩⟩⟩)), (X.B BK327), (X.B BK328), (X.B BK346), (X.B BK351), (X.B BK363), X.G⟩)
          ·skip
           refine box_step ?hg (N := 17) ?hd (cs := #[.slice none 0 0, .int .i64 0]) (t := 30) ?hr ?_; (case hd => rfl); (case hg => rfl); (case hr => exact X.R)
           intro gb397 hg w122 hbox hb
           have n0_ := X.A (Kd.R_below (X.K HO336) hb)
           have n1_ := X.A (Kd.S_below (X.L HO340) hb)
           have n2_ := X.A (Kd.R_below (X.K HO343) hb)
           have n3_ := X.A (Kd.R_below (X.K HO349) hb)
           have n4_ := X.A (Kd.S_below (X.L HO354) hb)
           have n5_ := X.A (Kd.R_below (X.K HO360) hb)
           have n6_ := X.A (Kd.R_below (X.K HO367) hb)
           have n7_ := X.A (Kd.S_below (X.L HO372) hb)
           have n8_ := X.A (X.BB BK327 hb)
           have n9_ := X.A (X.BB BK328 hb)
           have n10_ := X.A (X.BB BK346 hb)
           have n11_ := X.A (X.BB BK351 hb)
           have n12_ := X.A (X.BB BK363 hb)
           have n13_ := X.A (below_step X.G hb)
           have n14_ := X.A (hbox)
           have n15_ := X.A ((by rw [hg]; exact (below_size X.G) : w.heap.size ≤ gb397))
           have n16_ := X.A ((by rw [hg]; exact (below_size X.G) : w.heap.size ≤ gb397))
           have n17_ := X.A (X.NL hg BK327)
           have n18_ := X.A (X.NG hg BK327)
           have n19_ := X.A (X.NL hg BK328)
           have n20_ := X.A (X.NG hg BK328)
           have n21_ := X.A (X.NL hg BK346)
           have n22_ := X.A (X.NG hg BK346)
           have n23_ := X.A (X.NL hg BK351)
           have n24_ := X.A (X.NG hg BK351)
           have n25_ := X.A (X.NL hg BK363)
           have n26_ := X.A (X.NG hg BK363)
           clear HO336 HO340 HO343 HO349 HO354 HO360 HO367 HO372 BK327 BK328 BK346 BK351 BK363 HB
           have HO336 := n0_
           have HO340 := n1_
           have HO343 := n2_
           have HO349 := n3_
           have HO354 := n4_
           have HO360 := n5_
           have HO367 := n6_
           have HO372 := n7_
           have BK327 := n8_
           have BK328 := n9_
           have BK346 := n10_
           have BK351 := n11_
           have BK363 := n12_
           have HB := n13_
           have BK397 := n14_
           have GW397 := n15_
           have GE397 := n16_
           have NB327_397 := n17_
           have NB397_327 := n18_
           have NB328_397 := n19_
           have NB397_328 := n20_
           have NB346_397 := n21_
           have NB397_346 := n22_
           have NB351_397 := n23_
           have NB397_351 := n24_
           have NB363_397 := n25_
           have NB397_363 := n26_
           clear n0_ n1_ n2_ n3_ n4_ n5_ n6_ n7_ n8_ n9_ n10_ n11_ n12_ n13_ n14_ n15_ n16_ n17_ n18_ n19_ n20_ n21_ n22_ n23_ n24_ n25_ n26_ hb hbox hg
           refine hK.out _ _ ⟨(blk_cell BK327.out 0).trans rfl, (blk_cell BK327.out 1).trans rfl, (blk_cell BK327.out 2).trans rfl, (blk_cell BK328.out 0).trans rfl, (blk_cell BK328.out 1).trans rfl⟩ (fun hHeld => ?_)
           clear hK K
           refine norm_ (a' := ?_) ?_ ?_
           rotate_left
           ·exact (show Act.put _ (some 17) _ = _ from X.Pu)
           exact norm_ X.S (hJ1_10 (gb397) _ ⟨hHeld, (X.K HO336), (X.L HO340), (X.K HO343), (X.K HO349), (X.L HO354), (X.K HO360), (X.K HO367), (X.L HO372), (X.B BK327), (X.B BK328), (X.B BK346), (X.B BK351), (X.B BK363), (X.B BK397), GW397.out, GE397.out, NB327_397.out, NB397_327.out, NB328_397.out, NB397_328.out, NB346_397.out, NB397_346.out, NB351_397.out, NB397_351.out, NB363_397.out, NB397_363.out, X.G⟩)
        ·skip
         rintro gb397 w122 ⟨hS_, h0_, h1_, h2_, h3_, h4_, h5_, h6_, h7_, h8_, h9_, h10_, h11_, h12_, h13_, h14_, h15_, h16_, h17_, h18_, h19_, h20_, h21_, h22_, h23_, h24_, h25_, h26_⟩
         have n0_ : Aside0 (Kd.R (Kd.int .i64) 3 w122 w.heap.size (fun k_ => some k_ ≠ (.slice Ao70 t341.length co70 : Value).ownBlock ∧ some k_ ≠ (.slice Ao77 t347.length co77 : Value).ownBlock ∧ some k_ ≠ (.slice Ao90 t358.length co90 : Value).ownBlock ∧ some k_ ≠ (.slice Ao103 t365.length co103 : Value).ownBlock) v335 t334) := ⟨h0_⟩
         have n1_ : Aside0 (Kd.S k51 51 w122 w.heap.size (fun k_ => some k_ ≠ (v335 : Value).ownBlock ∧ some k_ ≠ (.slice Ao70 t341.length co70 : Value).ownBlock ∧ some k_ ≠ (.slice Ao77 t347.length co77 : Value).ownBlock ∧ some k_ ≠ (.slice Ao84 t352.length co84 : Value).ownBlock ∧ some k_ ≠ (.slice Ao90 t358.length co90 : Value).ownBlock ∧ some k_ ≠ (.slice Ao103 t365.length co103 : Value).ownBlock ∧ some k_ ≠ (.slice Ao107 t370.length co107 : Value).ownBlock ∧ k_ < nb106 ∧ k_ < nb83) v339 t338) := ⟨h1_⟩
         have n2_ : Aside0 (Kd.R (Kd.int .i64) 3 w122 w.heap.size (fun k_ => some k_ ≠ (v335 : Value).ownBlock ∧ some k_ ≠ (.slice Ao77 t347.length co77 : Value).ownBlock ∧ some k_ ≠ (.slice Ao90 t358.length co90 : Value).ownBlock ∧ some k_ ≠ (.slice Ao103 t365.length co103 : Value).ownBlock) (.slice Ao70 t341.length co70) t341) := ⟨h2_⟩
         have n3_ : Aside0 (Kd.R (Kd.int .i64) 3 w122 w.heap.size (fun k_ => some k_ ≠ (v335 : Value).ownBlock ∧ some k_ ≠ (.slice Ao70 t341.length co70 : Value).ownBlock ∧ some k_ ≠ (.slice Ao90 t358.length co90 : Value).ownBlock ∧ some k_ ≠ (.slice Ao103 t365.length co103 : Value).ownBlock) (.slice Ao77 t347.length co77) t375) := ⟨h3_⟩
         have n4_ : Aside0 (Kd.S k51 51 w122 w.heap.size (fun k_ => some k_ ≠ (v335 : Value).ownBlock ∧ some k_ ≠ (v339 : Value).ownBlock ∧ some k_ ≠ (.slice Ao70 t341.length co70 : Value).ownBlock ∧ some k_ ≠ (.slice Ao77 t347.length co77 : Value).ownBlock ∧ some k_ ≠ (.slice Ao90 t358.length co90 : Value).ownBlock ∧ some k_ ≠ (.slice Ao103 t365.length co103 : Value).ownBlock ∧ some k_ ≠ (.slice Ao107 t370.length co107 : Value).ownBlock ∧ k_ < nb106 ∧ nb83 ≤ k_) (.slice Ao84 t352.length co84) t377) := ⟨h4_⟩
         have n5_ : Aside0 (Kd.R (Kd.int .i64) 3 w122 w.heap.size (fun k_ => some k_ ≠ (v335 : Value).ownBlock ∧ some k_ ≠ (.slice Ao70 t341.length co70 : Value).ownBlock ∧ some k_ ≠ (.slice Ao77 t347.length co77 : Value).ownBlock ∧ some k_ ≠ (.slice Ao103 t365.length co103 : Value).ownBlock) (.slice Ao90 t358.length co90) t380) := ⟨h5_⟩
         have n6_ : Aside0 (Kd.R (Kd.int .i64) 3 w122 w.heap.size (fun k_ => some k_ ≠ (v335 : Value).ownBlock ∧ some k_ ≠ (.slice Ao70 t341.length co70 : Value).ownBlock ∧ some k_ ≠ (.slice Ao77 t347.length co77 : Value).ownBlock ∧ some k_ ≠ (.slice Ao90 t358.length co90 : Value).ownBlock) (.slice Ao103 t365.length co103) t365) := ⟨h6_⟩
         have n7_ : Aside0 (Kd.S k51 51 w122 w.heap.size (fun k_ => some k_ ≠ (v335 : Value).ownBlock ∧ some k_ ≠ (v339 : Value).ownBlock ∧ some k_ ≠ (.slice Ao70 t341.length co70 : Value).ownBlock ∧ some k_ ≠ (.slice Ao77 t347.length co77 : Value).ownBlock ∧ some k_ ≠ (.slice Ao84 t352.length co84 : Value).ownBlock ∧ some k_ ≠ (.slice Ao90 t358.length co90 : Value).ownBlock ∧ some k_ ≠ (.slice Ao103 t365.length co103 : Value).ownBlock ∧ nb106 ≤ k_) (.slice Ao107 t370.length co107) t370) := ⟨h7_⟩
         have n8_ : Aside0 (w122.heap[gb327]? = some (.cells #[.int .i64 a0_0, .int .i64 a0_1, .int .i64 a0_2] 23 (0, 0))) := ⟨h8_⟩
         have n9_ : Aside0 (w122.heap[gb328]? = some (.cells #[.slice A1_0 l1_0.length c1_0, .int .i64 a1_1] 26 (0, 0))) := ⟨h9_⟩
         have n10_ : Aside0 (w122.heap[gb346]? = some (.cells #[.slice Ao70 t341.length co70, .int .i64 t344] 30 (0, 0))) := ⟨h10_⟩
         have n11_ : Aside0 (w122.heap[gb351]? = some (.cells #[.slice Ao77 t347.length co77, .int .i64 t350] 30 (0, 0))) := ⟨h11_⟩
         have n12_ : Aside0 (w122.heap[gb363]? = some (.cells #[.slice Ao90 t358.length co90, .int .i64 t361] 30 (0, 0))) := ⟨h12_⟩
         have n13_ : Aside0 (w122.heap[gb397]? = some (.cells #[.slice none 0 0, .int .i64 0] 30 (0, 0))) := ⟨h13_⟩
         have n14_ : Aside0 (w.heap.size ≤ gb397) := ⟨h14_⟩
         have n15_ : Aside0 (w.heap.size ≤ gb397) := ⟨h15_⟩
         have n16_ : Aside0 (gb327 ≠ gb397) := ⟨h16_⟩
         have n17_ : Aside0 (gb397 ≠ gb327) := ⟨h17_⟩
         have n18_ : Aside0 (gb328 ≠ gb397) := ⟨h18_⟩
         have n19_ : Aside0 (gb397 ≠ gb328) := ⟨h19_⟩
         have n20_ : Aside0 (gb346 ≠ gb397) := ⟨h20_⟩
         have n21_ : Aside0 (gb397 ≠ gb346) := ⟨h21_⟩
         have n22_ : Aside0 (gb351 ≠ gb397) := ⟨h22_⟩
         have n23_ : Aside0 (gb397 ≠ gb351) := ⟨h23_⟩
         have n24_ : Aside0 (gb363 ≠ gb397) := ⟨h24_⟩
         have n25_ : Aside0 (gb397 ≠ gb363) := ⟨h25_⟩
         have n26_ : Aside0 (Below w.heap.size w w122) := ⟨h26_⟩
         clear HO336 HO340 HO343 HO349 HO354 HO360 HO367 HO372 BK327 BK328 BK346 BK351 BK363 HB h0_ h1_ h2_ h3_ h4_ h5_ h6_ h7_ h8_ h9_ h10_ h11_ h12_ h13_ h14_ h15_ h16_ h17_ h18_ h19_ h20_ h21_ h22_ h23_ h24_ h25_ h26_
         have HO336 := n0_
         have HO340 := n1_
         have HO343 := n2_
         have HO349 := n3_
         have HO354 := n4_
         have HO360 := n5_
         have HO367 := n6_
         have HO372 := n7_
         have BK327 := n8_
         have BK328 := n9_
         have BK346 := n10_
         have BK351 := n11_
         have BK363 := n12_
         have BK397 := n13_
         have GW397 := n14_
         have GE397 := n15_
         have NB327_397 := n16_
         have NB397_327 := n17_
         have NB328_397 := n18_
         have NB397_328 := n19_
         have NB346_397 := n20_
         have NB397_346 := n21_
         have NB351_397 := n22_
         have NB397_351 := n23_
         have NB363_397 := n24_
         have NB397_363 := n25_
         have HB := n26_
         clear n0_ n1_ n2_ n3_ n4_ n5_ n6_ n7_ n8_ n9_ n10_ n11_ n12_ n13_ n14_ n15_ n16_ n17_ n18_ n19_ n20_ n21_ n22_ n23_ n24_ n25_ n26_
         have hHeld : w122.cell? ⟨gb327, 0, none⟩ = some (.int .i64 a0_0) ∧ w122.cell? ⟨gb327, 1, none⟩ = some (.int .i64 a0_1) ∧ w122.cell? ⟨gb327, 2, none⟩ = some (.int .i64 a0_2) ∧ w122.cell? ⟨gb328, 0, none⟩ = some (.slice A1_0 l1_0.length c1_0) ∧ w122.cell? ⟨gb328, 1, none⟩ = some (.int .i64 a1_1) := hS_
         refine norm_ (a' := ?_) ?_ ?_
         rotate_left
         ·simp only [putAll, Act.put, List.setIfInBounds_toArray, List.set_cons_zero, List.set_cons_succ]
          rfl
         refine one_ (i := 3) (N := some 104) #[true, true, true, true, true, false, false, false, false, false, true, false, false] rfl rfl (one_of HT_.out (by kernel_rfl)) (by decide) (fun K hK => ?_)
         refine goes_ Try.func8 (by kernel_rfl) rfl #[.agg #[.slice A1_0 l1_0.length c1_0, .int .i64 a1_1]] (by rfl) rfl rfl X.M ?_
         with_reducible refine (laws_toPlaces.calls k _ _ l1_0 a1_1 t385 t388 _ ?side1 ?side2 A46.out).mono ?_
         (case side1 => exact X.C (Kd.C_below HR1_0.out HB.out))
         (case side2 => exact HC1_0.out)
         rintro e w123 ⟨v386, rfl, ho0, hb⟩
         refine ⟨_, rfl, ?_⟩
         have n0_ := X.A (Kd.R_elder' (X.K HO336) (Kd.R_base ho0) hb)
         have n1_ := X.A (Kd.S_elder' (X.L HO340) (Kd.R_base ho0) hb)
         have n2_ := X.A (Kd.R_elder' (X.K HO343) (Kd.R_base ho0) hb)
         have n3_ := X.A (Kd.R_elder' (X.K HO349) (Kd.R_base ho0) hb)
         have n4_ := X.A (Kd.S_elder' (X.L HO354) (Kd.R_base ho0) hb)
         have n5_ := X.A (Kd.R_elder' (X.K HO360) (Kd.R_base ho0) hb)
         have n6_ := X.A (Kd.R_elder' (X.K HO367) (Kd.R_base ho0) hb)
         have n7_ := X.A (Kd.S_elder' (X.L HO372) (Kd.R_base ho0) hb)
         have n8_ := X.A (Kd.R_lower (Kd.R_new' (Kd.R_new' (Kd.R_new' (Kd.R_new' (Kd.R_new' ho0 (Kd.R_lt (X.K HO336))) (Kd.R_lt (X.K HO343))) (Kd.R_lt (X.K HO349))) (Kd.R_lt (X.K HO360))) (Kd.R_lt (X.K HO367))) (below_size X.G))
         have n9_ := X.A (X.BB BK327 hb)
         have n10_ := X.A (X.BB BK328 hb)
         have n11_ := X.A (X.BB BK346 hb)
         have n12_ := X.A (X.BB BK351 hb)
         have n13_ := X.A (X.BB BK363 hb)
         have n14_ := X.A (X.BB BK397 hb)
         have n15_ := X.A (below_step X.G hb)
         clear HO336 HO340 HO343 HO349 HO354 HO360 HO367 HO372 BK327 BK328 BK346 BK351 BK363 BK397 HB
         have HO336 := n0_
         have HO340 := n1_
         have HO343 := n2_
         have HO349 := n3_
         have HO354 := n4_
         have HO360 := n5_
         have HO367 := n6_
         have HO372 := n7_
         have HO387 := n8_
         have BK327 := n9_
         have BK328 := n10_
         have BK346 := n11_
         have BK351 := n12_
         have BK363 := n13_
         have BK397 := n14_
         have HB := n15_
         clear n0_ n1_ n2_ n3_ n4_ n5_ n6_ n7_ n8_ n9_ n10_ n11_ n12_ n13_ n14_ n15_
         (try clear hb)
         (try clear hb2)
         (try clear hk)
         (try clear hi)
         (try clear ho0)
         refine hK.out _ _ ⟨(blk_cell BK327.out 0).trans rfl, (blk_cell BK327.out 1).trans rfl, (blk_cell BK327.out 2).trans rfl, (blk_cell BK328.out 0).trans rfl, (blk_cell BK328.out 1).trans rfl⟩ (fun hHeld => ?_)
         clear hK K
         refine norm_ (a' := ?_) ?_ ?_
         rotate_left
         ·exact (show Act.put _ (some 104) _ = _ from X.Pu)
         exact norm_ X.S (hJ1_3_10 (v386, gb397) _ ⟨hHeld, (by (with_reducible repeat (first | apply Kd.R_alloc | apply Kd.R_drewN | apply Kd.R_drew)); exact Kd.R_mono HO336.out (fun _ hk => ⟨hk.1.1, ⟨hk.1.2.1, ⟨hk.1.2.2.1, ⟨hk.1.2.2.2, hk.2⟩⟩⟩⟩)), (by (with_reducible repeat (first | apply Kd.S_alloc | apply Kd.S_drewN | apply Kd.S_drew)); exact Kd.S_mono HO340.out (fun _ hk => ⟨hk.1.1, ⟨hk.1.2.1, ⟨hk.1.2.2.1, ⟨hk.1.2.2.2.1, ⟨hk.1.2.2.2.2.1, ⟨hk.1.2.2.2.2.2.1, ⟨hk.1.2.2.2.2.2.2.1, ⟨hk.2, ⟨hk.1.2.2.2.2.2.2.2.1, hk.1.2.2.2.2.2.2.2.2⟩⟩⟩⟩⟩⟩⟩⟩⟩)), (by (with_reducible repeat (first | apply Kd.R_alloc | apply Kd.R_drewN | apply Kd.R_drew)); exact Kd.R_mono HO343.out (fun _ hk => ⟨hk.1.1, ⟨hk.1.2.1, ⟨hk.1.2.2.1, ⟨hk.1.2.2.2, hk.2⟩⟩⟩⟩)), (by (with_reducible repeat (first | apply Kd.R_alloc | apply Kd.R_drewN | apply Kd.R_drew)); exact Kd.R_mono HO349.out (fun _ hk => ⟨hk.1.1, ⟨hk.1.2.1, ⟨hk.1.2.2.1, ⟨hk.1.2.2.2, hk.2⟩⟩⟩⟩)), (by (with_reducible repeat (first | apply Kd.S_alloc | apply Kd.S_drewN | apply Kd.S_drew)); exact Kd.S_mono HO354.out (fun _ hk => ⟨hk.1.1, ⟨hk.1.2.1, ⟨hk.1.2.2.1, ⟨hk.1.2.2.2.1, ⟨hk.1.2.2.2.2.1, ⟨hk.1.2.2.2.2.2.1, ⟨hk.1.2.2.2.2.2.2.1, ⟨hk.2, ⟨hk.1.2.2.2.2.2.2.2.1, hk.1.2.2.2.2.2.2.2.2⟩⟩⟩⟩⟩⟩⟩⟩⟩)), (by (with_reducible repeat (first | apply Kd.R_alloc | apply Kd.R_drewN | apply Kd.R_drew)); exact Kd.R_mono HO360.out (fun _ hk => ⟨hk.1.1, ⟨hk.1.2.1, ⟨hk.1.2.2.1, ⟨hk.1.2.2.2, hk.2⟩⟩⟩⟩)), (by (with_reducible repeat (first | apply Kd.R_alloc | apply Kd.R_drewN | apply Kd.R_drew)); exact Kd.R_mono HO367.out (fun _ hk => ⟨hk.1.1, ⟨hk.1.2.1, ⟨hk.1.2.2.1, ⟨hk.1.2.2.2, hk.2⟩⟩⟩⟩)), (by (with_reducible repeat (first | apply Kd.S_alloc | apply Kd.S_drewN | apply Kd.S_drew)); exact Kd.S_mono HO372.out (fun _ hk => ⟨hk.1.1, ⟨hk.1.2.1, ⟨hk.1.2.2.1, ⟨hk.1.2.2.2.1, ⟨hk.1.2.2.2.2.1, ⟨hk.1.2.2.2.2.2.1, ⟨hk.1.2.2.2.2.2.2.1, ⟨hk.2, hk.1.2.2.2.2.2.2.2⟩⟩⟩⟩⟩⟩⟩⟩)), (by (with_reducible repeat (first | apply Kd.R_alloc | apply Kd.R_drewN | apply Kd.R_drew)); exact Kd.R_mono HO387.out (fun _ hk => ⟨hk.1.1.1.1.2, ⟨hk.1.1.1.2, ⟨hk.1.1.2, ⟨hk.1.2, hk.2⟩⟩⟩⟩)), (X.B BK327), (X.B BK328), (X.B BK346), (X.B BK351), (X.B BK363), (X.B BK397), GW397.out, GE397.out, NB327_397.out, NB397_327.out, NB328_397.out, NB397_328.out, NB346_397.out, NB397_346.out, NB351_397.out, NB397_351.out, NB363_397.out, NB397_363.out, X.G⟩)
       ·skip
        rintro v386 w122 ⟨hS_, h0_, h1_, h2_, h3_, h4_, h5_, h6_, h7_, h8_, h9_, h10_, h11_, h12_, h13_, h14_⟩
        have n0_ : Aside0 (Kd.R (Kd.int .i64) 3 w122 w.heap.size (fun k_ => some k_ ≠ (.slice Ao70 t341.length co70 : Value).ownBlock ∧ some k_ ≠ (.slice Ao77 t347.length co77 : Value).ownBlock ∧ some k_ ≠ (.slice Ao90 t358.length co90 : Value).ownBlock ∧ some k_ ≠ (.slice Ao103 t365.length co103 : Value).ownBlock ∧ some k_ ≠ (v386 : Value).ownBlock) v335 t334) := ⟨h0_⟩
        have n1_ : Aside0 (Kd.S k51 51 w122 w.heap.size (fun k_ => some k_ ≠ (v335 : Value).ownBlock ∧ some k_ ≠ (.slice Ao70 t341.length co70 : Value).ownBlock ∧ some k_ ≠ (.slice Ao77 t347.length co77 : Value).ownBlock ∧ some k_ ≠ (.slice Ao84 t352.length co84 : Value).ownBlock ∧ some k_ ≠ (.slice Ao90 t358.length co90 : Value).ownBlock ∧ some k_ ≠ (.slice Ao103 t365.length co103 : Value).ownBlock ∧ some k_ ≠ (.slice Ao107 t370.length co107 : Value).ownBlock ∧ some k_ ≠ (v386 : Value).ownBlock ∧ k_ < nb106 ∧ k_ < nb83) v339 t338) := ⟨h1_⟩
        have n2_ : Aside0 (Kd.R (Kd.int .i64) 3 w122 w.heap.size (fun k_ => some k_ ≠ (v335 : Value).ownBlock ∧ some k_ ≠ (.slice Ao77 t347.length co77 : Value).ownBlock ∧ some k_ ≠ (.slice Ao90 t358.length co90 : Value).ownBlock ∧ some k_ ≠ (.slice Ao103 t365.length co103 : Value).ownBlock ∧ some k_ ≠ (v386 : Value).ownBlock) (.slice Ao70 t341.length co70) t341) := ⟨h2_⟩
        have n3_ : Aside0 (Kd.R (Kd.int .i64) 3 w122 w.heap.size (fun k_ => some k_ ≠ (v335 : Value).ownBlock ∧ some k_ ≠ (.slice Ao70 t341.length co70 : Value).ownBlock ∧ some k_ ≠ (.slice Ao90 t358.length co90 : Value).ownBlock ∧ some k_ ≠ (.slice Ao103 t365.length co103 : Value).ownBlock ∧ some k_ ≠ (v386 : Value).ownBlock) (.slice Ao77 t347.length co77) t375) := ⟨h3_⟩
        have n4_ : Aside0 (Kd.S k51 51 w122 w.heap.size (fun k_ => some k_ ≠ (v335 : Value).ownBlock ∧ some k_ ≠ (v339 : Value).ownBlock ∧ some k_ ≠ (.slice Ao70 t341.length co70 : Value).ownBlock ∧ some k_ ≠ (.slice Ao77 t347.length co77 : Value).ownBlock ∧ some k_ ≠ (.slice Ao90 t358.length co90 : Value).ownBlock ∧ some k_ ≠ (.slice Ao103 t365.length co103 : Value).ownBlock ∧ some k_ ≠ (.slice Ao107 t370.length co107 : Value).ownBlock ∧ some k_ ≠ (v386 : Value).ownBlock ∧ k_ < nb106 ∧ nb83 ≤ k_) (.slice Ao84 t352.length co84) t377) := ⟨h4_⟩
        have n5_ : Aside0 (Kd.R (Kd.int .i64) 3 w122 w.heap.size (fun k_ => some k_ ≠ (v335 : Value).ownBlock ∧ some k_ ≠ (.slice Ao70 t341.length co70 : Value).ownBlock ∧ some k_ ≠ (.slice Ao77 t347.length co77 : Value).ownBlock ∧ some k_ ≠ (.slice Ao103 t365.length co103 : Value).ownBlock ∧ some k_ ≠ (v386 : Value).ownBlock) (.slice Ao90 t358.length co90) t380) := ⟨h5_⟩
        have n6_ : Aside0 (Kd.R (Kd.int .i64) 3 w122 w.heap.size (fun k_ => some k_ ≠ (v335 : Value).ownBlock ∧ some k_ ≠ (.slice Ao70 t341.length co70 : Value).ownBlock ∧ some k_ ≠ (.slice Ao77 t347.length co77 : Value).ownBlock ∧ some k_ ≠ (.slice Ao90 t358.length co90 : Value).ownBlock ∧ some k_ ≠ (v386 : Value).ownBlock) (.slice Ao103 t365.length co103) t365) := ⟨h6_⟩
        have n7_ : Aside0 (Kd.S k51 51 w122 w.heap.size (fun k_ => some k_ ≠ (v335 : Value).ownBlock ∧ some k_ ≠ (v339 : Value).ownBlock ∧ some k_ ≠ (.slice Ao70 t341.length co70 : Value).ownBlock ∧ some k_ ≠ (.slice Ao77 t347.length co77 : Value).ownBlock ∧ some k_ ≠ (.slice Ao84 t352.length co84 : Value).ownBlock ∧ some k_ ≠ (.slice Ao90 t358.length co90 : Value).ownBlock ∧ some k_ ≠ (.slice Ao103 t365.length co103 : Value).ownBlock ∧ some k_ ≠ (v386 : Value).ownBlock ∧ nb106 ≤ k_) (.slice Ao107 t370.length co107) t370) := ⟨h7_⟩
        have n8_ : Aside0 (Kd.R (Kd.int .i64) 3 w122 w.heap.size (fun k_ => some k_ ≠ (v335 : Value).ownBlock ∧ some k_ ≠ (.slice Ao70 t341.length co70 : Value).ownBlock ∧ some k_ ≠ (.slice Ao77 t347.length co77 : Value).ownBlock ∧ some k_ ≠ (.slice Ao90 t358.length co90 : Value).ownBlock ∧ some k_ ≠ (.slice Ao103 t365.length co103 : Value).ownBlock) v386 t385) := ⟨h8_⟩
        have n9_ : Aside0 (w122.heap[gb327]? = some (.cells #[.int .i64 a0_0, .int .i64 a0_1, .int .i64 a0_2] 23 (0, 0))) := ⟨h9_⟩
        have n10_ : Aside0 (w122.heap[gb328]? = some (.cells #[.slice A1_0 l1_0.length c1_0, .int .i64 a1_1] 26 (0, 0))) := ⟨h10_⟩
        have n11_ : Aside0 (w122.heap[gb346]? = some (.cells #[.slice Ao70 t341.length co70, .int .i64 t344] 30 (0, 0))) := ⟨h11_⟩
        have n12_ : Aside0 (w122.heap[gb351]? = some (.cells #[.slice Ao77 t347.length co77, .int .i64 t350] 30 (0, 0))) := ⟨h12_⟩
        have n13_ : Aside0 (w122.heap[gb363]? = some (.cells #[.slice Ao90 t358.length co90, .int .i64 t361] 30 (0, 0))) := ⟨h13_⟩
        have n14_ : Aside0 (Below w.heap.size w w122) := ⟨h14_⟩
        clear HO336 HO340 HO343 HO349 HO354 HO360 HO367 HO372 BK327 BK328 BK346 BK351 BK363 HB h0_ h1_ h2_ h3_ h4_ h5_ h6_ h7_ h8_ h9_ h10_ h11_ h12_ h13_ h14_
        have HO336 := n0_
        have HO340 := n1_
        have HO343 := n2_
        have HO349 := n3_
        have HO354 := n4_
        have HO360 := n5_
        have HO367 := n6_
        have HO372 := n7_
        have HO387 := n8_
        have BK327 := n9_
        have BK328 := n10_
        have BK346 := n11_
        have BK351 := n12_
        have BK363 := n13_
        have HB := n14_
        clear n0_ n1_ n2_ n3_ n4_ n5_ n6_ n7_ n8_ n9_ n10_ n11_ n12_ n13_ n14_
        have hHeld : w122.cell? ⟨gb327, 0, none⟩ = some (.int .i64 a0_0) ∧ w122.cell? ⟨gb327, 1, none⟩ = some (.int .i64 a0_1) ∧ w122.cell? ⟨gb327, 2, none⟩ = some (.int .i64 a0_2) ∧ w122.cell? ⟨gb328, 0, none⟩ = some (.slice A1_0 l1_0.length c1_0) ∧ w122.cell? ⟨gb328, 1, none⟩ = some (.int .i64 a1_1) := hS_
        refine norm_ (a' := ?_) ?_ ?_
        rotate_left
        ·simp only [putAll, Act.put, List.setIfInBounds_toArray, List.set_cons_zero, List.set_cons_succ]
         rfl
        refine two_ (i := 5) (j := 10) (Ni := some 106) (Nj := some 17) #[true, true, true, true, true, true, false, false, false, false, false, false, false] #[true, true, true, true, true, false, false, false, false, false, true, false, false] rfl rfl rfl rfl (two_of HT_.out (by kernel_rfl)) (by decide) (by decide) (fun K hK => ?_) (fun K hK => ?_)
        ·skip
         refine goes_ Try.func9 (by kernel_rfl) rfl #[.slice A2 l2.length c2] (by rfl) rfl rfl X.M ?_
         with_reducible refine (laws_toVoyageS.calls k _ _ l2 t389 _ ?side1 ?side2 A47.out).mono ?_
         (case side1 => exact X.C (Kd.C_below HR2.out HB.out))
         (case side2 => exact HC2.out)
         rintro e w123 ⟨v390, rfl, ho0, hb⟩
         refine ⟨_, rfl, ?_⟩
         have n0_ := X.A (Kd.R_below (X.K HO336) hb)
         have n1_ := X.A (Kd.S_elder' (X.L HO340) (Kd.S_base ho0) hb)
         have n2_ := X.A (Kd.R_below (X.K HO343) hb)
         have n3_ := X.A (Kd.R_below (X.K HO349) hb)
         have n4_ := X.A (Kd.S_elder' (X.L HO354) (Kd.S_base ho0) hb)
         have n5_ := X.A (Kd.R_below (X.K HO360) hb)
         have n6_ := X.A (Kd.R_below (X.K HO367) hb)
         have n7_ := X.A (Kd.S_elder' (X.L HO372) (Kd.S_base ho0) hb)
         have n8_ := X.A (Kd.R_below (X.K HO387) hb)
         have n9_ := X.A (Kd.S_lower (Kd.S_new' (Kd.S_new' (Kd.S_new' (Kd.S_new' (Kd.S_new' (Kd.S_new' (Kd.S_new' (Kd.S_new' (Kd.S_new' ho0 (Kd.R_lt (X.K HO336))) (Kd.S_lt (X.L HO340))) (Kd.R_lt (X.K HO343))) (Kd.R_lt (X.K HO349))) (Kd.S_lt (X.L HO354))) (Kd.R_lt (X.K HO360))) (Kd.R_lt (X.K HO367))) (Kd.S_lt (X.L HO372))) (Kd.R_lt (X.K HO387))) (below_size X.G))
         have n10_ := X.A (X.BB BK327 hb)
         have n11_ := X.A (X.BB BK328 hb)
         have n12_ := X.A (X.BB BK346 hb)
         have n13_ := X.A (X.BB BK351 hb)
         have n14_ := X.A (X.BB BK363 hb)
         have n15_ := X.A (below_step X.G hb)
         clear HO336 HO340 HO343 HO349 HO354 HO360 HO367 HO372 HO387 BK327 BK328 BK346 BK351 BK363 HB
         have HO336 := n0_
         have HO340 := n1_
         have HO343 := n2_
         have HO349 := n3_
         have HO354 := n4_
         have HO360 := n5_
         have HO367 := n6_
         have HO372 := n7_
         have HO387 := n8_
         have HO391 := n9_
         have BK327 := n10_
         have BK328 := n11_
         have BK346 := n12_
         have BK351 := n13_
         have BK363 := n14_
         have HB := n15_
         clear n0_ n1_ n2_ n3_ n4_ n5_ n6_ n7_ n8_ n9_ n10_ n11_ n12_ n13_ n14_ n15_
         (try clear hb)
         (try clear hb2)
         (try clear hk)
         (try clear hi)
         (try clear ho0)
         refine hK.out _ _ ⟨(blk_cell BK327.out 0).trans rfl, (blk_cell BK327.out 1).trans rfl, (blk_cell BK327.out 2).trans rfl, (blk_cell BK328.out 0).trans rfl, (blk_cell BK328.out 1).trans rfl⟩ (fun hHeld => ?_)
         clear hK K
         refine norm_ (a' := ?_) ?_ ?_
         rotate_left
         ·exact (show Act.put _ (some 106) _ = _ from X.Pu)
         exact norm_ X.S (hJ1_3_5 (v386, v390) _ ⟨hHeld, (X.K HO336), (by (with_reducible repeat (first | apply Kd.S_alloc | apply Kd.S_drewN | apply Kd.S_drew)); exact Kd.S_mono HO340.out (fun _ hk => ⟨hk.1.1, ⟨hk.1.2.1, ⟨hk.1.2.2.1, ⟨hk.1.2.2.2.1, ⟨hk.1.2.2.2.2.1, ⟨hk.1.2.2.2.2.2.1, ⟨hk.1.2.2.2.2.2.2.1, ⟨hk.1.2.2.2.2.2.2.2.1, ⟨hk.2, ⟨hk.1.2.2.2.2.2.2.2.2.1, hk.1.2.2.2.2.2.2.2.2.2⟩⟩⟩⟩⟩⟩⟩⟩⟩⟩)), (X.K HO343), (X.K HO349), (by (with_reducible repeat (first | apply Kd.S_alloc | apply Kd.S_drewN | apply Kd.S_drew)); exact Kd.S_mono HO354.out (fun _ hk => ⟨hk.1.1, ⟨hk.1.2.1, ⟨hk.1.2.2.1, ⟨hk.1.2.2.2.1, ⟨hk.1.2.2.2.2.1, ⟨hk.1.2.2.2.2.2.1, ⟨hk.1.2.2.2.2.2.2.1, ⟨hk.1.2.2.2.2.2.2.2.1, ⟨hk.2, ⟨hk.1.2.2.2.2.2.2.2.2.1, hk.1.2.2.2.2.2.2.2.2.2⟩⟩⟩⟩⟩⟩⟩⟩⟩⟩)), (X.K HO360), (X.K HO367), (by (with_reducible repeat (first | apply Kd.S_alloc | apply Kd.S_drewN | apply Kd.S_drew)); exact Kd.S_mono HO372.out (fun _ hk => ⟨hk.1.1, ⟨hk.1.2.1, ⟨hk.1.2.2.1, ⟨hk.1.2.2.2.1, ⟨hk.1.2.2.2.2.1, ⟨hk.1.2.2.2.2.2.1, ⟨hk.1.2.2.2.2.2.2.1, ⟨hk.1.2.2.2.2.2.2.2.1, ⟨hk.2, hk.1.2.2.2.2.2.2.2.2⟩⟩⟩⟩⟩⟩⟩⟩⟩)), (X.K HO387), (by (with_reducible repeat (first | apply Kd.S_alloc | apply Kd.S_drewN | apply Kd.S_drew)); exact Kd.S_mono HO391.out (fun _ hk => ⟨hk.1.1.1.1.1.1.1.1.2, ⟨hk.1.1.1.1.1.1.1.2, ⟨hk.1.1.1.1.1.1.2, ⟨hk.1.1.1.1.1.2, ⟨hk.1.1.1.1.2, ⟨hk.1.1.1.2, ⟨hk.1.1.2, ⟨hk.1.2, hk.2⟩⟩⟩⟩⟩⟩⟩⟩)), (X.B BK327), (X.B BK328), (X.B BK346), (X.B BK351), (X.B BK363), X.G⟩)
        ·skip
         refine box_step ?hg (N := 17) ?hd (cs := #[.slice none 0 0, .int .i64 0]) (t := 30) ?hr ?_; (case hd => rfl); (case hg => rfl); (case hr => exact X.R)
         intro gb397 hg w123 hbox hb
         have n0_ := X.A (Kd.R_below (X.K HO336) hb)
         have n1_ := X.A (Kd.S_below (X.L HO340) hb)
         have n2_ := X.A (Kd.R_below (X.K HO343) hb)
         have n3_ := X.A (Kd.R_below (X.K HO349) hb)
         have n4_ := X.A (Kd.S_below (X.L HO354) hb)
         have n5_ := X.A (Kd.R_below (X.K HO360) hb)
         have n6_ := X.A (Kd.R_below (X.K HO367) hb)
         have n7_ := X.A (Kd.S_below (X.L HO372) hb)
         have n8_ := X.A (Kd.R_below (X.K HO387) hb)
         have n9_ := X.A (X.BB BK327 hb)
         have n10_ := X.A (X.BB BK328 hb)
         have n11_ := X.A (X.BB BK346 hb)
         have n12_ := X.A (X.BB BK351 hb)
         have n13_ := X.A (X.BB BK363 hb)
         have n14_ := X.A (below_step X.G hb)
         have n15_ := X.A (hbox)
         have n16_ := X.A ((by rw [hg]; exact (below_size X.G) : w.heap.size ≤ gb397))
         have n17_ := X.A ((by rw [hg]; exact (below_size X.G) : w.heap.size ≤ gb397))
         have n18_ := X.A (X.NL hg BK327)
         have n19_ := X.A (X.NG hg BK327)
         have n20_ := X.A (X.NL hg BK328)
         have n21_ := X.A (X.NG hg BK328)
         have n22_ := X.A (X.NL hg BK346)
         have n23_ := X.A (X.NG hg BK346)
         have n24_ := X.A (X.NL hg BK351)
         have n25_ := X.A (X.NG hg BK351)
         have n26_ := X.A (X.NL hg BK363)
         have n27_ := X.A (X.NG hg BK363)
         clear HO336 HO340 HO343 HO349 HO354 HO360 HO367 HO372 HO387 BK327 BK328 BK346 BK351 BK363 HB
         have HO336 := n0_
         have HO340 := n1_
         have HO343 := n2_
         have HO349 := n3_
         have HO354 := n4_
         have HO360 := n5_
         have HO367 := n6_
         have HO372 := n7_
         have HO387 := n8_
         have BK327 := n9_
         have BK328 := n10_
         have BK346 := n11_
         have BK351 := n12_
         have BK363 := n13_
         have HB := n14_
         have BK397 := n15_
         have GW397 := n16_
         have GE397 := n17_
         have NB327_397 := n18_
         have NB397_327 := n19_
         have NB328_397 := n20_
         have NB397_328 := n21_
         have NB346_397 := n22_
         have NB397_346 := n23_
         have NB351_397 := n24_
         have NB397_351 := n25_
         have NB363_397 := n26_
         have NB397_363 := n27_
         clear n0_ n1_ n2_ n3_ n4_ n5_ n6_ n7_ n8_ n9_ n10_ n11_ n12_ n13_ n14_ n15_ n16_ n17_ n18_ n19_ n20_ n21_ n22_ n23_ n24_ n25_ n26_ n27_ hb hbox hg
         refine hK.out _ _ ⟨(blk_cell BK327.out 0).trans rfl, (blk_cell BK327.out 1).trans rfl, (blk_cell BK327.out 2).trans rfl, (blk_cell BK328.out 0).trans rfl, (blk_cell BK328.out 1).trans rfl⟩ (fun hHeld => ?_)
         clear hK K
         refine norm_ (a' := ?_) ?_ ?_
         rotate_left
         ·exact (show Act.put _ (some 17) _ = _ from X.Pu)
         exact norm_ X.S (hJ1_3_10 (v386, gb397) _ ⟨hHeld, (X.K HO336), (X.L HO340), (X.K HO343), (X.K HO349), (X.L HO354), (X.K HO360), (X.K HO367), (X.L HO372), (X.K HO387), (X.B BK327), (X.B BK328), (X.B BK346), (X.B BK351), (X.B BK363), (X.B BK397), GW397.out, GE397.out, NB327_397.out, NB397_327.out, NB328_397.out, NB397_328.out, NB346_397.out, NB397_346.out, NB351_397.out, NB397_351.out, NB363_397.out, NB397_363.out, X.G⟩)
      ·skip
       rintro ⟨v386, gb397⟩ w123 ⟨hS_, h0_, h1_, h2_, h3_, h4_, h5_, h6_, h7_, h8_, h9_, h10_, h11_, h12_, h13_, h14_, h15_, h16_, h17_, h18_, h19_, h20_, h21_, h22_, h23_, h24_, h25_, h26_, h27_⟩
       have n0_ : Aside0 (Kd.R (Kd.int .i64) 3 w123 w.heap.size (fun k_ => some k_ ≠ (.slice Ao70 t341.length co70 : Value).ownBlock ∧ some k_ ≠ (.slice Ao77 t347.length co77 : Value).ownBlock ∧ some k_ ≠ (.slice Ao90 t358.length co90 : Value).ownBlock ∧ some k_ ≠ (.slice Ao103 t365.length co103 : Value).ownBlock ∧ some k_ ≠ (v386 : Value).ownBlock) v335 t334) := ⟨h0_⟩
       have n1_ : Aside0 (Kd.S k51 51 w123 w.heap.size (fun k_ => some k_ ≠ (v335 : Value).ownBlock ∧ some k_ ≠ (.slice Ao70 t341.length co70 : Value).ownBlock ∧ some k_ ≠ (.slice Ao77 t347.length co77 : Value).ownBlock ∧ some k_ ≠ (.slice Ao84 t352.length co84 : Value).ownBlock ∧ some k_ ≠ (.slice Ao90 t358.length co90 : Value).ownBlock ∧ some k_ ≠ (.slice Ao103 t365.length co103 : Value).ownBlock ∧ some k_ ≠ (.slice Ao107 t370.length co107 : Value).ownBlock ∧ some k_ ≠ (v386 : Value).ownBlock ∧ k_ < nb106 ∧ k_ < nb83) v339 t338) := ⟨h1_⟩
       have n2_ : Aside0 (Kd.R (Kd.int .i64) 3 w123 w.heap.size (fun k_ => some k_ ≠ (v335 : Value).ownBlock ∧ some k_ ≠ (.slice Ao77 t347.length co77 : Value).ownBlock ∧ some k_ ≠ (.slice Ao90 t358.length co90 : Value).ownBlock ∧ some k_ ≠ (.slice Ao103 t365.length co103 : Value).ownBlock ∧ some k_ ≠ (v386 : Value).ownBlock) (.slice Ao70 t341.length co70) t341) := ⟨h2_⟩
       have n3_ : Aside0 (Kd.R (Kd.int .i64) 3 w123 w.heap.size (fun k_ => some k_ ≠ (v335 : Value).ownBlock ∧ some k_ ≠ (.slice Ao70 t341.length co70 : Value).ownBlock ∧ some k_ ≠ (.slice Ao90 t358.length co90 : Value).ownBlock ∧ some k_ ≠ (.slice Ao103 t365.length co103 : Value).ownBlock ∧ some k_ ≠ (v386 : Value).ownBlock) (.slice Ao77 t347.length co77) t375) := ⟨h3_⟩
       have n4_ : Aside0 (Kd.S k51 51 w123 w.heap.size (fun k_ => some k_ ≠ (v335 : Value).ownBlock ∧ some k_ ≠ (v339 : Value).ownBlock ∧ some k_ ≠ (.slice Ao70 t341.length co70 : Value).ownBlock ∧ some k_ ≠ (.slice Ao77 t347.length co77 : Value).ownBlock ∧ some k_ ≠ (.slice Ao90 t358.length co90 : Value).ownBlock ∧ some k_ ≠ (.slice Ao103 t365.length co103 : Value).ownBlock ∧ some k_ ≠ (.slice Ao107 t370.length co107 : Value).ownBlock ∧ some k_ ≠ (v386 : Value).ownBlock ∧ k_ < nb106 ∧ nb83 ≤ k_) (.slice Ao84 t352.length co84) t377) := ⟨h4_⟩
       have n5_ : Aside0 (Kd.R (Kd.int .i64) 3 w123 w.heap.size (fun k_ => some k_ ≠ (v335 : Value).ownBlock ∧ some k_ ≠ (.slice Ao70 t341.length co70 : Value).ownBlock ∧ some k_ ≠ (.slice Ao77 t347.length co77 : Value).ownBlock ∧ some k_ ≠ (.slice Ao103 t365.length co103 : Value).ownBlock ∧ some k_ ≠ (v386 : Value).ownBlock) (.slice Ao90 t358.length co90) t380) := ⟨h5_⟩
       have n6_ : Aside0 (Kd.R (Kd.int .i64) 3 w123 w.heap.size (fun k_ => some k_ ≠ (v335 : Value).ownBlock ∧ some k_ ≠ (.slice Ao70 t341.length co70 : Value).ownBlock ∧ some k_ ≠ (.slice Ao77 t347.length co77 : Value).ownBlock ∧ some k_ ≠ (.slice Ao90 t358.length co90 : Value).ownBlock ∧ some k_ ≠ (v386 : Value).ownBlock) (.slice Ao103 t365.length co103) t365) := ⟨h6_⟩
       have n7_ : Aside0 (Kd.S k51 51 w123 w.heap.size (fun k_ => some k_ ≠ (v335 : Value).ownBlock ∧ some k_ ≠ (v339 : Value).ownBlock ∧ some k_ ≠ (.slice Ao70 t341.length co70 : Value).ownBlock ∧ some k_ ≠ (.slice Ao77 t347.length co77 : Value).ownBlock ∧ some k_ ≠ (.slice Ao84 t352.length co84 : Value).ownBlock ∧ some k_ ≠ (.slice Ao90 t358.length co90 : Value).ownBlock ∧ some k_ ≠ (.slice Ao103 t365.length co103 : Value).ownBlock ∧ some k_ ≠ (v386 : Value).ownBlock ∧ nb106 ≤ k_) (.slice Ao107 t370.length co107) t370) := ⟨h7_⟩
       have n8_ : Aside0 (Kd.R (Kd.int .i64) 3 w123 w.heap.size (fun k_ => some k_ ≠ (v335 : Value).ownBlock ∧ some k_ ≠ (.slice Ao70 t341.length co70 : Value).ownBlock ∧ some k_ ≠ (.slice Ao77 t347.length co77 : Value).ownBlock ∧ some k_ ≠ (.slice Ao90 t358.length co90 : Value).ownBlock ∧ some k_ ≠ (.slice Ao103 t365.length co103 : Value).ownBlock) v386 t385) := ⟨h8_⟩
       have n9_ : Aside0 (w123.heap[gb327]? = some (.cells #[.int .i64 a0_0, .int .i64 a0_1, .int .i64 a0_2] 23 (0, 0))) := ⟨h9_⟩
       have n10_ : Aside0 (w123.heap[gb328]? = some (.cells #[.slice A1_0 l1_0.length c1_0, .int .i64 a1_1] 26 (0, 0))) := ⟨h10_⟩
       have n11_ : Aside0 (w123.heap[gb346]? = some (.cells #[.slice Ao70 t341.length co70, .int .i64 t344] 30 (0, 0))) := ⟨h11_⟩
       have n12_ : Aside0 (w123.heap[gb351]? = some (.cells #[.slice Ao77 t347.length co77, .int .i64 t350] 30 (0, 0))) := ⟨h12_⟩
       have n13_ : Aside0 (w123.heap[gb363]? = some (.cells #[.slice Ao90 t358.length co90, .int .i64 t361] 30 (0, 0))) := ⟨h13_⟩
       have n14_ : Aside0 (w123.heap[gb397]? = some (.cells #[.slice none 0 0, .int .i64 0] 30 (0, 0))) := ⟨h14_⟩
       have n15_ : Aside0 (w.heap.size ≤ gb397) := ⟨h15_⟩
       have n16_ : Aside0 (w.heap.size ≤ gb397) := ⟨h16_⟩
       have n17_ : Aside0 (gb327 ≠ gb397) := ⟨h17_⟩
       have n18_ : Aside0 (gb397 ≠ gb327) := ⟨h18_⟩
       have n19_ : Aside0 (gb328 ≠ gb397) := ⟨h19_⟩
       have n20_ : Aside0 (gb397 ≠ gb328) := ⟨h20_⟩
       have n21_ : Aside0 (gb346 ≠ gb397) := ⟨h21_⟩
       have n22_ : Aside0 (gb397 ≠ gb346) := ⟨h22_⟩
       have n23_ : Aside0 (gb351 ≠ gb397) := ⟨h23_⟩
       have n24_ : Aside0 (gb397 ≠ gb351) := ⟨h24_⟩
       have n25_ : Aside0 (gb363 ≠ gb397) := ⟨h25_⟩
       have n26_ : Aside0 (gb397 ≠ gb363) := ⟨h26_⟩
       have n27_ : Aside0 (Below w.heap.size w w123) := ⟨h27_⟩
       clear HO336 HO340 HO343 HO349 HO354 HO360 HO367 HO372 BK327 BK328 BK346 BK351 BK363 HB h0_ h1_ h2_ h3_ h4_ h5_ h6_ h7_ h8_ h9_ h10_ h11_ h12_ h13_ h14_ h15_ h16_ h17_ h18_ h19_ h20_ h21_ h22_ h23_ h24_ h25_ h26_ h27_
       have HO336 := n0_
       have HO340 := n1_
       have HO343 := n2_
       have HO349 := n3_
       have HO354 := n4_
       have HO360 := n5_
       have HO367 := n6_
       have HO372 := n7_
       have HO387 := n8_
       have BK327 := n9_
       have BK328 := n10_
       have BK346 := n11_
       have BK351 := n12_
       have BK363 := n13_
       have BK397 := n14_
       have GW397 := n15_
       have GE397 := n16_
       have NB327_397 := n17_
       have NB397_327 := n18_
       have NB328_397 := n19_
       have NB397_328 := n20_
       have NB346_397 := n21_
       have NB397_346 := n22_
       have NB351_397 := n23_
       have NB397_351 := n24_
       have NB363_397 := n25_
       have NB397_363 := n26_
       have HB := n27_
       clear n0_ n1_ n2_ n3_ n4_ n5_ n6_ n7_ n8_ n9_ n10_ n11_ n12_ n13_ n14_ n15_ n16_ n17_ n18_ n19_ n20_ n21_ n22_ n23_ n24_ n25_ n26_ n27_
       have hHeld : w123.cell? ⟨gb327, 0, none⟩ = some (.int .i64 a0_0) ∧ w123.cell? ⟨gb327, 1, none⟩ = some (.int .i64 a0_1) ∧ w123.cell? ⟨gb327, 2, none⟩ = some (.int .i64 a0_2) ∧ w123.cell? ⟨gb328, 0, none⟩ = some (.slice A1_0 l1_0.length c1_0) ∧ w123.cell? ⟨gb328, 1, none⟩ = some (.int .i64 a1_1) := hS_
       refine norm_ (a' := ?_) ?_ ?_
       rotate_left
       ·simp only [putAll, Act.put, List.setIfInBounds_toArray, List.set_cons_zero, List.set_cons_succ]
        rfl
       refine one_ (i := 5) (N := some 106) #[true, true, true, true, true, true, false, false, false, false, true, false, false] rfl rfl (one_of HT_.out (by kernel_rfl)) (by decide) (fun K hK => ?_)
       refine goes_ Try.func9 (by kernel_rfl) rfl #[.slice A2 l2.length c2] (by rfl) rfl rfl X.M ?_
       with_reducible refine (laws_toVoyageS.calls k _ _ l2 t389 _ ?side1 ?side2 A47.out).mono ?_
       (case side1 => exact X.C (Kd.C_below HR2.out HB.out))
       (case side2 => exact HC2.out)
       rintro e w124 ⟨v390, rfl, ho0, hb⟩
       refine ⟨_, rfl, ?_⟩
       have n0_ := X.A (Kd.R_below (X.K HO336) hb)
       have n1_ := X.A (Kd.S_elder' (X.L HO340) (Kd.S_base ho0) hb)
       have n2_ := X.A (Kd.R_below (X.K HO343) hb)
       have n3_ := X.A (Kd.R_below (X.K HO349) hb)
       have n4_ := X.A (Kd.S_elder' (X.L HO354) (Kd.S_base ho0) hb)
       have n5_ := X.A (Kd.R_below (X.K HO360) hb)
       have n6_ := X.A (Kd.R_below (X.K HO367) hb)
       have n7_ := X.A (Kd.S_elder' (X.L HO372) (Kd.S_base ho0) hb)
       have n8_ := X.A (Kd.R_below (X.K HO387) hb)
       have n9_ := X.A (Kd.S_lower (Kd.S_new' (Kd.S_new' (Kd.S_new' (Kd.S_new' (Kd.S_new' (Kd.S_new' (Kd.S_new' (Kd.S_new' (Kd.S_new' ho0 (Kd.R_lt (X.K HO336))) (Kd.S_lt (X.L HO340))) (Kd.R_lt (X.K HO343))) (Kd.R_lt (X.K HO349))) (Kd.S_lt (X.L HO354))) (Kd.R_lt (X.K HO360))) (Kd.R_lt (X.K HO367))) (Kd.S_lt (X.L HO372))) (Kd.R_lt (X.K HO387))) (below_size X.G))
       have n10_ := X.A (X.BB BK327 hb)
       have n11_ := X.A (X.BB BK328 hb)
       have n12_ := X.A (X.BB BK346 hb)
       have n13_ := X.A (X.BB BK351 hb)
       have n14_ := X.A (X.BB BK363 hb)
       have n15_ := X.A (X.BB BK397 hb)
       have n16_ := X.A (below_step X.G hb)
       clear HO336 HO340 HO343 HO349 HO354 HO360 HO367 HO372 HO387 BK327 BK328 BK346 BK351 BK363 BK397 HB
       have HO336 := n0_
       have HO340 := n1_
       have HO343 := n2_
       have HO349 := n3_
       have HO354 := n4_
       have HO360 := n5_
       have HO367 := n6_
       have HO372 := n7_
       have HO387 := n8_
       have HO391 := n9_
       have BK327 := n10_
       have BK328 := n11_
       have BK346 := n12_
       have BK351 := n13_
       have BK363 := n14_
       have BK397 := n15_
       have HB := n16_
       clear n0_ n1_ n2_ n3_ n4_ n5_ n6_ n7_ n8_ n9_ n10_ n11_ n12_ n13_ n14_ n15_ n16_
       (try clear hb)
       (try clear hb2)
       (try clear hk)
       (try clear hi)
       (try clear ho0)
       refine hK.out _ _ ⟨(blk_cell BK327.out 0).trans rfl, (blk_cell BK327.out 1).trans rfl, (blk_cell BK327.out 2).trans rfl, (blk_cell BK328.out 0).trans rfl, (blk_cell BK328.out 1).trans rfl⟩ (fun hHeld => ?_)
       clear hK K
       refine norm_ (a' := ?_) ?_ ?_
       rotate_left
       ·exact (show Act.put _ (some 106) _ = _ from X.Pu)
       exact norm_ X.S (hJ1_3_5_10 (v386, v390, gb397) _ ⟨hHeld, (X.K HO336), (by (with_reducible repeat (first | apply Kd.S_alloc | apply Kd.S_drewN | apply Kd.S_drew)); exact Kd.S_mono HO340.out (fun _ hk => ⟨hk.1.1, ⟨hk.1.2.1, ⟨hk.1.2.2.1, ⟨hk.1.2.2.2.1, ⟨hk.1.2.2.2.2.1, ⟨hk.1.2.2.2.2.2.1, ⟨hk.1.2.2.2.2.2.2.1, ⟨hk.1.2.2.2.2.2.2.2.1, ⟨hk.2, ⟨hk.1.2.2.2.2.2.2.2.2.1, hk.1.2.2.2.2.2.2.2.2.2⟩⟩⟩⟩⟩⟩⟩⟩⟩⟩)), (X.K HO343), (X.K HO349), (by (with_reducible repeat (first | apply Kd.S_alloc | apply Kd.S_drewN | apply Kd.S_drew)); exact Kd.S_mono HO354.out (fun _ hk => ⟨hk.1.1, ⟨hk.1.2.1, ⟨hk.1.2.2.1, ⟨hk.1.2.2.2.1, ⟨hk.1.2.2.2.2.1, ⟨hk.1.2.2.2.2.2.1, ⟨hk.1.2.2.2.2.2.2.1, ⟨hk.1.2.2.2.2.2.2.2.1, ⟨hk.2, ⟨hk.1.2.2.2.2.2.2.2.2.1, hk.1.2.2.2.2.2.2.2.2.2⟩⟩⟩⟩⟩⟩⟩⟩⟩⟩)), (X.K HO360), (X.K HO367), (by (with_reducible repeat (first | apply Kd.S_alloc | apply Kd.S_drewN | apply Kd.S_drew)); exact Kd.S_mono HO372.out (fun _ hk => ⟨hk.1.1, ⟨hk.1.2.1, ⟨hk.1.2.2.1, ⟨hk.1.2.2.2.1, ⟨hk.1.2.2.2.2.1, ⟨hk.1.2.2.2.2.2.1, ⟨hk.1.2.2.2.2.2.2.1, ⟨hk.1.2.2.2.2.2.2.2.1, ⟨hk.2, hk.1.2.2.2.2.2.2.2.2⟩⟩⟩⟩⟩⟩⟩⟩⟩)), (X.K HO387), (by (with_reducible repeat (first | apply Kd.S_alloc | apply Kd.S_drewN | apply Kd.S_drew)); exact Kd.S_mono HO391.out (fun _ hk => ⟨hk.1.1.1.1.1.1.1.1.2, ⟨hk.1.1.1.1.1.1.1.2, ⟨hk.1.1.1.1.1.1.2, ⟨hk.1.1.1.1.1.2, ⟨hk.1.1.1.1.2, ⟨hk.1.1.1.2, ⟨hk.1.1.2, ⟨hk.1.2, hk.2⟩⟩⟩⟩⟩⟩⟩⟩)), (X.B BK327), (X.B BK328), (X.B BK346), (X.B BK351), (X.B BK363), (X.B BK397), GW397.out, GE397.out, NB327_397.out, NB397_327.out, NB328_397.out, NB397_328.out, NB346_397.out, NB397_346.out, NB351_397.out, NB397_351.out, NB363_397.out, NB397_363.out, X.G⟩)
     ·skip
      rintro ⟨v386, v390⟩ w123 ⟨hS_, h0_, h1_, h2_, h3_, h4_, h5_, h6_, h7_, h8_, h9_, h10_, h11_, h12_, h13_, h14_, h15_⟩
      have n0_ : Aside0 (Kd.R (Kd.int .i64) 3 w123 w.heap.size (fun k_ => some k_ ≠ (.slice Ao70 t341.length co70 : Value).ownBlock ∧ some k_ ≠ (.slice Ao77 t347.length co77 : Value).ownBlock ∧ some k_ ≠ (.slice Ao90 t358.length co90 : Value).ownBlock ∧ some k_ ≠ (.slice Ao103 t365.length co103 : Value).ownBlock ∧ some k_ ≠ (v386 : Value).ownBlock) v335 t334) := ⟨h0_⟩
      have n1_ : Aside0 (Kd.S k51 51 w123 w.heap.size (fun k_ => some k_ ≠ (v335 : Value).ownBlock ∧ some k_ ≠ (.slice Ao70 t341.length co70 : Value).ownBlock ∧ some k_ ≠ (.slice Ao77 t347.length co77 : Value).ownBlock ∧ some k_ ≠ (.slice Ao84 t352.length co84 : Value).ownBlock ∧ some k_ ≠ (.slice Ao90 t358.length co90 : Value).ownBlock ∧ some k_ ≠ (.slice Ao103 t365.length co103 : Value).ownBlock ∧ some k_ ≠ (.slice Ao107 t370.length co107 : Value).ownBlock ∧ some k_ ≠ (v386 : Value).ownBlock ∧ some k_ ≠ (v390 : Value).ownBlock ∧ k_ < nb106 ∧ k_ < nb83) v339 t338) := ⟨h1_⟩
      have n2_ : Aside0 (Kd.R (Kd.int .i64) 3 w123 w.heap.size (fun k_ => some k_ ≠ (v335 : Value).ownBlock ∧ some k_ ≠ (.slice Ao77 t347.length co77 : Value).ownBlock ∧ some k_ ≠ (.slice Ao90 t358.length co90 : Value).ownBlock ∧ some k_ ≠ (.slice Ao103 t365.length co103 : Value).ownBlock ∧ some k_ ≠ (v386 : Value).ownBlock) (.slice Ao70 t341.length co70) t341) := ⟨h2_⟩
      have n3_ : Aside0 (Kd.R (Kd.int .i64) 3 w123 w.heap.size (fun k_ => some k_ ≠ (v335 : Value).ownBlock ∧ some k_ ≠ (.slice Ao70 t341.length co70 : Value).ownBlock ∧ some k_ ≠ (.slice Ao90 t358.length co90 : Value).ownBlock ∧ some k_ ≠ (.slice Ao103 t365.length co103 : Value).ownBlock ∧ some k_ ≠ (v386 : Value).ownBlock) (.slice Ao77 t347.length co77) t375) := ⟨h3_⟩
      have n4_ : Aside0 (Kd.S k51 51 w123 w.heap.size (fun k_ => some k_ ≠ (v335 : Value).ownBlock ∧ some k_ ≠ (v339 : Value).ownBlock ∧ some k_ ≠ (.slice Ao70 t341.length co70 : Value).ownBlock ∧ some k_ ≠ (.slice Ao77 t347.length co77 : Value).ownBlock ∧ some k_ ≠ (.slice Ao90 t358.length co90 : Value).ownBlock ∧ some k_ ≠ (.slice Ao103 t365.length co103 : Value).ownBlock ∧ some k_ ≠ (.slice Ao107 t370.length co107 : Value).ownBlock ∧ some k_ ≠ (v386 : Value).ownBlock ∧ some k_ ≠ (v390 : Value).ownBlock ∧ k_ < nb106 ∧ nb83 ≤ k_) (.slice Ao84 t352.length co84) t377) := ⟨h4_⟩
      have n5_ : Aside0 (Kd.R (Kd.int .i64) 3 w123 w.heap.size (fun k_ => some k_ ≠ (v335 : Value).ownBlock ∧ some k_ ≠ (.slice Ao70 t341.length co70 : Value).ownBlock ∧ some k_ ≠ (.slice Ao77 t347.length co77 : Value).ownBlock ∧ some k_ ≠ (.slice Ao103 t365.length co103 : Value).ownBlock ∧ some k_ ≠ (v386 : Value).ownBlock) (.slice Ao90 t358.length co90) t380) := ⟨h5_⟩
      have n6_ : Aside0 (Kd.R (Kd.int .i64) 3 w123 w.heap.size (fun k_ => some k_ ≠ (v335 : Value).ownBlock ∧ some k_ ≠ (.slice Ao70 t341.length co70 : Value).ownBlock ∧ some k_ ≠ (.slice Ao77 t347.length co77 : Value).ownBlock ∧ some k_ ≠ (.slice Ao90 t358.length co90 : Value).ownBlock ∧ some k_ ≠ (v386 : Value).ownBlock) (.slice Ao103 t365.length co103) t365) := ⟨h6_⟩
      have n7_ : Aside0 (Kd.S k51 51 w123 w.heap.size (fun k_ => some k_ ≠ (v335 : Value).ownBlock ∧ some k_ ≠ (v339 : Value).ownBlock ∧ some k_ ≠ (.slice Ao70 t341.length co70 : Value).ownBlock ∧ some k_ ≠ (.slice Ao77 t347.length co77 : Value).ownBlock ∧ some k_ ≠ (.slice Ao84 t352.length co84 : Value).ownBlock ∧ some k_ ≠ (.slice Ao90 t358.length co90 : Value).ownBlock ∧ some k_ ≠ (.slice Ao103 t365.length co103 : Value).ownBlock ∧ some k_ ≠ (v386 : Value).ownBlock ∧ some k_ ≠ (v390 : Value).ownBlock ∧ nb106 ≤ k_) (.slice Ao107 t370.length co107) t370) := ⟨h7_⟩
      have n8_ : Aside0 (Kd.R (Kd.int .i64) 3 w123 w.heap.size (fun k_ => some k_ ≠ (v335 : Value).ownBlock ∧ some k_ ≠ (.slice Ao70 t341.length co70 : Value).ownBlock ∧ some k_ ≠ (.slice Ao77 t347.length co77 : Value).ownBlock ∧ some k_ ≠ (.slice Ao90 t358.length co90 : Value).ownBlock ∧ some k_ ≠ (.slice Ao103 t365.length co103 : Value).ownBlock) v386 t385) := ⟨h8_⟩
      have n9_ : Aside0 (Kd.S k51 51 w123 w.heap.size (fun k_ => some k_ ≠ (v335 : Value).ownBlock ∧ some k_ ≠ (v339 : Value).ownBlock ∧ some k_ ≠ (.slice Ao70 t341.length co70 : Value).ownBlock ∧ some k_ ≠ (.slice Ao77 t347.length co77 : Value).ownBlock ∧ some k_ ≠ (.slice Ao84 t352.length co84 : Value).ownBlock ∧ some k_ ≠ (.slice Ao90 t358.length co90 : Value).ownBlock ∧ some k_ ≠ (.slice Ao103 t365.length co103 : Value).ownBlock ∧ some k_ ≠ (.slice Ao107 t370.length co107 : Value).ownBlock ∧ some k_ ≠ (v386 : Value).ownBlock) v390 t389) := ⟨h9_⟩
      have n10_ : Aside0 (w123.heap[gb327]? = some (.cells #[.int .i64 a0_0, .int .i64 a0_1, .int .i64 a0_2] 23 (0, 0))) := ⟨h10_⟩
      have n11_ : Aside0 (w123.heap[gb328]? = some (.cells #[.slice A1_0 l1_0.length c1_0, .int .i64 a1_1] 26 (0, 0))) := ⟨h11_⟩
      have n12_ : Aside0 (w123.heap[gb346]? = some (.cells #[.slice Ao70 t341.length co70, .int .i64 t344] 30 (0, 0))) := ⟨h12_⟩
      have n13_ : Aside0 (w123.heap[gb351]? = some (.cells #[.slice Ao77 t347.length co77, .int .i64 t350] 30 (0, 0))) := ⟨h13_⟩
      have n14_ : Aside0 (w123.heap[gb363]? = some (.cells #[.slice Ao90 t358.length co90, .int .i64 t361] 30 (0, 0))) := ⟨h14_⟩
      have n15_ : Aside0 (Below w.heap.size w w123) := ⟨h15_⟩
      clear HO336 HO340 HO343 HO349 HO354 HO360 HO367 HO372 BK327 BK328 BK346 BK351 BK363 HB h0_ h1_ h2_ h3_ h4_ h5_ h6_ h7_ h8_ h9_ h10_ h11_ h12_ h13_ h14_ h15_
      have HO336 := n0_
      have HO340 := n1_
      have HO343 := n2_
      have HO349 := n3_
      have HO354 := n4_
      have HO360 := n5_
      have HO367 := n6_
      have HO372 := n7_
      have HO387 := n8_
      have HO391 := n9_
      have BK327 := n10_
      have BK328 := n11_
      have BK346 := n12_
      have BK351 := n13_
      have BK363 := n14_
      have HB := n15_
      clear n0_ n1_ n2_ n3_ n4_ n5_ n6_ n7_ n8_ n9_ n10_ n11_ n12_ n13_ n14_ n15_
      have hHeld : w123.cell? ⟨gb327, 0, none⟩ = some (.int .i64 a0_0) ∧ w123.cell? ⟨gb327, 1, none⟩ = some (.int .i64 a0_1) ∧ w123.cell? ⟨gb327, 2, none⟩ = some (.int .i64 a0_2) ∧ w123.cell? ⟨gb328, 0, none⟩ = some (.slice A1_0 l1_0.length c1_0) ∧ w123.cell? ⟨gb328, 1, none⟩ = some (.int .i64 a1_1) := hS_
      obtain ⟨Ao124, co124, eo124⟩ := Kd.R_slice HO387.out
      (first | subst eo124 | (injection eo124 with f1_ f2_ f3_; have f4_ := f1_.symm; have f5_ := f3_.symm; clear f1_ f2_ f3_; subst f4_; subst f5_))
      obtain ⟨Ao125, co125, eo125⟩ := Kd.S_slice HO391.out
      (first | subst eo125 | (injection eo125 with f1_ f2_ f3_; have f4_ := f1_.symm; have f5_ := f3_.symm; clear f1_ f2_ f3_; subst f4_; subst f5_))
      refine norm_ (a' := ?_) ?_ ?_
      rotate_left
      ·simp only [putAll, Act.put, List.setIfInBounds_toArray, List.set_cons_zero, List.set_cons_succ]
       rfl
      refine two_ (i := 6) (j := 10) (Ni := some 107) (Nj := some 17) #[true, true, true, true, true, true, true, false, false, false, false, false, false] #[true, true, true, true, true, true, false, false, false, false, true, false, false] rfl rfl rfl rfl (two_of HT_.out (by kernel_rfl)) (by decide) (by decide) (fun K hK => ?_) (fun K hK => ?_)
      ·skip
       refine goes_ Try.func10 (by kernel_rfl) rfl #[.agg #[.int .i64 t382, .int .i64 t383, .int .i64 t384], .agg #[.slice Ao124 t385.length co124, .int .i64 t388], .slice Ao125 t389.length co125] (by rfl) rfl rfl X.M ?_
       with_reducible refine (impl_SailAll.calls k t382 t383 t384 (fun k_ => some k_ = (.slice Ao124 t385.length co124 : Value).ownBlock) _ _ t385 t388 _ _ t389 t392 t395 t396 _ ?side1 ?side2 ?side3 A48.out).mono ?_
       (case side1 => exact Kd.R_V (Kd.R_tight rfl (Kd.R_types (Kd.R_types (Kd.R_types (Kd.R_types (Kd.R_types (Kd.R_apart' (Kd.R_apart' (Kd.R_apart' (Kd.R_apart' (HO387.out) (Kd.S_typed HO340.out) (by decide)) (Kd.S_typed HO354.out) (by decide)) (Kd.S_typed HO372.out) (by decide)) (Kd.S_typed HO391.out) (by decide)) BK327.out (by decide)) BK328.out (by decide)) BK346.out (by decide)) BK351.out (by decide)) BK363.out (by decide))))
       (case side2 => exact X.C (Kd.S_reads' HO391.out).2.2)
       (case side3 => exact (Kd.S_reads' HO391.out).2.1)
       rintro e w126 ⟨v393, rfl, ho0, hb⟩
       refine ⟨_, rfl, ?_⟩
       have n0_ := X.A (Kd.R_elder' (X.K HO336) (Kd.R_base ho0) hb)
       have n1_ := X.A (Kd.S_elder' (X.L HO340) (Kd.R_base ho0) hb)
       have n2_ := X.A (Kd.R_elder' (X.K HO343) (Kd.R_base ho0) hb)
       have n3_ := X.A (Kd.R_elder' (X.K HO349) (Kd.R_base ho0) hb)
       have n4_ := X.A (Kd.S_elder' (X.L HO354) (Kd.R_base ho0) hb)
       have n5_ := X.A (Kd.R_elder' (X.K HO360) (Kd.R_base ho0) hb)
       have n6_ := X.A (Kd.R_elder' (X.K HO367) (Kd.R_base ho0) hb)
       have n7_ := X.A (Kd.S_elder' (X.L HO372) (Kd.R_base ho0) hb)
       have n8_ := X.A (Kd.R_elder' (X.K HO387) (Kd.R_base ho0) hb)
       have n9_ := X.A (Kd.S_elder' (X.L HO391) (Kd.R_base ho0) hb)
       have n10_ := X.A (Kd.R_lower (Kd.R_new' (Kd.R_new' (Kd.R_new' (Kd.R_new' (Kd.R_new' (Kd.R_new' (Kd.R_mono (ok' := fun k_ => True) ho0 (fun _ hk_ => trivial)) (Kd.R_lt (X.K HO336))) (Kd.R_lt (X.K HO343))) (Kd.R_lt (X.K HO349))) (Kd.R_lt (X.K HO360))) (Kd.R_lt (X.K HO367))) (Kd.R_lt (X.K HO387))) (below_size X.G))
       have n11_ := X.A (X.BB BK327 hb)
       have n12_ := X.A (X.BB BK328 hb)
       have n13_ := X.A (X.BB BK346 hb)
       have n14_ := X.A (X.BB BK351 hb)
       have n15_ := X.A (X.BB BK363 hb)
       have n16_ := X.A (below_step X.G hb)
       clear HO336 HO340 HO343 HO349 HO354 HO360 HO367 HO372 HO387 HO391 BK327 BK328 BK346 BK351 BK363 HB
       have HO336 := n0_
       have HO340 := n1_
       have HO343 := n2_
       have HO349 := n3_
       have HO354 := n4_
       have HO360 := n5_
       have HO367 := n6_
       have HO372 := n7_
       have HO387 := n8_
       have HO391 := n9_
       have HO394 := n10_
       have BK327 := n11_
       have BK328 := n12_
       have BK346 := n13_
       have BK351 := n14_
       have BK363 := n15_
       have HB := n16_
       clear n0_ n1_ n2_ n3_ n4_ n5_ n6_ n7_ n8_ n9_ n10_ n11_ n12_ n13_ n14_ n15_ n16_
       (try clear hb)
       (try clear hb2)
       (try clear hk)
       (try clear hi)
       (try clear ho0)
       refine hK.out _ _ ⟨(blk_cell BK327.out 0).trans rfl, (blk_cell BK327.out 1).trans rfl, (blk_cell BK327.out 2).trans rfl, (blk_cell BK328.out 0).trans rfl, (blk_cell BK328.out 1).trans rfl⟩ (fun hHeld => ?_)
       clear hK K
       refine norm_ (a' := ?_) ?_ ?_
       rotate_left
       ·exact (show Act.put _ (some 107) _ = _ from X.Pu)
       refine pure_ (i := 7) (N := some 100) (v := ?_) (a' := ?_) #[true, true, true, true, true, true, true, true, false, false, false, false, false] rfl rfl (any_of HT_.out (by kernel_rfl)) (fun _ _ _ h => h) (Or.inl ⟨by rfl, ?_⟩) ?_ ?_
       rotate_left
       ·intro w'
        go_simp
        with_reducible rfl
       rotate_left
       ·exact X.Pu
       refine pure_ (i := 8) (N := some 108) (v := ?_) (a' := ?_) #[true, true, true, true, true, true, true, true, true, false, false, false, false] rfl rfl (any_of HT_.out (by kernel_rfl)) (fun _ _ _ h => h) (Or.inl ⟨by rfl, ?_⟩) ?_ ?_
       rotate_left
       ·intro w'
        go_simp
        with_reducible rfl
       rotate_left
       ·exact X.Pu
       refine pure_ (i := 9) (N := some 109) (v := ?_) (a' := ?_) #[true, true, true, true, true, true, true, true, true, true, false, false, false] rfl rfl (any_of HT_.out (by kernel_rfl)) (fun _ _ _ h => h) (Or.inl ⟨by rfl, ?_⟩) ?_ ?_
       rotate_left
       ·intro w'
        go_simp
        with_reducible rfl
       rotate_left
       ·exact X.Pu
       exact norm_ X.S (hJ1_3_5_6 (.slice Ao124 t385.length co124, .slice Ao125 t389.length co125, v393) _ ⟨hHeld, (by (with_reducible repeat (first | apply Kd.R_alloc | apply Kd.R_drewN | apply Kd.R_drew)); exact Kd.R_mono HO336.out (fun _ hk => ⟨hk.1.1, ⟨hk.1.2.1, ⟨hk.1.2.2.1, ⟨hk.1.2.2.2.1, ⟨hk.1.2.2.2.2, hk.2⟩⟩⟩⟩⟩)), (by (with_reducible repeat (first | apply Kd.S_alloc | apply Kd.S_drewN | apply Kd.S_drew)); exact Kd.S_mono HO340.out (fun _ hk => ⟨hk.1.1, ⟨hk.1.2.1, ⟨hk.1.2.2.1, ⟨hk.1.2.2.2.1, ⟨hk.1.2.2.2.2.1, ⟨hk.1.2.2.2.2.2.1, ⟨hk.1.2.2.2.2.2.2.1, ⟨hk.1.2.2.2.2.2.2.2.1, ⟨hk.1.2.2.2.2.2.2.2.2.1, ⟨hk.2, ⟨hk.1.2.2.2.2.2.2.2.2.2.1, hk.1.2.2.2.2.2.2.2.2.2.2⟩⟩⟩⟩⟩⟩⟩⟩⟩⟩⟩)), (by (with_reducible repeat (first | apply Kd.R_alloc | apply Kd.R_drewN | apply Kd.R_drew)); exact Kd.R_mono HO343.out (fun _ hk => ⟨hk.1.1, ⟨hk.1.2.1, ⟨hk.1.2.2.1, ⟨hk.1.2.2.2.1, ⟨hk.1.2.2.2.2, hk.2⟩⟩⟩⟩⟩)), (by (with_reducible repeat (first | apply Kd.R_alloc | apply Kd.R_drewN | apply Kd.R_drew)); exact Kd.R_mono HO349.out (fun _ hk => ⟨hk.1.1, ⟨hk.1.2.1, ⟨hk.1.2.2.1, ⟨hk.1.2.2.2.1, ⟨hk.1.2.2.2.2, hk.2⟩⟩⟩⟩⟩)), (by (with_reducible repeat (first | apply Kd.S_alloc | apply Kd.S_drewN | apply Kd.S_drew)); exact Kd.S_mono HO354.out (fun _ hk => ⟨hk.1.1, ⟨hk.1.2.1, ⟨hk.1.2.2.1, ⟨hk.1.2.2.2.1, ⟨hk.1.2.2.2.2.1, ⟨hk.1.2.2.2.2.2.1, ⟨hk.1.2.2.2.2.2.2.1, ⟨hk.1.2.2.2.2.2.2.2.1, ⟨hk.1.2.2.2.2.2.2.2.2.1, ⟨hk.2, ⟨hk.1.2.2.2.2.2.2.2.2.2.1, hk.1.2.2.2.2.2.2.2.2.2.2⟩⟩⟩⟩⟩⟩⟩⟩⟩⟩⟩)), (by (with_reducible repeat (first | apply Kd.R_alloc | apply Kd.R_drewN | apply Kd.R_drew)); exact Kd.R_mono HO360.out (fun _ hk => ⟨hk.1.1, ⟨hk.1.2.1, ⟨hk.1.2.2.1, ⟨hk.1.2.2.2.1, ⟨hk.1.2.2.2.2, hk.2⟩⟩⟩⟩⟩)), (by (with_reducible repeat (first | apply Kd.R_alloc | apply Kd.R_drewN | apply Kd.R_drew)); exact Kd.R_mono HO367.out (fun _ hk => ⟨hk.1.1, ⟨hk.1.2.1, ⟨hk.1.2.2.1, ⟨hk.1.2.2.2.1, ⟨hk.1.2.2.2.2, hk.2⟩⟩⟩⟩⟩)), (by (with_reducible repeat (first | apply Kd.S_alloc | apply Kd.S_drewN | apply Kd.S_drew)); exact Kd.S_mono HO372.out (fun _ hk => ⟨hk.1.1, ⟨hk.1.2.1, ⟨hk.1.2.2.1, ⟨hk.1.2.2.2.1, ⟨hk.1.2.2.2.2.1, ⟨hk.1.2.2.2.2.2.1, ⟨hk.1.2.2.2.2.2.2.1, ⟨hk.1.2.2.2.2.2.2.2.1, ⟨hk.1.2.2.2.2.2.2.2.2.1, ⟨hk.2, hk.1.2.2.2.2.2.2.2.2.2⟩⟩⟩⟩⟩⟩⟩⟩⟩⟩)), (by (with_reducible repeat (first | apply Kd.R_alloc | apply Kd.R_drewN | apply Kd.R_drew)); exact Kd.R_mono HO387.out (fun _ hk => ⟨hk.1.1, ⟨hk.1.2.1, ⟨hk.1.2.2.1, ⟨hk.1.2.2.2.1, ⟨hk.1.2.2.2.2, hk.2⟩⟩⟩⟩⟩)), (by (with_reducible repeat (first | apply Kd.S_alloc | apply Kd.S_drewN | apply Kd.S_drew)); exact Kd.S_mono HO391.out (fun _ hk => ⟨hk.1.1, ⟨hk.1.2.1, ⟨hk.1.2.2.1, ⟨hk.1.2.2.2.1, ⟨hk.1.2.2.2.2.1, ⟨hk.1.2.2.2.2.2.1, ⟨hk.1.2.2.2.2.2.2.1, ⟨hk.1.2.2.2.2.2.2.2.1, ⟨hk.1.2.2.2.2.2.2.2.2, hk.2⟩⟩⟩⟩⟩⟩⟩⟩⟩)), (by (with_reducible repeat (first | apply Kd.R_alloc | apply Kd.R_drewN | apply Kd.R_drew)); exact Kd.R_mono HO394.out (fun _ hk => ⟨hk.1.1.1.1.1.2, ⟨hk.1.1.1.1.2, ⟨hk.1.1.1.2, ⟨hk.1.1.2, ⟨hk.1.2, hk.2⟩⟩⟩⟩⟩)), (X.B BK327), (X.B BK328), (X.B BK346), (X.B BK351), (X.B BK363), X.G⟩)
      ·skip
       refine box_step ?hg (N := 17) ?hd (cs := #[.slice none 0 0, .int .i64 0]) (t := 30) ?hr ?_; (case hd => rfl); (case hg => rfl); (case hr => exact X.R)
       intro gb397 hg w124 hbox hb
       have n0_ := X.A (Kd.R_below (X.K HO336) hb)
       have n1_ := X.A (Kd.S_below (X.L HO340) hb)
       have n2_ := X.A (Kd.R_below (X.K HO343) hb)
       have n3_ := X.A (Kd.R_below (X.K HO349) hb)
       have n4_ := X.A (Kd.S_below (X.L HO354) hb)
       have n5_ := X.A (Kd.R_below (X.K HO360) hb)
       have n6_ := X.A (Kd.R_below (X.K HO367) hb)
       have n7_ := X.A (Kd.S_below (X.L HO372) hb)
       have n8_ := X.A (Kd.R_below (X.K HO387) hb)
       have n9_ := X.A (Kd.S_below (X.L HO391) hb)
       have n10_ := X.A (X.BB BK327 hb)
       have n11_ := X.A (X.BB BK328 hb)
       have n12_ := X.A (X.BB BK346 hb)
       have n13_ := X.A (X.BB BK351 hb)
       have n14_ := X.A (X.BB BK363 hb)
       have n15_ := X.A (below_step X.G hb)
       have n16_ := X.A (hbox)
       have n17_ := X.A ((by rw [hg]; exact (below_size X.G) : w.heap.size ≤ gb397))
       have n18_ := X.A ((by rw [hg]; exact (below_size X.G) : w.heap.size ≤ gb397))
       have n19_ := X.A (X.NL hg BK327)
       have n20_ := X.A (X.NG hg BK327)
       have n21_ := X.A (X.NL hg BK328)
       have n22_ := X.A (X.NG hg BK328)
       have n23_ := X.A (X.NL hg BK346)
       have n24_ := X.A (X.NG hg BK346)
       have n25_ := X.A (X.NL hg BK351)
       have n26_ := X.A (X.NG hg BK351)
       have n27_ := X.A (X.NL hg BK363)
       have n28_ := X.A (X.NG hg BK363)
       clear HO336 HO340 HO343 HO349 HO354 HO360 HO367 HO372 HO387 HO391 BK327 BK328 BK346 BK351 BK363 HB
       have HO336 := n0_
       have HO340 := n1_
       have HO343 := n2_
       have HO349 := n3_
       have HO354 := n4_
       have HO360 := n5_
       have HO367 := n6_
       have HO372 := n7_
       have HO387 := n8_
       have HO391 := n9_
       have BK327 := n10_
       have BK328 := n11_
       have BK346 := n12_
       have BK351 := n13_
       have BK363 := n14_
       have HB := n15_
       have BK397 := n16_
       have GW397 := n17_
       have GE397 := n18_
       have NB327_397 := n19_
       have NB397_327 := n20_
       have NB328_397 := n21_
       have NB397_328 := n22_
       have NB346_397 := n23_
       have NB397_346 := n24_
       have NB351_397 := n25_
       have NB397_351 := n26_
       have NB363_397 := n27_
       have NB397_363 := n28_
       clear n0_ n1_ n2_ n3_ n4_ n5_ n6_ n7_ n8_ n9_ n10_ n11_ n12_ n13_ n14_ n15_ n16_ n17_ n18_ n19_ n20_ n21_ n22_ n23_ n24_ n25_ n26_ n27_ n28_ hb hbox hg
       refine hK.out _ _ ⟨(blk_cell BK327.out 0).trans rfl, (blk_cell BK327.out 1).trans rfl, (blk_cell BK327.out 2).trans rfl, (blk_cell BK328.out 0).trans rfl, (blk_cell BK328.out 1).trans rfl⟩ (fun hHeld => ?_)
       clear hK K
       refine norm_ (a' := ?_) ?_ ?_
       rotate_left
       ·exact (show Act.put _ (some 17) _ = _ from X.Pu)
       exact norm_ X.S (hJ1_3_5_10 ((.slice Ao124 t385.length co124), (.slice Ao125 t389.length co125), gb397) _ ⟨hHeld, (X.K HO336), (X.L HO340), (X.K HO343), (X.K HO349), (X.L HO354), (X.K HO360), (X.K HO367), (X.L HO372), (X.K HO387), (X.L HO391), (X.B BK327), (X.B BK328), (X.B BK346), (X.B BK351), (X.B BK363), (X.B BK397), GW397.out, GE397.out, NB327_397.out, NB397_327.out, NB328_397.out, NB397_328.out, NB346_397.out, NB397_346.out, NB351_397.out, NB397_351.out, NB363_397.out, NB397_363.out, X.G⟩)
    ·skip
     rintro ⟨v386, v390, gb397⟩ w124 ⟨hS_, h0_, h1_, h2_, h3_, h4_, h5_, h6_, h7_, h8_, h9_, h10_, h11_, h12_, h13_, h14_, h15_, h16_, h17_, h18_, h19_, h20_, h21_, h22_, h23_, h24_, h25_, h26_, h27_, h28_⟩
     have n0_ : Aside0 (Kd.R (Kd.int .i64) 3 w124 w.heap.size (fun k_ => some k_ ≠ (.slice Ao70 t341.length co70 : Value).ownBlock ∧ some k_ ≠ (.slice Ao77 t347.length co77 : Value).ownBlock ∧ some k_ ≠ (.slice Ao90 t358.length co90 : Value).ownBlock ∧ some k_ ≠ (.slice Ao103 t365.length co103 : Value).ownBlock ∧ some k_ ≠ (v386 : Value).ownBlock) v335 t334) := ⟨h0_⟩
     have n1_ : Aside0 (Kd.S k51 51 w124 w.heap.size (fun k_ => some k_ ≠ (v335 : Value).ownBlock ∧ some k_ ≠ (.slice Ao70 t341.length co70 : Value).ownBlock ∧ some k_ ≠ (.slice Ao77 t347.length co77 : Value).ownBlock ∧ some k_ ≠ (.slice Ao84 t352.length co84 : Value).ownBlock ∧ some k_ ≠ (.slice Ao90 t358.length co90 : Value).ownBlock ∧ some k_ ≠ (.slice Ao103 t365.length co103 : Value).ownBlock ∧ some k_ ≠ (.slice Ao107 t370.length co107 : Value).ownBlock ∧ some k_ ≠ (v386 : Value).ownBlock ∧ some k_ ≠ (v390 : Value).ownBlock ∧ k_ < nb106 ∧ k_ < nb83) v339 t338) := ⟨h1_⟩
     have n2_ : Aside0 (Kd.R (Kd.int .i64) 3 w124 w.heap.size (fun k_ => some k_ ≠ (v335 : Value).ownBlock ∧ some k_ ≠ (.slice Ao77 t347.length co77 : Value).ownBlock ∧ some k_ ≠ (.slice Ao90 t358.length co90 : Value).ownBlock ∧ some k_ ≠ (.slice Ao103 t365.length co103 : Value).ownBlock ∧ some k_ ≠ (v386 : Value).ownBlock) (.slice Ao70 t341.length co70) t341) := ⟨h2_⟩
     have n3_ : Aside0 (Kd.R (Kd.int .i64) 3 w124 w.heap.size (fun k_ => some k_ ≠ (v335 : Value).ownBlock ∧ some k_ ≠ (.slice Ao70 t341.length co70 : Value).ownBlock ∧ some k_ ≠ (.slice Ao90 t358.length co90 : Value).ownBlock ∧ some k_ ≠ (.slice Ao103 t365.length co103 : Value).ownBlock ∧ some k_ ≠ (v386 : Value).ownBlock) (.slice Ao77 t347.length co77) t375) := ⟨h3_⟩
     have n4_ : Aside0 (Kd.S k51 51 w124 w.heap.size (fun k_ => some k_ ≠ (v335 : Value).ownBlock ∧ some k_ ≠ (v339 : Value).ownBlock ∧ some k_ ≠ (.slice Ao70 t341.length co70 : Value).ownBlock ∧ some k_ ≠ (.slice Ao77 t347.length co77 : Value).ownBlock ∧ some k_ ≠ (.slice Ao90 t358.length co90 : Value).ownBlock ∧ some k_ ≠ (.slice Ao103 t365.length co103 : Value).ownBlock ∧ some k_ ≠ (.slice Ao107 t370.length co107 : Value).ownBlock ∧ some k_ ≠ (v386 : Value).ownBlock ∧ some k_ ≠ (v390 : Value).ownBlock ∧ k_ < nb106 ∧ nb83 ≤ k_) (.slice Ao84 t352.length co84) t377) := ⟨h4_⟩
     have n5_ : Aside0 (Kd.R (Kd.int .i64) 3 w124 w.heap.size (fun k_ => some k_ ≠ (v335 : Value).ownBlock ∧ some k_ ≠ (.slice Ao70 t341.length co70 : Value).ownBlock ∧ some k_ ≠ (.slice Ao77 t347.length co77 : Value).ownBlock ∧ some k_ ≠ (.slice Ao103 t365.length co103 : Value).ownBlock ∧ some k_ ≠ (v386 : Value).ownBlock) (.slice Ao90 t358.length co90) t380) := ⟨h5_⟩
     have n6_ : Aside0 (Kd.R (Kd.int .i64) 3 w124 w.heap.size (fun k_ => some k_ ≠ (v335 : Value).ownBlock ∧ some k_ ≠ (.slice Ao70 t341.length co70 : Value).ownBlock ∧ some k_ ≠ (.slice Ao77 t347.length co77 : Value).ownBlock ∧ some k_ ≠ (.slice Ao90 t358.length co90 : Value).ownBlock ∧ some k_ ≠ (v386 : Value).ownBlock) (.slice Ao103 t365.length co103) t365) := ⟨h6_⟩
     have n7_ : Aside0 (Kd.S k51 51 w124 w.heap.size (fun k_ => some k_ ≠ (v335 : Value).ownBlock ∧ some k_ ≠ (v339 : Value).ownBlock ∧ some k_ ≠ (.slice Ao70 t341.length co70 : Value).ownBlock ∧ some k_ ≠ (.slice Ao77 t347.length co77 : Value).ownBlock ∧ some k_ ≠ (.slice Ao84 t352.length co84 : Value).ownBlock ∧ some k_ ≠ (.slice Ao90 t358.length co90 : Value).ownBlock ∧ some k_ ≠ (.slice Ao103 t365.length co103 : Value).ownBlock ∧ some k_ ≠ (v386 : Value).ownBlock ∧ some k_ ≠ (v390 : Value).ownBlock ∧ nb106 ≤ k_) (.slice Ao107 t370.length co107) t370) := ⟨h7_⟩
     have n8_ : Aside0 (Kd.R (Kd.int .i64) 3 w124 w.heap.size (fun k_ => some k_ ≠ (v335 : Value).ownBlock ∧ some k_ ≠ (.slice Ao70 t341.length co70 : Value).ownBlock ∧ some k_ ≠ (.slice Ao77 t347.length co77 : Value).ownBlock ∧ some k_ ≠ (.slice Ao90 t358.length co90 : Value).ownBlock ∧ some k_ ≠ (.slice Ao103 t365.length co103 : Value).ownBlock) v386 t385) := ⟨h8_⟩
     have n9_ : Aside0 (Kd.S k51 51 w124 w.heap.size (fun k_ => some k_ ≠ (v335 : Value).ownBlock ∧ some k_ ≠ (v339 : Value).ownBlock ∧ some k_ ≠ (.slice Ao70 t341.length co70 : Value).ownBlock ∧ some k_ ≠ (.slice Ao77 t347.length co77 : Value).ownBlock ∧ some k_ ≠ (.slice Ao84 t352.length co84 : Value).ownBlock ∧ some k_ ≠ (.slice Ao90 t358.length co90 : Value).ownBlock ∧ some k_ ≠ (.slice Ao103 t365.length co103 : Value).ownBlock ∧ some k_ ≠ (.slice Ao107 t370.length co107 : Value).ownBlock ∧ some k_ ≠ (v386 : Value).ownBlock) v390 t389) := ⟨h9_⟩
     have n10_ : Aside0 (w124.heap[gb327]? = some (.cells #[.int .i64 a0_0, .int .i64 a0_1, .int .i64 a0_2] 23 (0, 0))) := ⟨h10_⟩
     have n11_ : Aside0 (w124.heap[gb328]? = some (.cells #[.slice A1_0 l1_0.length c1_0, .int .i64 a1_1] 26 (0, 0))) := ⟨h11_⟩
     have n12_ : Aside0 (w124.heap[gb346]? = some (.cells #[.slice Ao70 t341.length co70, .int .i64 t344] 30 (0, 0))) := ⟨h12_⟩
     have n13_ : Aside0 (w124.heap[gb351]? = some (.cells #[.slice Ao77 t347.length co77, .int .i64 t350] 30 (0, 0))) := ⟨h13_⟩
     have n14_ : Aside0 (w124.heap[gb363]? = some (.cells #[.slice Ao90 t358.length co90, .int .i64 t361] 30 (0, 0))) := ⟨h14_⟩
     have n15_ : Aside0 (w124.heap[gb397]? = some (.cells #[.slice none 0 0, .int .i64 0] 30 (0, 0))) := ⟨h15_⟩
     have n16_ : Aside0 (w.heap.size ≤ gb397) := ⟨h16_⟩
     have n17_ : Aside0 (w.heap.size ≤ gb397) := ⟨h17_⟩
     have n18_ : Aside0 (gb327 ≠ gb397) := ⟨h18_⟩
     have n19_ : Aside0 (gb397 ≠ gb327) := ⟨h19_⟩
     have n20_ : Aside0 (gb328 ≠ gb397) := ⟨h20_⟩
     have n21_ : Aside0 (gb397 ≠ gb328) := ⟨h21_⟩
     have n22_ : Aside0 (gb346 ≠ gb397) := ⟨h22_⟩
     have n23_ : Aside0 (gb397 ≠ gb346) := ⟨h23_⟩
     have n24_ : Aside0 (gb351 ≠ gb397) := ⟨h24_⟩
     have n25_ : Aside0 (gb397 ≠ gb351) := ⟨h25_⟩
     have n26_ : Aside0 (gb363 ≠ gb397) := ⟨h26_⟩
     have n27_ : Aside0 (gb397 ≠ gb363) := ⟨h27_⟩
     have n28_ : Aside0 (Below w.heap.size w w124) := ⟨h28_⟩
     clear HO336 HO340 HO343 HO349 HO354 HO360 HO367 HO372 BK327 BK328 BK346 BK351 BK363 HB h0_ h1_ h2_ h3_ h4_ h5_ h6_ h7_ h8_ h9_ h10_ h11_ h12_ h13_ h14_ h15_ h16_ h17_ h18_ h19_ h20_ h21_ h22_ h23_ h24_ h25_ h26_ h27_ h28_
     have HO336 := n0_
     have HO340 := n1_
     have HO343 := n2_
     have HO349 := n3_
     have HO354 := n4_
     have HO360 := n5_
     have HO367 := n6_
     have HO372 := n7_
     have HO387 := n8_
     have HO391 := n9_
     have BK327 := n10_
     have BK328 := n11_
     have BK346 := n12_
     have BK351 := n13_
     have BK363 := n14_
     have BK397 := n15_
     have GW397 := n16_
     have GE397 := n17_
     have NB327_397 := n18_
     have NB397_327 := n19_
     have NB328_397 := n20_
     have NB397_328 := n21_
     have NB346_397 := n22_
     have NB397_346 := n23_
     have NB351_397 := n24_
     have NB397_351 := n25_
     have NB363_397 := n26_
     have NB397_363 := n27_
     have HB := n28_
     clear n0_ n1_ n2_ n3_ n4_ n5_ n6_ n7_ n8_ n9_ n10_ n11_ n12_ n13_ n14_ n15_ n16_ n17_ n18_ n19_ n20_ n21_ n22_ n23_ n24_ n25_ n26_ n27_ n28_
     have hHeld : w124.cell? ⟨gb327, 0, none⟩ = some (.int .i64 a0_0) ∧ w124.cell? ⟨gb327, 1, none⟩ = some (.int .i64 a0_1) ∧ w124.cell? ⟨gb327, 2, none⟩ = some (.int .i64 a0_2) ∧ w124.cell? ⟨gb328, 0, none⟩ = some (.slice A1_0 l1_0.length c1_0) ∧ w124.cell? ⟨gb328, 1, none⟩ = some (.int .i64 a1_1) := hS_
     obtain ⟨Ao125, co125, eo125⟩ := Kd.R_slice HO387.out
     (first | subst eo125 | (injection eo125 with f1_ f2_ f3_; have f4_ := f1_.symm; have f5_ := f3_.symm; clear f1_ f2_ f3_; subst f4_; subst f5_))
     obtain ⟨Ao126, co126, eo126⟩ := Kd.S_slice HO391.out
     (first | subst eo126 | (injection eo126 with f1_ f2_ f3_; have f4_ := f1_.symm; have f5_ := f3_.symm; clear f1_ f2_ f3_; subst f4_; subst f5_))
     refine norm_ (a' := ?_) ?_ ?_
     rotate_left
     ·simp only [putAll, Act.put, List.setIfInBounds_toArray, List.set_cons_zero, List.set_cons_succ]
      rfl
     refine one_ (i := 6) (N := some 107) #[true, true, true, true, true, true, true, false, false, false, true, false, false] rfl rfl (one_of HT_.out (by kernel_rfl)) (by decide) (fun K hK => ?_)
     refine goes_ Try.func10 (by kernel_rfl) rfl #[.agg #[.int .i64 t382, .int .i64 t383, .int .i64 t384], .agg #[.slice Ao125 t385.length co125, .int .i64 t388], .slice Ao126 t389.length co126] (by rfl) rfl rfl X.M ?_
     with_reducible refine (impl_SailAll.calls k t382 t383 t384 (fun k_ => some k_ = (.slice Ao125 t385.length co125 : Value).ownBlock) _ _ t385 t388 _ _ t389 t392 t395 t396 _ ?side1 ?side2 ?side3 A48.out).mono ?_
     (case side1 => exact Kd.R_V (Kd.R_tight rfl (Kd.R_types (Kd.R_types (Kd.R_types (Kd.R_types (Kd.R_types (Kd.R_types (Kd.R_apart' (Kd.R_apart' (Kd.R_apart' (Kd.R_apart' (HO387.out) (Kd.S_typed HO340.out) (by decide)) (Kd.S_typed HO354.out) (by decide)) (Kd.S_typed HO372.out) (by decide)) (Kd.S_typed HO391.out) (by decide)) BK327.out (by decide)) BK328.out (by decide)) BK346.out (by decide)) BK351.out (by decide)) BK363.out (by decide)) BK397.out (by decide))))
     (case side2 => exact X.C (Kd.S_reads' HO391.out).2.2)
     (case side3 => exact (Kd.S_reads' HO391.out).2.1)
     rintro e w127 ⟨v393, rfl, ho0, hb⟩
     refine ⟨_, rfl, ?_⟩
     have n0_ := X.A (Kd.R_elder' (X.K HO336) (Kd.R_base ho0) hb)
     have n1_ := X.A (Kd.S_elder' (X.L HO340) (Kd.R_base ho0) hb)
     have n2_ := X.A (Kd.R_elder' (X.K HO343) (Kd.R_base ho0) hb)
     have n3_ := X.A (Kd.R_elder' (X.K HO349) (Kd.R_base ho0) hb)
     have n4_ := X.A (Kd.S_elder' (X.L HO354) (Kd.R_base ho0) hb)
     have n5_ := X.A (Kd.R_elder' (X.K HO360) (Kd.R_base ho0) hb)
     have n6_ := X.A (Kd.R_elder' (X.K HO367) (Kd.R_base ho0) hb)
     have n7_ := X.A (Kd.S_elder' (X.L HO372) (Kd.R_base ho0) hb)
     have n8_ := X.A (Kd.R_elder' (X.K HO387) (Kd.R_base ho0) hb)
     have n9_ := X.A (Kd.S_elder' (X.L HO391) (Kd.R_base ho0) hb)
     have n10_ := X.A (Kd.R_lower (Kd.R_new' (Kd.R_new' (Kd.R_new' (Kd.R_new' (Kd.R_new' (Kd.R_new' (Kd.R_mono (ok' := fun k_ => True) ho0 (fun _ hk_ => trivial)) (Kd.R_lt (X.K HO336))) (Kd.R_lt (X.K HO343))) (Kd.R_lt (X.K HO349))) (Kd.R_lt (X.K HO360))) (Kd.R_lt (X.K HO367))) (Kd.R_lt (X.K HO387))) (below_size X.G))
     have n11_ := X.A (X.BB BK327 hb)
     have n12_ := X.A (X.BB BK328 hb)
     have n13_ := X.A (X.BB BK346 hb)
     have n14_ := X.A (X.BB BK351 hb)
     have n15_ := X.A (X.BB BK363 hb)
     have n16_ := X.A (X.BB BK397 hb)
     have n17_ := X.A (below_step X.G hb)
     clear HO336 HO340 HO343 HO349 HO354 HO360 HO367 HO372 HO387 HO391 BK327 BK328 BK346 BK351 BK363 BK397 HB
     have HO336 := n0_
     have HO340 := n1_
     have HO343 := n2_
     have HO349 := n3_
     have HO354 := n4_
     have HO360 := n5_
     have HO367 := n6_
     have HO372 := n7_
     have HO387 := n8_
     have HO391 := n9_
     have HO394 := n10_
     have BK327 := n11_
     have BK328 := n12_
     have BK346 := n13_
     have BK351 := n14_
     have BK363 := n15_
     have BK397 := n16_
     have HB := n17_
     clear n0_ n1_ n2_ n3_ n4_ n5_ n6_ n7_ n8_ n9_ n10_ n11_ n12_ n13_ n14_ n15_ n16_ n17_
     (try clear hb)
     (try clear hb2)
     (try clear hk)
     (try clear hi)
     (try clear ho0)
     refine hK.out _ _ ⟨(blk_cell BK327.out 0).trans rfl, (blk_cell BK327.out 1).trans rfl, (blk_cell BK327.out 2).trans rfl, (blk_cell BK328.out 0).trans rfl, (blk_cell BK328.out 1).trans rfl⟩ (fun hHeld => ?_)
     clear hK K
     refine norm_ (a' := ?_) ?_ ?_
     rotate_left
     ·exact (show Act.put _ (some 107) _ = _ from X.Pu)
     refine pure_ (i := 7) (N := some 100) (v := ?_) (a' := ?_) #[true, true, true, true, true, true, true, true, false, false, true, false, false] rfl rfl (any_of HT_.out (by kernel_rfl)) (fun _ _ _ h => h) (Or.inl ⟨by rfl, ?_⟩) ?_ ?_
     rotate_left
     ·intro w'
      go_simp
      with_reducible rfl
     rotate_left
     ·exact X.Pu
     refine pure_ (i := 8) (N := some 108) (v := ?_) (a' := ?_) #[true, true, true, true, true, true, true, true, true, false, true, false, false] rfl rfl (any_of HT_.out (by kernel_rfl)) (fun _ _ _ h => h) (Or.inl ⟨by rfl, ?_⟩) ?_ ?_
     rotate_left
     ·intro w'
      go_simp
      with_reducible rfl
     rotate_left
     ·exact X.Pu
     refine pure_ (i := 9) (N := some 109) (v := ?_) (a' := ?_) #[true, true, true, true, true, true, true, true, true, true, true, false, false] rfl rfl (any_of HT_.out (by kernel_rfl)) (fun _ _ _ h => h) (Or.inl ⟨by rfl, ?_⟩) ?_ ?_
     rotate_left
     ·intro w'
      go_simp
      with_reducible rfl
     rotate_left
     ·exact X.Pu
     exact norm_ X.S (hJ1_3_5_6_10 (.slice Ao125 t385.length co125, .slice Ao126 t389.length co126, v393, gb397) _ ⟨hHeld, (by (with_reducible repeat (first | apply Kd.R_alloc | apply Kd.R_drewN | apply Kd.R_drew)); exact Kd.R_mono HO336.out (fun _ hk => ⟨hk.1.1, ⟨hk.1.2.1, ⟨hk.1.2.2.1, ⟨hk.1.2.2.2.1, ⟨hk.1.2.2.2.2, hk.2⟩⟩⟩⟩⟩)), (by (with_reducible repeat (first | apply Kd.S_alloc | apply Kd.S_drewN | apply Kd.S_drew)); exact Kd.S_mono HO340.out (fun _ hk => ⟨hk.1.1, ⟨hk.1.2.1, ⟨hk.1.2.2.1, ⟨hk.1.2.2.2.1, ⟨hk.1.2.2.2.2.1, ⟨hk.1.2.2.2.2.2.1, ⟨hk.1.2.2.2.2.2.2.1, ⟨hk.1.2.2.2.2.2.2.2.1, ⟨hk.1.2.2.2.2.2.2.2.2.1, ⟨hk.2, ⟨hk.1.2.2.2.2.2.2.2.2.2.1, hk.1.2.2.2.2.2.2.2.2.2.2⟩⟩⟩⟩⟩⟩⟩⟩⟩⟩⟩)), (by (with_reducible repeat (first | apply Kd.R_alloc | apply Kd.R_drewN | apply Kd.R_drew)); exact Kd.R_mono HO343.out (fun _ hk => ⟨hk.1.1, ⟨hk.1.2.1, ⟨hk.1.2.2.1, ⟨hk.1.2.2.2.1, ⟨hk.1.2.2.2.2, hk.2⟩⟩⟩⟩⟩)), (by (with_reducible repeat (first | apply Kd.R_alloc | apply Kd.R_drewN | apply Kd.R_drew)); exact Kd.R_mono HO349.out (fun _ hk => ⟨hk.1.1, ⟨hk.1.2.1, ⟨hk.1.2.2.1, ⟨hk.1.2.2.2.1, ⟨hk.1.2.2.2.2, hk.2⟩⟩⟩⟩⟩)), (by (with_reducible repeat (first | apply Kd.S_alloc | apply Kd.S_drewN | apply Kd.S_drew)); exact Kd.S_mono HO354.out (fun _ hk => ⟨hk.1.1, ⟨hk.1.2.1, ⟨hk.1.2.2.1, ⟨hk.1.2.2.2.1, ⟨hk.1.2.2.2.2.1, ⟨hk.1.2.2.2.2.2.1, ⟨hk.1.2.2.2.2.2.2.1, ⟨hk.1.2.2.2.2.2.2.2.1, ⟨hk.1.2.2.2.2.2.2.2.2.1, ⟨hk.2, ⟨hk.1.2.2.2.2.2.2.2.2.2.1, hk.1.2.2.2.2.2.2.2.2.2.2⟩⟩⟩⟩⟩⟩⟩⟩⟩⟩⟩)), (by (with_reducible repeat (first | apply Kd.R_alloc | apply Kd.R_drewN | apply Kd.R_drew)); exact Kd.R_mono HO360.out (fun _ hk => ⟨hk.1.1, ⟨hk.1.2.1, ⟨hk.1.2.2.1, ⟨hk.1.2.2.2.1, ⟨hk.1.2.2.2.2, hk.2⟩⟩⟩⟩⟩)), (by (with_reducible repeat (first | apply Kd.R_alloc | apply Kd.R_drewN | apply Kd.R_drew)); exact Kd.R_mono HO367.out (fun _ hk => ⟨hk.1.1, ⟨hk.1.2.1, ⟨hk.1.2.2.1, ⟨hk.1.2.2.2.1, ⟨hk.1.2.2.2.2, hk.2⟩⟩⟩⟩⟩)), (by (with_reducible repeat (first | apply Kd.S_alloc | apply Kd.S_drewN | apply Kd.S_drew)); exact Kd.S_mono HO372.out (fun _ hk => ⟨hk.1.1, ⟨hk.1.2.1, ⟨hk.1.2.2.1, ⟨hk.1.2.2.2.1, ⟨hk.1.2.2.2.2.1, ⟨hk.1.2.2.2.2.2.1, ⟨hk.1.2.2.2.2.2.2.1, ⟨hk.1.2.2.2.2.2.2.2.1, ⟨hk.1.2.2.2.2.2.2.2.2.1, ⟨hk.2, hk.1.2.2.2.2.2.2.2.2.2⟩⟩⟩⟩⟩⟩⟩⟩⟩⟩)), (by (with_reducible repeat (first | apply Kd.R_alloc | apply Kd.R_drewN | apply Kd.R_drew)); exact Kd.R_mono HO387.out (fun _ hk => ⟨hk.1.1, ⟨hk.1.2.1, ⟨hk.1.2.2.1, ⟨hk.1.2.2.2.1, ⟨hk.1.2.2.2.2, hk.2⟩⟩⟩⟩⟩)), (by (with_reducible repeat (first | apply Kd.S_alloc | apply Kd.S_drewN | apply Kd.S_drew)); exact Kd.S_mono HO391.out (fun _ hk => ⟨hk.1.1, ⟨hk.1.2.1, ⟨hk.1.2.2.1, ⟨hk.1.2.2.2.1, ⟨hk.1.2.2.2.2.1, ⟨hk.1.2.2.2.2.2.1, ⟨hk.1.2.2.2.2.2.2.1, ⟨hk.1.2.2.2.2.2.2.2.1, ⟨hk.1.2.2.2.2.2.2.2.2, hk.2⟩⟩⟩⟩⟩⟩⟩⟩⟩)), (by (with_reducible repeat (first | apply Kd.R_alloc | apply Kd.R_drewN | apply Kd.R_drew)); exact Kd.R_mono HO394.out (fun _ hk => ⟨hk.1.1.1.1.1.2, ⟨hk.1.1.1.1.2, ⟨hk.1.1.1.2, ⟨hk.1.1.2, ⟨hk.1.2, hk.2⟩⟩⟩⟩⟩)), (X.B BK327), (X.B BK328), (X.B BK346), (X.B BK351), (X.B BK363), (X.B BK397), GW397.out, GE397.out, NB327_397.out, NB397_327.out, NB328_397.out, NB397_328.out, NB346_397.out, NB397_346.out, NB351_397.out, NB397_351.out, NB363_397.out, NB397_363.out, X.G⟩)
   ·skip
    rintro ⟨v386, v390, v393⟩ w126 ⟨hS_, h0_, h1_, h2_, h3_, h4_, h5_, h6_, h7_, h8_, h9_, h10_, h11_, h12_, h13_, h14_, h15_, h16_⟩
    have n0_ : Aside0 (Kd.R (Kd.int .i64) 3 w126 w.heap.size (fun k_ => some k_ ≠ (.slice Ao70 t341.length co70 : Value).ownBlock ∧ some k_ ≠ (.slice Ao77 t347.length co77 : Value).ownBlock ∧ some k_ ≠ (.slice Ao90 t358.length co90 : Value).ownBlock ∧ some k_ ≠ (.slice Ao103 t365.length co103 : Value).ownBlock ∧ some k_ ≠ (v386 : Value).ownBlock ∧ some k_ ≠ (v393 : Value).ownBlock) v335 t334) := ⟨h0_⟩
    have n1_ : Aside0 (Kd.S k51 51 w126 w.heap.size (fun k_ => some k_ ≠ (v335 : Value).ownBlock ∧ some k_ ≠ (.slice Ao70 t341.length co70 : Value).ownBlock ∧ some k_ ≠ (.slice Ao77 t347.length co77 : Value).ownBlock ∧ some k_ ≠ (.slice Ao84 t352.length co84 : Value).ownBlock ∧ some k_ ≠ (.slice Ao90 t358.length co90 : Value).ownBlock ∧ some k_ ≠ (.slice Ao103 t365.length co103 : Value).ownBlock ∧ some k_ ≠ (.slice Ao107 t370.length co107 : Value).ownBlock ∧ some k_ ≠ (v386 : Value).ownBlock ∧ some k_ ≠ (v390 : Value).ownBlock ∧ some k_ ≠ (v393 : Value).ownBlock ∧ k_ < nb106 ∧ k_ < nb83) v339 t338) := ⟨h1_⟩
    have n2_ : Aside0 (Kd.R (Kd.int .i64) 3 w126 w.heap.size (fun k_ => some k_ ≠ (v335 : Value).ownBlock ∧ some k_ ≠ (.slice Ao77 t347.length co77 : Value).ownBlock ∧ some k_ ≠ (.slice Ao90 t358.length co90 : Value).ownBlock ∧ some k_ ≠ (.slice Ao103 t365.length co103 : Value).ownBlock ∧ some k_ ≠ (v386 : Value).ownBlock ∧ some k_ ≠ (v393 : Value).ownBlock) (.slice Ao70 t341.length co70) t341) := ⟨h2_⟩
    have n3_ : Aside0 (Kd.R (Kd.int .i64) 3 w126 w.heap.size (fun k_ => some k_ ≠ (v335 : Value).ownBlock ∧ some k_ ≠ (.slice Ao70 t341.length co70 : Value).ownBlock ∧ some k_ ≠ (.slice Ao90 t358.length co90 : Value).ownBlock ∧ some k_ ≠ (.slice Ao103 t365.length co103 : Value).ownBlock ∧ some k_ ≠ (v386 : Value).ownBlock ∧ some k_ ≠ (v393 : Value).ownBlock) (.slice Ao77 t347.length co77) t375) := ⟨h3_⟩
    have n4_ : Aside0 (Kd.S k51 51 w126 w.heap.size (fun k_ => some k_ ≠ (v335 : Value).ownBlock ∧ some k_ ≠ (v339 : Value).ownBlock ∧ some k_ ≠ (.slice Ao70 t341.length co70 : Value).ownBlock ∧ some k_ ≠ (.slice Ao77 t347.length co77 : Value).ownBlock ∧ some k_ ≠ (.slice Ao90 t358.length co90 : Value).ownBlock ∧ some k_ ≠ (.slice Ao103 t365.length co103 : Value).ownBlock ∧ some k_ ≠ (.slice Ao107 t370.length co107 : Value).ownBlock ∧ some k_ ≠ (v386 : Value).ownBlock ∧ some k_ ≠ (v390 : Value).ownBlock ∧ some k_ ≠ (v393 : Value).ownBlock ∧ k_ < nb106 ∧ nb83 ≤ k_) (.slice Ao84 t352.length co84) t377) := ⟨h4_⟩
    have n5_ : Aside0 (Kd.R (Kd.int .i64) 3 w126 w.heap.size (fun k_ => some k_ ≠ (v335 : Value).ownBlock ∧ some k_ ≠ (.slice Ao70 t341.length co70 : Value).ownBlock ∧ some k_ ≠ (.slice Ao77 t347.length co77 : Value).ownBlock ∧ some k_ ≠ (.slice Ao103 t365.length co103 : Value).ownBlock ∧ some k_ ≠ (v386 : Value).ownBlock ∧ some k_ ≠ (v393 : Value).ownBlock) (.slice Ao90 t358.length co90) t380) := ⟨h5_⟩
    have n6_ : Aside0 (Kd.R (Kd.int .i64) 3 w126 w.heap.size (fun k_ => some k_ ≠ (v335 : Value).ownBlock ∧ some k_ ≠ (.slice Ao70 t341.length co70 : Value).ownBlock ∧ some k_ ≠ (.slice Ao77 t347.length co77 : Value).ownBlock ∧ some k_ ≠ (.slice Ao90 t358.length co90 : Value).ownBlock ∧ some k_ ≠ (v386 : Value).ownBlock ∧ some k_ ≠ (v393 : Value).ownBlock) (.slice Ao103 t365.length co103) t365) := ⟨h6_⟩
    have n7_ : Aside0 (Kd.S k51 51 w126 w.heap.size (fun k_ => some k_ ≠ (v335 : Value).ownBlock ∧ some k_ ≠ (v339 : Value).ownBlock ∧ some k_ ≠ (.slice Ao70 t341.length co70 : Value).ownBlock ∧ some k_ ≠ (.slice Ao77 t347.length co77 : Value).ownBlock ∧ some k_ ≠ (.slice Ao84 t352.length co84 : Value).ownBlock ∧ some k_ ≠ (.slice Ao90 t358.length co90 : Value).ownBlock ∧ some k_ ≠ (.slice Ao103 t365.length co103 : Value).ownBlock ∧ some k_ ≠ (v386 : Value).ownBlock ∧ some k_ ≠ (v390 : Value).ownBlock ∧ some k_ ≠ (v393 : Value).ownBlock ∧ nb106 ≤ k_) (.slice Ao107 t370.length co107) t370) := ⟨h7_⟩
    have n8_ : Aside0 (Kd.R (Kd.int .i64) 3 w126 w.heap.size (fun k_ => some k_ ≠ (v335 : Value).ownBlock ∧ some k_ ≠ (.slice Ao70 t341.length co70 : Value).ownBlock ∧ some k_ ≠ (.slice Ao77 t347.length co77 : Value).ownBlock ∧ some k_ ≠ (.slice Ao90 t358.length co90 : Value).ownBlock ∧ some k_ ≠ (.slice Ao103 t365.length co103 : Value).ownBlock ∧ some k_ ≠ (v393 : Value).ownBlock) v386 t385) := ⟨h8_⟩
    have n9_ : Aside0 (Kd.S k51 51 w126 w.heap.size (fun k_ => some k_ ≠ (v335 : Value).ownBlock ∧ some k_ ≠ (v339 : Value).ownBlock ∧ some k_ ≠ (.slice Ao70 t341.length co70 : Value).ownBlock ∧ some k_ ≠ (.slice Ao77 t347.length co77 : Value).ownBlock ∧ some k_ ≠ (.slice Ao84 t352.length co84 : Value).ownBlock ∧ some k_ ≠ (.slice Ao90 t358.length co90 : Value).ownBlock ∧ some k_ ≠ (.slice Ao103 t365.length co103 : Value).ownBlock ∧ some k_ ≠ (.slice Ao107 t370.length co107 : Value).ownBlock ∧ some k_ ≠ (v386 : Value).ownBlock ∧ some k_ ≠ (v393 : Value).ownBlock) v390 t389) := ⟨h9_⟩
    have n10_ : Aside0 (Kd.R (Kd.int .i64) 3 w126 w.heap.size (fun k_ => some k_ ≠ (v335 : Value).ownBlock ∧ some k_ ≠ (.slice Ao70 t341.length co70 : Value).ownBlock ∧ some k_ ≠ (.slice Ao77 t347.length co77 : Value).ownBlock ∧ some k_ ≠ (.slice Ao90 t358.length co90 : Value).ownBlock ∧ some k_ ≠ (.slice Ao103 t365.length co103 : Value).ownBlock ∧ some k_ ≠ (v386 : Value).ownBlock) v393 t392) := ⟨h10_⟩
    have n11_ : Aside0 (w126.heap[gb327]? = some (.cells #[.int .i64 a0_0, .int .i64 a0_1, .int .i64 a0_2] 23 (0, 0))) := ⟨h11_⟩
    have n12_ : Aside0 (w126.heap[gb328]? = some (.cells #[.slice A1_0 l1_0.length c1_0, .int .i64 a1_1] 26 (0, 0))) := ⟨h12_⟩
    have n13_ : Aside0 (w126.heap[gb346]? = some (.cells #[.slice Ao70 t341.length co70, .int .i64 t344] 30 (0, 0))) := ⟨h13_⟩
    have n14_ : Aside0 (w126.heap[gb351]? = some (.cells #[.slice Ao77 t347.length co77, .int .i64 t350] 30 (0, 0))) := ⟨h14_⟩
    have n15_ : Aside0 (w126.heap[gb363]? = some (.cells #[.slice Ao90 t358.length co90, .int .i64 t361] 30 (0, 0))) := ⟨h15_⟩
    have n16_ : Aside0 (Below w.heap.size w w126) := ⟨h16_⟩
    clear HO336 HO340 HO343 HO349 HO354 HO360 HO367 HO372 BK327 BK328 BK346 BK351 BK363 HB h0_ h1_ h2_ h3_ h4_ h5_ h6_ h7_ h8_ h9_ h10_ h11_ h12_ h13_ h14_ h15_ h16_
    have HO336 := n0_
    have HO340 := n1_
    have HO343 := n2_
    have HO349 := n3_
    have HO354 := n4_
    have HO360 := n5_
    have HO367 := n6_
    have HO372 := n7_
    have HO387 := n8_
    have HO391 := n9_
    have HO394 := n10_
    have BK327 := n11_
    have BK328 := n12_
    have BK346 := n13_
    have BK351 := n14_
    have BK363 := n15_
    have HB := n16_
    clear n0_ n1_ n2_ n3_ n4_ n5_ n6_ n7_ n8_ n9_ n10_ n11_ n12_ n13_ n14_ n15_ n16_
    have hHeld : w126.cell? ⟨gb327, 0, none⟩ = some (.int .i64 a0_0) ∧ w126.cell? ⟨gb327, 1, none⟩ = some (.int .i64 a0_1) ∧ w126.cell? ⟨gb327, 2, none⟩ = some (.int .i64 a0_2) ∧ w126.cell? ⟨gb328, 0, none⟩ = some (.slice A1_0 l1_0.length c1_0) ∧ w126.cell? ⟨gb328, 1, none⟩ = some (.int .i64 a1_1) := hS_
    refine norm_ (a' := ?_) ?_ ?_
    rotate_left
    ·simp only [putAll, Act.put, List.setIfInBounds_toArray, List.set_cons_zero, List.set_cons_succ]
     rfl
    refine one_ (i := 10) (N := some 17) #[true, true, true, true, true, true, true, true, true, true, true, false, false] rfl rfl (one_of HT_.out (by kernel_rfl)) (by decide) (fun K hK => ?_)
    refine box_step ?hg (N := 17) ?hd (cs := #[.slice none 0 0, .int .i64 0]) (t := 30) ?hr ?_; (case hd => rfl); (case hg => rfl); (case hr => exact X.R)
    intro gb397 hg w127 hbox hb
    have n0_ := X.A (Kd.R_below (X.K HO336) hb)
    have n1_ := X.A (Kd.S_below (X.L HO340) hb)
    have n2_ := X.A (Kd.R_below (X.K HO343) hb)
    have n3_ := X.A (Kd.R_below (X.K HO349) hb)
    have n4_ := X.A (Kd.S_below (X.L HO354) hb)
    have n5_ := X.A (Kd.R_below (X.K HO360) hb)
    have n6_ := X.A (Kd.R_below (X.K HO367) hb)
    have n7_ := X.A (Kd.S_below (X.L HO372) hb)
    have n8_ := X.A (Kd.R_below (X.K HO387) hb)
    have n9_ := X.A (Kd.S_below (X.L HO391) hb)
    have n10_ := X.A (Kd.R_below (X.K HO394) hb)
    have n11_ := X.A (X.BB BK327 hb)
    have n12_ := X.A (X.BB BK328 hb)
    have n13_ := X.A (X.BB BK346 hb)
    have n14_ := X.A (X.BB BK351 hb)
    have n15_ := X.A (X.BB BK363 hb)
    have n16_ := X.A (below_step X.G hb)
    have n17_ := X.A (hbox)
    have n18_ := X.A ((by rw [hg]; exact (below_size X.G) : w.heap.size ≤ gb397))
    have n19_ := X.A ((by rw [hg]; exact (below_size X.G) : w.heap.size ≤ gb397))
    have n20_ := X.A (X.NL hg BK327)
    have n21_ := X.A (X.NG hg BK327)
    have n22_ := X.A (X.NL hg BK328)
    have n23_ := X.A (X.NG hg BK328)
    have n24_ := X.A (X.NL hg BK346)
    have n25_ := X.A (X.NG hg BK346)
    have n26_ := X.A (X.NL hg BK351)
    have n27_ := X.A (X.NG hg BK351)
    have n28_ := X.A (X.NL hg BK363)
    have n29_ := X.A (X.NG hg BK363)
    clear HO336 HO340 HO343 HO349 HO354 HO360 HO367 HO372 HO387 HO391 HO394 BK327 BK328 BK346 BK351 BK363 HB
    have HO336 := n0_
    have HO340 := n1_
    have HO343 := n2_
    have HO349 := n3_
    have HO354 := n4_
    have HO360 := n5_
    have HO367 := n6_
    have HO372 := n7_
    have HO387 := n8_
    have HO391 := n9_
    have HO394 := n10_
    have BK327 := n11_
    have BK328 := n12_
    have BK346 := n13_
    have BK351 := n14_
    have BK363 := n15_
    have HB := n16_
    have BK397 := n17_
    have GW397 := n18_
    have GE397 := n19_
    have NB327_397 := n20_
    have NB397_327 := n21_
    have NB328_397 := n22_
    have NB397_328 := n23_
    have NB346_397 := n24_
    have NB397_346 := n25_
    have NB351_397 := n26_
    have NB397_351 := n27_
    have NB363_397 := n28_
    have NB397_363 := n29_
    clear n0_ n1_ n2_ n3_ n4_ n5_ n6_ n7_ n8_ n9_ n10_ n11_ n12_ n13_ n14_ n15_ n16_ n17_ n18_ n19_ n20_ n21_ n22_ n23_ n24_ n25_ n26_ n27_ n28_ n29_ hb hbox hg
    refine hK.out _ _ ⟨(blk_cell BK327.out 0).trans rfl, (blk_cell BK327.out 1).trans rfl, (blk_cell BK327.out 2).trans rfl, (blk_cell BK328.out 0).trans rfl, (blk_cell BK328.out 1).trans rfl⟩ (fun hHeld => ?_)
    clear hK K
    refine norm_ (a' := ?_) ?_ ?_
    rotate_left
    ·exact (show Act.put _ (some 17) _ = _ from X.Pu)
    exact norm_ X.S (hJ1_3_5_6_10 (v386, v390, v393, gb397) _ ⟨hHeld, (X.K HO336), (X.L HO340), (X.K HO343), (X.K HO349), (X.L HO354), (X.K HO360), (X.K HO367), (X.L HO372), (X.K HO387), (X.L HO391), (X.K HO394), (X.B BK327), (X.B BK328), (X.B BK346), (X.B BK351), (X.B BK363), (X.B BK397), GW397.out, GE397.out, NB327_397.out, NB397_327.out, NB328_397.out, NB397_328.out, NB346_397.out, NB397_346.out, NB351_397.out, NB397_351.out, NB363_397.out, NB397_363.out, X.G⟩)
  rintro ⟨v386, v390, v393, gb397⟩ w127 ⟨hS_, h0_, h1_, h2_, h3_, h4_, h5_, h6_, h7_, h8_, h9_, h10_, h11_, h12_, h13_, h14_, h15_, h16_, h17_, h18_, h19_, h20_, h21_, h22_, h23_, h24_, h25_, h26_, h27_, h28_, h29_⟩
  have n0_ : Aside0 (Kd.R (Kd.int .i64) 3 w127 w.heap.size (fun k_ => some k_ ≠ (.slice Ao70 t341.length co70 : Value).ownBlock ∧ some k_ ≠ (.slice Ao77 t347.length co77 : Value).ownBlock ∧ some k_ ≠ (.slice Ao90 t358.length co90 : Value).ownBlock ∧ some k_ ≠ (.slice Ao103 t365.length co103 : Value).ownBlock ∧ some k_ ≠ (v386 : Value).ownBlock ∧ some k_ ≠ (v393 : Value).ownBlock) v335 t334) := ⟨h0_⟩
  have n1_ : Aside0 (Kd.S k51 51 w127 w.heap.size (fun k_ => some k_ ≠ (v335 : Value).ownBlock ∧ some k_ ≠ (.slice Ao70 t341.length co70 : Value).ownBlock ∧ some k_ ≠ (.slice Ao77 t347.length co77 : Value).ownBlock ∧ some k_ ≠ (.slice Ao84 t352.length co84 : Value).ownBlock ∧ some k_ ≠ (.slice Ao90 t358.length co90 : Value).ownBlock ∧ some k_ ≠ (.slice Ao103 t365.length co103 : Value).ownBlock ∧ some k_ ≠ (.slice Ao107 t370.length co107 : Value).ownBlock ∧ some k_ ≠ (v386 : Value).ownBlock ∧ some k_ ≠ (v390 : Value).ownBlock ∧ some k_ ≠ (v393 : Value).ownBlock ∧ k_ < nb106 ∧ k_ < nb83) v339 t338) := ⟨h1_⟩
  have n2_ : Aside0 (Kd.R (Kd.int .i64) 3 w127 w.heap.size (fun k_ => some k_ ≠ (v335 : Value).ownBlock ∧ some k_ ≠ (.slice Ao77 t347.length co77 : Value).ownBlock ∧ some k_ ≠ (.slice Ao90 t358.length co90 : Value).ownBlock ∧ some k_ ≠ (.slice Ao103 t365.length co103 : Value).ownBlock ∧ some k_ ≠ (v386 : Value).ownBlock ∧ some k_ ≠ (v393 : Value).ownBlock) (.slice Ao70 t341.length co70) t341) := ⟨h2_⟩
  have n3_ : Aside0 (Kd.R (Kd.int .i64) 3 w127 w.heap.size (fun k_ => some k_ ≠ (v335 : Value).ownBlock ∧ some k_ ≠ (.slice Ao70 t341.length co70 : Value).ownBlock ∧ some k_ ≠ (.slice Ao90 t358.length co90 : Value).ownBlock ∧ some k_ ≠ (.slice Ao103 t365.length co103 : Value).ownBlock ∧ some k_ ≠ (v386 : Value).ownBlock ∧ some k_ ≠ (v393 : Value).ownBlock) (.slice Ao77 t347.length co77) t375) := ⟨h3_⟩
  have n4_ : Aside0 (Kd.S k51 51 w127 w.heap.size (fun k_ => some k_ ≠ (v335 : Value).ownBlock ∧ some k_ ≠ (v339 : Value).ownBlock ∧ some k_ ≠ (.slice Ao70 t341.length co70 : Value).ownBlock ∧ some k_ ≠ (.slice Ao77 t347.length co77 : Value).ownBlock ∧ some k_ ≠ (.slice Ao90 t358.length co90 : Value).ownBlock ∧ some k_ ≠ (.slice Ao103 t365.length co103 : Value).ownBlock ∧ some k_ ≠ (.slice Ao107 t370.length co107 : Value).ownBlock ∧ some k_ ≠ (v386 : Value).ownBlock ∧ some k_ ≠ (v390 : Value).ownBlock ∧ some k_ ≠ (v393 : Value).ownBlock ∧ k_ < nb106 ∧ nb83 ≤ k_) (.slice Ao84 t352.length co84) t377) := ⟨h4_⟩
  have n5_ : Aside0 (Kd.R (Kd.int .i64) 3 w127 w.heap.size (fun k_ => some k_ ≠ (v335 : Value).ownBlock ∧ some k_ ≠ (.slice Ao70 t341.length co70 : Value).ownBlock ∧ some k_ ≠ (.slice Ao77 t347.length co77 : Value).ownBlock ∧ some k_ ≠ (.slice Ao103 t365.length co103 : Value).ownBlock ∧ some k_ ≠ (v386 : Value).ownBlock ∧ some k_ ≠ (v393 : Value).ownBlock) (.slice Ao90 t358.length co90) t380) := ⟨h5_⟩
  have n6_ : Aside0 (Kd.R (Kd.int .i64) 3 w127 w.heap.size (fun k_ => some k_ ≠ (v335 : Value).ownBlock ∧ some k_ ≠ (.slice Ao70 t341.length co70 : Value).ownBlock ∧ some k_ ≠ (.slice Ao77 t347.length co77 : Value).ownBlock ∧ some k_ ≠ (.slice Ao90 t358.length co90 : Value).ownBlock ∧ some k_ ≠ (v386 : Value).ownBlock ∧ some k_ ≠ (v393 : Value).ownBlock) (.slice Ao103 t365.length co103) t365) := ⟨h6_⟩
  have n7_ : Aside0 (Kd.S k51 51 w127 w.heap.size (fun k_ => some k_ ≠ (v335 : Value).ownBlock ∧ some k_ ≠ (v339 : Value).ownBlock ∧ some k_ ≠ (.slice Ao70 t341.length co70 : Value).ownBlock ∧ some k_ ≠ (.slice Ao77 t347.length co77 : Value).ownBlock ∧ some k_ ≠ (.slice Ao84 t352.length co84 : Value).ownBlock ∧ some k_ ≠ (.slice Ao90 t358.length co90 : Value).ownBlock ∧ some k_ ≠ (.slice Ao103 t365.length co103 : Value).ownBlock ∧ some k_ ≠ (v386 : Value).ownBlock ∧ some k_ ≠ (v390 : Value).ownBlock ∧ some k_ ≠ (v393 : Value).ownBlock ∧ nb106 ≤ k_) (.slice Ao107 t370.length co107) t370) := ⟨h7_⟩
  have n8_ : Aside0 (Kd.R (Kd.int .i64) 3 w127 w.heap.size (fun k_ => some k_ ≠ (v335 : Value).ownBlock ∧ some k_ ≠ (.slice Ao70 t341.length co70 : Value).ownBlock ∧ some k_ ≠ (.slice Ao77 t347.length co77 : Value).ownBlock ∧ some k_ ≠ (.slice Ao90 t358.length co90 : Value).ownBlock ∧ some k_ ≠ (.slice Ao103 t365.length co103 : Value).ownBlock ∧ some k_ ≠ (v393 : Value).ownBlock) v386 t385) := ⟨h8_⟩
  have n9_ : Aside0 (Kd.S k51 51 w127 w.heap.size (fun k_ => some k_ ≠ (v335 : Value).ownBlock ∧ some k_ ≠ (v339 : Value).ownBlock ∧ some k_ ≠ (.slice Ao70 t341.length co70 : Value).ownBlock ∧ some k_ ≠ (.slice Ao77 t347.length co77 : Value).ownBlock ∧ some k_ ≠ (.slice Ao84 t352.length co84 : Value).ownBlock ∧ some k_ ≠ (.slice Ao90 t358.length co90 : Value).ownBlock ∧ some k_ ≠ (.slice Ao103 t365.length co103 : Value).ownBlock ∧ some k_ ≠ (.slice Ao107 t370.length co107 : Value).ownBlock ∧ some k_ ≠ (v386 : Value).ownBlock ∧ some k_ ≠ (v393 : Value).ownBlock) v390 t389) := ⟨h9_⟩
  have n10_ : Aside0 (Kd.R (Kd.int .i64) 3 w127 w.heap.size (fun k_ => some k_ ≠ (v335 : Value).ownBlock ∧ some k_ ≠ (.slice Ao70 t341.length co70 : Value).ownBlock ∧ some k_ ≠ (.slice Ao77 t347.length co77 : Value).ownBlock ∧ some k_ ≠ (.slice Ao90 t358.length co90 : Value).ownBlock ∧ some k_ ≠ (.slice Ao103 t365.length co103 : Value).ownBlock ∧ some k_ ≠ (v386 : Value).ownBlock) v393 t392) := ⟨h10_⟩
  have n11_ : Aside0 (w127.heap[gb327]? = some (.cells #[.int .i64 a0_0, .int .i64 a0_1, .int .i64 a0_2] 23 (0, 0))) := ⟨h11_⟩
  have n12_ : Aside0 (w127.heap[gb328]? = some (.cells #[.slice A1_0 l1_0.length c1_0, .int .i64 a1_1] 26 (0, 0))) := ⟨h12_⟩
  have n13_ : Aside0 (w127.heap[gb346]? = some (.cells #[.slice Ao70 t341.length co70, .int .i64 t344] 30 (0, 0))) := ⟨h13_⟩
  have n14_ : Aside0 (w127.heap[gb351]? = some (.cells #[.slice Ao77 t347.length co77, .int .i64 t350] 30 (0, 0))) := ⟨h14_⟩
  have n15_ : Aside0 (w127.heap[gb363]? = some (.cells #[.slice Ao90 t358.length co90, .int .i64 t361] 30 (0, 0))) := ⟨h15_⟩
  have n16_ : Aside0 (w127.heap[gb397]? = some (.cells #[.slice none 0 0, .int .i64 0] 30 (0, 0))) := ⟨h16_⟩
  have n17_ : Aside0 (w.heap.size ≤ gb397) := ⟨h17_⟩
  have n18_ : Aside0 (w.heap.size ≤ gb397) := ⟨h18_⟩
  have n19_ : Aside0 (gb327 ≠ gb397) := ⟨h19_⟩
  have n20_ : Aside0 (gb397 ≠ gb327) := ⟨h20_⟩
  have n21_ : Aside0 (gb328 ≠ gb397) := ⟨h21_⟩
  have n22_ : Aside0 (gb397 ≠ gb328) := ⟨h22_⟩
  have n23_ : Aside0 (gb346 ≠ gb397) := ⟨h23_⟩
  have n24_ : Aside0 (gb397 ≠ gb346) := ⟨h24_⟩
  have n25_ : Aside0 (gb351 ≠ gb397) := ⟨h25_⟩
  have n26_ : Aside0 (gb397 ≠ gb351) := ⟨h26_⟩
  have n27_ : Aside0 (gb363 ≠ gb397) := ⟨h27_⟩
  have n28_ : Aside0 (gb397 ≠ gb363) := ⟨h28_⟩
  have n29_ : Aside0 (Below w.heap.size w w127) := ⟨h29_⟩
  clear HO336 HO340 HO343 HO349 HO354 HO360 HO367 HO372 BK327 BK328 BK346 BK351 BK363 HB h0_ h1_ h2_ h3_ h4_ h5_ h6_ h7_ h8_ h9_ h10_ h11_ h12_ h13_ h14_ h15_ h16_ h17_ h18_ h19_ h20_ h21_ h22_ h23_ h24_ h25_ h26_ h27_ h28_ h29_
  have HO336 := n0_
  have HO340 := n1_
  have HO343 := n2_
  have HO349 := n3_
  have HO354 := n4_
  have HO360 := n5_
  have HO367 := n6_
  have HO372 := n7_
  have HO387 := n8_
  have HO391 := n9_
  have HO394 := n10_
  have BK327 := n11_
  have BK328 := n12_
  have BK346 := n13_
  have BK351 := n14_
  have BK363 := n15_
  have BK397 := n16_
  have GW397 := n17_
  have GE397 := n18_
  have NB327_397 := n19_
  have NB397_327 := n20_
  have NB328_397 := n21_
  have NB397_328 := n22_
  have NB346_397 := n23_
  have NB397_346 := n24_
  have NB351_397 := n25_
  have NB397_351 := n26_
  have NB363_397 := n27_
  have NB397_363 := n28_
  have HB := n29_
  clear n0_ n1_ n2_ n3_ n4_ n5_ n6_ n7_ n8_ n9_ n10_ n11_ n12_ n13_ n14_ n15_ n16_ n17_ n18_ n19_ n20_ n21_ n22_ n23_ n24_ n25_ n26_ n27_ n28_ n29_
  have hHeld : w127.cell? ⟨gb327, 0, none⟩ = some (.int .i64 a0_0) ∧ w127.cell? ⟨gb327, 1, none⟩ = some (.int .i64 a0_1) ∧ w127.cell? ⟨gb327, 2, none⟩ = some (.int .i64 a0_2) ∧ w127.cell? ⟨gb328, 0, none⟩ = some (.slice A1_0 l1_0.length c1_0) ∧ w127.cell? ⟨gb328, 1, none⟩ = some (.int .i64 a1_1) := hS_
  obtain ⟨Ao128, co128, eo128⟩ := Kd.R_slice HO394.out
  (first | subst eo128 | (injection eo128 with f1_ f2_ f3_; have f4_ := f1_.symm; have f5_ := f3_.symm; clear f1_ f2_ f3_; subst f4_; subst f5_))
  refine norm_ (a' := ?_) ?_ ?_
  rotate_left
  ·simp only [putAll, Act.put, List.setIfInBounds_toArray, List.set_cons_zero, List.set_cons_succ]
   rfl
  refine one_ (i := 11) (N := none) #[true, true, true, true, true, true, true, true, true, true, true, true, false] rfl rfl (one_of HT_.out (by kernel_rfl)) (by decide) (fun K hK => ?_)
  have hs129 : w127.cell? ⟨gb397, 0, none⟩ = some (.slice none 0 0) := (blk_cell BK397.out 0).trans rfl
  have hfs129 := blk_frozen BK397.out 0
  have hns129_0 := NB327_397.out
  have hns129_1 := NB328_397.out
  have hns129_2 := NB346_397.out
  have hns129_3 := NB351_397.out
  have hns129_4 := NB363_397.out
  have hms129_0 := NB397_327.out
  have hms129_1 := NB397_328.out
  have hms129_2 := NB397_346.out
  have hms129_3 := NB397_351.out
  have hms129_4 := NB397_363.out
  have hs130 : w127.cell? ⟨gb397, 1, none⟩ = some (.int .i64 0) := (blk_cell BK397.out 1).trans rfl
  have hfs130 := blk_frozen BK397.out 1
  have hns130_0 := NB327_397.out
  have hns130_1 := NB328_397.out
  have hns130_2 := NB346_397.out
  have hns130_3 := NB351_397.out
  have hns130_4 := NB363_397.out
  have hms130_0 := NB397_327.out
  have hms130_1 := NB397_328.out
  have hms130_2 := NB397_346.out
  have hms130_3 := NB397_351.out
  have hms130_4 := NB397_363.out
  refine skip_ (w1 := ?_) (by rfl) rfl ?_ ?_
  rotate_left
  ·go_simp
   rfl
  refine hK.out _ _ ⟨((cell_far (p := ⟨gb397, _, none⟩) NB327_397.out _).trans (((cell_far (p := ⟨gb397, _, none⟩) NB327_397.out _).trans (hHeld.1)))), ((cell_far (p := ⟨gb397, _, none⟩) NB327_397.out _).trans (((cell_far (p := ⟨gb397, _, none⟩) NB327_397.out _).trans (hHeld.2.1)))), ((cell_far (p := ⟨gb397, _, none⟩) NB327_397.out _).trans (((cell_far (p := ⟨gb397, _, none⟩) NB327_397.out _).trans (hHeld.2.2.1)))), ((cell_far (p := ⟨gb397, _, none⟩) NB328_397.out _).trans (((cell_far (p := ⟨gb397, _, none⟩) NB328_397.out _).trans (hHeld.2.2.2.1)))), ((cell_far (p := ⟨gb397, _, none⟩) NB328_397.out _).trans (((cell_far (p := ⟨gb397, _, none⟩) NB328_397.out _).trans (hHeld.2.2.2.2))))⟩ (fun hHeld => ?_)
  clear hK K
  refine pure_ (i := 12) (N := some 18) (v := ?_) (a' := ?_) #[true, true, true, true, true, true, true, true, true, true, true, true, true] rfl rfl (any_of HT_.out (by kernel_rfl)) (fun _ _ _ h => h) (Or.inl ⟨by rfl, ?_⟩) ?_ ?_
  rotate_left
  ·intro w'
   go_simp
   with_reducible rfl
  rotate_left
  ·exact X.Pu
  refine done_ (done_of HT_.out (by kernel_rfl)) ?_
  have hnb131 := NB397_327.out
  have hnc131 := NB327_397.out
  have hnb132 := NB397_328.out
  have hnc132 := NB328_397.out
  have hnb133 := NB397_346.out
  have hnc133 := NB346_397.out
  have hnb134 := NB397_351.out
  have hnc134 := NB351_397.out
  have hnb135 := NB397_363.out
  have hnc135 := NB363_397.out
  have hcz136_0 : w127.cell? ⟨gb397, 0, none⟩ = some (.slice none 0 0) := (blk_cell BK397.out 0).trans rfl
  have hcz136_1 : w127.cell? ⟨gb397, 1, none⟩ = some (.int .i64 0) := (blk_cell BK397.out 1).trans rfl
  have hfz136_0 := blk_frozen BK397.out 0
  have hfz136_1 := blk_frozen BK397.out 1
  have hcz137_0 : w127.cell? ⟨gb346, 0, none⟩ = some (.slice Ao70 t341.length co70) := (blk_cell BK346.out 0).trans rfl
  have hcz137_1 : w127.cell? ⟨gb346, 1, none⟩ = some (.int .i64 t344) := (blk_cell BK346.out 1).trans rfl
  have hfz137_0 := blk_frozen BK346.out 0
  have hfz137_1 := blk_frozen BK346.out 1
  try go_wp2_with (first | ((with_reducible refine gate_callee (f := 11) rfl ?_); refine goesL_ (some 112) rfl rfl Try.func11 (by kernel_rfl) rfl #[.agg #[.slice Ao128 t392.length co128, .int .i64 t395], .agg #[.slice Ao70 t341.length co70, .int .i64 t344]] rfl X.M ?_; (with_reducible refine (laws_eqPlaces.calls k _ _ t392 t395 _ _ t341 t344 true _ ?side1 ?side2 ?side3 ?side4 A49.out).mono ?_); (case side1 => refine (Kd.R_reads' (e := 3) (base := w.heap.size) (ok := fun k_ => (some k_ ≠ (v335 : Value).ownBlock ∧ (some k_ ≠ (.slice Ao70 t341.length co70 : Value).ownBlock ∧ (some k_ ≠ (.slice Ao77 t347.length co77 : Value).ownBlock ∧ (some k_ ≠ (.slice Ao90 t358.length co90 : Value).ownBlock ∧ (some k_ ≠ (.slice Ao103 t365.length co103 : Value).ownBlock ∧ some k_ ≠ (v386 : Value).ownBlock)))))) (n := t392.length) (c := co128) ?_).2.2; exact (by (with_reducible repeat (first | apply Kd.R_alloc | apply Kd.R_drewN | apply Kd.R_drew)); exact (Kd.R_mono (Kd.R_far (p := ⟨gb397, 1, none⟩) (Kd.R_far (p := ⟨gb397, 0, none⟩) (Kd.R_types HO394.out BK397.out (by decide)) (fun _ hk => hk.2) (.slice Ao128 t392.length co128)) (fun _ hk => hk.2) (.int .i64 t395)) (fun _ h_ => h_.1)))); (case side2 => exact (Kd.R_reads' HO394.out).2.1); (case side3 => refine (Kd.R_reads' (e := 3) (base := w.heap.size) (ok := fun k_ => (some k_ ≠ (v335 : Value).ownBlock ∧ (some k_ ≠ (.slice Ao77 t347.length co77 : Value).ownBlock ∧ (some k_ ≠ (.slice Ao90 t358.length co90 : Value).ownBlock ∧ (some k_ ≠ (.slice Ao103 t365.length co103 : Value).ownBlock ∧ (some k_ ≠ (v386 : Value).ownBlock ∧ some k_ ≠ (.slice Ao128 t392.length co128 : Value).ownBlock)))))) (n := t341.length) (c := co70) ?_).2.2; exact (by (with_reducible repeat (first | apply Kd.R_alloc | apply Kd.R_drewN | apply Kd.R_drew)); exact (Kd.R_mono (Kd.R_far (p := ⟨gb397, 1, none⟩) (Kd.R_far (p := ⟨gb397, 0, none⟩) (Kd.R_types HO343.out BK397.out (by decide)) (fun _ hk => hk.2) (.slice Ao128 t392.length co128)) (fun _ hk => hk.2) (.int .i64 t395)) (fun _ h_ => h_.1)))); (case side4 => exact (Kd.R_reads' HO343.out).2.1); rintro e w138 ⟨rfl, hb⟩; refine ⟨_, rfl, ?_⟩; have n0_ := X.A (Kd.R_below (by (with_reducible repeat (first | apply Kd.R_alloc | apply Kd.R_drewN | apply Kd.R_drew)); exact (Kd.R_mono (Kd.R_far (p := ⟨gb397, 1, none⟩) (Kd.R_far (p := ⟨gb397, 0, none⟩) (Kd.R_types HO336.out BK397.out (by decide)) (fun _ hk => hk.2) (.slice Ao128 t392.length co128)) (fun _ hk => hk.2) (.int .i64 t395)) (fun _ h_ => h_.1))) hb); have n1_ := X.A (Kd.S_below (by (with_reducible repeat (first | apply Kd.S_alloc | apply Kd.S_drewN | apply Kd.S_drew)); exact (Kd.S_mono (Kd.S_far (p := ⟨gb397, 1, none⟩) (Kd.S_far (p := ⟨gb397, 0, none⟩) (Kd.S_types HO340.out BK397.out (by decide)) (fun _ hk => hk.2) (.slice Ao128 t392.length co128)) (fun _ hk => hk.2) (.int .i64 t395)) (fun _ h_ => h_.1))) hb); have n2_ := X.A (Kd.R_below (by (with_reducible repeat (first | apply Kd.R_alloc | apply Kd.R_drewN | apply Kd.R_drew)); exact (Kd.R_mono (Kd.R_far (p := ⟨gb397, 1, none⟩) (Kd.R_far (p := ⟨gb397, 0, none⟩) (Kd.R_types HO343.out BK397.out (by decide)) (fun _ hk => hk.2) (.slice Ao128 t392.length co128)) (fun _ hk => hk.2) (.int .i64 t395)) (fun _ h_ => h_.1))) hb); have n3_ := X.A (Kd.R_below (by (with_reducible repeat (first | apply Kd.R_alloc | apply Kd.R_drewN | apply Kd.R_drew)); exact (Kd.R_mono (Kd.R_far (p := ⟨gb397, 1, none⟩) (Kd.R_far (p := ⟨gb397, 0, none⟩) (Kd.R_types HO349.out BK397.out (by decide)) (fun _ hk => hk.2) (.slice Ao128 t392.length co128)) (fun _ hk => hk.2) (.int .i64 t395)) (fun _ h_ => h_.1))) hb); have n4_ := X.A (Kd.S_below (by (with_reducible repeat (first | apply Kd.S_alloc | apply Kd.S_drewN | apply Kd.S_drew)); exact (Kd.S_mono (Kd.S_far (p := ⟨gb397, 1, none⟩) (Kd.S_far (p := ⟨gb397, 0, none⟩) (Kd.S_types HO354.out BK397.out (by decide)) (fun _ hk => hk.2) (.slice Ao128 t392.length co128)) (fun _ hk => hk.2) (.int .i64 t395)) (fun _ h_ => h_.1))) hb); have n5_ := X.A (Kd.R_below (by (with_reducible repeat (first | apply Kd.R_alloc | apply Kd.R_drewN | apply Kd.R_drew)); exact (Kd.R_mono (Kd.R_far (p := ⟨gb397, 1, none⟩) (Kd.R_far (p := ⟨gb397, 0, none⟩) (Kd.R_types HO360.out BK397.out (by decide)) (fun _ hk => hk.2) (.slice Ao128 t392.length co128)) (fun _ hk => hk.2) (.int .i64 t395)) (fun _ h_ => h_.1))) hb); have n6_ := X.A (Kd.R_below (by (with_reducible repeat (first | apply Kd.R_alloc | apply Kd.R_drewN | apply Kd.R_drew)); exact (Kd.R_mono (Kd.R_far (p := ⟨gb397, 1, none⟩) (Kd.R_far (p := ⟨gb397, 0, none⟩) (Kd.R_types HO367.out BK397.out (by decide)) (fun _ hk => hk.2) (.slice Ao128 t392.length co128)) (fun _ hk => hk.2) (.int .i64 t395)) (fun _ h_ => h_.1))) hb); have n7_ := X.A (Kd.S_below (by (with_reducible repeat (first | apply Kd.S_alloc | apply Kd.S_drewN | apply Kd.S_drew)); exact (Kd.S_mono (Kd.S_far (p := ⟨gb397, 1, none⟩) (Kd.S_far (p := ⟨gb397, 0, none⟩) (Kd.S_types HO372.out BK397.out (by decide)) (fun _ hk => hk.2) (.slice Ao128 t392.length co128)) (fun _ hk => hk.2) (.int .i64 t395)) (fun _ h_ => h_.1))) hb); have n8_ := X.A (Kd.R_below (by (with_reducible repeat (first | apply Kd.R_alloc | apply Kd.R_drewN | apply Kd.R_drew)); exact (Kd.R_mono (Kd.R_far (p := ⟨gb397, 1, none⟩) (Kd.R_far (p := ⟨gb397, 0, none⟩) (Kd.R_types HO387.out BK397.out (by decide)) (fun _ hk => hk.2) (.slice Ao128 t392.length co128)) (fun _ hk => hk.2) (.int .i64 t395)) (fun _ h_ => h_.1))) hb); have n9_ := X.A (Kd.S_below (by (with_reducible repeat (first | apply Kd.S_alloc | apply Kd.S_drewN | apply Kd.S_drew)); exact (Kd.S_mono (Kd.S_far (p := ⟨gb397, 1, none⟩) (Kd.S_far (p := ⟨gb397, 0, none⟩) (Kd.S_types HO391.out BK397.out (by decide)) (fun _ hk => hk.2) (.slice Ao128 t392.length co128)) (fun _ hk => hk.2) (.int .i64 t395)) (fun _ h_ => h_.1))) hb); have n10_ := X.A (Kd.R_below (by (with_reducible repeat (first | apply Kd.R_alloc | apply Kd.R_drewN | apply Kd.R_drew)); exact (Kd.R_mono (Kd.R_far (p := ⟨gb397, 1, none⟩) (Kd.R_far (p := ⟨gb397, 0, none⟩) (Kd.R_types HO394.out BK397.out (by decide)) (fun _ hk => hk.2) (.slice Ao128 t392.length co128)) (fun _ hk => hk.2) (.int .i64 t395)) (fun _ h_ => h_.1))) hb); have n11_ := X.A (blk_below (g := gb327) (o := .cells #[.int .i64 a0_0, .int .i64 a0_1, .int .i64 a0_2] 23 (0, 0)) (by (with_reducible repeat (first | refine blk_drewN ?_ _ | refine blk_drew ?_ | refine blk_alloc ?_ _)); refine blk_far ?_ NB327_397.out _; (with_reducible repeat (first | refine blk_drewN ?_ _ | refine blk_drew ?_ | refine blk_alloc ?_ _)); refine blk_far ?_ NB327_397.out _; (with_reducible repeat (first | refine blk_drewN ?_ _ | refine blk_drew ?_ | refine blk_alloc ?_ _)); exact BK327.out) hb); have n12_ := X.A (blk_below (g := gb328) (o := .cells #[.slice A1_0 l1_0.length c1_0, .int .i64 a1_1] 26 (0, 0)) (by (with_reducible repeat (first | refine blk_drewN ?_ _ | refine blk_drew ?_ | refine blk_alloc ?_ _)); refine blk_far ?_ NB328_397.out _; (with_reducible repeat (first | refine blk_drewN ?_ _ | refine blk_drew ?_ | refine blk_alloc ?_ _)); refine blk_far ?_ NB328_397.out _; (with_reducible repeat (first | refine blk_drewN ?_ _ | refine blk_drew ?_ | refine blk_alloc ?_ _)); exact BK328.out) hb); have n13_ := X.A (blk_below (g := gb346) (o := .cells #[.slice Ao70 t341.length co70, .int .i64 t344] 30 (0, 0)) (by (with_reducible repeat (first | refine blk_drewN ?_ _ | refine blk_drew ?_ | refine blk_alloc ?_ _)); refine blk_far ?_ NB346_397.out _; (with_reducible repeat (first | refine blk_drewN ?_ _ | refine blk_drew ?_ | refine blk_alloc ?_ _)); refine blk_far ?_ NB346_397.out _; (with_reducible repeat (first | refine blk_drewN ?_ _ | refine blk_drew ?_ | refine blk_alloc ?_ _)); exact BK346.out) hb); have n14_ := X.A (blk_below (g := gb351) (o := .cells #[.slice Ao77 t347.length co77, .int .i64 t350] 30 (0, 0)) (by (with_reducible repeat (first | refine blk_drewN ?_ _ | refine blk_drew ?_ | refine blk_alloc ?_ _)); refine blk_far ?_ NB351_397.out _; (with_reducible repeat (first | refine blk_drewN ?_ _ | refine blk_drew ?_ | refine blk_alloc ?_ _)); refine blk_far ?_ NB351_397.out _; (with_reducible repeat (first | refine blk_drewN ?_ _ | refine blk_drew ?_ | refine blk_alloc ?_ _)); exact BK351.out) hb); have n15_ := X.A (blk_below (g := gb363) (o := .cells #[.slice Ao90 t358.length co90, .int .i64 t361] 30 (0, 0)) (by (with_reducible repeat (first | refine blk_drewN ?_ _ | refine blk_drew ?_ | refine blk_alloc ?_ _)); refine blk_far ?_ NB363_397.out _; (with_reducible repeat (first | refine blk_drewN ?_ _ | refine blk_drew ?_ | refine blk_alloc ?_ _)); refine blk_far ?_ NB363_397.out _; (with_reducible repeat (first | refine blk_drewN ?_ _ | refine blk_drew ?_ | refine blk_alloc ?_ _)); exact BK363.out) hb); have n16_ := X.A (blk_below (g := gb397) (o := .cells #[.slice Ao128 t392.length co128, .int .i64 t395] 30 (0, 0)) (by (with_reducible repeat (first | refine blk_drewN ?_ _ | refine blk_drew ?_ | refine blk_alloc ?_ _)); refine blk_put (cs := #[.slice Ao128 t392.length co128, .int .i64 0]) ?_ 1 _ rfl; (with_reducible repeat (first | refine blk_drewN ?_ _ | refine blk_drew ?_ | refine blk_alloc ?_ _)); refine blk_put (cs := #[.slice none 0 0, .int .i64 0]) ?_ 0 _ rfl; (with_reducible repeat (first | refine blk_drewN ?_ _ | refine blk_drew ?_ | refine blk_alloc ?_ _)); exact BK397.out) hb); have n17_ := X.A (below_step X.G hb); clear HO336 HO340 HO343 HO349 HO354 HO360 HO367 HO372 HO387 HO391 HO394 BK327 BK328 BK346 BK351 BK363 BK397 HB; have HO336 := n0_; have HO340 := n1_; have HO343 := n2_; have HO349 := n3_; have HO354 := n4_; have HO360 := n5_; have HO367 := n6_; have HO372 := n7_; have HO387 := n8_; have HO391 := n9_; have HO394 := n10_; have BK327 := n11_; have BK328 := n12_; have BK346 := n13_; have BK351 := n14_; have BK363 := n15_; have BK397 := n16_; have HB := n17_; clear n0_ n1_ n2_ n3_ n4_ n5_ n6_ n7_ n8_ n9_ n10_ n11_ n12_ n13_ n14_ n15_ n16_ n17_; (try clear hb); (try clear hb2); (try clear hk); (try clear hi); have hcz139_0 : w138.cell? ⟨gb363, 0, none⟩ = some (.slice Ao90 t358.length co90) := (blk_cell BK363.out 0).trans rfl; have hcz139_1 : w138.cell? ⟨gb363, 1, none⟩ = some (.int .i64 t361) := (blk_cell BK363.out 1).trans rfl; have hfz139_0 := blk_frozen BK363.out 0; have hfz139_1 := blk_frozen BK363.out 1) | ((with_reducible refine gate_callee (f := 15) rfl ?_); refine goesL_ (some 121) rfl rfl Try.func15 (by kernel_rfl) rfl #[.agg #[.slice Ao90 t380.length co90, .int .i64 t361], .int .i64 1] rfl (by (try simp only [List.map_toArray, List.map_cons, List.map_nil]); first | done | (rw [show t380.length = t358.length from (Kd.R_reads' HO360.out).1.symm] <;> rfl) | rfl | (simp only [List.length_drop, List.length_take]; rfl)) ?_; (with_reducible refine (laws_heldPlaces.calls k _ _ t380 t361 1 t399 _ ?side1 ?side2 A52.out).mono ?_); (case side1 => exact X.C (Kd.R_reads' HO360.out).2.2); (case side2 => rw [show t380.length = t358.length from (Kd.R_reads' HO360.out).1.symm]; exact (Kd.R_reads' HO360.out).2.1); rintro e w140 ⟨rfl, hb⟩; refine ⟨_, rfl, ?_⟩; have n0_ := X.A (Kd.R_below (X.K HO336) hb); have n1_ := X.A (Kd.S_below (X.L HO340) hb); have n2_ := X.A (Kd.R_below (X.K HO343) hb); have n3_ := X.A (Kd.R_below (X.K HO349) hb); have n4_ := X.A (Kd.S_below (X.L HO354) hb); have n5_ := X.A (Kd.R_below (X.K HO360) hb); have n6_ := X.A (Kd.R_below (X.K HO367) hb); have n7_ := X.A (Kd.S_below (X.L HO372) hb); have n8_ := X.A (Kd.R_below (X.K HO387) hb); have n9_ := X.A (Kd.S_below (X.L HO391) hb); have n10_ := X.A (Kd.R_below (X.K HO394) hb); have n11_ := X.A (X.BB BK327 hb); have n12_ := X.A (X.BB BK328 hb); have n13_ := X.A (X.BB BK346 hb); have n14_ := X.A (X.BB BK351 hb); have n15_ := X.A (X.BB BK363 hb); have n16_ := X.A (X.BB BK397 hb); have n17_ := X.A (below_step X.G hb); clear HO336 HO340 HO343 HO349 HO354 HO360 HO367 HO372 HO387 HO391 HO394 BK327 BK328 BK346 BK351 BK363 BK397 HB; have HO336 := n0_; have HO340 := n1_; have HO343 := n2_; have HO349 := n3_; have HO354 := n4_; have HO360 := n5_; have HO367 := n6_; have HO372 := n7_; have HO387 := n8_; have HO391 := n9_; have HO394 := n10_; have BK327 := n11_; have BK328 := n12_; have BK346 := n13_; have BK351 := n14_; have BK363 := n15_; have BK397 := n16_; have HB := n17_; clear n0_ n1_ n2_ n3_ n4_ n5_ n6_ n7_ n8_ n9_ n10_ n11_ n12_ n13_ n14_ n15_ n16_ n17_; (try clear hb); (try clear hb2); (try clear hk); (try clear hi)))
  go_ret
  exact ⟨by first | rfl | (simp [errW_none, errW_some] <;> rfl) | (simp [*, errW_none, errW_some] <;> rfl), X.G⟩

end Go.Proofs.Ytjllgibfcnkgpah.Q
