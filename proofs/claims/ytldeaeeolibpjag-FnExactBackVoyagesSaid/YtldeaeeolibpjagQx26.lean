-- by wip/xprint.py, a program of this session over the kit's print: not trusted, Lean checks it.
import Derived.Test.YtldeaeeolibpjagXShort
import Derived.Test.YtldeaeeolibpjagQx0
import Derived.Test.YtldeaeeolibpjagQx1
import Derived.Test.YtldeaeeolibpjagQx6
import Derived.Test.YtldeaeeolibpjagQx7
import Derived.Test.YtldeaeeolibpjagQx23
import Derived.Test.YtldeaeeolibpjagQx24
import Derived.Test.YtldeaeeolibpjagQx25
import Derived.Test.YtldeaeeolibpjagXMark
namespace Go.Proofs.Ytldeaeeolibpjag.Q
open Go.RowKit Go.Proofs.YtldeaeeolibpjagW.PrintWords Go.Proofs.YtldeaeeolibpjagW.PrintLast Go.Proofs.YtldeaeeolibpjagW.PrintMore
attribute [local go_sem] max2_int min2_int max_two min_two max_three min_three max_four min_four   -- for this text's walks alone
set_option linter.unusedVariables false
set_option linter.unusedSimpArgs false

/-! ### laws_heldIntS: function 29 -/
def laws_heldIntS.l0 : Nat → List Int → Int → Int → Option (Int)
 | 0, _, _, _ => none
 | k + 1, x0, x1, x5 => if x5 < (x0.length : Int) then (if 0 ≤ x5 then (if (rd x0 x5) = x1 then (laws_heldIntS.l0 k x0 (wrap64 (x1 + 1)) (wrap64 (x5 + 1))) else (some (-1))) else (none)) else (some x1)
def laws_heldIntS.f (k : Nat) (l0 : List Int) (a1 : Int) : Option (Int) := laws_heldIntS.l0 k l0 a1 0
theorem laws_heldIntS.mono_l : ∀ k, (∀ y0 y1 y2, LeO (laws_heldIntS.l0 k y0 y1 y2) (laws_heldIntS.l0 (k + 1) y0 y1 y2))
 | 0 => fun _ _ _ r h => by simp [laws_heldIntS.l0] at h
 | k + 1 => by
  have ih0 := laws_heldIntS.mono_l k
  ·intro y0 y1 y2
   unfold laws_heldIntS.l0
   repeat' first
   | (with_reducible exact ih0 _ _ _)
   | (with_reducible exact LeO.refl _)
   | (with_reducible exact LeO.none _)
   | (with_reducible refine LeO.ite ?_ ?_)
   | (with_reducible refine LeO.bind ?_ (fun _ => ?_))
theorem laws_heldIntS.mono : ∀ a0 a1 k, LeO (laws_heldIntS.f k a0 a1) (laws_heldIntS.f (k + 1) a0 a1) := by
 intro a0 a1 k
 have ih0 := laws_heldIntS.mono_l k
 unfold laws_heldIntS.f
 repeat' first
   | (with_reducible exact ih0 _ _ _)
   | (with_reducible exact LeO.refl _)
   | (with_reducible exact LeO.none _)
   | (with_reducible refine LeO.ite ?_ ?_)
   | (with_reducible refine LeO.bind ?_ (fun _ => ?_))
set_option maxHeartbeats 8000000 in
set_option maxRecDepth 100000 in
theorem laws_heldIntS.calls (k : Nat) (A0 : Option Addr) (c0 : Nat) (l0 : List Int) (a1 : Int) (r : Int) (w : World) (hr0 : Kd.C (Kd.int .i64) w A0 l0.length l0) (hc0 : l0.length ≤ c0) (h : laws_heldIntS.f k l0 a1 = some r) :
  Calls Try.prog 29 #[.slice A0 l0.length c0, .int .i64 a1] w fun e w' => e = .returned (.int .i64 r) ∧ Drawn0 w w' := by
 have HR0 := X.A hr0
 have HC0 := X.A hc0
 clear hr0 hc0
 have H : (laws_heldIntS.l0 k l0 a1 0) = some r := h
 clear h
 have H' := X.A H
 clear H
 go_enter Try.func29, Try.ntmps29
 go_wp2
 go_loopg [1, 5] k (fun kq v1 v5 w' => ∃ (x1_1 : Int) (x5_1 : Int), v1 = .int .i64 x1_1 ∧ v5 = .int .i64 x5_1 ∧ Aside0 (laws_heldIntS.l0 kq l0 x1_1 x5_1 = some r) ∧ Aside0 (kq ≤ k) ∧ Drawn0 w w')
 case atStart => exact ⟨(a1), (0), (by first | rfl | (simp; done) | (simp [*]; done)), (by first | rfl | (simp; done) | (simp [*]; done)), H', ⟨Nat.le_refl _⟩, by repeat (first | exact Drawn0.refl _ | apply Drawn0.step)⟩
 case round =>
  clear H'
  try clear c2
  try clear p2
  obtain ⟨x1_1, x5_1, rfl, rfl, HA, HK1, ⟨m1, rfl⟩⟩ := hrel
  cases gk with
  | zero => exact absurd HA.out (by simp [laws_heldIntS.l0])
  | succ k1 =>
   have H := HA.out
   clear HA
   simp only [laws_heldIntS.l0] at H
   by_cases c3 : x5_1 < (l0.length : Int)
   ·rw [if_pos c3] at H
    have c3b0 : decide (x5_1 < (l0.length : Int)) = true := decide_eq_true c3
    clear c3
    by_cases c4 : 0 ≤ x5_1
    rotate_left
    ·rw [if_neg c4] at H
     exact absurd H (by simp)
    rw [if_pos c4] at H
    have c4b0 : decide (0 ≤ x5_1) = true := decide_eq_true c4
    clear c4
    by_cases c5 : (rd l0 x5_1) = x1_1
    ·rw [if_pos c5] at H
     have c5b0 : ((rd l0 x5_1) == x1_1) = true := beq_iff_eq.mpr c5
     have c5b1 : ((rd l0 x5_1) != x1_1) = false := bne_eq_false_iff_eq.mpr c5
     clear c5
     have H' := X.A H
     clear H
     have p335 : 0 ≤ (x5_1 : Int) := X.D
     have q335 : x5_1 < (l0.length : Int) := X.D
     obtain ⟨ad335, e335, hx335_0⟩ := Kd.at_int HR0.out x5_1 p335 q335
     cases e335
     replace p335 := eq_true p335
     replace q335 := eq_true q335
     go_wp2
     go_roundg k1
     case measure => have := HK1.out; omega
     case rel => exact ⟨(wrap64 (x1_1 + 1)), (wrap64 (x5_1 + 1)), (by first | rfl | (simp; done) | (simp [*]; done)), (by first | rfl | (simp; done) | (simp [*]; done)), H', ⟨by have := HK1.out; omega⟩, by repeat (first | exact Drawn0.refl _ | apply Drawn0.step)⟩
    ·rw [if_neg c5] at H
     have c5b0 : ((rd l0 x5_1) == x1_1) = false := beq_eq_false_iff_ne.mpr c5
     have c5b1 : ((rd l0 x5_1) != x1_1) = true := bne_iff_ne.mpr c5
     obtain rfl := Option.some.inj H
     have p335 : 0 ≤ (x5_1 : Int) := X.D
     have q335 : x5_1 < (l0.length : Int) := X.D
     obtain ⟨ad335, e335, hx335_0⟩ := Kd.at_int HR0.out x5_1 p335 q335
     cases e335
     replace p335 := eq_true p335
     replace q335 := eq_true q335
     go_wp2
     go_ret
     exact ⟨by first | rfl | (simp; done) | (simp [*]; done), by repeat (first | exact Drawn0.refl _ | apply Drawn0.step)⟩
   ·rw [if_neg c3] at H
    have c3b0 : decide (x5_1 < (l0.length : Int)) = false := decide_eq_false c3
    clear c3
    obtain rfl := Option.some.inj H
    go_wp2
    go_ret
    exact ⟨by first | rfl | (simp; done) | (simp [*]; done), by repeat (first | exact Drawn0.refl _ | apply Drawn0.step)⟩

/-! ### laws_heldVoyageS: function 11 -/
def laws_heldVoyageS.l0 : Nat → List (S43) → Int → Int → Option (Int)
 | 0, _, _, _ => none
 | k + 1, x0, x1, x5 => if x5 < (x0.length : Int) then (if 0 ≤ x5 then (if ((rd_T43 x0 x5).f0) = x1 then ((laws_heldIntS.f k ((rd_T43 x0 x5).f1) (wrap64 (x1 + 1))).bind fun t338 => (if t338 < 0 then (some (-1)) else (laws_heldVoyageS.l0 k x0 t338 (wrap64 (x5 + 1))))) else (some (-1))) else (none)) else (some x1)
def laws_heldVoyageS.f (k : Nat) (l0 : List (S43)) (a1 : Int) : Option (Int) := laws_heldVoyageS.l0 k l0 a1 0
theorem laws_heldVoyageS.mono_l : ∀ k, (∀ y0 y1 y2, LeO (laws_heldVoyageS.l0 k y0 y1 y2) (laws_heldVoyageS.l0 (k + 1) y0 y1 y2))
 | 0 => fun _ _ _ r h => by simp [laws_heldVoyageS.l0] at h
 | k + 1 => by
  have ih0 := laws_heldVoyageS.mono_l k
  ·intro y0 y1 y2
   unfold laws_heldVoyageS.l0
   repeat' first
   | (with_reducible exact ih0 _ _ _)
   | (with_reducible exact laws_heldIntS.mono _ _ _)
   | (with_reducible exact LeO.refl _)
   | (with_reducible exact LeO.none _)
   | (with_reducible refine LeO.ite ?_ ?_)
   | (with_reducible refine LeO.bind ?_ (fun _ => ?_))
theorem laws_heldVoyageS.mono : ∀ a0 a1 k, LeO (laws_heldVoyageS.f k a0 a1) (laws_heldVoyageS.f (k + 1) a0 a1) := by
 intro a0 a1 k
 have ih0 := laws_heldVoyageS.mono_l k
 unfold laws_heldVoyageS.f
 repeat' first
   | (with_reducible exact ih0 _ _ _)
   | (with_reducible exact laws_heldIntS.mono _ _ _)
   | (with_reducible exact LeO.refl _)
   | (with_reducible exact LeO.none _)
   | (with_reducible refine LeO.ite ?_ ?_)
   | (with_reducible refine LeO.bind ?_ (fun _ => ?_))
set_option maxHeartbeats 8000000 in
set_option maxRecDepth 100000 in
theorem laws_heldVoyageS.calls (k : Nat) (A0 : Option Addr) (c0 : Nat) (l0 : List (S43)) (a1 : Int) (r : Int) (w : World) (hr0 : Kd.C k43 w A0 l0.length l0) (hc0 : l0.length ≤ c0) (h : laws_heldVoyageS.f k l0 a1 = some r) :
  Calls Try.prog 11 #[.slice A0 l0.length c0, .int .i64 a1] w fun e w' => e = .returned (.int .i64 r) ∧ Drawn0 w w' := by
 have HR0 := X.A hr0
 have HC0 := X.A hc0
 clear hr0 hc0
 have H : (laws_heldVoyageS.l0 k l0 a1 0) = some r := h
 clear h
 have H' := X.A H
 clear H
 go_enter Try.func11, Try.ntmps11
 go_wp2
 go_loopg [1, 5] k (fun kq v1 v5 w' => ∃ (x1_1 : Int) (x5_1 : Int), v1 = .int .i64 x1_1 ∧ v5 = .int .i64 x5_1 ∧ Aside0 (laws_heldVoyageS.l0 kq l0 x1_1 x5_1 = some r) ∧ Aside0 (kq ≤ k) ∧ Drawn0 w w')
 case atStart => exact ⟨(a1), (0), (by first | rfl | (simp; done) | (simp [*]; done)), (by first | rfl | (simp; done) | (simp [*]; done)), H', ⟨Nat.le_refl _⟩, by repeat (first | exact Drawn0.refl _ | apply Drawn0.step)⟩
 case round =>
  clear H'
  try clear c1
  try clear p2
  obtain ⟨x1_1, x5_1, rfl, rfl, HA, HK1, ⟨m1, rfl⟩⟩ := hrel
  cases gk with
  | zero => exact absurd HA.out (by simp [laws_heldVoyageS.l0])
  | succ k1 =>
   have H := HA.out
   clear HA
   simp only [laws_heldVoyageS.l0] at H
   by_cases c3 : x5_1 < (l0.length : Int)
   ·rw [if_pos c3] at H
    have c3b0 : decide (x5_1 < (l0.length : Int)) = true := decide_eq_true c3
    clear c3
    by_cases c4 : 0 ≤ x5_1
    rotate_left
    ·rw [if_neg c4] at H
     exact absurd H (by simp)
    rw [if_pos c4] at H
    have c4b0 : decide (0 ≤ x5_1) = true := decide_eq_true c4
    clear c4
    by_cases c5 : ((rd_T43 l0 x5_1).f0) = x1_1
    ·rw [if_pos c5] at H
     have c5b0 : (((rd_T43 l0 x5_1).f0) == x1_1) = true := beq_iff_eq.mpr c5
     have c5b1 : (((rd_T43 l0 x5_1).f0) != x1_1) = false := bne_eq_false_iff_eq.mpr c5
     clear c5
     replace H := Option.bind_eq_some_iff.mp H
     obtain ⟨t338, A60, H⟩ := H
     replace H : (if t338 < 0 then (some (-1)) else (laws_heldVoyageS.l0 k1 l0 t338 (wrap64 (x5_1 + 1)))) = some r := H
     have A6 := X.A A60
     clear A60
     by_cases c7 : t338 < 0
     ·rw [if_pos c7] at H
      have c7b0 : decide (t338 < 0) = true := decide_eq_true c7
      clear c7
      obtain rfl := Option.some.inj H
      have p336 : 0 ≤ (x5_1 : Int) := X.D
      have q336 : x5_1 < (l0.length : Int) := X.D
      obtain ⟨ad336, A336_1, c336_1, e336, hx336_0, hx336_1, hl336_1, hi336_1⟩ := at_T43 HR0.out x5_1 p336 q336
      cases e336
      have HR336_1 := X.A hi336_1
      have HC336_1 := X.A hl336_1
      clear hi336_1 hl336_1
      replace p336 := eq_true p336
      replace q336 := eq_true q336
      have p337 : 0 ≤ (x5_1 : Int) := X.D
      have q337 : x5_1 < (l0.length : Int) := X.D
      obtain ⟨ad337, A337_1, c337_1, e337, hx337_0, hx337_1, hl337_1, hi337_1⟩ := at_T43 HR0.out x5_1 p337 q337
      obtain rfl : ad336 = ad337 := (by injection e337)
      have HR337_1 := X.A hi337_1
      have HC337_1 := X.A hl337_1
      clear hi337_1 hl337_1
      replace p337 := eq_true p337
      replace q337 := eq_true q337
      have ea_ := Option.some.inj (hx336_1.symm.trans hx337_1)
      injection ea_ with ea_ en_ ec_
      subst ea_
      subst ec_
      clear en_
      go_wp2_with (first | ((with_reducible refine gate_callee (f := 29) rfl ?_); refine goesL_ (some 27) rfl rfl Try.func29 (by kernel_rfl) rfl #[.slice A336_1 ((rd_T43 l0 x5_1).f1).length c336_1, .int .i64 (wrap64 (x1_1 + 1))] rfl X.M ?_; (with_reducible refine (laws_heldIntS.calls k1 _ _ ((rd_T43 l0 x5_1).f1) (wrap64 (x1_1 + 1)) t338 _ ?side1 ?side2 A6.out).mono ?_); (case side1 => exact X.C HR337_1.out); (case side2 => exact HC337_1.out); rintro e w' ⟨rfl, ⟨nd, rfl⟩⟩; refine ⟨_, rfl, ?_⟩))
      go_ret
      exact ⟨by first | rfl | (simp; done) | (simp [*]; done), by repeat (first | exact Drawn0.refl _ | apply Drawn0.step)⟩
     ·rw [if_neg c7] at H
      have c7b0 : decide (t338 < 0) = false := decide_eq_false c7
      clear c7
      have H' := X.A H
      clear H
      have p336 : 0 ≤ (x5_1 : Int) := X.D
      have q336 : x5_1 < (l0.length : Int) := X.D
      obtain ⟨ad336, A336_1, c336_1, e336, hx336_0, hx336_1, hl336_1, hi336_1⟩ := at_T43 HR0.out x5_1 p336 q336
      cases e336
      have HR336_1 := X.A hi336_1
      have HC336_1 := X.A hl336_1
      clear hi336_1 hl336_1
      replace p336 := eq_true p336
      replace q336 := eq_true q336
      have p337 : 0 ≤ (x5_1 : Int) := X.D
      have q337 : x5_1 < (l0.length : Int) := X.D
      obtain ⟨ad337, A337_1, c337_1, e337, hx337_0, hx337_1, hl337_1, hi337_1⟩ := at_T43 HR0.out x5_1 p337 q337
      obtain rfl : ad336 = ad337 := (by injection e337)
      have HR337_1 := X.A hi337_1
      have HC337_1 := X.A hl337_1
      clear hi337_1 hl337_1
      replace p337 := eq_true p337
      replace q337 := eq_true q337
      have ea_ := Option.some.inj (hx336_1.symm.trans hx337_1)
      injection ea_ with ea_ en_ ec_
      subst ea_
      subst ec_
      clear en_
      go_wp2_with (first | ((with_reducible refine gate_callee (f := 29) rfl ?_); refine goesL_ (some 27) rfl rfl Try.func29 (by kernel_rfl) rfl #[.slice A336_1 ((rd_T43 l0 x5_1).f1).length c336_1, .int .i64 (wrap64 (x1_1 + 1))] rfl X.M ?_; (with_reducible refine (laws_heldIntS.calls k1 _ _ ((rd_T43 l0 x5_1).f1) (wrap64 (x1_1 + 1)) t338 _ ?side1 ?side2 A6.out).mono ?_); (case side1 => exact X.C HR337_1.out); (case side2 => exact HC337_1.out); rintro e w' ⟨rfl, ⟨nd, rfl⟩⟩; refine ⟨_, rfl, ?_⟩))
      go_roundg k1
      case measure => have := HK1.out; omega
      case rel => exact ⟨(t338), (wrap64 (x5_1 + 1)), (by first | rfl | (simp; done) | (simp [*]; done)), (by first | rfl | (simp; done) | (simp [*]; done)), H', ⟨by have := HK1.out; omega⟩, by repeat (first | exact Drawn0.refl _ | apply Drawn0.step)⟩
    ·rw [if_neg c5] at H
     have c5b0 : (((rd_T43 l0 x5_1).f0) == x1_1) = false := beq_eq_false_iff_ne.mpr c5
     have c5b1 : (((rd_T43 l0 x5_1).f0) != x1_1) = true := bne_iff_ne.mpr c5
     obtain rfl := Option.some.inj H
     have p336 : 0 ≤ (x5_1 : Int) := X.D
     have q336 : x5_1 < (l0.length : Int) := X.D
     obtain ⟨ad336, A336_1, c336_1, e336, hx336_0, hx336_1, hl336_1, hi336_1⟩ := at_T43 HR0.out x5_1 p336 q336
     cases e336
     have HR336_1 := X.A hi336_1
     have HC336_1 := X.A hl336_1
     clear hi336_1 hl336_1
     replace p336 := eq_true p336
     replace q336 := eq_true q336
     go_wp2
     go_ret
     exact ⟨by first | rfl | (simp; done) | (simp [*]; done), by repeat (first | exact Drawn0.refl _ | apply Drawn0.step)⟩
   ·rw [if_neg c3] at H
    have c3b0 : decide (x5_1 < (l0.length : Int)) = false := decide_eq_false c3
    clear c3
    obtain rfl := Option.some.inj H
    go_wp2
    go_ret
    exact ⟨by first | rfl | (simp; done) | (simp [*]; done), by repeat (first | exact Drawn0.refl _ | apply Drawn0.step)⟩

/-! ### laws_FnExactBackVoyages: function 3 -/
-- IMPORT: Derived.Test.YtldeaeeolibpjagXMark
def laws_FnExactBackVoyages.f (k : Nat) (a0_0 : Int) (a0_1 : Int) (a0_2 : Int) (l1 : List (S38)) : Option (Bool) := (laws_szVoyageS.f k l1 1048576).bind fun t340 => (if t340 < 0 then (some true) else ((laws_toIsles.f a0_0 a0_1 a0_2).bind fun bt341 => ((laws_toVoyageS.f k l1).bind fun t344 => ((spec_BackVoyages.f k bt341.1 bt341.2.1 bt341.2.2 t344).bind fun bt347 => ((laws_toVoyageS.f k l1).bind fun t351 => ((laws_toIsles.f a0_0 a0_1 a0_2).bind fun bt354 => ((impl_BackVoyages.f k bt354.1 bt354.2.1 bt354.2.2 t351).bind fun bt357 => ((laws_eqVoyageS.f k bt357.1 bt347.1).bind fun t361 => (if t361 = true then (if (bt357.2 != bt347.2) = true then (none) else ((laws_toVoyageS.f k l1).bind fun t362 => ((laws_eqVoyageS.f k t351 t362).bind fun t365 => (if t365 = true then ((laws_markVoyageS.f k t351 1).bind fun bt366 => (if bt366.1 < 0 then (none) else ((laws_eqVoyageS.f k bt357.1 bt347.1).bind fun t368 => (if t368 = true then ((laws_markVoyageS.f k bt357.1 1).bind fun bt369 => ((laws_heldVoyageS.f k bt369.2 1).bind fun t371 => (if t371 < 0 then (none) else (if t371 = bt369.1 then ((laws_toIsles.f a0_0 a0_1 a0_2).bind fun bt372 => ((laws_toVoyageS.f k l1).bind fun t375 => ((impl_BackVoyages.f k bt372.1 bt372.2.1 bt372.2.2 t375).bind fun bt378 => ((laws_eqVoyageS.f k bt378.1 bt347.1).bind fun t382 => (if t382 = true then (if (bt378.2 != bt347.2) = true then (none) else ((laws_heldVoyageS.f k bt369.2 1).bind fun t383 => (if t383 < 0 then (none) else (if t383 = bt369.1 then (some true) else (none))))) else (none)))))) else (none))))) else (none))))) else (none))))) else (none))))))))))
theorem laws_FnExactBackVoyages.mono : ∀ a0 a1 a2 a3 k, LeO (laws_FnExactBackVoyages.f k a0 a1 a2 a3) (laws_FnExactBackVoyages.f (k + 1) a0 a1 a2 a3) := by
 intro a0 a1 a2 a3 k
 unfold laws_FnExactBackVoyages.f
 repeat' first
   | (with_reducible exact impl_BackVoyages.mono _ _ _ _ _)
   | (with_reducible exact laws_eqVoyageS.mono _ _ _)
   | (with_reducible exact laws_heldVoyageS.mono _ _ _)
   | (with_reducible exact laws_markVoyageS.mono _ _ _)
   | (with_reducible exact laws_szVoyageS.mono _ _ _)
   | (with_reducible exact laws_toVoyageS.mono _ _)
   | (with_reducible exact spec_BackVoyages.mono _ _ _ _ _)
   | (with_reducible exact LeO.refl _)
   | (with_reducible exact LeO.none _)
   | (with_reducible refine LeO.ite ?_ ?_)
   | (with_reducible refine LeO.bind ?_ (fun _ => ?_))
set_option maxHeartbeats 8000000 in
set_option maxRecDepth 100000 in
theorem laws_FnExactBackVoyages.calls (k : Nat) (a0_0 : Int) (a0_1 : Int) (a0_2 : Int) (A1 : Option Addr) (c1 : Nat) (l1 : List (S38)) (r : Bool) (w : World) (hr1 : Kd.C k38 w A1 l1.length l1) (hc1 : l1.length ≤ c1) (h : laws_FnExactBackVoyages.f k a0_0 a0_1 a0_2 l1 = some r) :
  Calls Try.prog 3 #[.agg #[.int .i64 a0_0, .int .i64 a0_1, .int .i64 a0_2], .slice A1 l1.length c1] w fun e w' => e = .returned (.bool r) ∧ Below w.heap.size w w' := by
 have hu23 := Try.underlying23
 have HR1 := X.A hr1
 have HC1 := X.A hc1
 clear hr1 hc1
 have HB := X.A (Below.refl w.heap.size w)
 have H : ((laws_szVoyageS.f k l1 1048576).bind fun t340 => (if t340 < 0 then (some true) else ((laws_toIsles.f a0_0 a0_1 a0_2).bind fun bt341 => ((laws_toVoyageS.f k l1).bind fun t344 => ((spec_BackVoyages.f k bt341.1 bt341.2.1 bt341.2.2 t344).bind fun bt347 => ((laws_toVoyageS.f k l1).bind fun t351 => ((laws_toIsles.f a0_0 a0_1 a0_2).bind fun bt354 => ((impl_BackVoyages.f k bt354.1 bt354.2.1 bt354.2.2 t351).bind fun bt357 => ((laws_eqVoyageS.f k bt357.1 bt347.1).bind fun t361 => (if t361 = true then (if (bt357.2 != bt347.2) = true then (none) else ((laws_toVoyageS.f k l1).bind fun t362 => ((laws_eqVoyageS.f k t351 t362).bind fun t365 => (if t365 = true then ((laws_markVoyageS.f k t351 1).bind fun bt366 => (if bt366.1 < 0 then (none) else ((laws_eqVoyageS.f k bt357.1 bt347.1).bind fun t368 => (if t368 = true then ((laws_markVoyageS.f k bt357.1 1).bind fun bt369 => ((laws_heldVoyageS.f k bt369.2 1).bind fun t371 => (if t371 < 0 then (none) else (if t371 = bt369.1 then ((laws_toIsles.f a0_0 a0_1 a0_2).bind fun bt372 => ((laws_toVoyageS.f k l1).bind fun t375 => ((impl_BackVoyages.f k bt372.1 bt372.2.1 bt372.2.2 t375).bind fun bt378 => ((laws_eqVoyageS.f k bt378.1 bt347.1).bind fun t382 => (if t382 = true then (if (bt378.2 != bt347.2) = true then (none) else ((laws_heldVoyageS.f k bt369.2 1).bind fun t383 => (if t383 < 0 then (none) else (if t383 = bt369.1 then (some true) else (none))))) else (none)))))) else (none))))) else (none))))) else (none))))) else (none))))))))))) = some r := h
 clear h
 replace H := Option.bind_eq_some_iff.mp H
 obtain ⟨t340, A30, H⟩ := H
 replace H : (if t340 < 0 then (some true) else ((laws_toIsles.f a0_0 a0_1 a0_2).bind fun bt341 => ((laws_toVoyageS.f k l1).bind fun t344 => ((spec_BackVoyages.f k bt341.1 bt341.2.1 bt341.2.2 t344).bind fun bt347 => ((laws_toVoyageS.f k l1).bind fun t351 => ((laws_toIsles.f a0_0 a0_1 a0_2).bind fun bt354 => ((impl_BackVoyages.f k bt354.1 bt354.2.1 bt354.2.2 t351).bind fun bt357 => ((laws_eqVoyageS.f k bt357.1 bt347.1).bind fun t361 => (if t361 = true then (if (bt357.2 != bt347.2) = true then (none) else ((laws_toVoyageS.f k l1).bind fun t362 => ((laws_eqVoyageS.f k t351 t362).bind fun t365 => (if t365 = true then ((laws_markVoyageS.f k t351 1).bind fun bt366 => (if bt366.1 < 0 then (none) else ((laws_eqVoyageS.f k bt357.1 bt347.1).bind fun t368 => (if t368 = true then ((laws_markVoyageS.f k bt357.1 1).bind fun bt369 => ((laws_heldVoyageS.f k bt369.2 1).bind fun t371 => (if t371 < 0 then (none) else (if t371 = bt369.1 then ((laws_toIsles.f a0_0 a0_1 a0_2).bind fun bt372 => ((laws_toVoyageS.f k l1).bind fun t375 => ((impl_BackVoyages.f k bt372.1 bt372.2.1 bt372.2.2 t375).bind fun bt378 => ((laws_eqVoyageS.f k bt378.1 bt347.1).bind fun t382 => (if t382 = true then (if (bt378.2 != bt347.2) = true then (none) else ((laws_heldVoyageS.f k bt369.2 1).bind fun t383 => (if t383 < 0 then (none) else (if t383 = bt369.1 then (some true) else (none))))) else (none)))))) else (none))))) else (none))))) else (none))))) else (none)))))))))) = some r := H
 have A3 := X.A A30
 clear A30
 by_cases c4 : t340 < 0
 ·rw [if_pos c4] at H
  have c4b0 : decide (t340 < 0) = true := decide_eq_true c4
  clear c4
  obtain rfl := Option.some.inj H
  go_enter Try.func3, Try.ntmps3
  go_wp2_with (first | ((with_reducible refine gate_dst (N := 2) rfl ?_); refine box_event ?hg (N := 2) ?hd (cs := #[.int .i64 a0_0, .int .i64 a0_1, .int .i64 a0_2]) (t := 23) ?hr ?_; (case hd => rfl); (case hg => rfl); (case hr => exact X.R); intro gb339 hg w5 hbox hb; have n0_ := X.A (below_step X.G hb); have n1_ := X.A (hbox); have n2_ := X.A ((by rw [hg]; exact (below_size X.G) : w.heap.size ≤ gb339)); have n3_ := X.A ((by rw [hg]; exact (below_size X.G) : w.heap.size ≤ gb339)); clear HB; have HB := n0_; have BK339 := n1_; have GW339 := n2_; have GE339 := n3_; clear n0_ n1_ n2_ n3_; clear hb hbox hg) | ((with_reducible refine gate_callee (f := 4) rfl ?_); refine goesL_ (some 18) rfl rfl Try.func4 (by kernel_rfl) rfl #[.slice A1 l1.length c1, .int .i64 1048576] rfl X.M ?_; (with_reducible refine (laws_szVoyageS.calls k _ _ l1 1048576 t340 _ ?side1 ?side2 A3.out).mono ?_); (case side1 => exact X.C (Kd.C_below HR1.out HB.out)); (case side2 => exact HC1.out); rintro e w6 ⟨rfl, hb⟩; refine ⟨_, rfl, ?_⟩; have n0_ := X.A (X.BB BK339 hb); have n1_ := X.A (below_step X.G hb); clear BK339 HB; have BK339 := n0_; have HB := n1_; clear n0_ n1_; (try clear hb); (try clear hb2); (try clear hk); (try clear hi)))
  go_ret
  exact ⟨by first | rfl | (simp [errW_none, errW_some] <;> rfl) | (simp [*, errW_none, errW_some] <;> rfl), X.G⟩
 ·rw [if_neg c4] at H
  have c4b0 : decide (t340 < 0) = false := decide_eq_false c4
  clear c4
  replace H := Option.bind_eq_some_iff.mp H
  obtain ⟨⟨t341, t342, t343⟩, A70, H⟩ := H
  replace H : ((laws_toVoyageS.f k l1).bind fun t344 => ((spec_BackVoyages.f k t341 t342 t343 t344).bind fun bt347 => ((laws_toVoyageS.f k l1).bind fun t351 => ((laws_toIsles.f a0_0 a0_1 a0_2).bind fun bt354 => ((impl_BackVoyages.f k bt354.1 bt354.2.1 bt354.2.2 t351).bind fun bt357 => ((laws_eqVoyageS.f k bt357.1 bt347.1).bind fun t361 => (if t361 = true then (if (bt357.2 != bt347.2) = true then (none) else ((laws_toVoyageS.f k l1).bind fun t362 => ((laws_eqVoyageS.f k t351 t362).bind fun t365 => (if t365 = true then ((laws_markVoyageS.f k t351 1).bind fun bt366 => (if bt366.1 < 0 then (none) else ((laws_eqVoyageS.f k bt357.1 bt347.1).bind fun t368 => (if t368 = true then ((laws_markVoyageS.f k bt357.1 1).bind fun bt369 => ((laws_heldVoyageS.f k bt369.2 1).bind fun t371 => (if t371 < 0 then (none) else (if t371 = bt369.1 then ((laws_toIsles.f a0_0 a0_1 a0_2).bind fun bt372 => ((laws_toVoyageS.f k l1).bind fun t375 => ((impl_BackVoyages.f k bt372.1 bt372.2.1 bt372.2.2 t375).bind fun bt378 => ((laws_eqVoyageS.f k bt378.1 bt347.1).bind fun t382 => (if t382 = true then (if (bt378.2 != bt347.2) = true then (none) else ((laws_heldVoyageS.f k bt369.2 1).bind fun t383 => (if t383 < 0 then (none) else (if t383 = bt369.1 then (some true) else (none))))) else (none)))))) else (none))))) else (none))))) else (none))))) else (none)))))))) = some r := H
  have A7 := X.A A70
  clear A70
  replace H := Option.bind_eq_some_iff.mp H
  obtain ⟨t344, A80, H⟩ := H
  replace H : ((spec_BackVoyages.f k t341 t342 t343 t344).bind fun bt347 => ((laws_toVoyageS.f k l1).bind fun t351 => ((laws_toIsles.f a0_0 a0_1 a0_2).bind fun bt354 => ((impl_BackVoyages.f k bt354.1 bt354.2.1 bt354.2.2 t351).bind fun bt357 => ((laws_eqVoyageS.f k bt357.1 bt347.1).bind fun t361 => (if t361 = true then (if (bt357.2 != bt347.2) = true then (none) else ((laws_toVoyageS.f k l1).bind fun t362 => ((laws_eqVoyageS.f k t351 t362).bind fun t365 => (if t365 = true then ((laws_markVoyageS.f k t351 1).bind fun bt366 => (if bt366.1 < 0 then (none) else ((laws_eqVoyageS.f k bt357.1 bt347.1).bind fun t368 => (if t368 = true then ((laws_markVoyageS.f k bt357.1 1).bind fun bt369 => ((laws_heldVoyageS.f k bt369.2 1).bind fun t371 => (if t371 < 0 then (none) else (if t371 = bt369.1 then ((laws_toIsles.f a0_0 a0_1 a0_2).bind fun bt372 => ((laws_toVoyageS.f k l1).bind fun t375 => ((impl_BackVoyages.f k bt372.1 bt372.2.1 bt372.2.2 t375).bind fun bt378 => ((laws_eqVoyageS.f k bt378.1 bt347.1).bind fun t382 => (if t382 = true then (if (bt378.2 != bt347.2) = true then (none) else ((laws_heldVoyageS.f k bt369.2 1).bind fun t383 => (if t383 < 0 then (none) else (if t383 = bt369.1 then (some true) else (none))))) else (none)))))) else (none))))) else (none))))) else (none))))) else (none))))))) = some r := H
  have A8 := X.A A80
  clear A80
  replace H := Option.bind_eq_some_iff.mp H
  obtain ⟨⟨t347, t350⟩, A90, H⟩ := H
  replace H : ((laws_toVoyageS.f k l1).bind fun t351 => ((laws_toIsles.f a0_0 a0_1 a0_2).bind fun bt354 => ((impl_BackVoyages.f k bt354.1 bt354.2.1 bt354.2.2 t351).bind fun bt357 => ((laws_eqVoyageS.f k bt357.1 t347).bind fun t361 => (if t361 = true then (if (bt357.2 != t350) = true then (none) else ((laws_toVoyageS.f k l1).bind fun t362 => ((laws_eqVoyageS.f k t351 t362).bind fun t365 => (if t365 = true then ((laws_markVoyageS.f k t351 1).bind fun bt366 => (if bt366.1 < 0 then (none) else ((laws_eqVoyageS.f k bt357.1 t347).bind fun t368 => (if t368 = true then ((laws_markVoyageS.f k bt357.1 1).bind fun bt369 => ((laws_heldVoyageS.f k bt369.2 1).bind fun t371 => (if t371 < 0 then (none) else (if t371 = bt369.1 then ((laws_toIsles.f a0_0 a0_1 a0_2).bind fun bt372 => ((laws_toVoyageS.f k l1).bind fun t375 => ((impl_BackVoyages.f k bt372.1 bt372.2.1 bt372.2.2 t375).bind fun bt378 => ((laws_eqVoyageS.f k bt378.1 t347).bind fun t382 => (if t382 = true then (if (bt378.2 != t350) = true then (none) else ((laws_heldVoyageS.f k bt369.2 1).bind fun t383 => (if t383 < 0 then (none) else (if t383 = bt369.1 then (some true) else (none))))) else (none)))))) else (none))))) else (none))))) else (none))))) else (none)))))) = some r := H
  have A9 := X.A A90
  clear A90
  replace H := Option.bind_eq_some_iff.mp H
  obtain ⟨t351, A100, H⟩ := H
  replace H : ((laws_toIsles.f a0_0 a0_1 a0_2).bind fun bt354 => ((impl_BackVoyages.f k bt354.1 bt354.2.1 bt354.2.2 t351).bind fun bt357 => ((laws_eqVoyageS.f k bt357.1 t347).bind fun t361 => (if t361 = true then (if (bt357.2 != t350) = true then (none) else ((laws_toVoyageS.f k l1).bind fun t362 => ((laws_eqVoyageS.f k t351 t362).bind fun t365 => (if t365 = true then ((laws_markVoyageS.f k t351 1).bind fun bt366 => (if bt366.1 < 0 then (none) else ((laws_eqVoyageS.f k bt357.1 t347).bind fun t368 => (if t368 = true then ((laws_markVoyageS.f k bt357.1 1).bind fun bt369 => ((laws_heldVoyageS.f k bt369.2 1).bind fun t371 => (if t371 < 0 then (none) else (if t371 = bt369.1 then ((laws_toIsles.f a0_0 a0_1 a0_2).bind fun bt372 => ((laws_toVoyageS.f k l1).bind fun t375 => ((impl_BackVoyages.f k bt372.1 bt372.2.1 bt372.2.2 t375).bind fun bt378 => ((laws_eqVoyageS.f k bt378.1 t347).bind fun t382 => (if t382 = true then (if (bt378.2 != t350) = true then (none) else ((laws_heldVoyageS.f k bt369.2 1).bind fun t383 => (if t383 < 0 then (none) else (if t383 = bt369.1 then (some true) else (none))))) else (none)))))) else (none))))) else (none))))) else (none))))) else (none))))) = some r := H
  have A10 := X.A A100
  clear A100
  replace H := Option.bind_eq_some_iff.mp H
  obtain ⟨⟨t354, t355, t356⟩, A110, H⟩ := H
  replace H : ((impl_BackVoyages.f k t354 t355 t356 t351).bind fun bt357 => ((laws_eqVoyageS.f k bt357.1 t347).bind fun t361 => (if t361 = true then (if (bt357.2 != t350) = true then (none) else ((laws_toVoyageS.f k l1).bind fun t362 => ((laws_eqVoyageS.f k t351 t362).bind fun t365 => (if t365 = true then ((laws_markVoyageS.f k t351 1).bind fun bt366 => (if bt366.1 < 0 then (none) else ((laws_eqVoyageS.f k bt357.1 t347).bind fun t368 => (if t368 = true then ((laws_markVoyageS.f k bt357.1 1).bind fun bt369 => ((laws_heldVoyageS.f k bt369.2 1).bind fun t371 => (if t371 < 0 then (none) else (if t371 = bt369.1 then ((laws_toIsles.f a0_0 a0_1 a0_2).bind fun bt372 => ((laws_toVoyageS.f k l1).bind fun t375 => ((impl_BackVoyages.f k bt372.1 bt372.2.1 bt372.2.2 t375).bind fun bt378 => ((laws_eqVoyageS.f k bt378.1 t347).bind fun t382 => (if t382 = true then (if (bt378.2 != t350) = true then (none) else ((laws_heldVoyageS.f k bt369.2 1).bind fun t383 => (if t383 < 0 then (none) else (if t383 = bt369.1 then (some true) else (none))))) else (none)))))) else (none))))) else (none))))) else (none))))) else (none)))) = some r := H
  have A11 := X.A A110
  clear A110
  replace H := Option.bind_eq_some_iff.mp H
  obtain ⟨⟨t357, t360⟩, A120, H⟩ := H
  replace H : ((laws_eqVoyageS.f k t357 t347).bind fun t361 => (if t361 = true then (if (t360 != t350) = true then (none) else ((laws_toVoyageS.f k l1).bind fun t362 => ((laws_eqVoyageS.f k t351 t362).bind fun t365 => (if t365 = true then ((laws_markVoyageS.f k t351 1).bind fun bt366 => (if bt366.1 < 0 then (none) else ((laws_eqVoyageS.f k t357 t347).bind fun t368 => (if t368 = true then ((laws_markVoyageS.f k t357 1).bind fun bt369 => ((laws_heldVoyageS.f k bt369.2 1).bind fun t371 => (if t371 < 0 then (none) else (if t371 = bt369.1 then ((laws_toIsles.f a0_0 a0_1 a0_2).bind fun bt372 => ((laws_toVoyageS.f k l1).bind fun t375 => ((impl_BackVoyages.f k bt372.1 bt372.2.1 bt372.2.2 t375).bind fun bt378 => ((laws_eqVoyageS.f k bt378.1 t347).bind fun t382 => (if t382 = true then (if (bt378.2 != t350) = true then (none) else ((laws_heldVoyageS.f k bt369.2 1).bind fun t383 => (if t383 < 0 then (none) else (if t383 = bt369.1 then (some true) else (none))))) else (none)))))) else (none))))) else (none))))) else (none))))) else (none))) = some r := H
  have A12 := X.A A120
  clear A120
  replace H := Option.bind_eq_some_iff.mp H
  obtain ⟨t361, A130, H⟩ := H
  replace H : (if t361 = true then (if (t360 != t350) = true then (none) else ((laws_toVoyageS.f k l1).bind fun t362 => ((laws_eqVoyageS.f k t351 t362).bind fun t365 => (if t365 = true then ((laws_markVoyageS.f k t351 1).bind fun bt366 => (if bt366.1 < 0 then (none) else ((laws_eqVoyageS.f k t357 t347).bind fun t368 => (if t368 = true then ((laws_markVoyageS.f k t357 1).bind fun bt369 => ((laws_heldVoyageS.f k bt369.2 1).bind fun t371 => (if t371 < 0 then (none) else (if t371 = bt369.1 then ((laws_toIsles.f a0_0 a0_1 a0_2).bind fun bt372 => ((laws_toVoyageS.f k l1).bind fun t375 => ((impl_BackVoyages.f k bt372.1 bt372.2.1 bt372.2.2 t375).bind fun bt378 => ((laws_eqVoyageS.f k bt378.1 t347).bind fun t382 => (if t382 = true then (if (bt378.2 != t350) = true then (none) else ((laws_heldVoyageS.f k bt369.2 1).bind fun t383 => (if t383 < 0 then (none) else (if t383 = bt369.1 then (some true) else (none))))) else (none)))))) else (none))))) else (none))))) else (none))))) else (none)) = some r := H
  have A13 := X.A A130
  clear A130
  by_cases c14 : t361 = true
  rotate_left
  ·replace c14 := Bool.eq_false_iff.mpr c14
   subst c14
   have H1 : (none) = some r := by rw [if_neg (show ¬ (false = true) by decide)] at H; exact H
   clear H
   have H := H1
   clear H1
   exact absurd H (by simp)
  subst c14
  have H1 : (if (t360 != t350) = true then (none) else ((laws_toVoyageS.f k l1).bind fun t362 => ((laws_eqVoyageS.f k t351 t362).bind fun t365 => (if t365 = true then ((laws_markVoyageS.f k t351 1).bind fun bt366 => (if bt366.1 < 0 then (none) else ((laws_eqVoyageS.f k t357 t347).bind fun t368 => (if t368 = true then ((laws_markVoyageS.f k t357 1).bind fun bt369 => ((laws_heldVoyageS.f k bt369.2 1).bind fun t371 => (if t371 < 0 then (none) else (if t371 = bt369.1 then ((laws_toIsles.f a0_0 a0_1 a0_2).bind fun bt372 => ((laws_toVoyageS.f k l1).bind fun t375 => ((impl_BackVoyages.f k bt372.1 bt372.2.1 bt372.2.2 t375).bind fun bt378 => ((laws_eqVoyageS.f k bt378.1 t347).bind fun t382 => (if t382 = true then (if (bt378.2 != t350) = true then (none) else ((laws_heldVoyageS.f k bt369.2 1).bind fun t383 => (if t383 < 0 then (none) else (if t383 = bt369.1 then (some true) else (none))))) else (none)))))) else (none))))) else (none))))) else (none))))) = some r := by rw [if_pos rfl] at H; exact H
  clear H
  have H := H1
  clear H1
  by_cases c15 : (t360 != t350) = true
  ·rw [if_pos c15] at H
   exact absurd H (by simp)
  ·rw [if_neg c15] at H
   have c15b0 : (t360 != t350) = false := by simpa using c15
   (try (have c15b1 : decide (t360 = t350) = true := by simpa using c15))
   (try (have c15b2 : (t360 == t350) = true := by simpa using c15))
   clear c15
   replace H := Option.bind_eq_some_iff.mp H
   obtain ⟨t362, A160, H⟩ := H
   replace H : ((laws_eqVoyageS.f k t351 t362).bind fun t365 => (if t365 = true then ((laws_markVoyageS.f k t351 1).bind fun bt366 => (if bt366.1 < 0 then (none) else ((laws_eqVoyageS.f k t357 t347).bind fun t368 => (if t368 = true then ((laws_markVoyageS.f k t357 1).bind fun bt369 => ((laws_heldVoyageS.f k bt369.2 1).bind fun t371 => (if t371 < 0 then (none) else (if t371 = bt369.1 then ((laws_toIsles.f a0_0 a0_1 a0_2).bind fun bt372 => ((laws_toVoyageS.f k l1).bind fun t375 => ((impl_BackVoyages.f k bt372.1 bt372.2.1 bt372.2.2 t375).bind fun bt378 => ((laws_eqVoyageS.f k bt378.1 t347).bind fun t382 => (if t382 = true then (if (bt378.2 != t350) = true then (none) else ((laws_heldVoyageS.f k bt369.2 1).bind fun t383 => (if t383 < 0 then (none) else (if t383 = bt369.1 then (some true) else (none))))) else (none)))))) else (none))))) else (none))))) else (none))) = some r := H
   have A16 := X.A A160
   clear A160
   replace H := Option.bind_eq_some_iff.mp H
   obtain ⟨t365, A170, H⟩ := H
   replace H : (if t365 = true then ((laws_markVoyageS.f k t351 1).bind fun bt366 => (if bt366.1 < 0 then (none) else ((laws_eqVoyageS.f k t357 t347).bind fun t368 => (if t368 = true then ((laws_markVoyageS.f k t357 1).bind fun bt369 => ((laws_heldVoyageS.f k bt369.2 1).bind fun t371 => (if t371 < 0 then (none) else (if t371 = bt369.1 then ((laws_toIsles.f a0_0 a0_1 a0_2).bind fun bt372 => ((laws_toVoyageS.f k l1).bind fun t375 => ((impl_BackVoyages.f k bt372.1 bt372.2.1 bt372.2.2 t375).bind fun bt378 => ((laws_eqVoyageS.f k bt378.1 t347).bind fun t382 => (if t382 = true then (if (bt378.2 != t350) = true then (none) else ((laws_heldVoyageS.f k bt369.2 1).bind fun t383 => (if t383 < 0 then (none) else (if t383 = bt369.1 then (some true) else (none))))) else (none)))))) else (none))))) else (none))))) else (none)) = some r := H
   have A17 := X.A A170
   clear A170
   by_cases c18 : t365 = true
   rotate_left
   ·replace c18 := Bool.eq_false_iff.mpr c18
    subst c18
    have H1 : (none) = some r := by rw [if_neg (show ¬ (false = true) by decide)] at H; exact H
    clear H
    have H := H1
    clear H1
    exact absurd H (by simp)
   subst c18
   have H1 : ((laws_markVoyageS.f k t351 1).bind fun bt366 => (if bt366.1 < 0 then (none) else ((laws_eqVoyageS.f k t357 t347).bind fun t368 => (if t368 = true then ((laws_markVoyageS.f k t357 1).bind fun bt369 => ((laws_heldVoyageS.f k bt369.2 1).bind fun t371 => (if t371 < 0 then (none) else (if t371 = bt369.1 then ((laws_toIsles.f a0_0 a0_1 a0_2).bind fun bt372 => ((laws_toVoyageS.f k l1).bind fun t375 => ((impl_BackVoyages.f k bt372.1 bt372.2.1 bt372.2.2 t375).bind fun bt378 => ((laws_eqVoyageS.f k bt378.1 t347).bind fun t382 => (if t382 = true then (if (bt378.2 != t350) = true then (none) else ((laws_heldVoyageS.f k bt369.2 1).bind fun t383 => (if t383 < 0 then (none) else (if t383 = bt369.1 then (some true) else (none))))) else (none)))))) else (none))))) else (none))))) = some r := by rw [if_pos rfl] at H; exact H
   clear H
   have H := H1
   clear H1
   replace H := Option.bind_eq_some_iff.mp H
   obtain ⟨⟨t366, t367⟩, A190, H⟩ := H
   replace H : (if t366 < 0 then (none) else ((laws_eqVoyageS.f k t357 t347).bind fun t368 => (if t368 = true then ((laws_markVoyageS.f k t357 1).bind fun bt369 => ((laws_heldVoyageS.f k bt369.2 1).bind fun t371 => (if t371 < 0 then (none) else (if t371 = bt369.1 then ((laws_toIsles.f a0_0 a0_1 a0_2).bind fun bt372 => ((laws_toVoyageS.f k l1).bind fun t375 => ((impl_BackVoyages.f k bt372.1 bt372.2.1 bt372.2.2 t375).bind fun bt378 => ((laws_eqVoyageS.f k bt378.1 t347).bind fun t382 => (if t382 = true then (if (bt378.2 != t350) = true then (none) else ((laws_heldVoyageS.f k bt369.2 1).bind fun t383 => (if t383 < 0 then (none) else (if t383 = bt369.1 then (some true) else (none))))) else (none)))))) else (none))))) else (none)))) = some r := H
   have A19 := X.A A190
   clear A190
   by_cases c20 : t366 < 0
   ·rw [if_pos c20] at H
    exact absurd H (by simp)
   ·rw [if_neg c20] at H
    have c20b0 : decide (t366 < 0) = false := decide_eq_false c20
    clear c20
    replace H := Option.bind_eq_some_iff.mp H
    obtain ⟨t368, A210, H⟩ := H
    replace H : (if t368 = true then ((laws_markVoyageS.f k t357 1).bind fun bt369 => ((laws_heldVoyageS.f k bt369.2 1).bind fun t371 => (if t371 < 0 then (none) else (if t371 = bt369.1 then ((laws_toIsles.f a0_0 a0_1 a0_2).bind fun bt372 => ((laws_toVoyageS.f k l1).bind fun t375 => ((impl_BackVoyages.f k bt372.1 bt372.2.1 bt372.2.2 t375).bind fun bt378 => ((laws_eqVoyageS.f k bt378.1 t347).bind fun t382 => (if t382 = true then (if (bt378.2 != t350) = true then (none) else ((laws_heldVoyageS.f k bt369.2 1).bind fun t383 => (if t383 < 0 then (none) else (if t383 = bt369.1 then (some true) else (none))))) else (none)))))) else (none))))) else (none)) = some r := H
    have A21 := X.A A210
    clear A210
    by_cases c22 : t368 = true
    rotate_left
    ·replace c22 := Bool.eq_false_iff.mpr c22
     subst c22
     have H1 : (none) = some r := by rw [if_neg (show ¬ (false = true) by decide)] at H; exact H
     clear H
     have H := H1
     clear H1
     exact absurd H (by simp)
    subst c22
    have H1 : ((laws_markVoyageS.f k t357 1).bind fun bt369 => ((laws_heldVoyageS.f k bt369.2 1).bind fun t371 => (if t371 < 0 then (none) else (if t371 = bt369.1 then ((laws_toIsles.f a0_0 a0_1 a0_2).bind fun bt372 => ((laws_toVoyageS.f k l1).bind fun t375 => ((impl_BackVoyages.f k bt372.1 bt372.2.1 bt372.2.2 t375).bind fun bt378 => ((laws_eqVoyageS.f k bt378.1 t347).bind fun t382 => (if t382 = true then (if (bt378.2 != t350) = true then (none) else ((laws_heldVoyageS.f k bt369.2 1).bind fun t383 => (if t383 < 0 then (none) else (if t383 = bt369.1 then (some true) else (none))))) else (none)))))) else (none))))) = some r := by rw [if_pos rfl] at H; exact H
    clear H
    have H := H1
    clear H1
    replace H := Option.bind_eq_some_iff.mp H
    obtain ⟨⟨t369, t370⟩, A230, H⟩ := H
    replace H : ((laws_heldVoyageS.f k t370 1).bind fun t371 => (if t371 < 0 then (none) else (if t371 = t369 then ((laws_toIsles.f a0_0 a0_1 a0_2).bind fun bt372 => ((laws_toVoyageS.f k l1).bind fun t375 => ((impl_BackVoyages.f k bt372.1 bt372.2.1 bt372.2.2 t375).bind fun bt378 => ((laws_eqVoyageS.f k bt378.1 t347).bind fun t382 => (if t382 = true then (if (bt378.2 != t350) = true then (none) else ((laws_heldVoyageS.f k t370 1).bind fun t383 => (if t383 < 0 then (none) else (if t383 = t369 then (some true) else (none))))) else (none)))))) else (none)))) = some r := H
    have A23 := X.A A230
    clear A230
    replace H := Option.bind_eq_some_iff.mp H
    obtain ⟨t371, A240, H⟩ := H
    replace H : (if t371 < 0 then (none) else (if t371 = t369 then ((laws_toIsles.f a0_0 a0_1 a0_2).bind fun bt372 => ((laws_toVoyageS.f k l1).bind fun t375 => ((impl_BackVoyages.f k bt372.1 bt372.2.1 bt372.2.2 t375).bind fun bt378 => ((laws_eqVoyageS.f k bt378.1 t347).bind fun t382 => (if t382 = true then (if (bt378.2 != t350) = true then (none) else ((laws_heldVoyageS.f k t370 1).bind fun t383 => (if t383 < 0 then (none) else (if t383 = t369 then (some true) else (none))))) else (none)))))) else (none))) = some r := H
    have A24 := X.A A240
    clear A240
    by_cases c25 : t371 < 0
    ·rw [if_pos c25] at H
     exact absurd H (by simp)
    ·rw [if_neg c25] at H
     have c25b0 : decide (t371 < 0) = false := decide_eq_false c25
     clear c25
     by_cases c26 : t371 = t369
     rotate_left
     ·rw [if_neg c26] at H
      exact absurd H (by simp)
     rw [if_pos c26] at H
     have c26b0 : (t371 == t369) = true := beq_iff_eq.mpr c26
     have c26b1 : (t371 != t369) = false := bne_eq_false_iff_eq.mpr c26
     clear c26
     replace H := Option.bind_eq_some_iff.mp H
     obtain ⟨⟨t372, t373, t374⟩, A270, H⟩ := H
     replace H : ((laws_toVoyageS.f k l1).bind fun t375 => ((impl_BackVoyages.f k t372 t373 t374 t375).bind fun bt378 => ((laws_eqVoyageS.f k bt378.1 t347).bind fun t382 => (if t382 = true then (if (bt378.2 != t350) = true then (none) else ((laws_heldVoyageS.f k t370 1).bind fun t383 => (if t383 < 0 then (none) else (if t383 = t369 then (some true) else (none))))) else (none))))) = some r := H
     have A27 := X.A A270
     clear A270
     replace H := Option.bind_eq_some_iff.mp H
     obtain ⟨t375, A280, H⟩ := H
     replace H : ((impl_BackVoyages.f k t372 t373 t374 t375).bind fun bt378 => ((laws_eqVoyageS.f k bt378.1 t347).bind fun t382 => (if t382 = true then (if (bt378.2 != t350) = true then (none) else ((laws_heldVoyageS.f k t370 1).bind fun t383 => (if t383 < 0 then (none) else (if t383 = t369 then (some true) else (none))))) else (none)))) = some r := H
     have A28 := X.A A280
     clear A280
     replace H := Option.bind_eq_some_iff.mp H
     obtain ⟨⟨t378, t381⟩, A290, H⟩ := H
     replace H : ((laws_eqVoyageS.f k t378 t347).bind fun t382 => (if t382 = true then (if (t381 != t350) = true then (none) else ((laws_heldVoyageS.f k t370 1).bind fun t383 => (if t383 < 0 then (none) else (if t383 = t369 then (some true) else (none))))) else (none))) = some r := H
     have A29 := X.A A290
     clear A290
     replace H := Option.bind_eq_some_iff.mp H
     obtain ⟨t382, A300, H⟩ := H
     replace H : (if t382 = true then (if (t381 != t350) = true then (none) else ((laws_heldVoyageS.f k t370 1).bind fun t383 => (if t383 < 0 then (none) else (if t383 = t369 then (some true) else (none))))) else (none)) = some r := H
     have A30 := X.A A300
     clear A300
     by_cases c31 : t382 = true
     rotate_left
     ·replace c31 := Bool.eq_false_iff.mpr c31
      subst c31
      have H1 : (none) = some r := by rw [if_neg (show ¬ (false = true) by decide)] at H; exact H
      clear H
      have H := H1
      clear H1
      exact absurd H (by simp)
     subst c31
     have H1 : (if (t381 != t350) = true then (none) else ((laws_heldVoyageS.f k t370 1).bind fun t383 => (if t383 < 0 then (none) else (if t383 = t369 then (some true) else (none))))) = some r := by rw [if_pos rfl] at H; exact H
     clear H
     have H := H1
     clear H1
     by_cases c32 : (t381 != t350) = true
     ·rw [if_pos c32] at H
      exact absurd H (by simp)
     ·rw [if_neg c32] at H
      have c32b0 : (t381 != t350) = false := by simpa using c32
      (try (have c32b1 : decide (t381 = t350) = true := by simpa using c32))
      (try (have c32b2 : (t381 == t350) = true := by simpa using c32))
      clear c32
      replace H := Option.bind_eq_some_iff.mp H
      obtain ⟨t383, A330, H⟩ := H
      replace H : (if t383 < 0 then (none) else (if t383 = t369 then (some true) else (none))) = some r := H
      have A33 := X.A A330
      clear A330
      by_cases c34 : t383 < 0
      ·rw [if_pos c34] at H
       exact absurd H (by simp)
      ·rw [if_neg c34] at H
       have c34b0 : decide (t383 < 0) = false := decide_eq_false c34
       clear c34
       by_cases c35 : t383 = t369
       rotate_left
       ·rw [if_neg c35] at H
        exact absurd H (by simp)
       rw [if_pos c35] at H
       have c35b0 : (t383 == t369) = true := beq_iff_eq.mpr c35
       have c35b1 : (t383 != t369) = false := bne_eq_false_iff_eq.mpr c35
       clear c35
       obtain rfl := Option.some.inj H
       go_enter Try.func3, Try.ntmps3
       go_wp2_with (first | ((with_reducible refine gate_dst (N := 2) rfl ?_); refine box_event ?hg (N := 2) ?hd (cs := #[.int .i64 a0_0, .int .i64 a0_1, .int .i64 a0_2]) (t := 23) ?hr ?_; (case hd => rfl); (case hg => rfl); (case hr => exact X.R); intro gb339 hg w36 hbox hb; have n0_ := X.A (below_step X.G hb); have n1_ := X.A (hbox); have n2_ := X.A ((by rw [hg]; exact (below_size X.G) : w.heap.size ≤ gb339)); have n3_ := X.A ((by rw [hg]; exact (below_size X.G) : w.heap.size ≤ gb339)); clear HB; have HB := n0_; have BK339 := n1_; have GW339 := n2_; have GE339 := n3_; clear n0_ n1_ n2_ n3_; clear hb hbox hg) | ((with_reducible refine gate_callee (f := 4) rfl ?_); refine goesL_ (some 18) rfl rfl Try.func4 (by kernel_rfl) rfl #[.slice A1 l1.length c1, .int .i64 1048576] rfl X.M ?_; (with_reducible refine (laws_szVoyageS.calls k _ _ l1 1048576 t340 _ ?side1 ?side2 A3.out).mono ?_); (case side1 => exact X.C (Kd.C_below HR1.out HB.out)); (case side2 => exact HC1.out); rintro e w37 ⟨rfl, hb⟩; refine ⟨_, rfl, ?_⟩; have n0_ := X.A (X.BB BK339 hb); have n1_ := X.A (below_step X.G hb); clear BK339 HB; have BK339 := n0_; have HB := n1_; clear n0_ n1_; (try clear hb); (try clear hb2); (try clear hk); (try clear hi); have hcz38_0 : w37.cell? ⟨gb339, 0, none⟩ = some (.int .i64 a0_0) := (blk_cell BK339.out 0).trans rfl; have hcz38_1 : w37.cell? ⟨gb339, 1, none⟩ = some (.int .i64 a0_1) := (blk_cell BK339.out 1).trans rfl; have hcz38_2 : w37.cell? ⟨gb339, 2, none⟩ = some (.int .i64 a0_2) := (blk_cell BK339.out 2).trans rfl; have hfz38_0 := blk_frozen BK339.out 0; have hfz38_1 := blk_frozen BK339.out 1; have hfz38_2 := blk_frozen BK339.out 2) | ((with_reducible refine gate_callee (f := 6) rfl ?_); refine goesL_ (some 23) rfl rfl Try.func6 (by kernel_rfl) rfl #[.agg #[.int .i64 a0_0, .int .i64 a0_1, .int .i64 a0_2]] rfl X.M ?_; (with_reducible refine (laws_toIsles.calls a0_0 a0_1 a0_2 t341 t342 t343 _ A7.out).mono ?_); rintro e w39 ⟨rfl, hb⟩; refine ⟨_, rfl, ?_⟩; have n0_ := X.A (X.BB BK339 hb); have n1_ := X.A (below_step X.G hb); clear BK339 HB; have BK339 := n0_; have HB := n1_; clear n0_ n1_; (try clear hb); (try clear hb2); (try clear hk); (try clear hi)) | ((with_reducible refine gate_callee (f := 7) rfl ?_); refine goesL_ (some 25) rfl rfl Try.func7 (by kernel_rfl) rfl #[.slice A1 l1.length c1] rfl X.M ?_; (with_reducible refine (laws_toVoyageS.calls k _ _ l1 t344 _ ?side1 ?side2 A8.out).mono ?_); (case side1 => exact X.C (Kd.C_below HR1.out HB.out)); (case side2 => exact HC1.out); rintro e w40 ⟨v345, rfl, ho0, hb⟩; refine ⟨_, rfl, ?_⟩; have n0_ := X.A (Kd.S_lower (X.S_gtb (X.BL BK339) ho0) (below_size X.G)); have n1_ := X.A (X.BB BK339 hb); have n2_ := X.A (below_step X.G hb); clear BK339 HB; have HO346 := n0_; have BK339 := n1_; have HB := n2_; clear n0_ n1_ n2_; (try clear hb); (try clear hb2); (try clear hk); (try clear hi); (try clear ho0); obtain ⟨Ao41, co41, eo41⟩ := Kd.S_slice HO346.out; subst eo41) | ((with_reducible refine gate_callee (f := 5) rfl ?_); refine goesL_ (some 26) rfl rfl Try.func5 (by kernel_rfl) rfl #[.agg #[.int .i64 t341, .int .i64 t342, .int .i64 t343], .slice Ao41 t344.length co41] rfl X.M ?_; (with_reducible refine (spec_BackVoyages.calls k t341 t342 t343 _ _ t344 t347 t350 _ ?side1 ?side2 A9.out).mono ?_); (case side1 => exact X.C (Kd.S_reads' HO346.out).2.2); (case side2 => exact (Kd.S_reads' HO346.out).2.1); rintro e w42 ⟨v348, rfl, ho0, hb⟩; refine ⟨_, rfl, ?_⟩; obtain ⟨gb9348, hgb9348⟩ := X.nb_of hb; have n0_ := X.A (Kd.S_elder' ((X.S_ltb hgb9348 (X.L HO346))) (Kd.S_base ho0) hb); have n1_ := X.A (Kd.S_lower (Kd.S_new' (X.S_geb hgb9348 (X.S_gtb (X.BL BK339) ho0)) (Kd.S_lt (X.L HO346))) (below_size X.G)); have n2_ := X.A (X.BB BK339 hb); have n3_ := X.A (below_step X.G hb); clear HO346 BK339 HB; have HO346 := n0_; have HO349 := n1_; have BK339 := n2_; have HB := n3_; clear n0_ n1_ n2_ n3_; (try clear hb); (try clear hb2); (try clear hk); (try clear hi); (try clear ho0)) | ((with_reducible refine gate_callee (f := 7) rfl ?_); refine goesL_ (some 30) rfl rfl Try.func7 (by kernel_rfl) rfl #[.slice A1 l1.length c1] rfl X.M ?_; (with_reducible refine (laws_toVoyageS.calls k _ _ l1 t351 _ ?side1 ?side2 A10.out).mono ?_); (case side1 => exact X.C (Kd.C_below HR1.out HB.out)); (case side2 => exact HC1.out); rintro e w43 ⟨v352, rfl, ho0, hb⟩; refine ⟨_, rfl, ?_⟩; obtain ⟨gb9352, hgb9352⟩ := X.nb_of hb; have n0_ := X.A (Kd.S_elder' ((X.S_ltb hgb9352 (X.L HO346))) (Kd.S_base ho0) hb); have n1_ := X.A (Kd.S_elder' ((X.S_ltb hgb9352 (X.L HO349))) (Kd.S_base ho0) hb); have n2_ := X.A (Kd.S_lower (Kd.S_new' (Kd.S_new' (X.S_geb hgb9352 (X.S_gtb (X.BL BK339) ho0)) (Kd.S_lt (X.L HO346))) (Kd.S_lt (X.L HO349))) (below_size X.G)); have n3_ := X.A (X.BB BK339 hb); have n4_ := X.A (below_step X.G hb); clear HO346 HO349 BK339 HB; have HO346 := n0_; have HO349 := n1_; have HO353 := n2_; have BK339 := n3_; have HB := n4_; clear n0_ n1_ n2_ n3_ n4_; (try clear hb); (try clear hb2); (try clear hk); (try clear hi); (try clear ho0); have hcz44_0 : w43.cell? ⟨gb339, 0, none⟩ = some (.int .i64 a0_0) := (blk_cell BK339.out 0).trans rfl; have hcz44_1 : w43.cell? ⟨gb339, 1, none⟩ = some (.int .i64 a0_1) := (blk_cell BK339.out 1).trans rfl; have hcz44_2 : w43.cell? ⟨gb339, 2, none⟩ = some (.int .i64 a0_2) := (blk_cell BK339.out 2).trans rfl; have hfz44_0 := blk_frozen BK339.out 0; have hfz44_1 := blk_frozen BK339.out 1; have hfz44_2 := blk_frozen BK339.out 2) | ((with_reducible refine gate_callee (f := 6) rfl ?_); refine goesL_ (some 33) rfl rfl Try.func6 (by kernel_rfl) rfl #[.agg #[.int .i64 a0_0, .int .i64 a0_1, .int .i64 a0_2]] rfl X.M ?_; (with_reducible refine (laws_toIsles.calls a0_0 a0_1 a0_2 t354 t355 t356 _ A11.out).mono ?_); rintro e w45 ⟨rfl, hb⟩; refine ⟨_, rfl, ?_⟩; have n0_ := X.A (Kd.S_below (X.L HO346) hb); have n1_ := X.A (Kd.S_below (X.L HO349) hb); have n2_ := X.A (Kd.S_below (X.L HO353) hb); have n3_ := X.A (X.BB BK339 hb); have n4_ := X.A (below_step X.G hb); clear HO346 HO349 HO353 BK339 HB; have HO346 := n0_; have HO349 := n1_; have HO353 := n2_; have BK339 := n3_; have HB := n4_; clear n0_ n1_ n2_ n3_ n4_; (try clear hb); (try clear hb2); (try clear hk); (try clear hi); obtain ⟨Ao46, co46, eo46⟩ := Kd.S_slice HO353.out; subst eo46) | ((with_reducible refine gate_callee (f := 8) rfl ?_); refine goesL_ (some 35) rfl rfl Try.func8 (by kernel_rfl) rfl #[.agg #[.int .i64 t354, .int .i64 t355, .int .i64 t356], .slice Ao46 t351.length co46] rfl X.M ?_; (with_reducible refine (impl_BackVoyages.calls k t354 t355 t356 _ _ t351 t357 t360 _ ?side1 ?side2 A12.out).mono ?_); (case side1 => exact X.C (Kd.S_reads' HO353.out).2.2); (case side2 => exact (Kd.S_reads' HO353.out).2.1); rintro e w47 ⟨v358, rfl, ho0, hb⟩; refine ⟨_, rfl, ?_⟩; obtain ⟨gb9358, hgb9358⟩ := X.nb_of hb; have n0_ := X.A (Kd.S_elder' ((X.S_ltb hgb9358 (X.L HO346))) (Kd.S_base ho0) hb); have n1_ := X.A (Kd.S_elder' ((X.S_ltb hgb9358 (X.L HO349))) (Kd.S_base ho0) hb); have n2_ := X.A (Kd.S_elder' ((X.S_ltb hgb9358 (X.L HO353))) (Kd.S_base ho0) hb); have n3_ := X.A (Kd.S_lower (Kd.S_new' (Kd.S_new' (Kd.S_new' (X.S_geb hgb9358 (X.S_gtb (X.BL BK339) ho0)) (Kd.S_lt (X.L HO346))) (Kd.S_lt (X.L HO349))) (Kd.S_lt (X.L HO353))) (below_size X.G)); have n4_ := X.A (X.BB BK339 hb); have n5_ := X.A (below_step X.G hb); clear HO346 HO349 HO353 BK339 HB; have HO346 := n0_; have HO349 := n1_; have HO353 := n2_; have HO359 := n3_; have BK339 := n4_; have HB := n5_; clear n0_ n1_ n2_ n3_ n4_ n5_; (try clear hb); (try clear hb2); (try clear hk); (try clear hi); (try clear ho0); obtain ⟨Ao48, co48, eo48⟩ := Kd.S_slice HO359.out; subst eo48; obtain ⟨Ao49, co49, eo49⟩ := Kd.S_slice HO349.out; subst eo49) | ((with_reducible refine gate_callee (f := 9) rfl ?_); refine goesL_ (some 40) rfl rfl Try.func9 (by kernel_rfl) rfl #[.slice Ao48 t357.length co48, .slice Ao49 t347.length co49] rfl X.M ?_; (with_reducible refine (laws_eqVoyageS.calls k _ _ t357 _ _ t347 true _ ?side1 ?side2 ?side3 ?side4 A13.out).mono ?_); (case side1 => exact X.C (Kd.S_reads' HO359.out).2.2); (case side2 => exact (Kd.S_reads' HO359.out).2.1); (case side3 => exact X.C (Kd.S_reads' HO349.out).2.2); (case side4 => exact (Kd.S_reads' HO349.out).2.1); rintro e w50 ⟨rfl, hb⟩; refine ⟨_, rfl, ?_⟩; have n0_ := X.A (Kd.S_below (X.L HO346) hb); have n1_ := X.A (Kd.S_below (X.L HO349) hb); have n2_ := X.A (Kd.S_below (X.L HO353) hb); have n3_ := X.A (Kd.S_below (X.L HO359) hb); have n4_ := X.A (X.BB BK339 hb); have n5_ := X.A (below_step X.G hb); clear HO346 HO349 HO353 HO359 BK339 HB; have HO346 := n0_; have HO349 := n1_; have HO353 := n2_; have HO359 := n3_; have BK339 := n4_; have HB := n5_; clear n0_ n1_ n2_ n3_ n4_ n5_; (try clear hb); (try clear hb2); (try clear hk); (try clear hi)) | ((with_reducible refine gate_callee (f := 7) rfl ?_); refine goesL_ (some 49) rfl rfl Try.func7 (by kernel_rfl) rfl #[.slice A1 l1.length c1] rfl X.M ?_; (with_reducible refine (laws_toVoyageS.calls k _ _ l1 t362 _ ?side1 ?side2 A16.out).mono ?_); (case side1 => exact X.C (Kd.C_below HR1.out HB.out)); (case side2 => exact HC1.out); rintro e w51 ⟨v363, rfl, ho0, hb⟩; refine ⟨_, rfl, ?_⟩; obtain ⟨gb9363, hgb9363⟩ := X.nb_of hb; have n0_ := X.A (Kd.S_elder' ((X.S_ltb hgb9363 (X.L HO346))) (Kd.S_base ho0) hb); have n1_ := X.A (Kd.S_elder' ((X.S_ltb hgb9363 (X.L HO349))) (Kd.S_base ho0) hb); have n2_ := X.A (Kd.S_elder' ((X.S_ltb hgb9363 (X.L HO353))) (Kd.S_base ho0) hb); have n3_ := X.A (Kd.S_elder' ((X.S_ltb hgb9363 (X.L HO359))) (Kd.S_base ho0) hb); have n4_ := X.A (Kd.S_lower (Kd.S_new' (Kd.S_new' (Kd.S_new' (Kd.S_new' (X.S_geb hgb9363 (X.S_gtb (X.BL BK339) ho0)) (Kd.S_lt (X.L HO346))) (Kd.S_lt (X.L HO349))) (Kd.S_lt (X.L HO353))) (Kd.S_lt (X.L HO359))) (below_size X.G)); have n5_ := X.A (X.BB BK339 hb); have n6_ := X.A (below_step X.G hb); clear HO346 HO349 HO353 HO359 BK339 HB; have HO346 := n0_; have HO349 := n1_; have HO353 := n2_; have HO359 := n3_; have HO364 := n4_; have BK339 := n5_; have HB := n6_; clear n0_ n1_ n2_ n3_ n4_ n5_ n6_; (try clear hb); (try clear hb2); (try clear hk); (try clear hi); (try clear ho0); obtain ⟨Ao52, co52, eo52⟩ := Kd.S_slice HO364.out; subst eo52) | ((with_reducible refine gate_callee (f := 9) rfl ?_); refine goesL_ (some 50) rfl rfl Try.func9 (by kernel_rfl) rfl #[.slice Ao46 t351.length co46, .slice Ao52 t362.length co52] rfl X.M ?_; (with_reducible refine (laws_eqVoyageS.calls k _ _ t351 _ _ t362 true _ ?side1 ?side2 ?side3 ?side4 A17.out).mono ?_); (case side1 => exact X.C (Kd.S_reads' HO353.out).2.2); (case side2 => exact (Kd.S_reads' HO353.out).2.1); (case side3 => exact X.C (Kd.S_reads' HO364.out).2.2); (case side4 => exact (Kd.S_reads' HO364.out).2.1); rintro e w53 ⟨rfl, hb⟩; refine ⟨_, rfl, ?_⟩; have n0_ := X.A (Kd.S_below (X.L HO346) hb); have n1_ := X.A (Kd.S_below (X.L HO349) hb); have n2_ := X.A (Kd.S_below (X.L HO353) hb); have n3_ := X.A (Kd.S_below (X.L HO359) hb); have n4_ := X.A (Kd.S_below (X.L HO364) hb); have n5_ := X.A (X.BB BK339 hb); have n6_ := X.A (below_step X.G hb); clear HO346 HO349 HO353 HO359 HO364 BK339 HB; have HO346 := n0_; have HO349 := n1_; have HO353 := n2_; have HO359 := n3_; have HO364 := n4_; have BK339 := n5_; have HB := n6_; clear n0_ n1_ n2_ n3_ n4_ n5_ n6_; (try clear hb); (try clear hb2); (try clear hk); (try clear hi); obtain ⟨PPHO353, hpp_, hpq_⟩ := X.S_given HO353.out; clear HO353; have HO353 := X.A hpp_; have PQHO353 := X.A hpq_; clear hpp_ hpq_; have NPHO353_339 := X.A (X.box_sepE BK339.out (fun k_ hp_ => (PQHO353.out k_ hp_).2.2.2) (by decide)); have n_ := X.A (X.S_sep HO346.out (fun k_ h_ hp_ => Nat.not_le.2 h_.1.1.1.1.1.2 (PQHO353.out k_ hp_).1.1.1.1.1.1.1.2)); clear HO346; have HO346 := n_; clear n_; have n_ := X.A (X.S_sep HO349.out (fun k_ h_ hp_ => Nat.not_le.2 h_.1.1.1.1.1.2 (PQHO353.out k_ hp_).1.1.1.1.1.1.1.2)); clear HO349; have HO349 := n_; clear n_; have n_ := X.A (X.S_sep HO359.out (fun k_ h_ hp_ => Nat.not_le.2 (PQHO353.out k_ hp_).1.1.1.1.2 h_.1.1.1.1.1.2)); clear HO359; have HO359 := n_; clear n_; have n_ := X.A (X.S_sep HO364.out (fun k_ h_ hp_ => Nat.not_le.2 (PQHO353.out k_ hp_).1.1.2 h_.1.1.1.1.2)); clear HO364; have HO364 := n_; clear n_) | ((with_reducible refine gate_callee (f := 10) rfl ?_); refine goesL_ (some 54) rfl rfl Try.func10 (by kernel_rfl) rfl #[.slice Ao46 t351.length co46, .int .i64 1] rfl X.M ?_; (with_reducible refine (laws_markVoyageS.calls k PPHO353 (.slice Ao46 t351.length co46) t351 1 t366 t367 w _ ?side1 ?side2 A19.out).mono ?_); (case side1 => repeat (first | (with_reducible first | exact HB.out | apply below_alloc | apply pw_below_drewN | apply below_drew1 | refine below_set ?_ GE339.out) | exact HB.out)); (case side2 => exact HO353.out); rintro e w54 ⟨rfl, hy0, hb, hkp⟩; refine ⟨_, rfl, ?_⟩; have n0_ := X.A (blk_kept (X.B BK339) hkp (fun hs_ => (fun e_ => NPHO353_339.out e_) hs_)); have n1_ := X.A (Kd.S_mono (ok' := fun k_ => some k_ ≠ (.slice Ao49 t347.length co49 : Value).ownBlock ∧ some k_ ≠ (.slice Ao46 t351.length co46 : Value).ownBlock ∧ some k_ ≠ (.slice Ao48 t357.length co48 : Value).ownBlock ∧ some k_ ≠ (.slice Ao52 t362.length co52 : Value).ownBlock ∧ gb339 < k_ ∧ k_ < gb9348 ∧ k_ < gb9352 ∧ k_ < gb9358 ∧ k_ < gb9363) (Kd.S_keptB (HO346.out) hkp (fun k_ hk_ hs_ => (hk_.2) hs_)) (fun k_ hk_ => ⟨hk_.1.1.1.1.1.1.1.1.2, hk_.1.1.1.1.1.1.2, hk_.1.1.1.1.2, hk_.1.1.2, hk_.1.1.1.1.1.1.1.1.1.1.2, hk_.1.1.1.1.1.1.1.1.1.2, hk_.1.1.1.1.1.1.1.2, hk_.1.1.1.1.1.2, hk_.1.1.1.2⟩)); have n2_ := X.A (Kd.S_mono (ok' := fun k_ => some k_ ≠ (.slice Ao41 t344.length co41 : Value).ownBlock ∧ some k_ ≠ (.slice Ao46 t351.length co46 : Value).ownBlock ∧ some k_ ≠ (.slice Ao48 t357.length co48 : Value).ownBlock ∧ some k_ ≠ (.slice Ao52 t362.length co52 : Value).ownBlock ∧ gb339 < k_ ∧ gb9348 ≤ k_ ∧ k_ < gb9352 ∧ k_ < gb9358 ∧ k_ < gb9363) (Kd.S_keptB (HO349.out) hkp (fun k_ hk_ hs_ => (hk_.2) hs_)) (fun k_ hk_ => ⟨hk_.1.1.1.1.1.1.1.1.2, hk_.1.1.1.1.1.1.2, hk_.1.1.1.1.2, hk_.1.1.2, hk_.1.1.1.1.1.1.1.1.1.1.2, hk_.1.1.1.1.1.1.1.1.1.2, hk_.1.1.1.1.1.1.1.2, hk_.1.1.1.1.1.2, hk_.1.1.1.2⟩)); have n3_ := X.A (Kd.S_mono hy0 (fun k_ h_ => (PQHO353.out k_ h_).1)); have n4_ := X.A (Kd.S_mono (ok' := fun k_ => some k_ ≠ (.slice Ao41 t344.length co41 : Value).ownBlock ∧ some k_ ≠ (.slice Ao49 t347.length co49 : Value).ownBlock ∧ some k_ ≠ (.slice Ao46 t351.length co46 : Value).ownBlock ∧ some k_ ≠ (.slice Ao52 t362.length co52 : Value).ownBlock ∧ gb339 < k_ ∧ gb9358 ≤ k_ ∧ k_ < gb9363) (Kd.S_keptB (HO359.out) hkp (fun k_ hk_ hs_ => (hk_.2) hs_)) (fun k_ hk_ => ⟨hk_.1.1.1.1.1.1.2, hk_.1.1.1.1.1.2, hk_.1.1.1.1.2, hk_.1.1.2, hk_.1.1.1.1.1.1.1.1.2, hk_.1.1.1.1.1.1.1.2, hk_.1.1.1.2⟩)); have n5_ := X.A (Kd.S_mono (ok' := fun k_ => some k_ ≠ (.slice Ao41 t344.length co41 : Value).ownBlock ∧ some k_ ≠ (.slice Ao49 t347.length co49 : Value).ownBlock ∧ some k_ ≠ (.slice Ao46 t351.length co46 : Value).ownBlock ∧ some k_ ≠ (.slice Ao48 t357.length co48 : Value).ownBlock ∧ gb339 < k_ ∧ gb9363 ≤ k_) (Kd.S_keptB (HO364.out) hkp (fun k_ hk_ hs_ => (hk_.2) hs_)) (fun k_ hk_ => ⟨hk_.1.1.1.1.1.2, hk_.1.1.1.1.2, hk_.1.1.1.2, hk_.1.1.2, hk_.1.1.1.1.1.1.1.2, hk_.1.1.1.1.1.1.2⟩)); have n6_ := X.A (hb); clear BK339 HO346 HO349 HO353 HO359 HO364 HB; have BK339 := n0_; have HO346 := n1_; have HO349 := n2_; have HO353 := n3_; have HO359 := n4_; have HO364 := n5_; have HB := n6_; clear n0_ n1_ n2_ n3_ n4_ n5_ n6_; (try clear hb); (try clear hkp); (try clear hy0)) | (go_at_call 9; (with_reducible refine (laws_eqVoyageS.calls k _ _ t357 _ _ t347 true _ ?side1 ?side2 ?side3 ?side4 A21.out).mono ?_); (case side1 => exact X.C (Kd.S_reads' HO359.out).2.2); (case side2 => exact (Kd.S_reads' HO359.out).2.1); (case side3 => exact X.C (Kd.S_reads' HO349.out).2.2); (case side4 => exact (Kd.S_reads' HO349.out).2.1); rintro e w55 ⟨rfl, hb⟩; have n0_ := X.A (Kd.S_below (X.L HO346) hb); have n1_ := X.A (Kd.S_below (X.L HO349) hb); have n2_ := X.A (Kd.S_below (X.L HO353) hb); have n3_ := X.A (Kd.S_below (X.L HO359) hb); have n4_ := X.A (Kd.S_below (X.L HO364) hb); have n5_ := X.A (X.BB BK339 hb); have n6_ := X.A (below_step X.G hb); clear HO346 HO349 HO353 HO359 HO364 BK339 HB; have HO346 := n0_; have HO349 := n1_; have HO353 := n2_; have HO359 := n3_; have HO364 := n4_; have BK339 := n5_; have HB := n6_; clear n0_ n1_ n2_ n3_ n4_ n5_ n6_; (try clear hb); (try clear hb2); (try clear hk); (try clear hi); obtain ⟨PPHO359, hpp_, hpq_⟩ := X.S_given HO359.out; clear HO359; have HO359 := X.A hpp_; have PQHO359 := X.A hpq_; clear hpp_ hpq_; have NPHO359_339 := X.A (X.box_sepE BK339.out (fun k_ hp_ => (PQHO359.out k_ hp_).2.2.2) (by decide)); have n_ := X.A (X.S_sep HO346.out (fun k_ h_ hp_ => Nat.not_le.2 h_.2.2.2.2.2.2.2.1 (PQHO359.out k_ hp_).1.2.2.2.2.2.1)); clear HO346; have HO346 := n_; clear n_; have n_ := X.A (X.S_sep HO349.out (fun k_ h_ hp_ => Nat.not_le.2 h_.2.2.2.2.2.2.2.1 (PQHO359.out k_ hp_).1.2.2.2.2.2.1)); clear HO349; have HO349 := n_; clear n_; have n_ := X.A (X.S_sep HO353.out (fun k_ h_ hp_ => Nat.not_le.2 h_.1.1.1.2 (PQHO359.out k_ hp_).1.2.2.2.2.2.1)); clear HO353; have HO353 := n_; clear n_; have n_ := X.A (X.S_sep HO364.out (fun k_ h_ hp_ => Nat.not_le.2 (PQHO359.out k_ hp_).1.2.2.2.2.2.2 h_.2.2.2.2.2)); clear HO364; have HO364 := n_; clear n_) | ((with_reducible refine gate_callee (f := 10) rfl ?_); refine goesL_ (some 70) rfl rfl Try.func10 (by kernel_rfl) rfl #[.slice Ao48 t357.length co48, .int .i64 1] rfl X.M ?_; (with_reducible refine (laws_markVoyageS.calls k PPHO359 (.slice Ao48 t357.length co48) t357 1 t369 t370 w _ ?side1 ?side2 A23.out).mono ?_); (case side1 => repeat (first | (with_reducible first | exact HB.out | apply below_alloc | apply pw_below_drewN | apply below_drew1 | refine below_set ?_ GE339.out) | exact HB.out)); (case side2 => exact HO359.out); rintro e w56 ⟨rfl, hy0, hb, hkp⟩; refine ⟨_, rfl, ?_⟩; have n0_ := X.A (blk_kept (X.B BK339) hkp (fun hs_ => (fun e_ => NPHO359_339.out e_) hs_)); have n1_ := X.A (Kd.S_mono (ok' := fun k_ => some k_ ≠ (.slice Ao49 t347.length co49 : Value).ownBlock ∧ some k_ ≠ (.slice Ao46 t351.length co46 : Value).ownBlock ∧ some k_ ≠ (.slice Ao48 t357.length co48 : Value).ownBlock ∧ some k_ ≠ (.slice Ao52 t362.length co52 : Value).ownBlock ∧ gb339 < k_ ∧ k_ < gb9348 ∧ k_ < gb9352 ∧ k_ < gb9358 ∧ k_ < gb9363) (Kd.S_keptB (HO346.out) hkp (fun k_ hk_ hs_ => (hk_.2) hs_)) (fun k_ hk_ => ⟨hk_.1.1.1, hk_.1.1.2.1, hk_.1.1.2.2.1, hk_.1.1.2.2.2.1, hk_.1.1.2.2.2.2.1, hk_.1.1.2.2.2.2.2.1, hk_.1.1.2.2.2.2.2.2.1, hk_.1.1.2.2.2.2.2.2.2.1, hk_.1.1.2.2.2.2.2.2.2.2⟩)); have n2_ := X.A (Kd.S_mono (ok' := fun k_ => some k_ ≠ (.slice Ao41 t344.length co41 : Value).ownBlock ∧ some k_ ≠ (.slice Ao46 t351.length co46 : Value).ownBlock ∧ some k_ ≠ (.slice Ao48 t357.length co48 : Value).ownBlock ∧ some k_ ≠ (.slice Ao52 t362.length co52 : Value).ownBlock ∧ gb339 < k_ ∧ gb9348 ≤ k_ ∧ k_ < gb9352 ∧ k_ < gb9358 ∧ k_ < gb9363) (Kd.S_keptB (HO349.out) hkp (fun k_ hk_ hs_ => (hk_.2) hs_)) (fun k_ hk_ => ⟨hk_.1.1.1, hk_.1.1.2.1, hk_.1.1.2.2.1, hk_.1.1.2.2.2.1, hk_.1.1.2.2.2.2.1, hk_.1.1.2.2.2.2.2.1, hk_.1.1.2.2.2.2.2.2.1, hk_.1.1.2.2.2.2.2.2.2.1, hk_.1.1.2.2.2.2.2.2.2.2⟩)); have n3_ := X.A (Kd.S_mono (ok' := fun k_ => some k_ ≠ (.slice Ao41 t344.length co41 : Value).ownBlock ∧ some k_ ≠ (.slice Ao49 t347.length co49 : Value).ownBlock ∧ some k_ ≠ (.slice Ao48 t357.length co48 : Value).ownBlock ∧ some k_ ≠ (.slice Ao52 t362.length co52 : Value).ownBlock ∧ gb339 < k_ ∧ gb9352 ≤ k_ ∧ k_ < gb9358 ∧ k_ < gb9363) (Kd.S_keptB (HO353.out) hkp (fun k_ hk_ hs_ => (hk_.2) hs_)) (fun k_ hk_ => ⟨hk_.1.1.1.1.1.1.1.2, hk_.1.1.1.1.1.1.2, hk_.1.1.1.1.2, hk_.1.1.2, hk_.1.1.1.1.1.1.1.1.1.2, hk_.1.1.1.1.1.1.1.1.2, hk_.1.1.1.1.1.2, hk_.1.1.1.2⟩)); have n4_ := X.A (Kd.S_mono hy0 (fun k_ h_ => (PQHO359.out k_ h_).1)); have n5_ := X.A (Kd.S_mono (ok' := fun k_ => some k_ ≠ (.slice Ao41 t344.length co41 : Value).ownBlock ∧ some k_ ≠ (.slice Ao49 t347.length co49 : Value).ownBlock ∧ some k_ ≠ (.slice Ao46 t351.length co46 : Value).ownBlock ∧ some k_ ≠ (.slice Ao48 t357.length co48 : Value).ownBlock ∧ gb339 < k_ ∧ gb9363 ≤ k_) (Kd.S_keptB (HO364.out) hkp (fun k_ hk_ hs_ => (hk_.2) hs_)) (fun k_ hk_ => ⟨hk_.1.1.1, hk_.1.1.2.1, hk_.1.1.2.2.1, hk_.1.1.2.2.2.1, hk_.1.1.2.2.2.2.1, hk_.1.1.2.2.2.2.2⟩)); have n6_ := X.A (hb); clear BK339 HO346 HO349 HO353 HO359 HO364 HB; have BK339 := n0_; have HO346 := n1_; have HO349 := n2_; have HO353 := n3_; have HO359 := n4_; have HO364 := n5_; have HB := n6_; clear n0_ n1_ n2_ n3_ n4_ n5_ n6_; (try clear hb); (try clear hkp); (try clear hy0)) | ((with_reducible refine gate_callee (f := 11) rfl ?_); refine goesL_ (some 73) rfl rfl Try.func11 (by kernel_rfl) rfl #[.slice Ao48 t370.length co48, .int .i64 1] rfl (by (try simp only [List.map_toArray, List.map_cons, List.map_nil]); first | done | (rw [show t370.length = t357.length from (Kd.S_reads' HO359.out).1.symm] <;> rfl) | rfl | (simp only [List.length_drop, List.length_take]; rfl)) ?_; (with_reducible refine (laws_heldVoyageS.calls k _ _ t370 1 t371 _ ?side1 ?side2 A24.out).mono ?_); (case side1 => exact X.C (Kd.S_reads' HO359.out).2.2); (case side2 => rw [show t370.length = t357.length from (Kd.S_reads' HO359.out).1.symm]; exact (Kd.S_reads' HO359.out).2.1); rintro e w' ⟨rfl, ⟨nd, rfl⟩⟩; refine ⟨_, rfl, ?_⟩; have hcz57_0 : w56.cell? ⟨gb339, 0, none⟩ = some (.int .i64 a0_0) := (blk_cell BK339.out 0).trans rfl; have hcz57_1 : w56.cell? ⟨gb339, 1, none⟩ = some (.int .i64 a0_1) := (blk_cell BK339.out 1).trans rfl; have hcz57_2 : w56.cell? ⟨gb339, 2, none⟩ = some (.int .i64 a0_2) := (blk_cell BK339.out 2).trans rfl; have hfz57_0 := blk_frozen BK339.out 0; have hfz57_1 := blk_frozen BK339.out 1; have hfz57_2 := blk_frozen BK339.out 2) | ((with_reducible refine gate_callee (f := 6) rfl ?_); refine goesL_ (some 81) rfl rfl Try.func6 (by kernel_rfl) rfl #[.agg #[.int .i64 a0_0, .int .i64 a0_1, .int .i64 a0_2]] rfl X.M ?_; (with_reducible refine (laws_toIsles.calls a0_0 a0_1 a0_2 t372 t373 t374 _ A27.out).mono ?_); rintro e w58 ⟨rfl, hb⟩; refine ⟨_, rfl, ?_⟩; have n0_ := X.A (Kd.S_below (X.L HO346) hb); have n1_ := X.A (Kd.S_below (X.L HO349) hb); have n2_ := X.A (Kd.S_below (X.L HO353) hb); have n3_ := X.A (Kd.S_below (X.L HO359) hb); have n4_ := X.A (Kd.S_below (X.L HO364) hb); have n5_ := X.A (X.BB BK339 hb); have n6_ := X.A (below_step X.G hb); clear HO346 HO349 HO353 HO359 HO364 BK339 HB; have HO346 := n0_; have HO349 := n1_; have HO353 := n2_; have HO359 := n3_; have HO364 := n4_; have BK339 := n5_; have HB := n6_; clear n0_ n1_ n2_ n3_ n4_ n5_ n6_; (try clear hb); (try clear hb2); (try clear hk); (try clear hi)) | ((with_reducible refine gate_callee (f := 7) rfl ?_); refine goesL_ (some 83) rfl rfl Try.func7 (by kernel_rfl) rfl #[.slice A1 l1.length c1] rfl X.M ?_; (with_reducible refine (laws_toVoyageS.calls k _ _ l1 t375 _ ?side1 ?side2 A28.out).mono ?_); (case side1 => exact X.C (Kd.C_below HR1.out HB.out)); (case side2 => exact HC1.out); rintro e w59 ⟨v376, rfl, ho0, hb⟩; refine ⟨_, rfl, ?_⟩; obtain ⟨gb9376, hgb9376⟩ := X.nb_of hb; have n0_ := X.A (Kd.S_elder' ((X.S_ltb hgb9376 (X.L HO346))) (Kd.S_base ho0) hb); have n1_ := X.A (Kd.S_elder' ((X.S_ltb hgb9376 (X.L HO349))) (Kd.S_base ho0) hb); have n2_ := X.A (Kd.S_elder' ((X.S_ltb hgb9376 (X.L HO353))) (Kd.S_base ho0) hb); have n3_ := X.A (Kd.S_elder' ((X.S_ltb hgb9376 (X.L HO359))) (Kd.S_base ho0) hb); have n4_ := X.A (Kd.S_elder' ((X.S_ltb hgb9376 (X.L HO364))) (Kd.S_base ho0) hb); have n5_ := X.A (Kd.S_lower (Kd.S_new' (Kd.S_new' (Kd.S_new' (Kd.S_new' (Kd.S_new' (X.S_geb hgb9376 (X.S_gtb (X.BL BK339) ho0)) (Kd.S_lt (X.L HO346))) (Kd.S_lt (X.L HO349))) (Kd.S_lt (X.L HO353))) (Kd.S_lt (X.L HO359))) (Kd.S_lt (X.L HO364))) (below_size X.G)); have n6_ := X.A (X.BB BK339 hb); have n7_ := X.A (below_step X.G hb); clear HO346 HO349 HO353 HO359 HO364 BK339 HB; have HO346 := n0_; have HO349 := n1_; have HO353 := n2_; have HO359 := n3_; have HO364 := n4_; have HO377 := n5_; have BK339 := n6_; have HB := n7_; clear n0_ n1_ n2_ n3_ n4_ n5_ n6_ n7_; (try clear hb); (try clear hb2); (try clear hk); (try clear hi); (try clear ho0); obtain ⟨Ao60, co60, eo60⟩ := Kd.S_slice HO377.out; subst eo60) | ((with_reducible refine gate_callee (f := 8) rfl ?_); refine goesL_ (some 84) rfl rfl Try.func8 (by kernel_rfl) rfl #[.agg #[.int .i64 t372, .int .i64 t373, .int .i64 t374], .slice Ao60 t375.length co60] rfl X.M ?_; (with_reducible refine (impl_BackVoyages.calls k t372 t373 t374 _ _ t375 t378 t381 _ ?side1 ?side2 A29.out).mono ?_); (case side1 => exact X.C (Kd.S_reads' HO377.out).2.2); (case side2 => exact (Kd.S_reads' HO377.out).2.1); rintro e w61 ⟨v379, rfl, ho0, hb⟩; refine ⟨_, rfl, ?_⟩; obtain ⟨gb9379, hgb9379⟩ := X.nb_of hb; have n0_ := X.A (Kd.S_elder' ((X.S_ltb hgb9379 (X.L HO346))) (Kd.S_base ho0) hb); have n1_ := X.A (Kd.S_elder' ((X.S_ltb hgb9379 (X.L HO349))) (Kd.S_base ho0) hb); have n2_ := X.A (Kd.S_elder' ((X.S_ltb hgb9379 (X.L HO353))) (Kd.S_base ho0) hb); have n3_ := X.A (Kd.S_elder' ((X.S_ltb hgb9379 (X.L HO359))) (Kd.S_base ho0) hb); have n4_ := X.A (Kd.S_elder' ((X.S_ltb hgb9379 (X.L HO364))) (Kd.S_base ho0) hb); have n5_ := X.A (Kd.S_elder' ((X.S_ltb hgb9379 (X.L HO377))) (Kd.S_base ho0) hb); have n6_ := X.A (Kd.S_lower (Kd.S_new' (Kd.S_new' (Kd.S_new' (Kd.S_new' (Kd.S_new' (Kd.S_new' (X.S_geb hgb9379 (X.S_gtb (X.BL BK339) ho0)) (Kd.S_lt (X.L HO346))) (Kd.S_lt (X.L HO349))) (Kd.S_lt (X.L HO353))) (Kd.S_lt (X.L HO359))) (Kd.S_lt (X.L HO364))) (Kd.S_lt (X.L HO377))) (below_size X.G)); have n7_ := X.A (X.BB BK339 hb); have n8_ := X.A (below_step X.G hb); clear HO346 HO349 HO353 HO359 HO364 HO377 BK339 HB; have HO346 := n0_; have HO349 := n1_; have HO353 := n2_; have HO359 := n3_; have HO364 := n4_; have HO377 := n5_; have HO380 := n6_; have BK339 := n7_; have HB := n8_; clear n0_ n1_ n2_ n3_ n4_ n5_ n6_ n7_ n8_; (try clear hb); (try clear hb2); (try clear hk); (try clear hi); (try clear ho0); obtain ⟨Ao62, co62, eo62⟩ := Kd.S_slice HO380.out; subst eo62) | ((with_reducible refine gate_callee (f := 9) rfl ?_); refine goesL_ (some 89) rfl rfl Try.func9 (by kernel_rfl) rfl #[.slice Ao62 t378.length co62, .slice Ao49 t347.length co49] rfl X.M ?_; (with_reducible refine (laws_eqVoyageS.calls k _ _ t378 _ _ t347 true _ ?side1 ?side2 ?side3 ?side4 A30.out).mono ?_); (case side1 => exact X.C (Kd.S_reads' HO380.out).2.2); (case side2 => exact (Kd.S_reads' HO380.out).2.1); (case side3 => exact X.C (Kd.S_reads' HO349.out).2.2); (case side4 => exact (Kd.S_reads' HO349.out).2.1); rintro e w63 ⟨rfl, hb⟩; refine ⟨_, rfl, ?_⟩; have n0_ := X.A (Kd.S_below (X.L HO346) hb); have n1_ := X.A (Kd.S_below (X.L HO349) hb); have n2_ := X.A (Kd.S_below (X.L HO353) hb); have n3_ := X.A (Kd.S_below (X.L HO359) hb); have n4_ := X.A (Kd.S_below (X.L HO364) hb); have n5_ := X.A (Kd.S_below (X.L HO377) hb); have n6_ := X.A (Kd.S_below (X.L HO380) hb); have n7_ := X.A (X.BB BK339 hb); have n8_ := X.A (below_step X.G hb); clear HO346 HO349 HO353 HO359 HO364 HO377 HO380 BK339 HB; have HO346 := n0_; have HO349 := n1_; have HO353 := n2_; have HO359 := n3_; have HO364 := n4_; have HO377 := n5_; have HO380 := n6_; have BK339 := n7_; have HB := n8_; clear n0_ n1_ n2_ n3_ n4_ n5_ n6_ n7_ n8_; (try clear hb); (try clear hb2); (try clear hk); (try clear hi)) | ((with_reducible refine gate_callee (f := 11) rfl ?_); refine goesL_ (some 98) rfl rfl Try.func11 (by kernel_rfl) rfl #[.slice Ao48 t370.length co48, .int .i64 1] rfl (by (try simp only [List.map_toArray, List.map_cons, List.map_nil]); first | done | (rw [show t370.length = t357.length from (Kd.S_reads' HO359.out).1.symm] <;> rfl) | rfl | (simp only [List.length_drop, List.length_take]; rfl)) ?_; (with_reducible refine (laws_heldVoyageS.calls k _ _ t370 1 t383 _ ?side1 ?side2 A33.out).mono ?_); (case side1 => exact X.C (Kd.S_reads' HO359.out).2.2); (case side2 => rw [show t370.length = t357.length from (Kd.S_reads' HO359.out).1.symm]; exact (Kd.S_reads' HO359.out).2.1); rintro e w' ⟨rfl, ⟨nd, rfl⟩⟩; refine ⟨_, rfl, ?_⟩))
       go_ret
       exact ⟨by first | rfl | (simp [errW_none, errW_some] <;> rfl) | (simp [*, errW_none, errW_some] <;> rfl), X.G⟩
/-- THE ONE PURE STATEMENT of laws_FnExactBackVoyages. -/
def laws_FnExactBackVoyages.Pure : Prop := ∀ (a0_0 : Int) (a0_1 : Int) (a0_2 : Int) (l1 : List (S38)), (Lit.int .i64 a0_0).wf = true → (Lit.int .i64 a0_1).wf = true → (Lit.int .i64 a0_2).wf = true → (l1.length ≤ maxLen ∧ ∀ z ∈ l1, ((Lit.int .i64 z.f0).wf = true ∧ (z.f1.length ≤ maxLen ∧ ∀ zz ∈ z.f1, (Lit.int .i64 zz).wf = true))) → ∃ k, laws_FnExactBackVoyages.f k a0_0 a0_1 a0_2 l1 = some true

end Go.Proofs.Ytldeaeeolibpjag.Q
