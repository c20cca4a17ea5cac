-- by wip/xprint.py, a program of this session over the kit's print: not trusted, Lean checks it.
import Derived.Test.YtldeaeeolibpjagXShort
import Derived.Test.YtldeaeeolibpjagQx0
import Derived.Test.YtldeaeeolibpjagQx24
namespace Go.Proofs.Ytldeaeeolibpjag.Q
open Go.RowKit Go.Proofs.YtldeaeeolibpjagW.PrintWords Go.Proofs.YtldeaeeolibpjagW.PrintLast Go.Proofs.YtldeaeeolibpjagW.PrintMore
attribute [local go_sem] max2_int min2_int max_two min_two max_three min_three max_four min_four   -- for this text's walks alone
set_option linter.unusedVariables false
set_option linter.unusedSimpArgs false

/-! ### laws_markVoyageS: function 10 (by hand: MarkVoyages.lean) -/
def laws_markVoyageS.l0 : Nat → List S43 → Int → Int → Option (Int × List S43)
 | 0, _, _, _ => none
 | k + 1, x0, x1, x5 => if x5 < (x0.length : Int) then (if 0 ≤ x5 then ((laws_markIntS.f k (rd_T43 x0 x5).f1 (wrap64 (x1 + 1))).bind fun bt => laws_markVoyageS.l0 k (x0.set (x5 : Int).toNat ⟨x1, bt.2⟩) bt.1 (wrap64 (x5 + 1))) else none) else some (x1, x0)
def laws_markVoyageS.f (k : Nat) (l0 : List S43) (a1 : Int) : Option (Int × List S43) := laws_markVoyageS.l0 k l0 a1 0
theorem laws_markVoyageS.mono_l : ∀ k y0 y1 y2, LeO (laws_markVoyageS.l0 k y0 y1 y2) (laws_markVoyageS.l0 (k + 1) y0 y1 y2)
 | 0 => fun _ _ _ r h => by simp [laws_markVoyageS.l0] at h
 | k + 1 => by
  intro y0 y1 y2
  unfold laws_markVoyageS.l0
  refine LeO.ite (LeO.ite (LeO.bind (laws_markIntS.mono _ _ _) (fun _ => laws_markVoyageS.mono_l k _ _ _)) (LeO.refl _)) (LeO.refl _)
theorem laws_markVoyageS.mono : ∀ a0 a1 k, LeO (laws_markVoyageS.f k a0 a1) (laws_markVoyageS.f (k + 1) a0 a1) := fun a0 a1 k => laws_markVoyageS.mono_l k a0 a1 0
set_option maxHeartbeats 8000000 in
set_option maxRecDepth 100000 in
theorem laws_markVoyageS.calls (k : Nat) (P0_ : Nat → Prop) (u9000_ : Value) (l0 : List S43) (a1 : Int) (r1 : Int) (r2 : List S43) (w0 w : World) (hB : Below w0.heap.size w0 w) (ho0 : Kd.S k43 43 w w0.heap.size P0_ u9000_ l0) (h : laws_markVoyageS.f k l0 a1 = some (r1, r2)) :
  Calls Try.prog 10 #[u9000_, .int .i64 a1] w fun e w' => e = .returned (.int .i64 r1) ∧ Kd.S k43 43 w' w0.heap.size P0_ u9000_ r2 ∧ Below w0.heap.size w0 w' ∧ Kept w w' P0_ := by
 have HO0 := X.A ho0
 have HK := X.A (Kept.refl w P0_)
 have HB := X.A hB
 have hu := Try.underlying43
 clear hB ho0
 have H : laws_markVoyageS.l0 k l0 a1 0 = some (r1, r2) := h
 clear h
 have H' := X.A H
 clear H
 go_enter Try.func10, Try.ntmps10
 go_wp2
 go_loopg [1, 5] k (fun kq v1 v5 w' => ∃ (x0_1 : List S43) (x1_1 : Int) (x5_1 : Int), v1 = .int .i64 x1_1 ∧ v5 = .int .i64 x5_1 ∧ Aside0 (laws_markVoyageS.l0 kq x0_1 x1_1 x5_1 = some (r1, r2)) ∧ Aside0 (kq ≤ k) ∧ Aside0 (Kd.S k43 43 w' w0.heap.size P0_ u9000_ x0_1) ∧ Aside0 (Kept w w' P0_) ∧ Aside0 (Below w0.heap.size w0 w'))
 case atStart => exact ⟨l0, a1, 0, rfl, rfl, H', ⟨Nat.le_refl _⟩, HO0, HK, HB⟩
 case round =>
  clear H' HO0
  obtain ⟨x0_1, x1_1, x5_1, rfl, rfl, HA, HK1, HO_0, HK, HB⟩ := hrel
  cases gk with
  | zero => exact absurd HA.out (by simp [laws_markVoyageS.l0])
  | succ k1 =>
   have H := HA.out
   clear HA
   simp only [laws_markVoyageS.l0] at H
   by_cases c3 : x5_1 < (x0_1.length : Int)
   ·rw [if_pos c3] at H
    have c3b0 : decide (x5_1 < (x0_1.length : Int)) = true := decide_eq_true c3
    by_cases c4 : 0 ≤ x5_1
    rotate_left
    ·rw [if_neg c4] at H
     exact absurd H (by simp)
    rw [if_pos c4] at H
    obtain ⟨⟨r3, l3⟩, hm, H⟩ := Option.bind_eq_some_iff.1 H
    have c4b0 : decide (0 ≤ x5_1) = true := decide_eq_true c4
    have hc3 := c3
    have hc4 := c4
    have q5 : (x5_1 : Int) < ((x0_1.length : Int) : Int) := c3
    replace q5 := eq_true q5
    replace c4 := eq_true c4
    clear c3
    have H2 := X.A (show laws_markVoyageS.l0 k1 (x0_1.set (x5_1 : Int).toNat ⟨x1_1, l3⟩) r3 (wrap64 (x5_1 + 1)) = some (r1, r2) from H)
    have HM := X.A hm
    clear H hm
    obtain ⟨go5, co5, eo5, gb5, gl5, cl5, HG5⟩ := Kd.S_form HO_0.out (by omega)
    subst eo5
    have GB5 := X.A gb5
    have GG5 := X.A HG5
    clear gb5 gl5 HG5
    obtain ⟨oki, ce, hcl, hM, hcc, hfr, hoki, hH⟩ := Kd.S_elem HO_0.out z43 (x5_1 : Int) hc4 hc3
    obtain ⟨v1, rfl, ge⟩ := k43_openM hM
    have HP := Kd.H_seg hH hc4 hc3 (seg := [.int .i64 x1_1]) (j := 0) (by show 0 + 1 ≤ 2; omega) (by intro q hq; simp at hq; subst hq; rfl)
    have hx5_0 := hcc 0 _ rfl
    have hf5_0 := hfr 0
    have hf5_1 := hfr 1
    have hf5 := hfr ((x5_1 : Int).toNat * 2)
    have hf6 := hfr ((x5_1 : Int).toNat * 2 + 1)
    have hx5_1 := hcc 1 _ rfl
    simp only [show k43.sz = 2 from rfl, Nat.add_zero] at hx5_0 hx5_1 hf5 hf6 hf5_0 hf5_1
    have Hoki := X.A hoki
    have HP' := X.A HP
    have GE := X.A ge
    have HM5 := X.A ((Kd.S_R HO_0.out).1 go5 rfl)
    clear HP ge hoki hH hcl hM hcc hfr HO_0
    go_wp2_with (first | ((with_reducible refine gate_store (t := 3) (p := 16) rfl ?_); refine store_event (t := 3) (p := 16) (v := ?vo_w8) (w1 := (wr.setCell ⟨go5, (x5_1 : Int).toNat * 2, none⟩ (.int .i64 x1_1))) ?hg ?ho ?hn ?hr ?_; (case ho => rfl); (case hg => rfl); (case hn => rfl); (case hr => exact X.R); intro w8 hw; have hg : wr.grownBy w8 (some go5) := (by rw [hw]; exact HP'.out.2); have n1_ := X.A (by rw [hw]; exact HP'.out.1 : Kd.H k43 43 w8 w0.heap.size P0_ (.slice (some ⟨go5, 0, none⟩) x0_1.length co5) x0_1 x5_1 oki [.int .i64 x1_1, v1]); have n2_ := X.A (Kd.R_grown GE.out hg (fun k hk he => (Hoki.out k hk).2 (by injection he))); have n3_ := X.A ((by rw [hw]; exact below_set (HB.out) GB5.out : Below w0.heap.size w0 w8)); have n4_ := X.A (Kept.of_grown (S := P0_) hg HK.out (fun k_ e_ => .inl (by injection e_ with e_; rw [← e_]; exact HM5.out))); obtain ⟨hcc, hfr⟩ := Kd.H_at n1_.out hc4 hc3; clear HP' hx5_0 hx5_1 hf5_0 hf5_1 hf5 hf6 GE HB HK hg hw; have HP' := n1_; have GE := n2_; have HB := n3_; have HK := n4_; clear n1_ n2_ n3_ n4_; have hx5_1 := hcc 1 _ rfl; have hf6 := hfr 1; simp only [show k43.sz = 2 from rfl] at hx5_1 hf6; clear hcc hfr) | ((with_reducible refine gate_callee (f := 28) rfl ?_); refine goesL_ (some 25) rfl rfl Try.func28 (by kernel_rfl) rfl #[v1, .int .i64 (wrap64 (x1_1 + 1))] rfl (by (try simp only [List.map_toArray, List.map_cons, List.map_nil]); first | done | rfl) ?_; (refine (laws_markIntS.calls k1 oki v1 (rd_T43 x0_1 x5_1).f1 (wrap64 (x1_1 + 1)) r3 l3 w0 _ ?side1 ?side2 HM.out).mono ?_); (case side1 => exact HB.out); (case side2 => exact GE.out); rintro e w9 ⟨rfl, hy0, hb, hkp⟩; refine ⟨_, rfl, ?_⟩; have n1_ := X.A (Kd.H_kept HP'.out hkp (fun k _ hn h => hn h)); have n2_ := X.A (Kd.R_reok (ok := oki) rfl hy0 (fun k e_ => GE.out.1 k e_)); have n3_ := X.A hb; have n4_ := X.A (Kept.then_ (S := P0_) HK.out hkp (fun k hk => .inl (Hoki.out k hk).1)); clear HP' GE HB HK hb hkp hy0; have HP' := n1_; have GE := n2_; have HB := n3_; have HK := n4_; clear n1_ n2_ n3_ n4_))
    go_roundg k1
    case measure => have := HK1.out; omega
    case rel => exact ⟨x0_1.set (x5_1 : Int).toNat ⟨x1_1, l3⟩, r3, wrap64 (x5_1 + 1), rfl, (by first | rfl | (simp; done)), H2, ⟨by have := HK1.out; omega⟩, ⟨Kd.H_back HP'.out (x' := ⟨x1_1, l3⟩) (k43_mkM _ _ _ ⟨x1_1, l3⟩ GE.out) (fun _ h => h)⟩, ⟨HK.out⟩, ⟨HB.out⟩⟩
   ·rw [if_neg c3] at H
    have c3b0 : decide (x5_1 < (x0_1.length : Int)) = false := decide_eq_false c3
    clear c3
    simp only [Option.some.injEq, Prod.mk.injEq] at H
    obtain ⟨rfl, rfl⟩ := H
    obtain ⟨Ao9, co9, eo9⟩ := Kd.S_slice HO_0.out
    subst eo9
    go_wp2
    go_ret
    exact ⟨rfl, HO_0.out, HB.out, HK.out⟩

end Go.Proofs.Ytldeaeeolibpjag.Q
