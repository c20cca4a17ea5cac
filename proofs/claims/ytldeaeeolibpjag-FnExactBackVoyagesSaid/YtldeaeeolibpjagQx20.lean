-- by wip/xprint.py, a program of this session over the kit's print: not trusted, Lean checks it.
import Derived.Test.YtldeaeeolibpjagXShort
import Derived.Test.YtldeaeeolibpjagQx0
import Derived.Test.YtldeaeeolibpjagQx19
import Derived.Deep.RegionLaw
import Derived.IntWalk
import Derived.Laws.CopyOwn
namespace Go.Proofs.Ytldeaeeolibpjag.Q
open Go.RowKit Go.Proofs.YtldeaeeolibpjagW.PrintWords Go.Proofs.YtldeaeeolibpjagW.PrintLast Go.Proofs.YtldeaeeolibpjagW.PrintMore
attribute [local go_sem] max2_int min2_int max_two min_two max_three min_three max_four min_four   -- for this text's walks alone
set_option linter.unusedVariables false
set_option linter.unusedSimpArgs false

/-! ### slices_Repeat_int_int: function 40 (by hand: Repeat.lean) -/
-- IMPORT: Derived.Laws.CopyOwn
-- IMPORT: Derived.Deep.RegionLaw
-- IMPORT: Derived.IntWalk
-- INFO: 3
theorem slices_Repeat_int_int.mul_one (a : Int) (h0 : 0 ≤ a) (h1 : a ≤ 35184372088832) : bits_Mul.f 1 a = some (0, a) := by
 have w63 : ∀ n : Int, 0 ≤ n → n < 2 ^ 63 → IntKind.u64.wrap n = n := fun n h₀ h₁ => by rw [IntKind.wrap_u64]; omega
 have mk : ∀ x : Int, 0 ≤ x → x < 2 ^ 63 → Go.bits .and .u64 x 4294967295 = x % 4294967296 := fun x h₀ h₁ => bits_mask .u64 63 (by decide) w63 32 (by decide) x h₀ h₁
 unfold bits_Mul.f bits_Mul64.f
 simp only [Option.bind_some]
 rw [mk a h0 (by omega), mk 1 (by omega) (by omega)]
 have e1 : (1 : Int) / 4294967296 = 0 := by decide
 have e2 : (1 : Int) % 4294967296 = 1 := by decide
 rw [e1, e2]
 simp only [Int.zero_mul, Int.one_mul]
 rw [w63 0 (by omega) (by omega), w63 (a % 4294967296) (by omega) (by omega)]
 have e3 : a % 4294967296 / 4294967296 = 0 := by omega
 simp only [e3, Int.zero_add, Int.add_zero]
 rw [w63 0 (by omega) (by omega), mk 0 (by omega) (by omega)]
 have e4 : (0 : Int) / 4294967296 = 0 := by decide
 have e5 : (0 : Int) % 4294967296 = 0 := by decide
 have e6 : a / 4294967296 / 4294967296 = 0 := by omega
 simp only [e4, e5, Int.zero_add]
 rw [w63 (a / 4294967296) (by omega) (by omega), w63 (a / 4294967296) (by omega) (by omega), e6, w63 0 (by omega) (by omega), w63 a (by omega) (by omega), Int.add_zero, w63 0 (by omega) (by omega)]
def slices_Repeat_int_int.Inv (e : Nat) (W : World) (g m n : Nat) (x : Value) : Prop := ∃ C : List Value, W.heap[g]? = some (.cells C.toArray e (0, 0)) ∧ C.length = m ∧ ∀ j, j < n → C[j]? = some x
theorem slices_Repeat_int_int.Inv.put {e : Nat} {W : World} {g m n k : Nat} {x : Value} {C : List Value} (hC : C.length = m) (hn : ∀ j, j < n → C[j]? = some x) (hk : n + k ≤ m)
  (h : W.heap[g]? = some (.cells (splice C n (List.replicate k x)).toArray e (0, 0))) : slices_Repeat_int_int.Inv e W g m (n + k) x := by
 refine ⟨_, h, ?_, ?_⟩
 ·rw [length_splice _ _ _ (by simp; omega)]; exact hC
 ·intro j hj
  unfold splice
  rcases Nat.lt_or_ge j n with h1 | h1
  ·rw [List.getElem?_append_left (by simp; omega), List.getElem?_take_of_lt h1]; exact hn j h1
  ·rw [List.getElem?_append_right (by simp; omega), List.length_take, Nat.min_eq_left (by omega), List.getElem?_append_left (by simp; omega), List.getElem?_replicate, if_pos (by omega)]
theorem slices_Repeat_int_int.Inv.own {α : Type} {enc : α → Value} {h1 : ∀ x, (enc x).oneCell' = true} {e : Nat} {W : World} {g m n base : Nat} {x : α} (h : slices_Repeat_int_int.Inv e W g m n (enc x)) (hn : m ≤ n) (hb : base ≤ g) (hm : m ≤ maxLen) :
  Kd.R (Kd.scalar enc h1) e W base (fun _ => True) (.slice (some ⟨g, 0, none⟩) m m) (List.replicate m x) := by
 obtain ⟨C, hh, hl, hc⟩ := h
 have hC : C = encs enc (List.replicate m x) := by
  apply List.ext_getElem?
  intro j
  rcases Nat.lt_or_ge j m with h2 | h2
  ·rw [hc j (by omega)]; simp [encs, List.getElem?_replicate, h2]
  ·rw [List.getElem?_eq_none (by omega)]; simp [encs, List.getElem?_replicate]; omega
 refine Kd.R_of_own ?_ (fun _ _ => trivial)
 refine ⟨by simp [encs], .inr ⟨g, m, C.toArray, by simp, hb, hh, by simp, hm, by simp [hl], ?_⟩⟩
 simp only [List.length_replicate, Nat.mul_one]
 rw [List.take_of_length_le (by omega)]
 exact hC
theorem slices_Repeat_int_int.size : (Try.prog.info? 3).map (fun i => i.size) = some 1 := by kernel_rfl
def slices_Repeat_int_int.f (l0 : List Int) (a1 : Int) : Option (List Int) := if l0.length = 1 then (if 0 ≤ a1 then (if a1 ≤ 35184372088832 then some (List.replicate a1.toNat (l0.getD 0 0)) else none) else none) else none
set_option maxHeartbeats 400000 in
set_option maxRecDepth 100000 in
theorem slices_Repeat_int_int.calls (A0 : Option Addr) (c0 : Nat) (l0 : List Int) (a1 : Int) (r : List Int) (w : World) (hr0 : Kd.C (Kd.int .i64) w A0 l0.length l0) (hc0 : l0.length ≤ c0) (h : slices_Repeat_int_int.f l0 a1 = some r) :
  Calls Try.prog 40 #[.slice A0 l0.length c0, .int .i64 a1] w fun e w' => ∃ v0_ : Value, e = .returned (v0_) ∧ Kd.R (Kd.int .i64) 3 w' w.heap.size (fun _ => True) v0_ r ∧ Below w.heap.size w w' := by
 obtain ⟨h1, h2, h3, rfl⟩ : l0.length = 1 ∧ 0 ≤ a1 ∧ a1 ≤ 35184372088832 ∧ List.replicate a1.toNat (l0.getD 0 0) = r := by
  unfold slices_Repeat_int_int.f at h
  split at h
  ·split at h
   ·split at h
    ·exact ⟨‹_›, ‹_›, ‹_›, Option.some.inj h⟩
    ·cases h
   ·cases h
  ·cases h
 clear h
 obtain ⟨x, rfl⟩ : ∃ x, l0 = [x] := by
  match l0, h1 with
  | [x], _ => exact ⟨x, rfl⟩
 obtain ⟨m, rfl⟩ := Int.eq_ofNat_of_zero_le h2
 have hx : [x].getD 0 0 = x := rfl
 rw [hx]
 clear hx h1
 have hcell : ∃ ad, A0 = some ad ∧ w.cell? (ad.add 0) = some (Value.int .i64 x) := by
  obtain ⟨ad, had, hc⟩ := hr0.2.2 (by simp)
  obtain ⟨c, h4, h5, h6⟩ := hc 0 x rfl
  refine ⟨ad, had, ?_⟩
  have h5 : c = [Value.int .i64 x] := h5
  subst h5
  have := h6 0 _ rfl
  simpa using this
 obtain ⟨ad, rfl, hcell⟩ := hcell
 have HM := slices_Repeat_int_int.mul_one (m : Int) h2 h3
 have hmk := print_make (P := Try.prog) 36 3 .i64 8 Try.underlying36 info3 (by decide) m (by omega)
 clear hr0 hc0
 simp only [List.length_singleton]
 have HM' := X.A HM
 clear HM
 go_enter Try.func40, Try.ntmps40
 go_wp2_with (first
   | ((with_reducible refine gate_callee (f := 49) rfl ?_); refine goesL_ (some 18) rfl rfl Try.func49 (by kernel_rfl) rfl #[.int .u64 1, .int .u64 m] rfl (by (try simp only [List.map_toArray, List.map_cons, List.map_nil]); first | done | rfl) ?_; (with_reducible refine (bits_Mul.calls 1 (m : Int) 0 (m : Int) _ HM'.out).mono ?_); rintro e w' ⟨rfl, ⟨nd, rfl⟩⟩; refine ⟨_, rfl, ?_⟩)
   | ((with_reducible refine gate_dst (N := 33) rfl ?_); refine wpList_copy_splice rfl (.tmp 31) (.tmp 32) 36 36 rfl 3 Try.underlying36 slices_Repeat_int_int.size (some ⟨w.heap.size, 0, none⟩) (some ad) m m 1 c0 rfl rfl w.heap.size 0 (madeCells #[Value.int .i64 0] m).toList 3 ?hg (List.replicate (min 1 m) (Value.int .i64 x)) ?hn ?hpos ?hfit ?h1 w.heap.size w ?hb (Nat.le_refl _) ?_))
 case hg => simpa using heap_alloc_new (w.drewN nd) (.cells (madeCells #[Value.int IntKind.i64 0] m) 3)
 case hn => simp [Nat.min_def]
 case hpos =>
  intro hp j v hj
  have hm1 : min 1 m = 1 := by omega
  rw [hm1] at hj
  have : j = 0 := by
   have := (List.getElem?_eq_some_iff.1 hj).1
   simp at this; omega
  subst this
  simp at hj
  subst hj
  exact pw_cell_below (below_alloc (pw_below_drewN (Below.refl _ _) _) _) hcell
 case hfit => simp [madeCells]; omega
 case h1 => exact fun v hv => by rw [List.eq_of_mem_replicate hv]; rfl
 case hb => exact below_alloc (pw_below_drewN (Below.refl _ _) _) _
 intro w5 hh hb5
 have HI := X.A (slices_Repeat_int_int.Inv.put (m := m) (n := 0) (by simp [madeCells]) (fun j hj => absurd hj (Nat.not_lt_zero j)) (by omega) hh.out)
 have HB := X.A hb5
 clear hh hb5
 go_wp2
 go_loopw [8] (fun v8 wr => ∃ n : Nat, v8 = .int .i64 n ∧ n ≤ m ∧ (0 < m → 0 < n) ∧ Aside0 (slices_Repeat_int_int.Inv 3 wr w.heap.size m n (Value.int .i64 x)) ∧ Aside0 (Below w.heap.size w wr)) (fun v8 _ => m - (intOf v8).toNat)
 case atStart => exact ⟨min 1 m, by simp, by omega, by omega, ⟨by simpa using HI.out⟩, HB⟩
 case round =>
  obtain ⟨n, rfl, hn, hp, HI', HB'⟩ := hrel
  clear HI HB
  by_cases hlt : n < m
  ·have hI := HI'.out
   clear HI'
   obtain ⟨C, hC, hl, hc⟩ := hI
   have HC := X.A hC
   have Hc := X.A hc
   have Hl := X.A hl
   clear hC hc hl
   have hp := hp (by omega)
   have hne : ¬ m = n := by omega
   obtain ⟨q, hq, hq1, hq2, hq3⟩ : ∃ q, q = Nat.min n (m - n) ∧ n + q ≤ m ∧ q ≤ n ∧ 0 < q := ⟨Nat.min n (m - n), rfl, by simp only [Nat.min_def]; split <;> omega, by simp only [Nat.min_def]; split <;> omega, by simp only [Nat.min_def]; split <;> omega⟩
   have Hq := X.A hq
   clear hq
   go_wp2_with fail
   have hpos : 0 < (List.replicate (q) (Value.int .i64 x)).length → (some (⟨w.heap.size, n, none⟩ : Addr)) = some ⟨w.heap.size, n, none⟩ ∧ ∃ ad, (some (⟨w.heap.size, 0, none⟩ : Addr)) = some ad ∧ ∀ j v, (List.replicate (q) (Value.int .i64 x))[j]? = some v → wr.drew.cell? (ad.add j) = some v := by
    refine fun _ => ⟨rfl, _, rfl, fun j v hj => ?_⟩
    have h4 := (List.getElem?_eq_some_iff.1 hj).1
    simp at h4
    have h5 : v = Value.int .i64 x := List.eq_of_mem_replicate (List.mem_of_getElem? hj)
    subst h5
    rw [add_plain]
    have h6 := Hc.out j (by omega)
    show wr.cell? _ = _
    unfold World.cell?
    rw [HC.out]
    simpa using h6
   have Hpos := X.A hpos
   have Hfit := X.A (show n + (List.replicate (q) (Value.int .i64 x)).length ≤ C.length by simp; have := Hl.out; omega)
   have Hlen := X.A (show (List.replicate q (Value.int .i64 x)).length = Nat.min n (m - n) by rw [List.length_replicate]; exact Hq.out)
   have Hone := X.A (show ∀ v ∈ List.replicate (q) (Value.int .i64 x), v.oneCell' = true from fun v hv => by rw [List.eq_of_mem_replicate hv]; rfl)
   have Hlr := X.A (show (List.replicate (q) (Value.int .i64 x)).length = q by simp)
   clear hpos
   have hw : IntKind.i64.wrap ((n : Int) + (q : Int)) = (n : Int) + (q : Int) := IntWalk.i64_in _ (by omega)
   go_region_law (refine step_copy_splice rfl (.tmp 41) (.tmp 44) 36 36 rfl 3 Try.underlying36 slices_Repeat_int_int.size (some ⟨w.heap.size, n, none⟩) (some ⟨w.heap.size, 0, none⟩) (m - n) (m - n) n m (by simp [Act.eval, Act.put]) (by simp [Act.eval, Act.put]) w.heap.size n C 3 HC.out (List.replicate (q) (Value.int .i64 x)) Hlen.out Hpos.out Hfit.out Hone.out w.heap.size w (below_drew HB'.out) (Nat.le_refl _) ?_; intro w6 hh hb6; rw [Hlr.out])
   have HIn := X.A (slices_Repeat_int_int.Inv.put Hl.out Hc.out (by omega) hh.out)
   have HBn := X.A hb6
   clear hh hb6
   go_wp2
   go_roundw
   case rel =>
    refine ⟨n + q, by go_num, by omega, fun _ => by omega, ?_⟩
    first | exact HIn | exact ⟨HIn, HBn⟩
   case measure => simp [intOf]; omega
  ·have : n = m := by omega
   subst this
   go_wp2
   go_ret
   exact ⟨_, rfl, slices_Repeat_int_int.Inv.own HI'.out (Nat.le_refl _) (Nat.le_refl _) (by unfold maxLen; omega), HB'.out⟩

end Go.Proofs.Ytldeaeeolibpjag.Q
