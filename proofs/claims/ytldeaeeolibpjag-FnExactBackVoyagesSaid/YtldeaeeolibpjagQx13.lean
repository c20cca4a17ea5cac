-- by wip/xprint.py, a program of this session over the kit's print: not trusted, Lean checks it.
import Derived.Test.YtldeaeeolibpjagXShort
import Derived.Test.YtldeaeeolibpjagQx0
import Derived.Test.YtldeaeeolibpjagQx11
import Derived.Test.YtldeaeeolibpjagQx12
import Derived.Test.YtldeaeeolibpjagXFn
namespace Go.Proofs.Ytldeaeeolibpjag.Q
open Go.RowKit Go.Proofs.YtldeaeeolibpjagW.PrintWords Go.Proofs.YtldeaeeolibpjagW.PrintLast Go.Proofs.YtldeaeeolibpjagW.PrintMore
attribute [local go_sem] max2_int min2_int max_two min_two max_three min_three max_four min_four   -- for this text's walks alone
set_option linter.unusedVariables false
set_option linter.unusedSimpArgs false

/-! ### slices_ContainsFunc_int_int_at_impl_areIn_1: function 45, handed impl.areIn$1 (by hand: xpatch) -/
-- IMPORT: Derived.Test.YtldeaeeolibpjagXFn
def slices_ContainsFunc_int_int_at_impl_areIn_1.f (l0 : List Int) (a1_0 : Int) (a2_0 : Int) : Option Bool := X.anyO (fun x => impl_areIn_1.f x a1_0 a2_0) l0
set_option maxHeartbeats 1000000 in
theorem slices_ContainsFunc_int_int_at_impl_areIn_1.calls (A0 : Option Addr) (c0 : Nat) (l0 : List Int) (gb1 : Nat) (a1_0 : Int) (gb2 : Nat) (a2_0 : Int) (r : Bool) (w : World) (hr0 : Kd.C (Kd.int .i64) w A0 l0.length l0) (hc0 : l0.length ≤ c0) (hb1 : w.heap[gb1]? = some (.cells #[.int .i64 a1_0] 3 (0, 0))) (hb2 : w.heap[gb2]? = some (.cells #[.int .i64 a2_0] 3 (0, 0))) (hn1_2 : gb1 ≠ gb2) (h : slices_ContainsFunc_int_int_at_impl_areIn_1.f l0 a1_0 a2_0 = some r) :
  Calls Try.prog 45 #[.slice A0 l0.length c0, .func (.func 50) #[] #[.pointer (some ⟨gb1, 0, none⟩), .pointer (some ⟨gb2, 0, none⟩)]] w fun e w' => e = .returned (.bool r) ∧ Below w.heap.size w w' := by
 refine slices_ContainsFunc_int_int.any (fun x => impl_areIn_1.f x a1_0 a2_0) 50 #[.pointer (some ⟨gb1, 0, none⟩), .pointer (some ⟨gb2, 0, none⟩)] (fun args w => enters_ Try.func50 (by kernel_rfl) rfl args w) A0 c0 l0 r w hr0 (fun W x q hB hx => ?_) h
 refine (impl_areIn_1.calls x gb1 a1_0 gb2 a2_0 q W (blk_below hb1 hB) (blk_below hb2 hB) hn1_2 hx).mono ?_
 rintro e w' ⟨rfl, hd⟩
 exact ⟨rfl, hd.below⟩

end Go.Proofs.Ytldeaeeolibpjag.Q
