-- by wip/xprint.py, a program of this session over the kit's print: not trusted, Lean checks it.
import Derived.Test.YtldeaeeolibpjagXShort
import Derived.Test.YtldeaeeolibpjagQx0
import Derived.Test.YtldeaeeolibpjagQx11
import Derived.Test.YtldeaeeolibpjagQx14
import Derived.Test.YtldeaeeolibpjagXFn
namespace Go.Proofs.Ytldeaeeolibpjag.Q
open Go.RowKit Go.Proofs.YtldeaeeolibpjagW.PrintWords Go.Proofs.YtldeaeeolibpjagW.PrintLast Go.Proofs.YtldeaeeolibpjagW.PrintMore
attribute [local go_sem] max2_int min2_int max_two min_two max_three min_three max_four min_four   -- for this text's walks alone
set_option linter.unusedVariables false
set_option linter.unusedSimpArgs false

/-! ### slices_ContainsFunc_int_int_at_impl_Isles_isVoyage_1: function 45, handed (impl.Isles).isVoyage$1 (by hand: xpatch) -/
-- IMPORT: Derived.Test.YtldeaeeolibpjagXFn
def slices_ContainsFunc_int_int_at_impl_Isles_isVoyage_1.f (l0 : List Int) (l1_0 : List Int) (a1_1 : Int) : Option Bool := X.anyO (fun x => impl_Isles_isVoyage_1.f x l1_0 a1_1) l0
set_option maxHeartbeats 1000000 in
theorem slices_ContainsFunc_int_int_at_impl_Isles_isVoyage_1.calls (A0 : Option Addr) (c0 : Nat) (l0 : List Int) (gb1 : Nat) (A1_0 : Option Addr) (c1_0 : Nat) (l1_0 : List Int) (a1_1 : Int) (r : Bool) (w : World) (hr0 : Kd.C (Kd.int .i64) w A0 l0.length l0) (hc0 : l0.length ≤ c0) (hr1_0 : Kd.C (Kd.int .i64) w A1_0 l1_0.length l1_0) (hc1_0 : l1_0.length ≤ c1_0) (hb1 : w.heap[gb1]? = some (.cells #[.slice A1_0 l1_0.length c1_0, .int .i64 a1_1] 41 (0, 0))) (h : slices_ContainsFunc_int_int_at_impl_Isles_isVoyage_1.f l0 l1_0 a1_1 = some r) :
  Calls Try.prog 45 #[.slice A0 l0.length c0, .func (.func 46) #[] #[.pointer (some ⟨gb1, 0, none⟩)]] w fun e w' => e = .returned (.bool r) ∧ Below w.heap.size w w' := by
 refine slices_ContainsFunc_int_int.any (fun x => impl_Isles_isVoyage_1.f x l1_0 a1_1) 46 #[.pointer (some ⟨gb1, 0, none⟩)] (fun args w => enters_ Try.func46 (by kernel_rfl) rfl args w) A0 c0 l0 r w hr0 (fun W x q hB hx => ?_) h
 refine (impl_Isles_isVoyage_1.calls x gb1 _ _ l1_0 a1_1 q W (Kd.C_below hr1_0 hB) hc1_0 (blk_below hb1 hB) hx).mono ?_
 rintro e w' ⟨rfl, hd⟩
 exact ⟨rfl, hd.below⟩

end Go.Proofs.Ytldeaeeolibpjag.Q
