-- by wip/xprint.py, a program of this session over the kit's print: not trusted, Lean checks it.
import Derived.Test.YtldeaeeolibpjagXShort
import Derived.Test.YtldeaeeolibpjagQx0
import Derived.Test.YtldeaeeolibpjagQx11
import Derived.Test.YtldeaeeolibpjagQx14
import Derived.Test.YtldeaeeolibpjagXFn
namespace Go.Proofs.Ytldeaeeolibpjag.Q
open Go.RowKit Go.Proofs.YtldeaeeolibpjagW.PrintWords Go.Proofs.YtldeaeeolibpjagW.PrintLast Go.Proofs.YtldeaeeolibpjagW.PrintMore
attribute [local go_sem] max2_int min2_int max_two min_two max_three min_three max_four min_four   -- for this text's walks alone
set_option linter.unusedVariables false
set_option linter.unusedSimpArgs false

/-! ### slices_ContainsFunc_int_int_at_impl_calm_1: function 45, handed impl.calm$1 (by hand: xpatch) -/
-- IMPORT: Derived.Test.YtldeaeeolibpjagXFn
def slices_ContainsFunc_int_int_at_impl_calm_1.f (l0 : List Int) : Option Bool := X.anyO (fun x => impl_calm_1.f x ) l0
set_option maxHeartbeats 1000000 in
theorem slices_ContainsFunc_int_int_at_impl_calm_1.calls (A0 : Option Addr) (c0 : Nat) (l0 : List Int) (r : Bool) (w : World) (hr0 : Kd.C (Kd.int .i64) w A0 l0.length l0) (hc0 : l0.length ≤ c0) (h : slices_ContainsFunc_int_int_at_impl_calm_1.f l0  = some r) :
  Calls Try.prog 45 #[.slice A0 l0.length c0, .func (.func 53) #[] #[]] w fun e w' => e = .returned (.bool r) ∧ Below w.heap.size w w' := by
 refine slices_ContainsFunc_int_int.any (fun x => impl_calm_1.f x ) 53 #[] (fun args w => enters_ Try.func53 (by kernel_rfl) rfl args w) A0 c0 l0 r w hr0 (fun W x q hB hx => ?_) h
 refine (impl_calm_1.calls x q W hx).mono ?_
 rintro e w' ⟨rfl, hd⟩
 exact ⟨rfl, hd.below⟩

end Go.Proofs.Ytldeaeeolibpjag.Q
