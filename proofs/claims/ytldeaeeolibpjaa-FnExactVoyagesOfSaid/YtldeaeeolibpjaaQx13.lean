-- by wip/xprint.py, a program of this session over the kit's print: not trusted, Lean checks it.
import Derived.Test.YtldeaeeolibpjaaXShort
import Derived.Test.YtldeaeeolibpjaaQx0
import Derived.Test.YtldeaeeolibpjaaQx9
import Derived.Test.YtldeaeeolibpjaaQx12
import Derived.Test.YtldeaeeolibpjaaXFn
namespace Go.Proofs.Ytldeaeeolibpjaa.Q
open Go.RowKit Go.Proofs.YtldeaeeolibpjaaW.PrintWords Go.Proofs.YtldeaeeolibpjaaW.PrintLast Go.Proofs.YtldeaeeolibpjaaW.PrintMore
attribute [local go_sem] max2_int min2_int max_two min_two max_three min_three max_four min_four   -- for this text's walks alone
set_option linter.unusedVariables false
set_option linter.unusedSimpArgs false

/-! ### slices_ContainsFunc_int_int_at_impl_calm_1: function 50, handed impl.calm$1 (by hand: xpatch) -/
-- IMPORT: Derived.Test.YtldeaeeolibpjaaXFn
def slices_ContainsFunc_int_int_at_impl_calm_1.f (l0 : List Int) : Option Bool := X.anyO (fun x => impl_calm_1.f x ) l0
set_option maxHeartbeats 1000000 in
theorem slices_ContainsFunc_int_int_at_impl_calm_1.calls (A0 : Option Addr) (c0 : Nat) (l0 : List Int) (r : Bool) (w : World) (hr0 : Kd.C (Kd.int .i64) w A0 l0.length l0) (hc0 : l0.length ≤ c0) (h : slices_ContainsFunc_int_int_at_impl_calm_1.f l0  = some r) :
  Calls Try.prog 50 #[.slice A0 l0.length c0, .func (.func 51) #[] #[]] w fun e w' => e = .returned (.bool r) ∧ Below w.heap.size w w' := by
 refine slices_ContainsFunc_int_int.any (fun x => impl_calm_1.f x ) 51 #[] (fun args w => enters_ Try.func51 (by kernel_rfl) rfl args w) A0 c0 l0 r w hr0 (fun W x q hB hx => ?_) h
 refine (impl_calm_1.calls x q W hx).mono ?_
 rintro e w' ⟨rfl, hd⟩
 exact ⟨rfl, hd.below⟩

end Go.Proofs.Ytldeaeeolibpjaa.Q
