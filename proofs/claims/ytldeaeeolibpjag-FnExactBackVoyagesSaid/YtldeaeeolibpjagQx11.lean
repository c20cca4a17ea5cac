-- by wip/xprint.py, a program of this session over the kit's print: not trusted, Lean checks it.
import Derived.Test.YtldeaeeolibpjagXShort
import Derived.Test.YtldeaeeolibpjagQx0
import Derived.Test.YtldeaeeolibpjagQx10
import Derived.Test.YtldeaeeolibpjagXFn
namespace Go.Proofs.Ytldeaeeolibpjag.Q
open Go.RowKit Go.Proofs.YtldeaeeolibpjagW.PrintWords Go.Proofs.YtldeaeeolibpjagW.PrintLast Go.Proofs.YtldeaeeolibpjagW.PrintMore
attribute [local go_sem] max2_int min2_int max_two min_two max_three min_three max_four min_four   -- for this text's walks alone
set_option linter.unusedVariables false
set_option linter.unusedSimpArgs false

/-! ### slices_ContainsFunc_int_int: function 45 (by hand: ContainsFunc.lean) -/
-- IMPORT: Derived.Test.YtldeaeeolibpjagXFn
set_option maxHeartbeats 2000000 in
theorem slices_ContainsFunc_int_int.any (F : Int → Option Bool) (g : Nat) (lb : Array Value) (eg : ∀ args w, (callFunc g args).run Try.prog w = .ok (.enter g args) w) (A0 : Option Addr) (c0 : Nat) (l0 : List Int) (r : Bool) (w : World) (hr0 : Kd.C (Kd.int .i64) w A0 l0.length l0) (hF : X.FnAt Try.prog w g lb (fun x : Int => Value.int .i64 x) F) (h : X.anyO F l0 = some r) :
  Calls Try.prog 45 #[.slice A0 l0.length c0, .func (.func g) #[] lb] w fun e w' => e = .returned (.bool r) ∧ Below w.heap.size w w' := by
 obtain ⟨q, h1, h2⟩ := X.idxO_any F l0 0 r (Int.le_refl _) h
 have HC := X.A (slices_IndexFunc_int_int.any F g lb eg A0 c0 l0 q w hr0 hF h1)
 have H2 := X.A h2
 clear h1 h2 h hF hr0
 go_enter Try.func45, Try.ntmps45
 go_wp2_with fail
 refine (HC.out).mono ?_
 rintro e w' ⟨rfl, hb'⟩
 have HB' := X.A hb'
 clear hb'
 go_wp2
 go_ret
 exact ⟨by rw [← H2.out]; rfl, HB'.out⟩

end Go.Proofs.Ytldeaeeolibpjag.Q
