-- by wip/xprint.py, a program of this session over the kit's print: not trusted, Lean checks it.
import Derived.Test.YtldeaeeolibpjagXShort
import Derived.Test.YtldeaeeolibpjagQx0
import Derived.Test.YtldeaeeolibpjagXFn
namespace Go.Proofs.Ytldeaeeolibpjag.Q
open Go.RowKit Go.Proofs.YtldeaeeolibpjagW.PrintWords Go.Proofs.YtldeaeeolibpjagW.PrintLast Go.Proofs.YtldeaeeolibpjagW.PrintMore
attribute [local go_sem] max2_int min2_int max_two min_two max_three min_three max_four min_four   -- for this text's walks alone
set_option linter.unusedVariables false
set_option linter.unusedSimpArgs false

/-! ### slices_IndexFunc_int_int: function 51 (by hand: IndexFunc.lean) -/
-- IMPORT: Derived.Test.YtldeaeeolibpjagXFn
set_option maxHeartbeats 2000000 in
theorem slices_IndexFunc_int_int.any (F : Int → Option Bool) (g : Nat) (lb : Array Value) (eg : ∀ args w, (callFunc g args).run Try.prog w = .ok (.enter g args) w) (A0 : Option Addr) (c0 : Nat) (l0 : List Int) (r : Int) (w : World) (hr0 : Kd.C (Kd.int .i64) w A0 l0.length l0) (hF : X.FnAt Try.prog w g lb (fun x : Int => Value.int .i64 x) F) (h : X.idxO F l0 0 = some r) :
  Calls Try.prog 51 #[.slice A0 l0.length c0, .func (.func g) #[] lb] w fun e w' => e = .returned (.int .i64 r) ∧ Below w.heap.size w w' := by
 have HR := X.A hr0
 have HF := X.A hF
 have HH := X.A h
 have hbig : l0.length ≤ 9223372036854775807 := hr0.2.1
 clear hr0 hF h
 go_enter Try.func51, Try.ntmps51
 go_wp2
 go_loopg [5, 8] l0.length (fun gg _ s8 wr => ∃ kk : Nat, kk ≤ l0.length ∧ l0.length - kk ≤ gg ∧ s8 = .int .i64 kk ∧ Aside0 (X.idxO F (l0.drop kk) kk = some r) ∧ Aside0 (Below w.heap.size w wr))
 case atStart => exact ⟨0, Nat.zero_le _, by omega, rfl, ⟨by simpa using HH.out⟩, ⟨Below.refl _ _⟩⟩
 case round =>
  obtain ⟨kk, hkk, hg, rfl, HI, HB⟩ := hrel
  clear HH
  by_cases hlt : kk < l0.length
  ·have hltz : (kk : Int) < (l0.length : Int) := by omega
   have hI := HI.out
   rw [List.drop_eq_getElem_cons hlt] at hI
   simp only [X.idxO] at hI
   obtain ⟨b, hb1, hb2⟩ := Option.bind_eq_some_iff.1 hI
   clear hI HI
   obtain ⟨ad, had, hc⟩ := HR.out.2.2 (by omega)
   obtain ⟨c, _, hK, hcc⟩ := hc kk (l0[kk]) (List.getElem?_eq_getElem hlt)
   have hK : c = [Value.int .i64 (l0[kk])] := hK
   subst hK
   have hcell : wr.cell? (ad.add kk) = some (.int .i64 (l0[kk])) := by
    have h4 := hcc 0 _ rfl
    have h5 := pw_cell_below HB.out h4
    simpa [Kd.int, Kd.scalar] using h5
   clear hc hcc
   subst had
   have hC : Calls Try.prog g (#[Value.int .i64 (l0[kk])] ++ lb) wr fun e w' => e = .returned (.bool b) ∧ Below wr.heap.size wr w' := HF.out wr (l0[kk]) b HB.out hb1
   have HC := X.A hC
   clear hC
   have H2 := X.A hb2
   clear hb1 hb2
   generalize l0[kk] = y at hcell HC
   cases b with
   | true =>
    go_wp2_with fail
    refine (HC.out).mono ?_
    rintro e w' ⟨rfl, hb'⟩
    have HB' := X.A (below_step HB.out hb')
    clear hb'
    go_wp2
    go_ret
    refine ⟨?_, HB'.out⟩
    have h7 := H2.out
    simp at h7
    subst h7
    rfl
   | false =>
    go_wp2_with fail
    refine (HC.out).mono ?_
    rintro e w' ⟨rfl, hb'⟩
    have HB' := X.A (below_step HB.out hb')
    clear hb'
    go_wp2
    go_roundg (l0.length - (kk + 1))
    case measure => omega
    case rel =>
     refine ⟨kk + 1, by omega, by omega, by go_num, ⟨?_⟩, HB'⟩
     have h7 := H2.out
     simp at h7
     simpa using h7
  ·have hltz : ¬ (kk : Int) < (l0.length : Int) := by omega
   have hI := HI.out
   rw [List.drop_eq_nil_of_le (by omega)] at hI
   simp only [X.idxO, Option.some.injEq] at hI
   subst hI
   go_wp2
   go_ret
   exact ⟨rfl, HB.out⟩

end Go.Proofs.Ytldeaeeolibpjag.Q
