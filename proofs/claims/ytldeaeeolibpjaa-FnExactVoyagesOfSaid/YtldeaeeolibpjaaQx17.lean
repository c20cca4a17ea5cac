-- by wip/xprint.py, a program of this session over the kit's print: not trusted, Lean checks it.
import Derived.Test.YtldeaeeolibpjaaQx0
import Derived.Test.YtldeaeeolibpjaaQx16
import Derived.Test.YtldeaeeolibpjaaXGroups
import Derived.Test.YtldeaeeolibpjaaXShort
namespace Go.Proofs.Ytldeaeeolibpjaa.Q
open Go.RowKit Go.Proofs.YtldeaeeolibpjaaW.PrintWords Go.Proofs.YtldeaeeolibpjaaW.PrintLast Go.Proofs.YtldeaeeolibpjaaW.PrintMore
attribute [local go_sem] max2_int min2_int max_two min_two max_three min_three max_four min_four   -- for this text's walks alone
set_option linter.unusedVariables false
set_option linter.unusedSimpArgs false

/-! ### impl_groups: function 32 (by hand: Groups0.lean) -/
-- NOHALVE
-- IMPORT: Derived.Test.YtldeaeeolibpjaaXGroups
-- IMPORT: Derived.Test.YtldeaeeolibpjaaXShort
set_option maxHeartbeats 4000000 in
set_option maxRecDepth 100000 in
theorem impl_groups.any {σ : Type} (w0 : World) (g : Nat) (lb : Array Value) (eg : ∀ args w, (callFunc g args).run Try.prog w = .ok (.enter g args) w) (I : World → σ → (Nat → Prop) → Prop) (step : σ → List Int → Option σ) (cb : X.Cb Try.prog w0 3 g lb I step)
    (A0 : Option Addr) (c0 : Nat) (l0 : List Int) (a1 : Int) (hm : a1 ≤ 1000000) (hpl : l0.length ≤ 1000000) (w : World) (s s' : σ) (O : Nat → Prop) (hI : I w s O) (hB : Below w0.heap.size w0 w) (hP : X.Safe w O (fun W_ => Kd.C (Kd.int .i64) W_ A0 l0.length l0)) (hF : X.onF a1 step l0 [] s = some s') :
    Calls Try.prog 32 #[.slice A0 l0.length c0, .int .i64 a1, .func (.func g) #[] lb] w fun e w' => e = .returned (.tuple #[]) ∧ ∃ O', I w' s' O' ∧ Kept w w' O ∧ (∀ k, O' k → O k ∨ w.heap.size ≤ k) ∧ Below w0.heap.size w0 w' := by
  have HI := X.A hI
  have HB0 := X.A hB
  have HP := X.A hP
  have HF := X.A hF
  have HCB := X.A cb
  have HB := X.A (Below.refl w.heap.size w)
  clear hI hB hP hF cb
  go_enter Try.func32, Try.ntmps32
  go_wp2_with (first | ((with_reducible refine gate_dst (N := 3) rfl ?_); refine box_event ?hg (N := 3) ?hd (cs := #[.slice A0 l0.length c0]) (t := 24) ?hr ?_; (case hd => rfl); (case hg => rfl); (case hr => exact X.R); intro gb1 hg w1 hbox hb; have n1_ := X.A (below_step X.G hb); have BK1 := X.A hbox; have GW1 : Aside0 (w.heap.size ≤ gb1) := ⟨by rw [hg]; exact below_size X.G⟩; clear HB; have HB := n1_; clear n1_ hb hbox hg) | ((with_reducible refine gate_dst (N := 4) rfl ?_); refine box_event ?hg (N := 4) ?hd (cs := #[.int .i64 a1]) (t := 3) ?hr ?_; (case hd => rfl); (case hg => rfl); (case hr => exact X.R); intro gb2 hg w2 hbox hb; have n1_ := X.A (below_step X.G hb); have n2_ := X.A (X.BB BK1 hb); have NB21 := X.A (X.NL hg BK1); have BK2 := X.A hbox; have GW2 : Aside0 (w.heap.size ≤ gb2) := ⟨by rw [hg]; exact below_size X.G⟩; clear HB BK1; have HB := n1_; have BK1 := n2_; clear n1_ n2_ hb hbox hg) | ((with_reducible refine gate_dst (N := 5) rfl ?_); refine box_event ?hg (N := 5) ?hd (cs := #[.func (.func g) #[] lb]) (t := 58) ?hr ?_; (case hd => rfl); (case hg => rfl); (case hr => exact X.R); intro gb3 hg w3 hbox hb; have n1_ := X.A (below_step X.G hb); have n2_ := X.A (X.BB BK1 hb); have n3_ := X.A (X.BB BK2 hb); have NB31 := X.A (X.NL hg BK1); have NB32 := X.A (X.NL hg BK2); have BK3 := X.A hbox; have GW3 : Aside0 (w.heap.size ≤ gb3) := ⟨by rw [hg]; exact below_size X.G⟩; clear HB BK1 BK2; have HB := n1_; have BK1 := n2_; have BK2 := n3_; clear n1_ n2_ n3_ hb hbox hg) | ((with_reducible refine gate_dst (N := 6) rfl ?_); refine box_event ?hg (N := 6) ?hd (cs := #[.nilFunc]) (t := 66) ?hr ?_; (case hd => rfl); (case hg => rfl); (case hr => exact X.R); intro gb4 hg w4 hbox hb; have n1_ := X.A (below_step X.G hb); have n2_ := X.A (X.BB BK1 hb); have n3_ := X.A (X.BB BK2 hb); have n4_ := X.A (X.BB BK3 hb); have NB41 := X.A (X.NL hg BK1); have NB42 := X.A (X.NL hg BK2); have NB43 := X.A (X.NL hg BK3); have BK4 := X.A hbox; have GE4 : Aside0 (w.heap.size ≤ gb4) := ⟨by rw [hg]; exact below_size X.G⟩; clear HB BK1 BK2 BK3; have HB := n1_; have BK1 := n2_; have BK2 := n3_; have BK3 := n4_; clear n1_ n2_ n3_ n4_ hb hbox hg; have hcz : w4.cell? ⟨gb4, 0, none⟩ = some .nilFunc := (blk_cell BK4.out 0).trans rfl; have hfz := blk_frozen BK4.out 0) | ((with_reducible refine gate_store (t := 66) (p := 6) rfl ?_); refine store_event (t := 66) (p := 6) (v := ?vo_w5) (w1 := (w4.setCell ⟨gb4, 0, none⟩ (.func (.func 47) #[] #[.pointer (some ⟨gb1, 0, none⟩), .pointer (some ⟨gb2, 0, none⟩), .pointer (some ⟨gb3, 0, none⟩), .pointer (some ⟨gb4, 0, none⟩)]))) ?hg ?ho ?hn ?hr ?_; (case ho => rfl); (case hg => rfl); (case hn => rfl); (case hr => exact X.R); intro w5 hw; have n1_ := X.A (by rw [hw]; exact blk_far BK1.out NB41.out _ : w5.heap[gb1]? = some (.cells #[.slice A0 l0.length c0] 24 (0, 0))); have n2_ := X.A (by rw [hw]; exact blk_far BK2.out NB42.out _ : w5.heap[gb2]? = some (.cells #[.int .i64 a1] 3 (0, 0))); have n3_ := X.A (by rw [hw]; exact blk_far BK3.out NB43.out _ : w5.heap[gb3]? = some (.cells #[.func (.func g) #[] lb] 58 (0, 0))); have n4_ := X.A (by rw [hw]; exact blk_put (cs := #[.nilFunc]) BK4.out 0 _ rfl : w5.heap[gb4]? = some (.cells #[.func (.func 47) #[] #[.pointer (some ⟨gb1, 0, none⟩), .pointer (some ⟨gb2, 0, none⟩), .pointer (some ⟨gb3, 0, none⟩), .pointer (some ⟨gb4, 0, none⟩)]] 66 (0, 0))); have n5_ := X.A (by rw [hw]; exact below_set HB.out GE4.out : Below w.heap.size w w5); clear HB BK1 BK2 BK3 BK4 hcz hfz hw; have BK1 := n1_; have BK2 := n2_; have BK3 := n3_; have BK4 := n4_; have HB := n5_; clear n1_ n2_ n3_ n4_ n5_; have hcz : w5.cell? ⟨gb4, 0, none⟩ = some (.func (.func 47) #[] #[.pointer (some ⟨gb1, 0, none⟩), .pointer (some ⟨gb2, 0, none⟩), .pointer (some ⟨gb3, 0, none⟩), .pointer (some ⟨gb4, 0, none⟩)]) := (blk_cell BK4.out 0).trans rfl; have hfz := blk_frozen BK4.out 0; have eo : ∀ args w, (callFunc 47 args).run Try.prog w = .ok (.enter 47 args) w := fun args w => enters_ Try.func47 (by kernel_rfl) rfl args w))
  have hlt : ∀ k, O k → k < w.heap.size := HCB.out.lt HI.out
  have HS : Aside0 (X.Safe w5 O (fun W_ => ((W_.heap[gb1]? = some (.cells #[.slice A0 l0.length c0] 24 (0, 0))) ∧ (W_.heap[gb2]? = some (.cells #[.int .i64 a1] 3 (0, 0))) ∧ (W_.heap[gb3]? = some (.cells #[.func (.func g) #[] lb] 58 (0, 0))) ∧ (W_.heap[gb4]? = some (.cells #[.func (.func 47) #[] #[.pointer (some ⟨gb1, 0, none⟩), .pointer (some ⟨gb2, 0, none⟩), .pointer (some ⟨gb3, 0, none⟩), .pointer (some ⟨gb4, 0, none⟩)]] 66 (0, 0)))) ∧ Kd.C (Kd.int .i64) W_ A0 l0.length l0)) := ⟨((X.Safe.blk BK1.out (fun h => by have h1 := hlt _ h; have h2 := GW1.out; omega)).and ((X.Safe.blk BK2.out (fun h => by have h1 := hlt _ h; have h2 := GW2.out; omega)).and ((X.Safe.blk BK3.out (fun h => by have h1 := hlt _ h; have h2 := GW3.out; omega)).and (X.Safe.blk BK4.out (fun h => by have h1 := hlt _ h; have h2 := GE4.out; omega))))).and (HP.out.below HB.out)⟩
  refine calls_of_args (args' := #[.int .i64 ((0 : Nat) : Int), .slice none ([] : List Int).length 0, .pointer (some ⟨gb1, 0, none⟩), .pointer (some ⟨gb2, 0, none⟩), .pointer (some ⟨gb3, 0, none⟩), .pointer (some ⟨gb4, 0, none⟩)]) rfl ?_
  refine (impl_groups_1.any w0 g lb eg I step HCB.out A0 c0 l0 a1 gb1 gb2 gb3 gb4 hm hpl NB21.out NB31.out NB41.out NB32.out NB42.out NB43.out l0.length 0 none 0 [] _ s s' O (by omega) (HCB.out.stab HI.out (below_step HB.out X.PB)) (below_weaken HB0.out HB0.out.size (below_step HB.out X.PB)) (HS.out.below X.PB) ⟨fun _ => False, fun _ h => h.elim, fun W' _ => Kd.C_nil _ W'⟩ (Nat.le_refl _) HF.out).mono ?_
  rintro e w6 ⟨rfl, O1, hI1, hK1, hO1, hB1⟩
  have HK6 := X.A (Kept.then_ (Kept.of_below (below_step HB.out X.PB) O) hK1 (fun k hk => .inl hk))
  have HO6 : Aside0 (∀ k, O1 k → O k ∨ w.heap.size ≤ k) := ⟨fun k hk => (hO1 k hk).elim .inl (fun h => .inr (Nat.le_trans (below_step HB.out (X.PB (W := w5))).size h))⟩
  have HI6 := X.A hI1
  have HB6 := X.A hB1
  clear hI1 hK1 hO1 hB1 hlt
  go_wp2
  first | go_end0 | ((try simp only [Exit.inBlock, Exit.then]); refine bodyPost_ret (results_none rfl _ _ _) rfl ?_)
  exact ⟨rfl, O1, HCB.out.stab HI6.out X.PB, Kept.below HK6.out X.PB, HO6.out, below_weaken HB6.out HB6.out.size X.PB⟩

end Go.Proofs.Ytldeaeeolibpjaa.Q
