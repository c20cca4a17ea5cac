/- The evaluator and what it gives of the functions, part 4. No conditions of ours: a law's row is in YtanlmanifpknoaaLFnGuardsOver. -/
import Derived.Test.YtanlmanifpknoaaE3
namespace Go.Proofs.Ytanlmanifpknoaa.Ev
open Go
set_option linter.unusedVariables false
set_option linter.unusedSimpArgs false
set_option linter.unusedSectionVars false
def tle3 (es : List Ed) : List T := es.map fun e => .agg [.int .i64 e.1, .int .i64 e.2.1, .lst 1 (til e.2.2.2)]
theorem tle3_length (es : List Ed) : (tle3 es).length = es.length := by simp [tle3]
theorem tle3_getE (es : List Ed) (i : Nat) (h : i < (tle3 es).length) : (tle3 es)[i] = .agg [.int .i64 (es[i]'(by simpa [tle3] using h)).1, .int .i64 (es[i]'(by simpa [tle3] using h)).2.1, .lst 1 (til (es[i]'(by simpa [tle3] using h)).2.2.2)] := by simp [tle3]
attribute [local simp] til_getE til_length til_get til_drop til_take til_snoc til_fold take_snoc til_set tin_getE tin_length tin_take tle3_length tle3_getE
variable {i2 i5 i6 : Nat} {many : Int} {clo : T} {dist : List Int} {ws : List (List Nat)} {Vs : List V} {H : Heap}
theorem p75 (N : Nat) (d c : Nat) (hdc : d + c < 2 ^ 30) (to vt : Int) (g : List Int) (i8 i11 : Nat) (v8 v52 v53 v54 : V) : ∀ (m : Nat) (H : Heap) (i6 : Nat) (ws : List (List Nat)) (Vs : List V), WS H i2 i5 i6 many clo dist ws Vs → H[i11]? = some (.box 3 [.t (ti to), .t (ti c), .t (tl g)]) → ¬ OwnW i5 i6 Vs i11 → ¬ OwnW i5 i6 Vs i2 → ws.length ≤ 2 ^ 30 → m = d + c + 1 - ws.length →
    ∃ H' i6' Vs', loopF env false [2, 5, 6, 7, 8, 11, 52, 53, 54] ir75_b0 ([(2, .ptr i2 0 0), (5, .ref i5 0 N), (6, .ref i6 0 ws.length), (7, .t (ti d)), (8, v8), (52, v52), (53, v53), (54, v54), (11, .ptr i11 0 0)], H) =
      some (.exit 6, [(2, .ptr i2 0 0), (5, .ref i5 0 N), (6, .ref i6' 0 (padW ws (d + c)).length), (7, .t (ti d)), (8, v8), (52, v52), (53, v53), (54, v54), (11, .ptr i11 0 0), (64, .ref i6' 0 (padW ws (d + c)).length), (65, .t (ti (padW ws (d + c)).length)), (66, .t (ti d)), (67, .ptr i11 0 1), (68, .t (ti c)), (69, .t (ti ((d : Int) + c))), (70, .t (tb false))], H') ∧
      WS H' i2 i5 i6' many clo dist (padW ws (d + c)) Vs' ∧ Ext (OwnW i5 i6 Vs) (OwnW i5 i6' Vs') H H'
  | 0, H, i6, ws, Vs, hW, h11, hn11, hn2, hl, hm => by
    have hlt : d + c < ws.length := by omega
    rw [padW_done _ _ hlt, x75_0]
    refine ⟨H, i6, Vs, ?_, hW, by simpa using Ext.app (W := OwnW i5 i6 Vs) (H := H) []⟩
    have hw : IntKind.i64.wrap ((d : Int) + c) = (d : Int) + c := w96 (by omega)
    simp [ir75_d0, h11, hw, show ¬ ((ws.length : Int) ≤ (d : Int) + c) by omega]
  | m + 1, H, i6, ws, Vs, hW, h11, hn11, hn2, hl, hm => by
    have hlt : ¬ d + c < ws.length := by omega
    rw [← padW_step _ _ hlt, x75_0]
    have hw : IntKind.i64.wrap ((d : Int) + c) = (d : Int) + c := w96 (by omega)
    have h6 := hW.lt5
    have hW1 : WS (H ++ [.box 1 [.t .nil]]) i2 i5 i6 many clo dist ws Vs := hW.mono (get_app h6.1) (fun id hid => get_app (hW.own_lt hid))
    have hE1 : Ext (OwnW i5 i6 Vs) (OwnW i5 i6 Vs) H (H ++ [.box 1 [.t .nil]]) := Ext.app _
    have hE2 := hW1.grow_ext (.box 1 (Vs ++ [.t .nil]))
    have hE := hE1.trans hE2
    have hl11 := (List.getElem?_eq_some_iff.1 h11).1
    obtain ⟨H', i6', Vs', h1, h2, h3⟩ := p75 N d c hdc to vt g i8 i11 v8 v52 v53 v54 m _ _ _ _ hW1.grow (hE.get h11 hn11) (hE.not hl11 hn11) (hE.not h6.1 hn2) (by simp; omega) (by simp; omega)
    refine ⟨H', i6', Vs', ?_, h2, hE.trans h3⟩
    rw [← h1]
    have hl6 : ∀ X, (H ++ X)[i6]? = some (.box 1 Vs) := fun X => get_app2 hW.w
    have hn := hW.n
    simp [ir75_d0, h11, hw, show ((ws.length : Int) ≤ (d : Int) + c) by omega, hl6, hn, show ws.length ≤ 68719476735 by omega]
theorem w75 (C d N : Nat) (hC : d + C < 2 ^ 30) (hdl : dist.length = N) (es : List Ed) (hes : ∀ e ∈ es, e.1 < N ∧ 1 ≤ e.2.1 ∧ e.2.1 ≤ C) (hen : es.length ≤ 2 ^ 30) (ie : Nat) (v8 : V) : ∀ (m j : Nat) (H : Heap) (i6 : Nat) (ws : List (List Nat)) (Vs : List V) (B : Nat), j + m = es.length → WS H i2 i5 i6 many clo dist ws Vs → ¬ OwnW i5 i6 Vs i2 → H[ie]? = some (.pure 3 (tle3 es)) → ¬ OwnW i5 i6 Vs ie → ws.length ≤ d + C + 1 → (∀ l ∈ ws, l.length ≤ B) → B + m ≤ 2 ^ 30 →
    ∃ H' i6' Vs', loopF env false [2, 5, 6, 7, 8, 52, 53, 54] ir75_b1 ([(2, .ptr i2 0 0), (5, .ref i5 0 N), (6, .ref i6 0 ws.length), (7, .t (ti d)), (8, v8), (52, .ref ie 0 es.length), (53, .t (ti es.length)), (54, .t (ti j))], H) =
      some (.exit 4, [(2, .ptr i2 0 0), (5, .ref i5 0 N), (6, .ref i6' 0 ((es.drop j).foldl (pushW dist d) ws).length), (7, .t (ti d)), (8, v8), (52, .ref ie 0 es.length), (53, .t (ti es.length)), (54, .t (ti es.length)), (55, .t (tb false))], H') ∧
      WS H' i2 i5 i6' many clo dist ((es.drop j).foldl (pushW dist d) ws) Vs' ∧ Ext (OwnW i5 i6 Vs) (OwnW i5 i6' Vs') H H' ∧ ((es.drop j).foldl (pushW dist d) ws).length ≤ d + C + 1 ∧ ∀ l ∈ (es.drop j).foldl (pushW dist d) ws, l.length ≤ B + m
  | 0, j, H, i6, ws, Vs, B, hj, hW, hn2, he, hne, hl, hB, hBm => by
    have : j = es.length := by omega
    subst this
    rw [x75_1]
    simp only [List.drop_length, List.foldl_nil, Nat.add_zero]
    refine ⟨H, i6, Vs, ?_, hW, by simpa using Ext.app (W := OwnW i5 i6 Vs) (H := H) [], hl, hB⟩
    simp [ir75_d1]
  | m + 1, j, H, i6, ws, Vs, B, hj, hW, hn2, he, hne, hl, hB, hBm => by
    have hlt : j < es.length := by omega
    rw [x75_1]
    have hw : IntKind.i64.wrap ((j : Int) + 1) = (j : Int) + 1 := w96 (by omega)
    obtain ⟨he1, he2, he3⟩ := hes es[j] (List.getElem_mem hlt)
    have h6 := hW.lt5
    have hd := hW.d
    have hs : (es.drop j).foldl (pushW dist d) ws = (es.drop (j + 1)).foldl (pushW dist d) (pushW dist d ws es[j]) := by rw [List.drop_eq_getElem_cons hlt]; rfl
    have hl' := pushW_length dist d ws es[j] (d + C + 1) hl (by omega)
    have hB' := pushW_bound dist d ws es[j] B hB
    rw [hs]
    have hie := (List.getElem?_eq_some_iff.1 he).1
    generalize hEd : es[j] = e at *
    obtain ⟨to, c, vt, g⟩ := e
    simp only at he1 he2 he3
    have hto : to < dist.length := by omega
    have hW1 : WS (H ++ [.box 3 [.t (ti to), .t (ti c), .t (tl g)]]) i2 i5 i6 many clo dist ws Vs := hW.mono (get_app h6.1) (fun id hid => get_app (hW.own_lt hid))
    have hE1 : Ext (OwnW i5 i6 Vs) (OwnW i5 i6 Vs) H (H ++ [.box 3 [.t (ti to), .t (ti c), .t (tl g)]]) := Ext.app _
    have hdX : ∀ X, (H ++ X)[i5]? = some (.pure 1 (til dist)) := fun X => get_app2 hd
    by_cases hdist : 0 ≤ dist[to]
    · have hp : pushW dist d ws (to, c, vt, g) = ws := by simp [pushW, hto, hdist]
      rw [hp] at hl' hB' ⊢
      obtain ⟨H', i6', Vs', h1, h2, h3, h4, h5⟩ := w75 C d N hC hdl es hes hen ie v8 m (j + 1) _ i6 ws Vs B (by omega) hW1 hn2 (get_app2 he) hne hl hB (by omega)
      refine ⟨H', i6', Vs', ?_, h2, hE1.trans h3, h4, fun l hl => by have := h5 l hl; omega⟩
      generalize (es.drop (j + 1)).foldl (pushW dist d) ws = Z at *
      simp at h1
      simp [ir75_d1, hlt, hw, he, hEd, hdX, hto, hdl, he1, hdist, h1]
    · have hp : pushW dist d ws (to, c, vt, g) = (padW ws (d + c)).set (d + c) ((padW ws (d + c))[d + c]?.getD [] ++ [to]) := by simp [pushW, hto, hdist]
      obtain ⟨H2, i62, Vs2, hpl, hW2, hE2⟩ := p75 (many := many) (clo := clo) (dist := dist) N d c (by omega) to vt g j H.length v8 (.ref ie 0 es.length) (.t (ti es.length)) (.t (ti j)) _ _ i6 ws Vs hW1 (by simp) (fun ho => by have := hW.own_lt ho; omega) hn2 (by omega) rfl
      have hk : d + c < (padW ws (d + c)).length := by rw [padW_length]; omega
      have hE12 := hE1.trans hE2
      have hn22 := hE12.not h6.1 hn2
      have h62 := hW2.lt5
      have hlenW : (padW ws (d + c)).length ≤ d + C + 1 := by rw [padW_length]; omega
      rw [hp] at hl' hB' ⊢
      have hLB : (padW ws (d + c))[d + c].length ≤ B := by
        rcases padW_mem (List.getElem_mem hk) with h1 | h1
        · exact hB _ h1
        · rw [h1]; simp
      have hgd : (padW ws (d + c))[d + c]?.getD [] = (padW ws (d + c))[d + c] := by simp [hk]
      rw [hgd] at hl' hB' ⊢
      obtain ⟨v, hv, hr⟩ := hW2.l (d + c) (padW ws (d + c))[d + c] (by simp [hk])
      have hVl : d + c < Vs2.length := (List.getElem?_eq_some_iff.1 hv).1
      have h11 : H2[H.length]? = some (.box 3 [.t (ti to), .t (ti c), .t (tl g)]) := hE2.get (by simp) (fun ho => by have := hW.own_lt ho; omega)
      have he2 : H2[ie]? = some (.pure 3 (tle3 es)) := hE12.get he hne
      have hd2 := hW2.d
      have hw2 := hW2.w
      have hwdc : IntKind.i64.wrap ((d : Int) + c) = (d : Int) + c := w96 (by omega)
      have hnat : ((d : Int) + (c : Int)).toNat = d + c := by omega
      have hn2' := hW2.n
      have hsp := fun x : V => splice_one Vs2 (d + c) x hVl
      have h6X : ∀ X, (H2 ++ X)[i62]? = some (.box 1 Vs2) := fun X => get_app2 hw2
      have h11X : ∀ X, (H2 ++ X)[H.length]? = some (.box 3 [.t (ti to), .t (ti c), .t (tl g)]) := fun X => get_app2 h11
      rcases hr with ⟨rfl, hL⟩ | ⟨h0, _⟩ | ⟨jr, rfl, hjr⟩
      · -- nothing yet
        have hP := hW2.push (H2 := (H2 ++ [Blk.pure 1 (tin [to]), Blk.pure 1 (tin [to])]).set i62 (.box 1 (Vs2.set (d + c) (.ref (H2.length + 1) 0 1)))) (d + c) hk to (H2.length + 1) (by omega) hn22 (by
            rw [hL, List.getElem?_set_self (by simp; omega)]; rfl) (by rw [List.getElem?_set_ne (by omega), hL]; simp) (by simp) (fun id hid hne _ => by rw [List.getElem?_set_ne (Ne.symm hne)]; exact get_app hid)
        obtain ⟨H', i6', Vs', h1, h2, h3, h4, h5⟩ := w75 C d N hC hdl es hes hen ie v8 m (j + 1) _ i62 _ _ (B + 1) (by omega) hP.1 (hP.2.not h62.1 hn22) (hP.2.get he2 (hE12.not hie hne)) (hP.2.not (List.getElem?_eq_some_iff.1 he2).1 (hE12.not hie hne)) hl' hB' (by omega)
        refine ⟨H', i6', Vs', ?_, h2, (hE12.trans hP.2).trans h3, h4, fun l hl => by have := h5 l hl; omega⟩
        generalize (es.drop (j + 1)).foldl (pushW dist d) ((padW ws (d + c)).set (d + c) ((padW ws (d + c))[d + c] ++ [to])) = Z at *
        simp [tin] at h1 hpl
        simp [ir75_d1, hlt, hw, he, hEd, hdX, hto, hdl, he1, hdist, hpl, h11, hwdc, hk, hw2, hnat, hv, h6X, h11X, show (d : Int) + c < ((padW ws (d + c)).length : Int) by omega, show (0 : Int) ≤ (d : Int) + c by omega, show d + c + 1 ≤ Vs2.length by omega, hsp, h1]
      · omega
      · -- a list already
        have hj6 := hW2.ne6 hv
        have hjl := (List.getElem?_eq_some_iff.1 hjr).1
        generalize hLL : (padW ws (d + c))[d + c] = L at *
        have hjX : ∀ X, (H2 ++ X)[jr]? = some (.pure 1 (tin L)) := fun X => get_app2 hjr
        have h6Y : ∀ X Y, ((H2 ++ X).set jr .dead ++ Y)[i62]? = some (.box 1 Vs2) := fun X Y => get_app2 (by rw [List.getElem?_set_ne hj6.1]; exact h6X X)
        have hP := hW2.push (H2 := ((H2 ++ [Blk.pure 1 (tin [to])]).set jr .dead ++ [Blk.pure 1 (tin (L ++ [to]))]).set i62 (.box 1 (Vs2.set (d + c) (.ref (H2.length + 1) 0 (L.length + 1))))) (d + c) hk to (H2.length + 1) (by omega) hn22 (by
            rw [hLL, List.getElem?_set_self (by simp; omega)]) (by rw [List.getElem?_set_ne (by omega), hLL]; simp) (by simp; omega) (fun id hid hne hnr => by
              rw [List.getElem?_set_ne (Ne.symm hne), List.getElem?_append_left (by simp; omega), List.getElem?_set_ne (fun e => hnr _ (e ▸ hv))]; exact get_app hid)
        rw [hLL] at hP
        obtain ⟨H', i6', Vs', h1, h2, h3, h4, h5⟩ := w75 C d N hC hdl es hes hen ie v8 m (j + 1) _ i62 _ _ (B + 1) (by omega) hP.1 (hP.2.not h62.1 hn22) (hP.2.get he2 (hE12.not hie hne)) (hP.2.not (List.getElem?_eq_some_iff.1 he2).1 (hE12.not hie hne)) hl' hB' (by omega)
        refine ⟨H', i6', Vs', ?_, h2, (hE12.trans hP.2).trans h3, h4, fun l hl => by have := h5 l hl; omega⟩
        generalize (es.drop (j + 1)).foldl (pushW dist d) ((padW ws (d + c)).set (d + c) (L ++ [to])) = Z at *
        have hjH : ¬ (H.length = jr) := fun e => by rw [← e, h11] at hjr; cases hjr
        have ht1 : tin [to] = [.int .i64 (to : Int)] := rfl
        simp [ht1] at h1 hpl
        simp [ir75_d1, hlt, hw, he, hEd, hdX, hto, hdl, he1, hdist, hpl, h11, hwdc, hk, hw2, hnat, hv, h6X, h11X, show (d : Int) + c < ((padW ws (d + c)).length : Int) by omega, show (0 : Int) ≤ (d : Int) + c by omega, show d + c + 1 ≤ Vs2.length by omega, hsp, hjX, h6Y, hjH, tin_snoc, show L.length ≤ 68719476735 by omega, h1]
theorem w75_2 {f : FuncId} {caps : List T} {N C D : Nat} {P : Nat → Prop} {out : Nat → List Ed} (hG : OkG N C D P out)
    (hcall : ∀ s, P s → ∀ H, evCall env (den env) f (.t (ti s) :: caps.map .t) H = some (.ref H.length 0 (out s).length, H ++ [.pure 3 (tle3 (out s))])) (d : Nat) (hC : d + C < 2 ^ 30) (hD : D ≤ 2 ^ 30) (cur : List Nat) (hcl : cur.length ≤ 2 ^ 30) :
    ∀ (m i : Nat) (H : Heap) (i6 : Nat) (ws : List (List Nat)) (Vs : List V) (dist : List Int), i + m = cur.length → WS H i2 i5 i6 many (.clo f [] caps) dist ws Vs → ¬ OwnW i5 i6 Vs i2 → OkD N C D d P (dist, ws) → ws[d]? = some cur →
    ∃ H' i6' Vs' v, loopF env false [2, 5, 6, 7, 8] ir75_b2 ([(2, .ptr i2 0 0), (5, .ref i5 0 N), (6, .ref i6 0 ws.length), (7, .t (ti d)), (8, .t (ti i))], H) =
      some (.exit 2, [(2, .ptr i2 0 0), (5, .ref i5 0 N), (6, .ref i6' 0 ((cur.drop i).foldl (stepN out d) (dist, ws)).2.length), (7, .t (ti d)), (8, .t (ti cur.length)), (24, .t (ti cur.length)), (25, .ref i6' 0 ((cur.drop i).foldl (stepN out d) (dist, ws)).2.length), (26, .t (ti d)), (27, .ptr i6' d 0), (28, v), (29, .t (ti cur.length)), (30, .t (tb false))], H') ∧
      WS H' i2 i5 i6' many (.clo f [] caps) ((cur.drop i).foldl (stepN out d) (dist, ws)).1 ((cur.drop i).foldl (stepN out d) (dist, ws)).2 Vs' ∧ Ext (OwnW i5 i6 Vs) (OwnW i5 i6' Vs') H H' ∧ OkD N C D d P ((cur.drop i).foldl (stepN out d) (dist, ws))
  | 0, i, H, i6, ws, Vs, dist, hi, hW, hn2, hO, hcur => by
    have : i = cur.length := by omega
    subst this
    rw [x75_2]
    simp only [List.drop_length, List.foldl_nil]
    obtain ⟨v, hv, hr⟩ := hW.l d cur hcur
    refine ⟨H, i6, Vs, v, ?_, hW, by simpa using Ext.app (W := OwnW i5 i6 Vs) (H := H) [], hO⟩
    have hlen := hr.len
    have hdl : d < ws.length := (List.getElem?_eq_some_iff.1 hcur).1
    have hw := hW.w
    simp [ir75_d2, hw, hdl, hv, hlen]
  | m + 1, i, H, i6, ws, Vs, dist, hi, hW, hn2, hO, hcur => by
    have hlt : i < cur.length := by omega
    rw [x75_2]
    obtain ⟨v, hv, hr⟩ := hW.l d cur hcur
    have hlen := hr.len
    obtain ⟨pv, hix, hld⟩ := hr.ix i hlt
    have hdl : d < ws.length := (List.getElem?_eq_some_iff.1 hcur).1
    have hw := hW.w
    have hd5 := hW.d
    have hg2 := hW.g
    have hwi : IntKind.i64.wrap ((i : Int) + 1) = (i : Int) + 1 := w96 (by omega)
    have hPs : P cur[i] := hO.p cur (List.mem_iff_getElem?.2 ⟨d, hcur⟩) _ (List.getElem_mem hlt)
    have hsN := hG.lt _ hPs
    have hsl : cur[i] < dist.length := by have := hO.n; simp only at this; omega
    have hNd : N = dist.length := hO.n.symm
    have hs : (cur.drop i).foldl (stepN out d) (dist, ws) = (cur.drop (i + 1)).foldl (stepN out d) (stepN out d (dist, ws) cur[i]) := by rw [List.drop_eq_getElem_cons hlt]; rfl
    rw [hs]
    by_cases hge : 0 ≤ dist[cur[i]]
    · have hst : stepN out d (dist, ws) cur[i] = (dist, ws) := by simp [stepN, hsl, hge]
      rw [hst]
      obtain ⟨H', i6', Vs', v', h1, h2, h3, h4⟩ := w75_2 hG hcall d hC hD cur hcl m (i + 1) H i6 ws Vs dist (by omega) hW hn2 hO hcur
      refine ⟨H', i6', Vs', v', ?_, h2, h3, h4⟩
      generalize (cur.drop (i + 1)).foldl (stepN out d) (dist, ws) = Z at *
      simp at h1
      simp [ir75_d2, hw, hdl, hv, hlen, hlt, hix, hld, hd5, hsN, hsl, ← hNd, hge, hwi, h1]
    · have hst : stepN out d (dist, ws) cur[i] = (dist.set cur[i] d, (out cur[i]).foldl (pushW (dist.set cur[i] d) d) ws) := by simp [stepN, hsl, hge]
      have hO1 := hO.step hG cur[i] hPs
      have hl1 := stepN_layer hG (dist, ws) cur[i] hPs hdl
      rw [hst] at hO1 hl1 ⊢
      simp only at hl1
      obtain ⟨hW1, hE1⟩ := hW.setd hn2 (dist.set cur[i] d)
      have h61 := hW1.lt5
      have hW2 : WS (H.set i5 (.pure 1 (til (dist.set cur[i] d))) ++ [.pure 3 (tle3 (out cur[i]))]) i2 i5 i6 many (.clo f [] caps) (dist.set cur[i] d) ws Vs := hW1.mono (get_app h61.1) (fun id hid => get_app (hW1.own_lt hid))
      have hE2 : Ext (OwnW i5 i6 Vs) (OwnW i5 i6 Vs) H (H.set i5 (.pure 1 (til (dist.set cur[i] d))) ++ [.pure 3 (tle3 (out cur[i]))]) := hE1.trans (Ext.app _)
      have hB : ∀ l ∈ ws, l.length ≤ 2 ^ 30 - D * negs dist := fun l hl => by have := hO.b l hl; simp only at this; omega
      have hng := negs_set dist cur[i] d hsl (by omega)
      have hbt := hO.t
      simp only at hbt
      rw [← hng, Nat.mul_add, Nat.mul_one] at hbt
      have hdeg := hG.deg _ hPs
      obtain ⟨H2, i62, Vs2, g1, g2, g3, g4, g5⟩ := w75 (many := many) (clo := .clo f [] caps) C d N hC (by simp [hNd]) (out cur[i]) (fun e he => ⟨hG.lt _ (hG.ed _ hPs e he).1, (hG.ed _ hPs e he).2.1, (hG.ed _ hPs e he).2.2⟩) (by omega) H.length (.t (ti i)) (out cur[i]).length 0 _ i6 ws Vs _ (by omega) hW2 hn2 (by simp) (fun ho => by have := hW.own_lt ho; omega) hO.w hB (by
        rw [← hng, Nat.mul_add, Nat.mul_one]; omega)
      rw [List.drop_zero] at g1 g2 g4 g5
      have hE3 := hE2.trans g3
      obtain ⟨H', i6', Vs', v', h1, h2, h3, h4⟩ := w75_2 hG hcall d hC hD cur hcl m (i + 1) H2 i62 _ Vs2 _ (by omega) g2 (hE3.not hW.lt5.1 hn2) hO1 (hl1.trans hcur)
      refine ⟨H', i6', Vs', v', ?_, h2, hE3.trans h3, h4⟩
      have hc := hcall _ hPs
      have hlen5 : (H.set i5 (.pure 1 (til (dist.set cur[i] d)))).length = H.length := by simp
      generalize (cur.drop (i + 1)).foldl (stepN out d) (dist.set cur[i] d, (out cur[i]).foldl (pushW (dist.set cur[i] d) d) ws) = Z at *
      simp at h1 g1
      simp [ir75_d2, hw, hdl, hv, hlen, hlt, hix, hld, hd5, hsN, hsl, ← hNd, hge, hwi, hW1.g, hc, g1, h1]
theorem w75_3 {f : FuncId} {caps : List T} {N C D : Nat} {P : Nat → Prop} {out : Nat → List Ed} (hG : OkG N C D P out)
    (hcall : ∀ s, P s → ∀ H, evCall env (den env) f (.t (ti s) :: caps.map .t) H = some (.ref H.length 0 (out s).length, H ++ [.pure 3 (tle3 (out s))])) (hC : C < 2 ^ 20) (hD : D ≤ 2 ^ 30) (r : List Int × List (List Nat)) :
    ∀ (n d : Nat) (H : Heap) (i6 : Nat) (ws : List (List Nat)) (Vs : List V) (dist : List Int), d + n < 2 ^ 29 → WS H i2 i5 i6 many (.clo f [] caps) dist ws Vs → ¬ OwnW i5 i6 Vs i2 → OkD N C D d P (dist, ws) → fromL out n d (dist, ws) = some r →
    ∃ H' i6' Vs' d', loopF env false [2, 5, 6, 7] ir75_b3 ([(2, .ptr i2 0 0), (5, .ref i5 0 N), (6, .ref i6 0 ws.length), (7, .t (ti d))], H) =
      some (.exit 0, [(2, .ptr i2 0 0), (5, .ref i5 0 N), (6, .ref i6' 0 r.2.length), (7, .t (ti d')), (18, .t (ti d')), (19, .ref i6' 0 r.2.length), (20, .t (ti r.2.length)), (21, .t (tb false))], H') ∧
      WS H' i2 i5 i6' many (.clo f [] caps) r.1 r.2 Vs' ∧ Ext (OwnW i5 i6 Vs) (OwnW i5 i6' Vs') H H'
  | 0, d, H, i6, ws, Vs, dist, hdn, hW, hn2, hO, hr => by cases hr
  | n + 1, d, H, i6, ws, Vs, dist, hdn, hW, hn2, hO, hr => by
    rw [x75_3]
    unfold fromL at hr
    simp only at hr
    rcases Nat.lt_or_ge d ws.length with hlt | hge
    · have hcur : ws[d]? = some ws[d] := by simp [hlt]
      rw [hcur] at hr
      simp only at hr
      have hcl : ws[d].length ≤ 2 ^ 30 := by have := hO.b ws[d] (List.getElem_mem hlt); simp only at this; omega
      obtain ⟨H2, i62, Vs2, v, g1, g2, g3, g4⟩ := w75_2 hG hcall d (by omega) hD ws[d] hcl ws[d].length 0 H i6 ws Vs dist (by omega) hW hn2 hO hcur
      rw [List.drop_zero] at g1 g2 g4
      generalize hZ : ws[d].foldl (stepN out d) (dist, ws) = Z at *
      have hw : IntKind.i64.wrap ((d : Int) + 1) = (d : Int) + 1 := w96 (by omega)
      obtain ⟨H', i6', Vs', d', h1, h2, h3⟩ := w75_3 hG hcall hC hD r n (d + 1) H2 i62 Z.2 Vs2 Z.1 (by omega) g2 (g3.not hW.lt5.1 hn2) g4.mono hr
      refine ⟨H', i6', Vs', d', ?_, h2, g3.trans h3⟩
      simp at h1 g1
      simp [ir75_d3, hlt, g1, hw, h1]
    · rw [List.getElem?_eq_none hge] at hr
      simp only [Option.some.injEq] at hr
      subst hr
      refine ⟨H, i6, Vs, d, ?_, hW, by simpa using Ext.app (W := OwnW i5 i6 Vs) (H := H) []⟩
      simp [ir75_d3, show ¬ d < ws.length by omega]
theorem d75 {f : FuncId} {caps : List T} {N C D : Nat} {P : Nat → Prop} {out : Nat → List Ed} (hG : OkG N C D P out)
    (hcall : ∀ s, P s → ∀ H, evCall env (den env) f (.t (ti s) :: caps.map .t) H = some (.ref H.length 0 (out s).length, H ++ [.pure 3 (tle3 (out s))])) (hC : C < 2 ^ 20) (hN : 0 < N ∧ N ≤ 2 ^ 20) (starts : List Nat) (hs : starts.length + D * N ≤ 2 ^ 30) (hsP : ∀ x ∈ starts, P x)
    (n : Nat) (hn : n < 2 ^ 29) (r : List Int × List (List Nat)) (hr : fromL out n 0 (List.replicate N (-1), [starts]) = some r) (H : Heap) :
    ∃ H' i, den env 75 [.t (.agg [ti N, .clo f [] caps]), .t (.lst 1 (tin starts))] H = some (.ref i 0 N, H') ∧ H'[i]? = some (.pure 1 (til r.1)) ∧ H.length ≤ i ∧ H.length ≤ H'.length ∧ ∀ id, id < H.length → H'[id]? = H[id]? := by
  rw [den_ir e75 _ _ rfl (.inl rfl)]
  have h64 : ownR env 96 [.lst 1 [.int .i64 (-1)], ti N] = _ := r96 (-1) N hN.1 hN.2
  have hng : negs (List.replicate N (-1)) ≤ N := by have := negs_len (List.replicate N (-1)); simpa using this
  have hDN : D * negs (List.replicate N (-1)) ≤ D * N := Nat.mul_le_mul_left _ hng
  have hD : D ≤ D * N := Nat.le_mul_of_pos_right _ hN.1
  have hW : WS (H ++ [Blk.box 2 [.t (ti N), .t (.clo f [] caps)], .pure 1 [.int .i64 (-1)], .pure 1 (til (List.replicate N (-1))), .box 1 [.t (.lst 1 (tin starts))]]) H.length (H.length + 2) (H.length + 3) N (.clo f [] caps) (List.replicate N (-1)) [starts] [.t (.lst 1 (tin starts))] := by
    refine ⟨by simp, by simp, by simp, by simp, fun k l hl => ?_, fun k k' j a b hk => ?_, fun k j a hk => ?_⟩
    · rcases k with _ | k
      · simp at hl; subst hl; exact ⟨_, rfl, .inr (.inl ⟨rfl, rfl⟩)⟩
      · simp at hl
    · rcases k with _ | k <;> simp at hk
    · rcases k with _ | k <;> simp at hk
  have hO : OkD N C D 0 P (List.replicate N (-1), [starts]) := ⟨by simp, by simp, fun l hl => by simp at hl; subst hl; show l.length + D * negs (List.replicate N (-1)) ≤ 2 ^ 30; omega, fun l hl => by simp at hl; subst hl; exact hsP, by show D * negs (List.replicate N (-1)) ≤ 2 ^ 30; omega⟩
  have hown : ∀ id, id < H.length + 2 → ¬ OwnW (H.length + 2) (H.length + 3) [V.t (.lst 1 (tin starts))] id := fun id hid ho => by
    rcases ho with h | h | ⟨k, a, h⟩
    · omega
    · omega
    · rcases k with _ | k <;> simp at h
  obtain ⟨H', i6', Vs', d', h1, h2, h3⟩ := w75_3 (many := N) hG hcall hC (by omega) r n 0 _ _ _ _ _ (by omega) hW (hown _ (by omega)) hO hr
  have hl := h3.len
  simp only [List.length_append, List.length_cons, List.length_nil] at hl
  refine ⟨H', H.length + 2, ?_, h2.d, by omega, by omega, fun id hid => (h3.keep id (by simp; omega) (hown id (by omega))).trans (get_app hid)⟩
  simp at h1
  simp [ir75, ir75_c, h64, h1]
end Go.Proofs.Ytanlmanifpknoaa.Ev

namespace Go.Proofs.Ytanlmanifpknoaa.Ev
open Go
set_option linter.unusedVariables false
set_option linter.unusedSimpArgs false
attribute [local simp] til_getE til_length til_get til_drop til_take til_snoc til_fold take_snoc til_set tin_getE tin_length tin_take tleN_length tleN_getE
end Go.Proofs.Ytanlmanifpknoaa.Ev

namespace Go.Proofs.Ytanlmanifpknoaa.Ev
open Go
set_option linter.unusedVariables false
set_option linter.unusedSimpArgs false
end Go.Proofs.Ytanlmanifpknoaa.Ev

namespace Go.Proofs.Ytanlmanifpknoaa.Ev
open Go
set_option linter.unusedVariables false
set_option linter.unusedSimpArgs false

end Go.Proofs.Ytanlmanifpknoaa.Ev

namespace Go.Proofs.Ytanlmanifpknoaa.Ev
open Go
set_option linter.unusedVariables false
set_option linter.unusedSimpArgs false
inductive Rch (out : Nat → List Ed) (starts : List Nat) : Nat → Nat → Prop
  | start (s : Nat) : s ∈ starts → Rch out starts 0 s
  | step (k u : Nat) (e : Ed) : Rch out starts k u → e ∈ out u → Rch out starts (k + e.2.1) e.1
def At (ws : List (List Nat)) (k x : Nat) : Prop := ∃ l, ws[k]? = some l ∧ x ∈ l
theorem at_pad (ws : List (List Nat)) (m k x : Nat) : At (padW ws m) k x ↔ At ws k x := by
  unfold At padW
  constructor
  · rintro ⟨l, h1, h2⟩
    rcases Nat.lt_or_ge k ws.length with hk | hk
    · rw [List.getElem?_append_left hk] at h1; exact ⟨l, h1, h2⟩
    · rw [List.getElem?_append_right hk] at h1
      have := List.mem_of_getElem? h1
      rw [List.eq_of_mem_replicate this] at h2; cases h2
  · rintro ⟨l, h1, h2⟩
    exact ⟨l, by rw [List.getElem?_append_left (List.getElem?_eq_some_iff.1 h1).1]; exact h1, h2⟩
theorem at_push (dist : List Int) (d : Nat) (ws : List (List Nat)) (e : Ed) (k x : Nat) : At (pushW dist d ws e) k x ↔ At ws k x ∨ (¬ 0 ≤ dist[e.1]?.getD 0 ∧ k = d + e.2.1 ∧ x = e.1) := by
  unfold pushW
  split
  · rename_i h; simp [h]
  · rename_i h
    have hk : d + e.2.1 < (padW ws (d + e.2.1)).length := by rw [padW_length]; omega
    rw [← at_pad ws (d + e.2.1) k x]
    by_cases hkd : k = d + e.2.1
    · subst hkd
      unfold At
      rw [List.getElem?_set_self hk, List.getElem?_eq_getElem hk]
      simp [h]
    · unfold At
      rw [List.getElem?_set_ne (Ne.symm hkd)]
      simp [hkd]
theorem at_pushes (dist : List Int) (d k x : Nat) : ∀ (es : List Ed) (ws : List (List Nat)), At (es.foldl (pushW dist d) ws) k x ↔ At ws k x ∨ ∃ e ∈ es, ¬ 0 ≤ dist[e.1]?.getD 0 ∧ k = d + e.2.1 ∧ x = e.1
  | [], ws => by simp
  | e :: es, ws => by
    rw [List.foldl_cons, at_pushes dist d k x es, at_push]
    simp only [List.mem_cons, exists_eq_or_imp, or_assoc]

section
variable {N C D : Nat} {P : Nat → Prop} {out : Nat → List Ed} (hG : OkG N C D P out) {starts : List Nat} (hs : ∀ x ∈ starts, P x)
include hG hs in
theorem Rch.ok : ∀ {k v : Nat}, Rch out starts k v → P v := by
  intro k v h
  induction h with
  | start s h => exact hs s h
  | step k u e _ he ih => exact (hG.ed u ih e he).1
structure InvL (starts : List Nat) (out : Nat → List Ed) (P : Nat → Prop) (N d : Nat) (st : List Int × List (List Nat)) : Prop where
  n : st.1.length = N
  a : ∀ v, v < N → 0 ≤ st.1[v]?.getD 0 → ∃ k : Nat, k ≤ d ∧ st.1[v]?.getD 0 = k ∧ Rch out starts k v ∧ ∀ k' < k, ¬ Rch out starts k' v
  b : ∀ v k, Rch out starts k v → k < d → 0 ≤ st.1[v]?.getD 0
  c : ∀ k v, d ≤ k → At st.2 k v → Rch out starts k v
  e : ∀ u, P u → ∀ k : Nat, st.1[u]?.getD 0 = k → ∀ e ∈ out u, 0 ≤ st.1[e.1]?.getD 0 ∨ At st.2 (k + e.2.1) e.1
  s : ∀ x ∈ starts, 0 ≤ st.1[x]?.getD 0 ∨ (d = 0 ∧ At st.2 0 x)
  neg : ∀ v, v < N → ¬ 0 ≤ st.1[v]?.getD 0 → st.1[v]?.getD 0 = -1
include hG hs in
theorem InvL.step {d : Nat} {st : List Int × List (List Nat)} (h : InvL starts out P N d st) (x : Nat) (hx : At st.2 d x) : InvL starts out P N d (stepN out d st x) ∧ 0 ≤ (stepN out d st x).1[x]?.getD 0 ∧ (∀ v : Nat, 0 ≤ st.1[v]?.getD 0 → 0 ≤ (stepN out d st x).1[v]?.getD 0) ∧ (∀ k v, At st.2 k v → At (stepN out d st x).2 k v) := by
  have hR := h.c d x (Nat.le_refl _) hx
  have hP : P x := hR.ok hG hs
  have hxN := hG.lt x hP
  have hxl : x < st.1.length := by rw [h.n]; exact hxN
  unfold stepN
  split
  · rename_i h0
    exact ⟨h, h0, fun v hv => hv, fun k v hv => hv⟩
  · rename_i h0
    have hset : ∀ v, (st.1.set x (d : Int))[v]?.getD 0 = if v = x then (d : Int) else st.1[v]?.getD 0 := fun v => by
      by_cases hv : v = x
      · subst hv; rw [List.getElem?_set_self hxl, if_pos rfl]; rfl
      · rw [List.getElem?_set_ne (Ne.symm hv), if_neg hv]
    have hmono : ∀ v : Nat, 0 ≤ st.1[v]?.getD 0 → 0 ≤ (st.1.set x (d : Int))[v]?.getD 0 := fun v hv => by
      rw [hset]; split
      · omega
      · exact hv
    refine ⟨⟨by simpa using h.n, fun v hv hge => ?_, fun v k hk hd => hmono v (h.b v k hk hd), fun k v hk hat => ?_, fun u hu k hk e he => ?_, fun y hy => ?_, fun v hv hn => ?_⟩, by rw [hset, if_pos rfl]; omega, hmono, fun k v hat => (at_pushes _ _ _ _ _ _).2 (.inl hat)⟩
    · rw [hset] at hge ⊢
      by_cases hvx : v = x
      · subst hvx
        rw [if_pos rfl]
        exact ⟨d, Nat.le_refl _, rfl, hR, fun k' hk' hr => h0 (h.b v k' hr hk')⟩
      · rw [if_neg hvx] at hge ⊢
        exact h.a v hv hge
    · rcases (at_pushes _ _ _ _ _ _).1 hat with h1 | ⟨e, he, _, h2, h3⟩
      · exact h.c k v hk h1
      · subst h2 h3; exact .step d x e hR he
    · rw [hset] at hk
      by_cases hux : u = x
      · subst hux
        rw [if_pos rfl] at hk
        have hkd : k = d := by omega
        subst hkd
        by_cases hd : 0 ≤ (st.1.set u (k : Int))[e.1]?.getD 0
        · exact .inl hd
        · exact .inr ((at_pushes _ _ _ _ _ _).2 (.inr ⟨e, he, hd, rfl, rfl⟩))
      · rw [if_neg hux] at hk
        rcases h.e u hu k hk e he with h1 | h1
        · exact .inl (hmono _ h1)
        · exact .inr ((at_pushes _ _ _ _ _ _).2 (.inl h1))
    · rcases h.s y hy with h1 | ⟨h1, h2⟩
      · exact .inl (hmono _ h1)
      · exact .inr ⟨h1, (at_pushes _ _ _ _ _ _).2 (.inl h2)⟩
    · rw [hset] at hn ⊢
      split at hn
      · omega
      · rename_i hvx; rw [if_neg hvx]; exact h.neg v hv hn
include hG hs in
theorem InvL.steps {d : Nat} : ∀ (l : List Nat) {st : List Int × List (List Nat)}, InvL starts out P N d st → (∀ x ∈ l, At st.2 d x) → InvL starts out P N d (l.foldl (stepN out d) st) ∧ (∀ x ∈ l, 0 ≤ (l.foldl (stepN out d) st).1[x]?.getD 0) ∧ (∀ v : Nat, 0 ≤ st.1[v]?.getD 0 → 0 ≤ (l.foldl (stepN out d) st).1[v]?.getD 0) ∧ (∀ k v, At st.2 k v → At (l.foldl (stepN out d) st).2 k v)
  | [], st, h, _ => ⟨h, by simp, fun v hv => hv, fun k v hv => hv⟩
  | x :: l, st, h, hx => by
    obtain ⟨h1, h2, h3, h4⟩ := h.step hG hs x (hx x (List.mem_cons_self ..))
    obtain ⟨g1, g2, g3, g4⟩ := InvL.steps l h1 (fun y hy => h4 _ _ (hx y (List.mem_cons_of_mem _ hy)))
    rw [List.foldl_cons]
    refine ⟨g1, fun y hy => ?_, fun v hv => g3 v (h3 v hv), fun k v hv => g4 k v (h4 k v hv)⟩
    rcases List.mem_cons.1 hy with rfl | hy
    · exact g3 _ h2
    · exact g2 y hy
theorem stepN_layer' (hG : OkG N C D P out) (d : Nat) (st : List Int × List (List Nat)) (s : Nat) (hs : P s) (h : d < st.2.length) : (stepN out d st s).2[d]? = st.2[d]? ∧ d < (stepN out d st s).2.length := by
  have := stepN_layer hG st s hs h
  refine ⟨this, ?_⟩
  rcases Nat.lt_or_ge d (stepN out d st s).2.length with h1 | h1
  · exact h1
  · rw [List.getElem?_eq_none h1] at this
    rw [List.getElem?_eq_getElem h] at this; cases this
theorem steps_layer (hG : OkG N C D P out) (d : Nat) : ∀ (l : List Nat) (st : List Int × List (List Nat)), (∀ x ∈ l, P x) → d < st.2.length → (l.foldl (stepN out d) st).2[d]? = st.2[d]?
  | [], st, _, _ => rfl
  | x :: l, st, hl, h => by
    obtain ⟨h1, h2⟩ := stepN_layer' hG d st x (hl x (List.mem_cons_self ..)) h
    rw [List.foldl_cons, steps_layer hG d l _ (fun y hy => hl y (List.mem_cons_of_mem _ hy)) h2, h1]
include hG hs in
theorem InvL.next {d : Nat} {st : List Int × List (List Nat)} (h : InvL starts out P N d st) (hall : ∀ x, At st.2 d x → 0 ≤ st.1[x]?.getD 0) : InvL starts out P N (d + 1) st := by
  refine ⟨h.n, fun v hv hge => ?_, fun v k hk hd => ?_, fun k v hk hat => h.c k v (by omega) hat, h.e, fun x hx => ?_, h.neg⟩
  · obtain ⟨k, h1, h2, h3, h4⟩ := h.a v hv hge
    exact ⟨k, by omega, h2, h3, h4⟩
  · rcases Nat.lt_or_ge k d with hkd | hkd
    · exact h.b v k hk hkd
    · have hkd : k = d := by omega
      cases hk with
      | start s hs =>
        rcases h.s v hs with h1 | ⟨_, h1⟩
        · exact h1
        · exact hall v (hkd ▸ h1)
      | step k1000 u e hu he =>
        have hPu := hu.ok hG hs
        have hc := (hG.ed u hPu e he).2.1
        have hset := h.b u k1000 hu (by omega)
        obtain ⟨k1001, h1, h2, h3, h4⟩ := h.a u (hG.lt u hPu) hset
        rcases h.e u hPu k1001 h2 e he with h5 | h5
        · exact h5
        · have hk1 : k1001 ≤ k1000 := by
            rcases Nat.lt_or_ge k1000 k1001 with h6 | h6
            · exact absurd hu (h4 k1000 h6)
            · exact h6
          rcases Nat.lt_or_ge k1001 k1000 with h6 | h6
          · exact h.b e.1 (k1001 + e.2.1) (.step k1001 u e h3 he) (by omega)
          · have : k1001 = k1000 := by omega
            subst this
            exact hall e.1 (hkd ▸ h5)
  · rcases h.s x hx with h1 | ⟨h1, h2⟩
    · exact .inl h1
    · exact .inl (hall x (h1 ▸ h2))
theorem negs_le (hG : OkG N C D P out) (d : Nat) (x : Nat) (hx : P x) (st : List Int × List (List Nat)) (hn : st.1.length = N) : (negs (stepN out d st x).1 = negs st.1 ∧ stepN out d st x = st ∨ negs (stepN out d st x).1 + 1 = negs st.1) ∧ ((stepN out d st x).1.length = N) := by
  have hxl : x < st.1.length := by rw [hn]; exact hG.lt x hx
  unfold stepN
  split
  · exact ⟨.inl ⟨rfl, rfl⟩, hn⟩
  · rename_i h
    refine ⟨.inr (negs_set st.1 x d hxl ?_), by simpa using hn⟩
    rw [List.getElem?_eq_getElem hxl] at h
    simpa using h
theorem negs_steps (hG : OkG N C D P out) (d : Nat) : ∀ (l : List Nat) (st : List Int × List (List Nat)), (∀ x ∈ l, P x) → st.1.length = N → negs (l.foldl (stepN out d) st).1 = negs st.1 ∧ l.foldl (stepN out d) st = st ∨ negs (l.foldl (stepN out d) st).1 + 1 ≤ negs st.1
  | [], st, _, _ => .inl ⟨rfl, rfl⟩
  | x :: l, st, hl, hn => by
    obtain ⟨h1, h2⟩ := negs_le hG d x (hl x (List.mem_cons_self ..)) st hn
    rw [List.foldl_cons]
    have ih := negs_steps hG d l (stepN out d st x) (fun y hy => hl y (List.mem_cons_of_mem _ hy)) h2
    rcases h1 with ⟨h1, h3⟩ | h1
    · rw [h3] at ih ⊢; exact ih
    · right
      rcases ih with ⟨h4, _⟩ | h4 <;> omega
theorem steps_len (hG : OkG N C D P out) (d : Nat) : ∀ (l : List Nat) (st : List Int × List (List Nat)), (∀ x ∈ l, P x) → st.2.length ≤ d + C + 1 → (l.foldl (stepN out d) st).2.length ≤ d + C + 1
  | [], st, _, h => h
  | x :: l, st, hl, h => by
    rw [List.foldl_cons]
    refine steps_len hG d l _ (fun y hy => hl y (List.mem_cons_of_mem _ hy)) ?_
    unfold stepN
    split
    · exact h
    · exact pushes_length _ _ _ _ _ (fun e he => by have := (hG.ed x (hl x (List.mem_cons_self ..)) e he).2.2; omega) h
include hG hs in
theorem fromL_ok : ∀ (n d : Nat) (st : List Int × List (List Nat)), InvL starts out P N d st → st.2.length ≤ d + C + 1 → (C + 1) * negs st.1 + (st.2.length - d) < n →
    ∃ r d', fromL out n d st = some r ∧ InvL starts out P N d' r ∧ r.2.length ≤ d'
  | 0, d, st, hI, hl, hn => by omega
  | n + 1, d, st, hI, hl, hn => by
    unfold fromL
    rcases Nat.lt_or_ge d st.2.length with hd | hd
    · rw [List.getElem?_eq_getElem hd]
      simp only
      have hat : ∀ x ∈ st.2[d], At st.2 d x := fun x hx => ⟨_, List.getElem?_eq_getElem hd, hx⟩
      have hP : ∀ x ∈ st.2[d], P x := fun x hx => (hI.c d x (Nat.le_refl _) (hat x hx)).ok hG hs
      obtain ⟨h1, h2, h3, h4⟩ := hI.steps hG hs st.2[d] hat
      have hlay := steps_layer hG d st.2[d] st hP hd
      have hng := negs_steps hG d st.2[d] st hP hI.n
      have hlen := steps_len hG d st.2[d] st hP hl
      have hnext := h1.next hG hs (fun x hx => by
        obtain ⟨l, g1, g2⟩ := hx
        rw [hlay, List.getElem?_eq_getElem hd] at g1
        cases g1; exact h2 x g2)
      have hmul : ∀ a b : Nat, a + 1 ≤ b → (C + 1) * a + (C + 1) ≤ (C + 1) * b := fun a b h => by
        have := Nat.mul_le_mul_left (C + 1) h
        rwa [Nat.mul_add, Nat.mul_one] at this
      refine fromL_ok n (d + 1) _ hnext (by omega) ?_
      rcases hng with ⟨g1, g2⟩ | g1
      · rw [g2]; omega
      · have := hmul _ _ g1; omega
    · rw [List.getElem?_eq_none hd]
      exact ⟨st, d, rfl, hI, hd⟩
include hG hs in
theorem from_right : ∃ r, fromL out ((C + 1) * N + 2) 0 (List.replicate N (-1), [starts]) = some r ∧ r.1.length = N ∧
    ∀ v, v < N → (r.1[v]?.getD 0 = -1 ∧ ∀ k, ¬ Rch out starts k v) ∨ ∃ k : Nat, r.1[v]?.getD 0 = k ∧ Rch out starts k v ∧ ∀ k' < k, ¬ Rch out starts k' v := by
  have hrep : ∀ v : Nat, v < N → (List.replicate N (-1 : Int))[v]?.getD 0 = -1 := fun v hv => by simp [hv]
  have hI : InvL starts out P N 0 (List.replicate N (-1), [starts]) := by
    refine ⟨by simp, fun v hv h => ?_, fun v k _ h => by omega, fun k v _ h => ?_, fun u hu k hk e he => ?_, fun x hx => .inr ⟨rfl, starts, rfl, hx⟩, fun v hv _ => hrep v hv⟩
    · simp only [hrep v hv] at h; omega
    · obtain ⟨l, h1, h2⟩ := h
      rcases k with _ | k
      · simp at h1; subst h1; exact .start v h2
      · simp at h1
    · simp only [hrep u (hG.lt u hu)] at hk; omega
  have hng : negs (List.replicate N (-1)) ≤ N := by have := negs_len (List.replicate N (-1)); simpa using this
  have hmul := Nat.mul_le_mul_left (C + 1) hng
  obtain ⟨r, d', h1, h2, h3⟩ := fromL_ok hG hs ((C + 1) * N + 2) 0 (List.replicate N (-1), [starts]) hI (by simp) (by
    simp only [List.length_singleton]; omega)
  have hno : ∀ k x, d' ≤ k → ¬ At r.2 k x := fun k x hk ⟨l, g1, _⟩ => by
    rw [List.getElem?_eq_none (by omega)] at g1; cases g1
  have hall : ∀ m, InvL starts out P N (d' + m) r := fun m => by
    induction m with
    | zero => exact h2
    | succ m ih => exact ih.next hG hs (fun x hx => absurd hx (hno _ x (by omega)))
  refine ⟨r, h1, h2.n, fun v hv => ?_⟩
  by_cases hge : 0 ≤ r.1[v]?.getD 0
  · obtain ⟨k, _, g1, g2, g3⟩ := h2.a v hv hge
    exact .inr ⟨k, g1, g2, g3⟩
  · refine .inl ⟨h2.neg v hv hge, fun k hk => hge ((hall (k + 1)).b v k hk (by omega))⟩
end
end Go.Proofs.Ytanlmanifpknoaa.Ev

namespace Go.Proofs.Ytanlmanifpknoaa.Ev
open Go
set_option linter.unusedVariables false
set_option linter.unusedSimpArgs false

section
variable {X : Type}
def ends (sc : X → List X) : Nat → X → List X
  | 0, x => [x]
  | k + 1, x => (ends sc k x).flatMap sc
theorem ends_step {sc : X → List X} {k : Nat} {s x y : X} (h : x ∈ ends sc k s) (hy : y ∈ sc x) : y ∈ ends sc (k + 1) s := List.mem_flatMap.2 ⟨x, h, hy⟩
def Dist (sc : X → List X) (s : X) (d : Nat) (x : X) : Prop := x ∈ ends sc d s ∧ ∀ e, e < d → x ∉ ends sc e s
theorem Dist.uniq {sc : X → List X} {s x : X} {d e : Nat} (h : Dist sc s d x) (h' : Dist sc s e x) : d = e := by
  rcases Nat.lt_trichotomy d e with h1 | h1 | h1
  · exact absurd h.1 (h'.2 d h1)
  · exact h1
  · exact absurd h'.1 (h.2 e h1)
theorem dist_of {sc : X → List X} {s x : X} : ∀ {k : Nat}, x ∈ ends sc k s → ∃ d, d ≤ k ∧ Dist sc s d x := by
  intro k
  induction k using Nat.strongRecOn with
  | ind k ih =>
    intro h
    by_cases h1 : ∃ e, e < k ∧ x ∈ ends sc e s
    · obtain ⟨e, he, hx⟩ := h1
      obtain ⟨d, hd, h2⟩ := ih e he hx
      exact ⟨d, by omega, h2⟩
    · exact ⟨k, Nat.le_refl _, h, fun e he hx => h1 ⟨e, he, hx⟩⟩

def sumL (f : X → Int) : List X → Int
  | [] => 0
  | x :: l => f x + sumL f l
theorem sumL_append (f : X → Int) : ∀ a b, sumL f (a ++ b) = sumL f a + sumL f b
  | [], b => by simp [sumL]
  | x :: a, b => by simp only [List.cons_append, sumL, sumL_append f a b]; omega
theorem sumL_congr {f g : X → Int} : ∀ (l : List X), (∀ x ∈ l, f x = g x) → sumL f l = sumL g l
  | [], _ => rfl
  | x :: l, h => by simp only [sumL, h x (List.mem_cons_self ..), sumL_congr l (fun y hy => h y (List.mem_cons_of_mem _ hy))]
theorem sumL_zero {f : X → Int} (l : List X) (h : ∀ x ∈ l, f x = 0) : sumL f l = 0 := by
  induction l with
  | nil => rfl
  | cons x l ih => simp only [sumL, h x (List.mem_cons_self ..), ih (fun y hy => h y (List.mem_cons_of_mem _ hy))]; rfl
theorem sumL_add (f g : X → Int) : ∀ (l : List X), sumL (fun x => f x + g x) l = sumL f l + sumL g l
  | [] => rfl
  | x :: l => by simp only [sumL, sumL_add f g l]; omega
variable [DecidableEq X]
theorem count_flat (sc : X → List X) (y : X) : ∀ (l : List X), ((l.flatMap sc).count y : Int) = sumL (fun z => ((sc z).count y : Int)) l
  | [] => by simp [sumL]
  | x :: l => by rw [List.flatMap_cons, List.count_append, sumL, ← count_flat sc y l]; omega
theorem sumL_one (f : X → Int) (a : X) : ∀ (Q : List X), Q.Nodup → sumL (fun z => if z = a then f z else 0) Q = if a ∈ Q then f a else 0
  | [], _ => by simp [sumL]
  | x :: Q, h => by
    rw [List.nodup_cons] at h
    simp only [sumL, sumL_one f a Q h.2, List.mem_cons]
    by_cases hx : x = a
    · subst hx; simp [h.1]
    · simp [hx, Ne.symm hx]
theorem sumL_count (f : X → Int) (Q : List X) (hQ : Q.Nodup) : ∀ (L : List X), (∀ z ∈ L, f z ≠ 0 → z ∈ Q) → sumL f L = sumL (fun z => (L.count z : Int) * f z) Q
  | [], _ => by rw [sumL_zero Q (fun x _ => by simp)]; rfl
  | a :: L, h => by
    have ih := sumL_count f Q hQ L (fun z hz => h z (List.mem_cons_of_mem _ hz))
    have h1 := sumL_one f a Q hQ
    have h2 : sumL (fun z => ((a :: L).count z : Int) * f z) Q = sumL (fun z => (L.count z : Int) * f z) Q + sumL (fun z => if z = a then f z else 0) Q := by
      rw [← sumL_add]
      refine sumL_congr Q fun z _ => ?_
      by_cases hz : z = a
      · subst hz; simp [Int.add_mul]
      · simp [hz, List.count_cons, Ne.symm hz]
    rw [h2, ← ih, h1, sumL]
    by_cases ha : a ∈ Q
    · rw [if_pos ha]; omega
    · rw [if_neg ha]
      have : f a = 0 := Classical.byContradiction fun hn => ha (h a (List.mem_cons_self ..) hn)
      omega
end
end Go.Proofs.Ytanlmanifpknoaa.Ev

namespace Go.Proofs.Ytanlmanifpknoaa.Ev
open Go
set_option linter.unusedVariables false
set_option linter.unusedSimpArgs false
set_option linter.unusedSectionVars false

theorem nodup_len : ∀ (N : Nat) (l : List Nat), l.Nodup → (∀ x ∈ l, x < N) → l.length ≤ N
  | 0, l, _, h => by
    cases l with
    | nil => simp
    | cons x l => have := h x (List.mem_cons_self ..); omega
  | N + 1, l, hn, h => by
    have h1 := nodup_len N (l.erase N) (hn.erase N) (fun x hx => by
      have h2 := h x (List.mem_of_mem_erase hx)
      have h3 : x ≠ N := fun e => by subst e; exact hn.not_mem_erase hx
      omega)
    have := List.length_erase (a := N) (l := l)
    split at this <;> omega

section
variable {X : Type} [DecidableEq X] (sc : X → List X) (cd : X → Nat) (ok : X → Prop) (N : Nat)
def stepA (code : Nat) (st : List Int × List Int × List X) (y : X) : List Int × List Int × List X :=
  let new : Bool := decide (st.1[cd y]?.getD 0 < 0)
  let far := if new then st.1.set (cd y) (IntKind.i64.wrap (st.1[code]?.getD 0 + 1)) else st.1
  let queue := if new then st.2.2 ++ [y] else st.2.2
  let ways := if far[cd y]?.getD 0 = IntKind.i64.wrap (far[code]?.getD 0 + 1) then st.2.1.set (cd y) (IntKind.i64.wrap (st.2.1[cd y]?.getD 0 + st.2.1[code]?.getD 0)) else st.2.1
  (far, ways, queue)
def bfsA : Nat → Nat → List Int × List Int × List X → Option (List Int × List Int × List X)
  | 0, _, _ => none
  | n + 1, k, st => match st.2.2[k]? with
    | none => some st
    | some x => bfsA n (k + 1) ((sc x).foldl (stepA cd (cd x)) st)
structure BfsOk : Prop where
  lt : ∀ x, ok x → cd x < N
  inj : ∀ x y, ok x → ok y → cd x = cd y → x = y
  suc : ∀ x, ok x → ∀ y ∈ sc x, ok y
  big : N ≤ 2 ^ 20
variable (s : X)
open Classical in
noncomputable def lev (z : X) : Int := if h : ∃ d, Dist sc s d z then (h.choose : Int) else -1
theorem lev_of {z : X} {d : Nat} (h : Dist sc s d z) : lev sc s z = d := by
  unfold lev
  rw [dif_pos ⟨d, h⟩]
  exact congrArg _ (Exists.choose_spec (⟨d, h⟩ : ∃ d, Dist sc s d z) |>.uniq h)
noncomputable def cnt (z : X) : Int := ((ends sc (lev sc s z).toNat s).count z : Int)
noncomputable def tot (Q : List X) (y : X) : Int := (if y = s then 1 else 0) + sumL (fun z => if lev sc s z + 1 = lev sc s y then cnt sc s z * ((sc z).count y : Int) else 0) Q
theorem tot_right (Q : List X) (hQ : Q.Nodup) (hd : ∀ z ∈ Q, ∃ e : Nat, Dist sc s e z) (y : X) (e : Nat) (hy : Dist sc s e y) (hall : ∀ z e', e = e' + 1 → Dist sc s e' z → z ∈ Q) : tot sc s Q y = ((ends sc e s).count y : Int) := by
  have hs0 : Dist sc s 0 s := ⟨by simp [ends], fun e he => by omega⟩
  unfold tot
  rw [lev_of sc s hy]
  cases e with
  | zero =>
    have : y = s := by have := hy.1; simpa [ends] using this
    subst this
    rw [sumL_zero Q (fun z hz => by
      obtain ⟨e, he⟩ := hd z hz
      rw [lev_of sc y he, if_neg (by omega)])]
    simp [ends]
  | succ e =>
    have hne : y ≠ s := fun h => by subst h; have := hy.uniq hs0; omega
    rw [if_neg hne, Int.zero_add]
    show _ = (((ends sc e s).flatMap sc).count y : Int)
    rw [count_flat]
    have hz : ∀ z ∈ ends sc e s, y ∈ sc z → Dist sc s e z := fun z hz hyz => by
      obtain ⟨d, hd1, hd2⟩ := dist_of hz
      rcases Nat.lt_or_ge d e with h | h
      · exact absurd (ends_step hd2.1 hyz) (hy.2 (d + 1) (by omega))
      · have : d = e := by omega
        subst this; exact hd2
    rw [sumL_congr (g := fun z => if lev sc s z + 1 = ((e + 1 : Nat) : Int) then ((sc z).count y : Int) else 0) (ends sc e s) (fun z hzm => by
      by_cases hyz : y ∈ sc z
      · rw [lev_of sc s (hz z hzm hyz), if_pos (by omega)]
      · rw [List.count_eq_zero_of_not_mem hyz]; simp), sumL_count (fun z => if lev sc s z + 1 = ((e + 1 : Nat) : Int) then ((sc z).count y : Int) else 0) Q hQ (ends sc e s) (fun z hzm hne => by
      by_cases hyz : y ∈ sc z
      · exact hall z e rfl (hz z hzm hyz)
      · exact absurd (by rw [List.count_eq_zero_of_not_mem hyz]; simp) hne)]
    refine sumL_congr Q fun z hzm => ?_
    by_cases hl : lev sc s z + 1 = ((e + 1 : Nat) : Int)
    · rw [if_pos hl, if_pos hl, cnt, show (lev sc s z).toNat = e by omega]
    · rw [if_neg hl, if_neg hl, Int.mul_zero]
structure BI (k d : Nat) (x : X) (pre : List X) (st : List Int × List Int × List X) : Prop where
  n1 : st.1.length = N
  n2 : st.2.1.length = N
  nd : st.2.2.Nodup
  okq : ∀ z ∈ st.2.2, ok z
  xk : st.2.2[k]? = some x
  lx : Dist sc s d x
  fin : ∀ z ∈ st.2.2, ∃ e : Nat, e ≤ d + 1 ∧ st.1[cd z]?.getD 0 = e ∧ Dist sc s e z
  fout : ∀ z, ok z → z ∉ st.2.2 → st.1[cd z]?.getD 0 = -1
  srt : ∀ (i j : Nat) (y z : X), i ≤ j → st.2.2[i]? = some y → st.2.2[j]? = some z → lev sc s y ≤ lev sc s z
  idx : ∀ (i : Nat) z, st.2.2[i]? = some z → lev sc s z ≤ i
  low : ∀ z e, e ≤ d → Dist sc s e z → z ∈ st.2.2
  cl : ∀ (i : Nat) z, i < k → st.2.2[i]? = some z → ∀ y ∈ sc z, y ∈ st.2.2
  pr : ∀ y ∈ pre, y ∈ st.2.2
  wy : ∀ y, ok y → st.2.1[cd y]?.getD 0 = IntKind.i64.wrap (tot sc s (st.2.2.take k) y + if (d : Int) + 1 = lev sc s y then cnt sc s x * (pre.count y : Int) else 0)
  st0 : s ∈ st.2.2
variable {sc cd ok N s}
theorem wrap_add (a b : Int) : IntKind.i64.wrap (IntKind.i64.wrap a + IntKind.i64.wrap b) = IntKind.i64.wrap (a + b) := by
  simp only [IntKind.wrap_i64]; omega
theorem BI.step (hB : BfsOk sc cd ok N) {k d : Nat} {x : X} {pre : List X} {st : List Int × List Int × List X} (h : BI sc cd ok N s k d x pre st) (y : X) (hy : y ∈ sc x) : BI sc cd ok N s k d x (pre ++ [y]) (stepA cd (cd x) st y) := by
  have hxq : x ∈ st.2.2 := List.mem_of_getElem? h.xk
  have hox := h.okq x hxq
  have hoy := hB.suc x hox y hy
  have hlx := lev_of sc s h.lx
  have hkl : k < st.2.2.length := (List.getElem?_eq_some_iff.1 h.xk).1
  have hQN : st.2.2.length ≤ N := by
    have := nodup_len N (st.2.2.map cd) (by
      exact List.Pairwise.map (R := fun a b => cd a ≠ cd b) cd (fun a b hab => hab) (List.Pairwise.imp_of_mem (fun {a b} ha hb hne he => hne (hB.inj a b (h.okq a ha) (h.okq b hb) he)) h.nd)) (fun z hz => by
      obtain ⟨w, hw, rfl⟩ := List.mem_map.1 hz
      exact hB.lt w (h.okq w hw))
    simpa using this
  have hbig := hB.big
  have hdk : d ≤ k := by have := h.idx k x h.xk; omega
  have hw1 : IntKind.i64.wrap ((d : Int) + 1) = (d : Int) + 1 := w96 (by omega)
  obtain ⟨e1000, he0, hfx, hdx⟩ := h.fin x hxq
  have hed : e1000 = d := hdx.uniq h.lx
  subst hed
  have hcx : cd x < st.1.length := by rw [h.n1]; exact hB.lt x hox
  have hcy : cd y < st.1.length := by rw [h.n1]; exact hB.lt y hoy
  have hcy2 : cd y < st.2.1.length := by rw [h.n2]; exact hB.lt y hoy
  have hne : ∀ z, ok z → z ≠ y → cd z ≠ cd y := fun z hz hn e => hn (hB.inj z y hz hoy e)
  have hways : ∀ (Q : List X), Q.take k = st.2.2.take k → ∀ w : List Int, w = (if lev sc s y = (e1000 : Int) + 1 then st.2.1.set (cd y) (IntKind.i64.wrap (st.2.1[cd y]?.getD 0 + st.2.1[cd x]?.getD 0)) else st.2.1) → ∀ z, ok z → w[cd z]?.getD 0 = IntKind.i64.wrap (tot sc s (Q.take k) z + if (e1000 : Int) + 1 = lev sc s z then cnt sc s x * ((pre ++ [y]).count z : Int) else 0) := by
    intro Q hQ w hw z hz
    rw [hQ, hw]
    by_cases hzy : z = y
    · subst hzy
      by_cases hl : lev sc s z = (e1000 : Int) + 1
      · rw [if_pos hl, if_pos hl.symm, List.getElem?_set_self hcy2, Option.getD_some, h.wy z hz, if_pos hl.symm, h.wy x hox, hlx, if_neg (by omega), Int.add_zero]
        rw [tot_right sc s (st.2.2.take k) (h.nd.sublist (List.take_sublist _ _)) (fun z hz => by
            obtain ⟨e, _, _, he⟩ := h.fin z (List.mem_of_mem_take hz); exact ⟨e, he⟩) x e1000 h.lx (fun z e' he hz => by
            have hzq := h.low z e' (by omega) hz
            obtain ⟨i, hi⟩ := List.mem_iff_getElem?.1 hzq
            have hik : i < k := by
              rcases Nat.lt_or_ge i k with h1 | h1
              · exact h1
              · have := h.srt k i x z h1 h.xk hi
                rw [hlx, lev_of sc s hz] at this; omega
            exact List.mem_iff_getElem?.2 ⟨i, by rw [List.getElem?_take, if_pos hik]; exact hi⟩)]
        rw [wrap_add]
        have hc : cnt sc s x = ((ends sc e1000 s).count x : Int) := by rw [cnt, hlx]; simp
        rw [hc, List.count_append, show [z].count z = 1 by simp, Int.natCast_add, Int.mul_add, Int.natCast_one, Int.mul_one, Int.add_assoc]
      · rw [if_neg hl, if_neg (fun e => hl e.symm), h.wy z hz, if_neg (fun e => hl e.symm)]
    · have hcnt : (pre ++ [y]).count z = pre.count z := by
        rw [List.count_append, List.count_cons]; simp [Ne.symm hzy]
      rw [hcnt, ← h.wy z hz]
      split
      · rw [List.getElem?_set_ne (fun e => hne z hz hzy e.symm)]
      · rfl
  unfold stepA
  by_cases hnew : st.1[cd y]?.getD 0 < 0
  · have hyq : y ∉ st.2.2 := fun hq => by obtain ⟨e, _, h1, _⟩ := h.fin y hq; omega
    have hdy : Dist sc s (e1000 + 1) y := ⟨ends_step h.lx.1 hy, fun e he hm => by
      obtain ⟨d', h1, h2⟩ := dist_of hm
      exact hyq (h.low y d' (by omega) h2)⟩
    have hly := lev_of sc s hdy
    have hxy : x ≠ y := fun e => hyq (e ▸ hxq)
    have hfar : ∀ z, ok z → z ≠ y → (st.1.set (cd y) ((e1000 : Int) + 1))[cd z]?.getD 0 = st.1[cd z]?.getD 0 := fun z hz hn => by rw [List.getElem?_set_ne (fun e => hne z hz hn e.symm)]
    have hfy : (st.1.set (cd y) ((e1000 : Int) + 1))[cd y]?.getD 0 = (e1000 : Int) + 1 := by rw [List.getElem?_set_self hcy]; rfl
    simp only [hnew, decide_true, if_true, hfx, hw1, hfy, hfar x hox hxy]
    have hgl : ∀ (i : Nat) z, (st.2.2 ++ [y])[i]? = some z → st.2.2[i]? = some z ∨ (i = st.2.2.length ∧ z = y) := fun i z hz => by
      rcases Nat.lt_or_ge i st.2.2.length with h1 | h1
      · rw [List.getElem?_append_left h1] at hz; exact .inl hz
      · rw [List.getElem?_append_right h1] at hz
        have := (List.getElem?_eq_some_iff.1 hz).1
        simp at this
        have h0 : i - st.2.2.length = 0 := by omega
        rw [h0] at hz
        exact .inr ⟨by omega, by simpa using hz.symm⟩
    have htk : (st.2.2 ++ [y]).take k = st.2.2.take k := List.take_append_of_le_length (by omega)
    refine ⟨by simpa using h.n1, by simpa using h.n2, ?_, fun z hz => ?_, by rw [List.getElem?_append_left hkl]; exact h.xk, h.lx, fun z hz => ?_, fun z hz hzn => ?_, fun i j a b hij ha hb => ?_, fun i z hz => ?_, fun z e he hz => List.mem_append_left _ (h.low z e he hz), fun i z hi hz a ha => ?_, fun a ha => ?_, ?_, List.mem_append_left _ h.st0⟩
    · exact List.nodup_append.2 ⟨h.nd, by simp, fun a ha b hb e => by simp at hb; subst hb e; exact hyq ha⟩
    · rcases List.mem_append.1 hz with hz | hz
      · exact h.okq z hz
      · simp at hz; subst hz; exact hoy
    · rcases List.mem_append.1 hz with hz | hz
      · obtain ⟨e, h1, h2, h3⟩ := h.fin z hz
        exact ⟨e, h1, (hfar z (h.okq z hz) (fun e => hyq (e ▸ hz))).trans h2, h3⟩
      · simp at hz; subst hz
        exact ⟨e1000 + 1, Nat.le_refl _, hfy.trans (by omega), hdy⟩
    · have h1 : z ∉ st.2.2 := fun hq => hzn (List.mem_append_left _ hq)
      have h2 : z ≠ y := fun e => hzn (by subst e; simp)
      exact (hfar z hz h2).trans (h.fout z hz h1)
    · rcases hgl i a ha with h1 | ⟨h1, h2⟩
      · rcases hgl j b hb with h3 | ⟨h3, h4⟩
        · exact h.srt i j a b hij h1 h3
        · obtain ⟨e, g1, g2, g3⟩ := h.fin a (List.mem_of_getElem? h1)
          rw [h4, hly, lev_of sc s g3]; omega
      · rcases hgl j b hb with h3 | ⟨h3, h4⟩
        · have := (List.getElem?_eq_some_iff.1 h3).1; omega
        · rw [h2, h4]; omega
    · rcases hgl i z hz with h1 | ⟨h1, h2⟩
      · exact h.idx i z h1
      · rw [h2, hly]; omega
    · rcases hgl i z hz with h1 | ⟨h1, h2⟩
      · exact List.mem_append_left _ (h.cl i z hi h1 a ha)
      · omega
    · rcases List.mem_append.1 ha with ha | ha
      · exact List.mem_append_left _ (h.pr a ha)
      · exact List.mem_append_right _ ha
    · exact hways (st.2.2 ++ [y]) htk _ (by rw [hly]; simp)
  · have hyq : y ∈ st.2.2 := Classical.byContradiction fun hq => by have := h.fout y hoy hq; omega
    obtain ⟨e, g1, g2, g3⟩ := h.fin y hyq
    have hly := lev_of sc s g3
    simp only [hnew, decide_false, Bool.false_eq_true, if_false]
    simp only [hfx, hw1, g2]
    refine ⟨h.n1, by split <;> simp [h.n2], h.nd, h.okq, h.xk, h.lx, h.fin, h.fout, h.srt, h.idx, h.low, h.cl, fun a ha => ?_, hways st.2.2 rfl _ (by rw [hly]), h.st0⟩
    rcases List.mem_append.1 ha with ha | ha
    · exact h.pr a ha
    · simp at ha; subst ha; exact hyq
theorem BI.steps (hB : BfsOk sc cd ok N) {k d : Nat} {x : X} : ∀ (l pre : List X) {st : List Int × List Int × List X}, BI sc cd ok N s k d x pre st → (∀ y ∈ l, y ∈ sc x) → BI sc cd ok N s k d x (pre ++ l) (l.foldl (stepA cd (cd x)) st)
  | [], pre, st, h, _ => by simpa using h
  | y :: l, pre, st, h, hl => by
    have := BI.steps hB l (pre ++ [y]) (h.step hB y (hl y (List.mem_cons_self ..))) (fun z hz => hl z (List.mem_cons_of_mem _ hz))
    simpa using this
end
end Go.Proofs.Ytanlmanifpknoaa.Ev

namespace Go.Proofs.Ytanlmanifpknoaa.Ev
open Go
set_option linter.unusedVariables false
set_option linter.unusedSimpArgs false
set_option linter.unusedSectionVars false

section
variable {X : Type} [DecidableEq X] (sc : X → List X) (cd : X → Nat) (ok : X → Prop) (N : Nat) (s : X)
structure BO (k : Nat) (st : List Int × List Int × List X) : Prop where
  n1 : st.1.length = N
  n2 : st.2.1.length = N
  nd : st.2.2.Nodup
  okq : ∀ z ∈ st.2.2, ok z
  fin : ∀ z ∈ st.2.2, ∃ e : Nat, st.1[cd z]?.getD 0 = e ∧ Dist sc s e z
  fout : ∀ z, ok z → z ∉ st.2.2 → st.1[cd z]?.getD 0 = -1
  srt : ∀ (i j : Nat) (y z : X), i ≤ j → st.2.2[i]? = some y → st.2.2[j]? = some z → lev sc s y ≤ lev sc s z
  idx : ∀ (i : Nat) z, st.2.2[i]? = some z → lev sc s z ≤ i
  low : ∀ x d, st.2.2[k]? = some x → Dist sc s d x → (∀ z e, e ≤ d → Dist sc s e z → z ∈ st.2.2) ∧ ∀ z ∈ st.2.2, lev sc s z ≤ (d : Int) + 1
  cl : ∀ (i : Nat) z, i < k → st.2.2[i]? = some z → ∀ y ∈ sc z, y ∈ st.2.2
  wy : ∀ y, ok y → st.2.1[cd y]?.getD 0 = IntKind.i64.wrap (tot sc s (st.2.2.take k) y)
  st0 : s ∈ st.2.2
variable {sc cd ok N s}
theorem BO.opn {k : Nat} {st : List Int × List Int × List X} (h : BO sc cd ok N s k st) {x : X} (hx : st.2.2[k]? = some x) : ∃ d, BI sc cd ok N s k d x [] st := by
  obtain ⟨d, h1, h2⟩ := h.fin x (List.mem_of_getElem? hx)
  obtain ⟨h3, h4⟩ := h.low x d hx h2
  refine ⟨d, h.n1, h.n2, h.nd, h.okq, hx, h2, fun z hz => ?_, h.fout, h.srt, h.idx, h3, h.cl, fun y hy => (by cases hy), fun y hy => ?_, h.st0⟩
  · obtain ⟨e, g1, g2⟩ := h.fin z hz
    have := h4 z hz
    rw [lev_of sc s g2] at this
    exact ⟨e, by omega, g1, g2⟩
  · rw [h.wy y hy]; simp
theorem BI.close {k d : Nat} {x : X} {st : List Int × List Int × List X} (h : BI sc cd ok N s k d x (sc x) st) : BO sc cd ok N s (k + 1) st := by
  have hlx := lev_of sc s h.lx
  refine ⟨h.n1, h.n2, h.nd, h.okq, fun z hz => ?_, h.fout, h.srt, h.idx, fun x' d' hx' hd' => ?_, fun i z hi hz y hy => ?_, fun y hy => ?_, h.st0⟩
  · obtain ⟨e, _, g1, g2⟩ := h.fin z hz; exact ⟨e, g1, g2⟩
  · have hl' := lev_of sc s hd'
    have hge := h.srt k (k + 1) x x' (by omega) h.xk hx'
    obtain ⟨e, g0, _, g2⟩ := h.fin x' (List.mem_of_getElem? hx')
    have : e = d' := g2.uniq hd'
    subst this
    rw [hlx, hl'] at hge
    refine ⟨fun z e' he hz => ?_, fun z hz => ?_⟩
    · rcases Nat.lt_or_ge d e' with h1 | h1
      · have hd1 : e' = d + 1 := by omega
        subst hd1
        obtain ⟨w, hw, hzw⟩ := List.mem_flatMap.1 hz.1
        have hdw : Dist sc s d w := by
          obtain ⟨f, h2, h3⟩ := dist_of hw
          rcases Nat.lt_or_ge f d with h4 | h4
          · exact absurd (ends_step h3.1 hzw) (hz.2 (f + 1) (by omega))
          · have : f = d := by omega
            subst this; exact h3
        have hwq := h.low w d (Nat.le_refl _) hdw
        obtain ⟨j, hj⟩ := List.mem_iff_getElem?.1 hwq
        rcases Nat.lt_trichotomy j k with h5 | h5 | h5
        · exact h.cl j w h5 hj z hzw
        · subst h5
          rw [h.xk] at hj; cases hj
          exact h.pr z hzw
        · have := h.srt (k + 1) j x' w h5 hx' hj
          rw [hl', lev_of sc s hdw] at this; omega
      · exact h.low z e' h1 hz
    · obtain ⟨e', g3, _, g4⟩ := h.fin z hz
      rw [lev_of sc s g4]; omega
  · rcases Nat.lt_or_ge i k with h1 | h1
    · exact h.cl i z h1 hz y hy
    · have : i = k := by omega
      subst this
      rw [h.xk] at hz; cases hz
      exact h.pr y hy
  · rw [h.wy y hy, List.take_add_one, h.xk]
    simp only [Option.toList_some, tot, sumL_append, sumL, hlx]
    rw [Int.add_assoc, Int.add_zero]
theorem queue_len (hB : BfsOk sc cd ok N) (Q : List X) (h : Q.Nodup) (hq : ∀ z ∈ Q, ok z) : Q.length ≤ N := by
  have := nodup_len N (Q.map cd) (List.Pairwise.map (R := fun a b => cd a ≠ cd b) cd (fun a b hab => hab) (List.Pairwise.imp_of_mem (fun {a b} ha hb hne he => hne (hB.inj a b (hq a ha) (hq b hb) he)) h)) (fun z hz => by
    obtain ⟨w, hw, rfl⟩ := List.mem_map.1 hz
    exact hB.lt w (hq w hw))
  simpa using this
theorem bfs_ok (hB : BfsOk sc cd ok N) : ∀ (n k : Nat) (st : List Int × List Int × List X), BO sc cd ok N s k st → k ≤ st.2.2.length → N < k + n → ∃ r, bfsA sc cd n k st = some r ∧ BO sc cd ok N s r.2.2.length r
  | 0, k, st, h, hk, hn => by
    have := queue_len hB st.2.2 h.nd h.okq
    omega
  | n + 1, k, st, h, hk, hn => by
    unfold bfsA
    cases hx : st.2.2[k]? with
    | none =>
      have h1 : st.2.2.length ≤ k := by simpa using hx
      have h2 : k = st.2.2.length := by omega
      exact ⟨st, rfl, h2 ▸ h⟩
    | some x =>
      obtain ⟨d, hI⟩ := h.opn hx
      have hI2 := hI.steps hB (sc x) [] (fun y hy => hy)
      have hlt := (List.getElem?_eq_some_iff.1 hI2.xk).1
      exact bfs_ok hB n (k + 1) _ hI2.close hlt (by omega)
theorem bfs_right0 (hB : BfsOk sc cd ok N) (hs : ok s) : ∃ r, bfsA sc cd (N + 1) 0 ((List.replicate N (-1)).set (cd s) 0, (List.replicate N 0).set (cd s) 1, [s]) = some r ∧ r.1.length = N ∧ r.2.1.length = N ∧ r.2.2.length ≤ N ∧ r.2.2.Nodup ∧ (∀ y ∈ r.2.2, ok y) ∧ (∀ y, y ∈ r.2.2 ↔ ∃ k, y ∈ ends sc k s) ∧
    (∀ y, ok y → (r.1[cd y]?.getD 0 = -1 ∧ ∀ k, y ∉ ends sc k s) ∨ ∃ d : Nat, r.1[cd y]?.getD 0 = d ∧ Dist sc s d y ∧ r.2.1[cd y]?.getD 0 = IntKind.i64.wrap ((ends sc d s).count y : Int)) ∧ ∀ d y, Dist sc s d y → d < N := by
  have hs0 : Dist sc s 0 s := ⟨by simp [ends], fun e he => by omega⟩
  have hcs := hB.lt s hs
  have hbig := hB.big
  have hd0 : ∀ z, Dist sc s 0 z → z = s := fun z hz => by simpa [ends] using hz.1
  have hst : BO sc cd ok N s 0 ((List.replicate N (-1)).set (cd s) 0, (List.replicate N 0).set (cd s) 1, [s]) := by
    have hi : ∀ (i : Nat) z, [s][i]? = some z → i = 0 ∧ z = s := fun i z hz => by
      rcases i with _ | i
      · exact ⟨rfl, by simpa using hz.symm⟩
      · simp at hz
    refine ⟨by simp, by simp, by simp, fun z hz => by simp at hz; subst hz; exact hs, fun z hz => ?_, fun z hz hn => ?_, fun i j y z hij hy hz => ?_, fun i z hz => ?_, fun x d hx hd => ?_, fun i z h => by omega, fun y hy => ?_, by simp⟩
    · simp at hz; subst hz
      exact ⟨0, by simp [hcs], hs0⟩
    · have hne : z ≠ s := by simpa using hn
      have : cd s ≠ cd z := fun e => hne (hB.inj z s hz hs e.symm)
      have hlt := hB.lt z hz
      simp [this, hlt]
    · rw [(hi i y hy).2, (hi j z hz).2]; omega
    · rw [(hi i z hz).2, lev_of sc s hs0]; omega
    · obtain ⟨_, rfl⟩ := hi 0 x hx
      have : d = 0 := hd.uniq hs0
      subst this
      refine ⟨fun z e he hz => ?_, fun z hz => ?_⟩
      · have : e = 0 := by omega
        subst this
        rw [hd0 z hz]; simp
      · simp at hz; subst hz
        rw [lev_of sc z hs0]; omega
    · have hlt := hB.lt y hy
      by_cases h : y = s
      · subst h
        simp [hlt, tot, sumL]; rfl
      · have : cd s ≠ cd y := fun e => h (hB.inj y s hy hs e.symm)
        simp [hlt, this, h, tot, sumL]; rfl
  obtain ⟨r, h1, h2⟩ := bfs_ok hB (N + 1) 0 _ hst (by simp) (by omega)
  have hall : ∀ k y, y ∈ ends sc k s → y ∈ r.2.2 := fun k => by
    induction k with
    | zero => intro y hy; have : y = s := by simpa [ends] using hy
              subst this; exact h2.st0
    | succ k ih =>
      intro y hy
      obtain ⟨z, hz, hyz⟩ := List.mem_flatMap.1 hy
      obtain ⟨i, hi⟩ := List.mem_iff_getElem?.1 (ih z hz)
      exact h2.cl i z (List.getElem?_eq_some_iff.1 hi).1 hi y hyz
  refine ⟨r, h1, h2.n1, h2.n2, queue_len hB _ h2.nd h2.okq, h2.nd, h2.okq, fun y => ⟨fun hy => ?_, fun ⟨k, hk⟩ => hall k y hk⟩, fun y hy => ?_, fun d y hd => ?_⟩
  · obtain ⟨e, _, he⟩ := h2.fin y hy; exact ⟨e, he.1⟩
  · by_cases hq : y ∈ r.2.2
    · obtain ⟨d, g1, g2⟩ := h2.fin y hq
      refine .inr ⟨d, g1, g2, ?_⟩
      rw [h2.wy y hy, List.take_length, tot_right sc s r.2.2 h2.nd (fun z hz => by obtain ⟨e, _, he⟩ := h2.fin z hz; exact ⟨e, he⟩) y d g2 (fun z e' _ hz => hall e' z hz.1)]
    · exact .inl ⟨h2.fout y hy hq, fun k hk => hq (hall k y hk)⟩
  · obtain ⟨i, hi⟩ := List.mem_iff_getElem?.1 (hall d y hd.1)
    have h3 := h2.idx i y hi
    rw [lev_of sc s hd] at h3
    have h4 := (List.getElem?_eq_some_iff.1 hi).1
    have h5 := queue_len hB _ h2.nd h2.okq
    omega
theorem bfs_right (hB : BfsOk sc cd ok N) (hs : ok s) : ∃ r, bfsA sc cd (N + 1) 0 ((List.replicate N (-1)).set (cd s) 0, (List.replicate N 0).set (cd s) 1, [s]) = some r ∧ r.1.length = N ∧ r.2.1.length = N ∧ r.2.2.length ≤ N ∧ r.2.2.Nodup ∧ (∀ y ∈ r.2.2, ok y) ∧ (∀ y, y ∈ r.2.2 ↔ ∃ k, y ∈ ends sc k s) ∧
    ∀ y, ok y → (r.1[cd y]?.getD 0 = -1 ∧ ∀ k, y ∉ ends sc k s) ∨ ∃ d : Nat, r.1[cd y]?.getD 0 = d ∧ Dist sc s d y ∧ r.2.1[cd y]?.getD 0 = IntKind.i64.wrap ((ends sc d s).count y : Int) := by
  obtain ⟨r, h1, h2, h3, h4, h5, h6, h7, h8, _⟩ := bfs_right0 hB hs
  exact ⟨r, h1, h2, h3, h4, h5, h6, h7, h8⟩
theorem dist_lt (hB : BfsOk sc cd ok N) (hs : ok s) {d : Nat} {y : X} (h : Dist sc s d y) : d < N := by
  obtain ⟨r, _, _, _, _, _, _, _, _, h9⟩ := bfs_right0 hB hs
  exact h9 d y h
end
end Go.Proofs.Ytanlmanifpknoaa.Ev

namespace Go.Proofs.Ytanlmanifpknoaa.Ev
open Go
set_option linter.unusedVariables false
set_option linter.unusedSimpArgs false
set_option linter.unusedSectionVars false

end Go.Proofs.Ytanlmanifpknoaa.Ev

namespace Go.Proofs.Ytanlmanifpknoaa.Ev
open Go
set_option linter.unusedVariables false
set_option linter.unusedSimpArgs false
set_option linter.unusedSectionVars false

end Go.Proofs.Ytanlmanifpknoaa.Ev

namespace Go.Proofs.Ytanlmanifpknoaa.Ev
open Go
set_option linter.unusedVariables false
set_option linter.unusedSimpArgs false
set_option linter.unusedSectionVars false

end Go.Proofs.Ytanlmanifpknoaa.Ev

namespace Go.Proofs.Ytanlmanifpknoaa.Ev
open Go
set_option linter.unusedVariables false
set_option linter.unusedSimpArgs false
end Go.Proofs.Ytanlmanifpknoaa.Ev

namespace Go.Proofs.Ytanlmanifpknoaa.Ev
open Go
set_option linter.unusedVariables false
set_option linter.unusedSimpArgs false
set_option linter.unusedSectionVars false

end Go.Proofs.Ytanlmanifpknoaa.Ev

namespace Go.Proofs.Ytanlmanifpknoaa.Ev
open Go
set_option linter.unusedVariables false
set_option linter.unusedSimpArgs false
set_option linter.unusedSectionVars false
attribute [local simp] til_getE til_length til_get til_drop til_take til_snoc til_fold take_snoc til_set tin_getE tin_length tin_take tleN_length tleN_getE
end Go.Proofs.Ytanlmanifpknoaa.Ev

namespace Go.Proofs.Ytanlmanifpknoaa.Ev
open Go
set_option linter.unusedVariables false
set_option linter.unusedSimpArgs false
set_option linter.unusedSectionVars false
section
variable {X : Type} [DecidableEq X] {sc : X → List X} {cd : X → Nat} {ok : X → Prop} {N : Nat} {out : Nat → List Ed}
theorem ends_okG (hB : BfsOk sc cd ok N) {s : X} (hs : ok s) : ∀ k z, z ∈ ends sc k s → ok z := fun k => by
  induction k with
  | zero => intro z hz; have : z = s := by simpa [ends] using hz
            subst this; exact hs
  | succ k ih =>
    intro z hz
    obtain ⟨w, hw, hzw⟩ := List.mem_flatMap.1 hz
    exact hB.suc w (ih w hw) z hzw
theorem rch_gen (hB : BfsOk sc cd ok N) (ho : ∀ x, ok x → ∀ e ∈ out (cd x), e.2.1 = 1 ∧ ∃ y ∈ sc x, e.1 = cd y) (hi : ∀ x, ok x → ∀ y ∈ sc x, ∃ e ∈ out (cd x), e.1 = cd y ∧ e.2.1 = 1) {s : X} (hs : ok s) (k v : Nat) :
    Rch out [cd s] k v ↔ ∃ y, ok y ∧ cd y = v ∧ y ∈ ends sc k s := by
  constructor
  · intro h
    induction h with
    | start v hv => exact ⟨s, hs, (List.mem_singleton.1 hv).symm, by simp [ends]⟩
    | step k u e hu he ih =>
      obtain ⟨x, h1, rfl, h3⟩ := ih
      obtain ⟨h4, y, hy, h5⟩ := ho x h1 e he
      rw [h4, h5]
      exact ⟨y, hB.suc x h1 y hy, rfl, ends_step h3 hy⟩
  · rintro ⟨y, h1, rfl, h3⟩
    clear h1
    induction k generalizing y with
    | zero => have : y = s := by simpa [ends] using h3
              subst this; exact .start _ (by simp)
    | succ k ih =>
      obtain ⟨z, hz, hy⟩ := List.mem_flatMap.1 h3
      obtain ⟨e, he, h4, h5⟩ := hi z (ends_okG hB hs k z hz) y hy
      have := Rch.step k (cd z) e (ih z hz) he
      rw [h4, h5] at this
      exact this
def FarT (sc : X → List X) (cd : X → Nat) (ok : X → Prop) (s : X) (far : List Int) : Prop := ∀ y, ok y → (far[cd y]?.getD 0 = -1 ∧ ∀ k, y ∉ ends sc k s) ∨ ∃ d : Nat, far[cd y]?.getD 0 = d ∧ Dist sc s d y
theorem far_prog (hB : BfsOk sc cd ok N) (ho : ∀ x, ok x → ∀ e ∈ out (cd x), e.2.1 = 1 ∧ ∃ y ∈ sc x, e.1 = cd y) (hi : ∀ x, ok x → ∀ y ∈ sc x, ∃ e ∈ out (cd x), e.1 = cd y ∧ e.2.1 = 1) {s : X} (hs : ok s) {r : List Int}
    (hr : ∀ v, v < N → (r[v]?.getD 0 = -1 ∧ ∀ k, ¬ Rch out [cd s] k v) ∨ ∃ k : Nat, r[v]?.getD 0 = k ∧ Rch out [cd s] k v ∧ ∀ k' < k, ¬ Rch out [cd s] k' v) : FarT sc cd ok s r := by
  intro y hy
  have key : ∀ k, Rch out [cd s] k (cd y) ↔ y ∈ ends sc k s := fun k => by
    rw [rch_gen hB ho hi hs]
    constructor
    · rintro ⟨z, h1, h2, h3⟩
      rw [← hB.inj z y h1 hy h2]; exact h3
    · intro h; exact ⟨y, hy, rfl, h⟩
  rcases hr (cd y) (hB.lt y hy) with ⟨h1, h2⟩ | ⟨k, h1, h2, h3⟩
  · exact .inl ⟨h1, fun k h => h2 k ((key k).2 h)⟩
  · exact .inr ⟨k, h1, (key k).1 h2, fun e he h => h3 e he ((key e).2 h)⟩
theorem dist_pred {s y : X} {d : Nat} (h : Dist sc s (d + 1) y) : ∃ z, Dist sc s d z ∧ y ∈ sc z := by
  obtain ⟨z, hz, hy⟩ := List.mem_flatMap.1 h.1
  refine ⟨z, ⟨hz, fun e he hez => ?_⟩, hy⟩
  exact h.2 (e + 1) (by omega) (ends_step hez hy)
end
end Go.Proofs.Ytanlmanifpknoaa.Ev

namespace Go.Proofs.Ytanlmanifpknoaa.Ev
open Go
set_option linter.unusedVariables false
set_option linter.unusedSimpArgs false
set_option linter.unusedSectionVars false
abbrev Nd := Nat × Nat × Nat
def fine (g k : Int) : Bool := decide (g = 0) || decide (k ≤ g)
def tgt (x : Nd) (i j : Nat) : Int × Int := if x.2.2 = 1 then ((x.1 : Int) - i, (x.2.1 : Int) - j) else ((x.1 : Int) + i, (x.2.1 : Int) + j)
def mvOk (G C : Nat) (x : Nd) (m : Nat × Nat) : Bool :=
  decide (0 < m.1 + m.2) && inB (tgt x m.1 m.2).1 0 G && inB (tgt x m.1 m.2).2 0 C && fine m.1 m.2 && (fine (tgt x m.1 m.2).1 (tgt x m.1 m.2).2 && fine (G - (tgt x m.1 m.2).1) (C - (tgt x m.1 m.2).2))
def stepTo (x : Nd) (m : Nat × Nat) : Nd := ((tgt x m.1 m.2).1.toNat, (tgt x m.1 m.2).2.toNat, 1 - x.2.2)
def mvRow (s i : Nat) : List (Nat × Nat) := (List.range (s + 1 - i)).map fun j => (i, j)
def mvs (s : Nat) : List (Nat × Nat) := (List.range (s + 1)).flatMap (mvRow s)
def mvsG (G C s : Nat) (x : Nd) : List (Nat × Nat) := (mvs s).filter (mvOk G C x)
def scG (G C s : Nat) (x : Nd) : List Nd := (mvsG G C s x).map (stepTo x)
def okG (G C : Nat) (x : Nd) : Prop := x.1 ≤ G ∧ x.2.1 ≤ C ∧ x.2.2 ≤ 1
def bothG (G C : Nat) (x : Nd) : Bool := fine x.1 x.2.1 && fine ((G : Int) - x.1) ((C : Int) - x.2.1)
def cd9 (x : Nd) : Nat := 2 * (9 * x.1 + x.2.1) + x.2.2
def cdC (C : Nat) (x : Nd) : Nat := (x.1 * (C + 1) + x.2.1) * 2 + x.2.2
theorem mem_mvs {s : Nat} {m : Nat × Nat} : m ∈ mvs s ↔ m.1 + m.2 ≤ s := by
  unfold mvs mvRow
  simp only [List.mem_flatMap, List.mem_map, List.mem_range]
  constructor
  · rintro ⟨i, hi, j, hj, rfl⟩; simp only; omega
  · intro h; exact ⟨m.1, by omega, m.2, by omega, rfl⟩
theorem mvOk_iff {G C : Nat} {x : Nd} {m : Nat × Nat} : mvOk G C x m = true ↔ 0 < m.1 + m.2 ∧ (0 ≤ (tgt x m.1 m.2).1 ∧ (tgt x m.1 m.2).1 ≤ G) ∧ (0 ≤ (tgt x m.1 m.2).2 ∧ (tgt x m.1 m.2).2 ≤ C) ∧ fine m.1 m.2 = true ∧ fine (tgt x m.1 m.2).1 (tgt x m.1 m.2).2 = true ∧ fine (G - (tgt x m.1 m.2).1) (C - (tgt x m.1 m.2).2) = true := by
  unfold mvOk
  simp only [Bool.and_eq_true, decide_eq_true_eq, inB_iff, and_assoc]
theorem mvStep_ok {G C : Nat} {x : Nd} {m : Nat × Nat} (hb : x.2.2 ≤ 1) (h : mvOk G C x m = true) : okG G C (stepTo x m) ∧ bothG G C (stepTo x m) = true ∧ (((stepTo x m).1 : Int) = (tgt x m.1 m.2).1 ∧ ((stepTo x m).2.1 : Int) = (tgt x m.1 m.2).2) := by
  obtain ⟨h1, h2, h3, h4, h5, h6⟩ := mvOk_iff.1 h
  have e1001 : ((tgt x m.1 m.2).1.toNat : Int) = (tgt x m.1 m.2).1 := by omega
  have e1002 : ((tgt x m.1 m.2).2.toNat : Int) = (tgt x m.1 m.2).2 := by omega
  refine ⟨⟨?_, ?_, ?_⟩, ?_, e1001, e1002⟩
  · simp only [stepTo]; omega
  · simp only [stepTo]; omega
  · simp only [stepTo]; omega
  · simp only [bothG, stepTo, e1001, e1002, h5, h6, Bool.and_self]
theorem step_back {G C : Nat} {x : Nd} {m : Nat × Nat} (hx : okG G C x) (hbx : bothG G C x = true) (h : mvOk G C x m = true) : mvOk G C (stepTo x m) m = true ∧ stepTo (stepTo x m) m = x := by
  obtain ⟨g, k, b⟩ := x
  obtain ⟨i, j⟩ := m
  obtain ⟨h1, h2, h3, h4, h5, h6⟩ := mvOk_iff.1 h
  have hb : b = 0 ∨ b = 1 := by have := hx.2.2; simp only at this; omega
  have hx1 := hx.1
  have hx2 := hx.2.1
  simp only [bothG, Bool.and_eq_true] at hbx
  simp only at hx1 hx2 h1 h4 hbx
  have ht : tgt (stepTo (g, k, b) (i, j)) i j = ((g : Int), (k : Int)) := by
    rcases hb with rfl | rfl
    · simp only [tgt, stepTo, Nat.sub_zero, if_true, Nat.zero_ne_one, if_false] at h2 h3 ⊢
      rw [Prod.mk.injEq]; omega
    · simp only [tgt, stepTo, Nat.sub_self, if_true, Nat.zero_ne_one, if_false] at h2 h3 ⊢
      rw [Prod.mk.injEq]; omega
  constructor
  · rw [mvOk_iff]
    simp only [ht]
    exact ⟨h1, ⟨by omega, by omega⟩, ⟨by omega, by omega⟩, h4, hbx.1, hbx.2⟩
  · have : stepTo (stepTo (g, k, b) (i, j)) (i, j) = ((tgt (stepTo (g, k, b) (i, j)) i j).1.toNat, (tgt (stepTo (g, k, b) (i, j)) i j).2.toNat, 1 - (1 - b)) := rfl
    rw [this, ht]
    rcases hb with rfl | rfl <;> rfl
theorem mem_scG {G C s : Nat} {x y : Nd} : y ∈ scG G C s x ↔ ∃ m, m.1 + m.2 ≤ s ∧ mvOk G C x m = true ∧ stepTo x m = y := by
  unfold scG mvsG
  simp only [List.mem_map, List.mem_filter, mem_mvs, and_assoc]
theorem bfsG9 {G C s : Nat} (hG : G ≤ 8) (hC : C ≤ 8) : BfsOk (scG G C s) cd9 (okG G C) 162 := by
  refine ⟨fun x hx => ?_, fun x y hx hy h => ?_, fun x hx y hy => ?_, by omega⟩
  · obtain ⟨h1, h2, h3⟩ := hx; unfold cd9; omega
  · obtain ⟨h1, h2, h3⟩ := hx
    obtain ⟨h4, h5, h6⟩ := hy
    unfold cd9 at h
    obtain ⟨a, b, c⟩ := x
    obtain ⟨a', b', c'⟩ := y
    simp only at *
    have e1001 : c = c' := by omega
    have e1002 : a = a' := by omega
    have e1003 : b = b' := by omega
    rw [e1001, e1002, e1003]
  · obtain ⟨m, _, h2, rfl⟩ := mem_scG.1 hy
    exact (mvStep_ok hx.2.2 h2).1
theorem cdC_lt {G C : Nat} {x : Nd} (hx : okG G C x) : cdC C x < (G + 1) * (C + 1) * 2 := by
  obtain ⟨h1, h2, h3⟩ := hx
  unfold cdC
  have : x.1 * (C + 1) ≤ G * (C + 1) := Nat.mul_le_mul_right _ h1
  have e : (G + 1) * (C + 1) = G * (C + 1) + (C + 1) := by rw [Nat.add_mul, Nat.one_mul]
  omega
theorem bfsGC {G C s : Nat} (hG : G ≤ 8) (hC : C ≤ 8) : BfsOk (scG G C s) (cdC C) (okG G C) ((G + 1) * (C + 1) * 2) := by
  refine ⟨fun x hx => cdC_lt hx, fun x y hx hy h => ?_, fun x hx y hy => ?_, ?_⟩
  · obtain ⟨h1, h2, h3⟩ := hx
    obtain ⟨h4, h5, h6⟩ := hy
    unfold cdC at h
    obtain ⟨a, b, c⟩ := x
    obtain ⟨a', b', c'⟩ := y
    simp only at *
    have e1001 : c = c' := by omega
    have e1002 : a * (C + 1) + b = a' * (C + 1) + b' := by omega
    have hd : ∀ a b : Nat, b ≤ C → (a * (C + 1) + b) / (C + 1) = a ∧ (a * (C + 1) + b) % (C + 1) = b := fun a b hb => by
      constructor
      · rw [Nat.add_comm, Nat.add_mul_div_right _ _ (by omega), Nat.div_eq_of_lt (by omega), Nat.zero_add]
      · rw [Nat.add_comm, Nat.add_mul_mod_self_right, Nat.mod_eq_of_lt (by omega)]
    have e1003 : a = a' := by rw [← (hd a b h2).1, e1002, (hd a' b' h5).1]
    have e1004 : b = b' := by rw [← (hd a b h2).2, e1002, (hd a' b' h5).2]
    rw [e1001, e1003, e1004]
  · obtain ⟨m, _, h2, rfl⟩ := mem_scG.1 hy
    exact (mvStep_ok hx.2.2 h2).1
  · have : (G + 1) * (C + 1) ≤ 9 * 9 := Nat.mul_le_mul (by omega) (by omega)
    omega
theorem scG_symm {G C s : Nat} {x y : Nd} (hx : okG G C x) (hb : bothG G C x = true) (hy : y ∈ scG G C s x) : x ∈ scG G C s y ∧ okG G C y ∧ bothG G C y = true := by
  obtain ⟨m, h1, h2, rfl⟩ := mem_scG.1 hy
  obtain ⟨h3, h4⟩ := step_back hx hb h2
  obtain ⟨h5, h6, _⟩ := mvStep_ok hx.2.2 h2
  exact ⟨mem_scG.2 ⟨m, h1, h3, h4⟩, h5, h6⟩
theorem ends_both {G C s : Nat} {x : Nd} (hx : okG G C x) (hb : bothG G C x = true) : ∀ (k : Nat) (y : Nd), y ∈ ends (scG G C s) k x → okG G C y ∧ bothG G C y = true
  | 0, y, h => by
    have : y = x := by simpa [ends] using h
    subst this; exact ⟨hx, hb⟩
  | k + 1, y, h => by
    obtain ⟨z, hz, hy⟩ := List.mem_flatMap.1 h
    obtain ⟨h1, h2⟩ := ends_both hx hb k z hz
    exact (scG_symm h1 h2 hy).2
theorem ends_parity {G C s : Nat} {x : Nd} (hx : okG G C x) (hb : bothG G C x = true) : ∀ (k : Nat) (y : Nd), y ∈ ends (scG G C s) k x → (y.2.2 + x.2.2 + k) % 2 = 0
  | 0, y, h => by
    have : y = x := by simpa [ends] using h
    subst this; omega
  | k + 1, y, h => by
    obtain ⟨z, hz, hy⟩ := List.mem_flatMap.1 h
    have ih := ends_parity hx hb k z hz
    have hz2 := (ends_both hx hb k z hz).1.2.2
    obtain ⟨m, _, _, rfl⟩ := mem_scG.1 hy
    simp only [stepTo]
    omega
theorem ends_seats {G C s t : Nat} (hst : s ≤ t) {x : Nd} : ∀ (k : Nat) (y : Nd), y ∈ ends (scG G C s) k x → y ∈ ends (scG G C t) k x
  | 0, y, h => h
  | k + 1, y, h => by
    obtain ⟨z, hz, hy⟩ := List.mem_flatMap.1 h
    obtain ⟨m, h1, h2, h3⟩ := mem_scG.1 hy
    exact ends_step (ends_seats hst k z hz) (mem_scG.2 ⟨m, by omega, h2, h3⟩)
end Go.Proofs.Ytanlmanifpknoaa.Ev

namespace Go.Proofs.Ytanlmanifpknoaa.Ev
open Go
set_option linter.unusedVariables false
set_option linter.unusedSimpArgs false
set_option linter.unusedSectionVars false
def lastG (G C : Nat) : Nd := (G, C, 1)
def node0 : Nd := (0, 0, 0)
def TabG (G C s : Nat) (D : Nd → Int) : Prop := ∀ y, okG G C y → (D y = -1 ∧ ∀ k, y ∉ ends (scG G C s) k (lastG G C)) ∨ ∃ d : Nat, D y = d ∧ Dist (scG G C s) (lastG G C) d y
theorem TabG.at {G C s : Nat} {D : Nd → Int} (h : TabG G C s D) {y : Nd} (hy : okG G C y) {d : Nat} (hd : Dist (scG G C s) (lastG G C) d y) : D y = d := by
  rcases h y hy with ⟨h1, h2⟩ | ⟨e, h1, h2⟩
  · exact absurd hd.1 (h2 d)
  · rw [h1, hd.uniq h2]
theorem TabG.of {G C s : Nat} {D : Nd → Int} (h : TabG G C s D) {y : Nd} (hy : okG G C y) {d : Nat} (hd : D y = d) : Dist (scG G C s) (lastG G C) d y := by
  rcases h y hy with ⟨h1, h2⟩ | ⟨e, h1, h2⟩
  · omega
  · have : d = e := by omega
    subst this; exact h2
def nearer (D : Nd → Int) (x : Nd) (m : Nat × Nat) : Bool := decide (0 ≤ D (stepTo x m)) && decide (D (stepTo x m) + 1 = D x)
def pathG (G C s : Nat) (D : Nd → Int) : Nat → Nd → List (Nat × Nat)
  | 0, _ => []
  | n + 1, x => match (mvsG G C s x).find? (nearer D x) with
    | some m => m :: pathG G C s D n (stepTo x m)
    | none => []
theorem lastG_ok {G C : Nat} (h : fine G C = true) : okG G C (lastG G C) ∧ bothG G C (lastG G C) = true := by
  refine ⟨⟨Nat.le_refl _, Nat.le_refl _, Nat.le_refl _⟩, ?_⟩
  simp only [bothG, lastG, h, Bool.true_and]
  simp [fine]
theorem node0_ok {G C : Nat} : okG G C node0 := ⟨Nat.zero_le _, Nat.zero_le _, Nat.zero_le _⟩
theorem find_near {G C s : Nat} {D : Nd → Int} (hf : fine G C = true) (h : TabG G C s D) {x : Nd} (hx : okG G C x) {n : Nat} (hd : Dist (scG G C s) (lastG G C) (n + 1) x) :
    ∃ m, (mvsG G C s x).find? (nearer D x) = some m ∧ m.1 + m.2 ≤ s ∧ mvOk G C x m = true ∧ Dist (scG G C s) (lastG G C) n (stepTo x m) ∧ okG G C (stepTo x m) ∧ bothG G C (stepTo x m) = true ∧ nearer D x m = true := by
  obtain ⟨hl1, hl2⟩ := lastG_ok hf
  have hbx := (ends_both hl1 hl2 _ x hd.1).2
  obtain ⟨z, hz, hxz⟩ := dist_pred hd
  obtain ⟨hzo, hzb⟩ := ends_both hl1 hl2 _ z hz.1
  obtain ⟨hzx, _, _⟩ := scG_symm hzo hzb hxz
  obtain ⟨m1000, hm1, hm2, hm3⟩ := mem_scG.1 hzx
  have hn0 : nearer D x m1000 = true := by
    simp only [nearer, hm3, h.at hzo hz, h.at hx hd, Bool.and_eq_true, decide_eq_true_eq]
    omega
  have hmem : m1000 ∈ mvsG G C s x := List.mem_filter.2 ⟨mem_mvs.2 hm1, hm2⟩
  cases hfd : (mvsG G C s x).find? (nearer D x) with
  | none => exact absurd hn0 (by rw [List.find?_eq_none] at hfd; exact hfd m1000 hmem)
  | some m =>
    have h1 := List.find?_some hfd
    have h2 := List.mem_of_find?_eq_some hfd
    obtain ⟨h3, h4⟩ := List.mem_filter.1 h2
    obtain ⟨h5, h6, _⟩ := mvStep_ok hx.2.2 h4
    refine ⟨m, rfl, mem_mvs.1 h3, h4, h.of h5 ?_, h5, h6, h1⟩
    simp only [nearer, h.at hx hd, Bool.and_eq_true, decide_eq_true_eq] at h1
    omega
theorem pathG_len {G C s : Nat} {D : Nd → Int} (hf : fine G C = true) (h : TabG G C s D) : ∀ (n : Nat) (x : Nd), okG G C x → Dist (scG G C s) (lastG G C) n x → (pathG G C s D n x).length = n
  | 0, _, _, _ => rfl
  | n + 1, x, hx, hd => by
    obtain ⟨m, h1, h2, h3, h4, h5, _⟩ := find_near hf h hx hd
    unfold pathG
    rw [h1]
    simp only [List.length_cons, pathG_len hf h n _ h5 h4]
def goG : Nd → List (Nat × Nat) → Nd
  | x, [] => x
  | x, m :: ms => goG (stepTo x m) ms
theorem pathG_end {G C s : Nat} {D : Nd → Int} (hf : fine G C = true) (h : TabG G C s D) : ∀ (n : Nat) (x : Nd), okG G C x → Dist (scG G C s) (lastG G C) n x → goG x (pathG G C s D n x) = lastG G C
  | 0, x, _, hd => by
    have := hd.1
    simp only [ends, List.mem_singleton] at this
    exact this
  | n + 1, x, hx, hd => by
    obtain ⟨m, h1, h2, h3, h4, h5, _⟩ := find_near hf h hx hd
    unfold pathG
    rw [h1]
    exact pathG_end hf h n _ h5 h4
def StepsOk (G C s : Nat) : Nd → List (Nat × Nat) → Prop
  | _, [] => True
  | x, m :: ms => (m.1 + m.2 ≤ s ∧ mvOk G C x m = true) ∧ StepsOk G C s (stepTo x m) ms
theorem pathG_ok {G C s : Nat} {D : Nd → Int} (hf : fine G C = true) (h : TabG G C s D) : ∀ (n : Nat) (x : Nd), okG G C x → Dist (scG G C s) (lastG G C) n x → StepsOk G C s x (pathG G C s D n x)
  | 0, _, _, _ => trivial
  | n + 1, x, hx, hd => by
    obtain ⟨m, h1, h2, h3, h4, h5, _⟩ := find_near hf h hx hd
    unfold pathG
    rw [h1]
    exact ⟨⟨h2, h3⟩, pathG_ok hf h n _ h5 h4⟩
theorem pathG_same {G C s : Nat} {D D' : Nd → Int} (hD : ∀ y, okG G C y → D y = D' y) : ∀ (n : Nat) (x : Nd), okG G C x → pathG G C s D n x = pathG G C s D' n x
  | 0, _, _ => rfl
  | n + 1, x, hx => by
    have hfind : ∀ (l : List (Nat × Nat)), (∀ m ∈ l, okG G C (stepTo x m)) → l.find? (nearer D x) = l.find? (nearer D' x) := fun l => by
      induction l with
      | nil => intro _; rfl
      | cons m l ih =>
        intro hl
        have hm := hl m (List.mem_cons_self ..)
        rw [List.find?_cons, List.find?_cons, ih fun m hm => hl m (List.mem_cons_of_mem _ hm)]
        simp only [nearer, hD _ hm, hD _ hx]
    have hok : ∀ m ∈ mvsG G C s x, okG G C (stepTo x m) := fun m hm => (mvStep_ok hx.2.2 (List.mem_filter.1 hm).2).1
    unfold pathG
    rw [hfind _ hok]
    cases hf : (mvsG G C s x).find? (nearer D' x) with
    | none => rfl
    | some m => simp only [pathG_same hD n _ (hok m (List.mem_of_find?_eq_some hf))]
def sidesB (g c s : Int) : Bool := inB g 0 8 && inB c 0 8 && decide (0 < g + c) && inB s 1 4
open Classical in
noncomputable def fewG (g c s : Int) : Option Nat := if h : (sidesB g c s && fine g c) = true ∧ ∃ d, Dist (scG g.toNat c.toNat s.toNat) (lastG g.toNat c.toNat) d node0 then some h.2.choose else none
theorem fewG_some {g c s : Int} {d : Nat} (h : (sidesB g c s && fine g c) = true) (hd : Dist (scG g.toNat c.toNat s.toNat) (lastG g.toNat c.toNat) d node0) : fewG g c s = some d := by
  have hh : (sidesB g c s && fine g c) = true ∧ ∃ d, Dist (scG g.toNat c.toNat s.toNat) (lastG g.toNat c.toNat) d node0 := ⟨h, d, hd⟩
  have e := hh.2.choose_spec.uniq hd
  unfold fewG
  rw [dif_pos hh, e]
theorem fewG_inv {g c s : Int} {d : Nat} (h : fewG g c s = some d) : (sidesB g c s && fine g c) = true ∧ Dist (scG g.toNat c.toNat s.toNat) (lastG g.toNat c.toNat) d node0 := by
  unfold fewG at h
  split at h
  · rename_i hh
    cases h
    exact ⟨hh.1, hh.2.choose_spec⟩
  · cases h
theorem fewG_bad {g c s : Int} (h : (sidesB g c s && fine g c) = false) : fewG g c s = none := by
  unfold fewG
  rw [dif_neg (by rw [h]; simp)]
theorem fewG_no {g c s : Int} (h : ∀ k, node0 ∉ ends (scG g.toNat c.toNat s.toNat) k (lastG g.toNat c.toNat)) : fewG g c s = none := by
  unfold fewG
  rw [dif_neg fun ⟨_, d, hd⟩ => h d hd.1]
theorem fewG_odd {g c s : Int} {d : Nat} (h : fewG g c s = some d) : d % 2 = 1 := by
  obtain ⟨h1, h2⟩ := fewG_inv h
  have hf : fine g c = true := by rw [Bool.and_eq_true] at h1; exact h1.2
  have hs : sidesB g c s = true := by rw [Bool.and_eq_true] at h1; exact h1.1
  simp only [sidesB, Bool.and_eq_true, inB_iff] at hs
  have hf' : fine (g.toNat : Int) (c.toNat : Int) = true := by rw [show ((g.toNat : Nat) : Int) = g by omega, show ((c.toNat : Nat) : Int) = c by omega]; exact hf
  obtain ⟨hl1, hl2⟩ := lastG_ok hf'
  have := ends_parity hl1 hl2 d node0 h2.1
  simp only [lastG, node0] at this
  omega
theorem fewG_mono {g c s t : Int} (hst : s ≤ t) (ht : t ≤ 4) {d : Nat} (h : fewG g c s = some d) : ∃ e, fewG g c t = some e ∧ e ≤ d := by
  obtain ⟨h1, h2⟩ := fewG_inv h
  simp only [Bool.and_eq_true, sidesB, inB_iff, decide_eq_true_eq] at h1
  obtain ⟨e, he, hd⟩ := dist_of (ends_seats (s := s.toNat) (t := t.toNat) (by omega) d node0 h2.1)
  refine ⟨e, fewG_some ?_ hd, he⟩
  simp only [Bool.and_eq_true, sidesB, inB_iff, decide_eq_true_eq]
  exact ⟨⟨h1.1.1, by omega⟩, h1.2⟩
end Go.Proofs.Ytanlmanifpknoaa.Ev

namespace Go.Proofs.Ytanlmanifpknoaa.Ev
open Go
set_option linter.unusedVariables false
set_option linter.unusedSimpArgs false
set_option linter.unusedSectionVars false
theorem r78 (g k : Int) : ownR env 78 [ti g, ti k] = some (.t (tb (fine g k)), []) := by
  rw [own_ir e78 _ rfl]
  by_cases h : g = 0 <;> by_cases h2 : k ≤ g <;> simp [ir78, ir78_c, h, h2, fine]
theorem r38 (g k : Int) : ownR env 38 [ti g, ti k] = some (.t (tb (fine g k)), []) := by
  rw [own_ir e38 _ rfl]
  by_cases h : g = 0 <;> by_cases h2 : k ≤ g <;> simp [ir38, ir38_c, h, h2, fine]
theorem r46 (G C s a b : Int) (h1 : 0 ≤ G ∧ G ≤ 2 ^ 40) (h2 : 0 ≤ C ∧ C ≤ 2 ^ 40) (h3 : -2 ^ 40 ≤ a ∧ a ≤ 2 ^ 40) (h4 : -2 ^ 40 ≤ b ∧ b ≤ 2 ^ 40) : ownR env 46 [.agg [ti G, ti C, ti s], ti a, ti b] = some (.t (tb (fine a b && fine (G - a) (C - b))), []) := by
  rw [own_ir e46 _ rfl]
  have w1001 : IntKind.i64.wrap (G - a) = G - a := w96 (by omega)
  have w1002 : IntKind.i64.wrap (C - b) = C - b := w96 (by omega)
  cases h : fine a b <;> simp [ir46, ir46_c, r78, h, w1001, w1002]
theorem r47 (G C a b : Int) (h1 : 0 ≤ G ∧ G ≤ 2 ^ 40) (h2 : 0 ≤ C ∧ C ≤ 2 ^ 40) (h3 : -2 ^ 40 ≤ a ∧ a ≤ 2 ^ 40) (h4 : -2 ^ 40 ≤ b ∧ b ≤ 2 ^ 40) : ownR env 47 [ti G, ti C, ti a, ti b] = some (.t (tb (fine a b && fine (G - a) (C - b))), []) := by
  rw [own_ir e47 _ rfl]
  have w1001 : IntKind.i64.wrap (G - a) = G - a := w96 (by omega)
  have w1002 : IntKind.i64.wrap (C - b) = C - b := w96 (by omega)
  cases h : fine a b <;> simp [ir47, ir47_c, r38, h, w1001, w1002]
theorem r44 (g c s : Int) : ownR env 44 [.agg [ti g, ti c, ti s]] = some (.t (tb (sidesB g c s)), []) := by
  rw [own_ir e44 _ rfl]
  cases h1 : inB g 0 8 with
  | false => simp [ir44, ir44_c, h1, sidesB]
  | true =>
    cases h2 : inB c 0 8 with
    | false => simp [ir44, ir44_c, h1, h2, sidesB]
    | true =>
      have e1001 := (inB_iff _ _ _).1 h1
      have e1002 := (inB_iff _ _ _).1 h2
      have w1001 : IntKind.i64.wrap (g + c) = g + c := w96 (by omega)
      by_cases h3 : 0 < g + c <;> simp [ir44, ir44_c, h1, h2, w1001, h3, sidesB]
theorem r37 (g c s : Int) : ownR env 37 [ti g, ti c, ti s] = some (.t (tb (sidesB g c s)), []) := by
  rw [own_ir e37 _ rfl]
  cases h1 : inB g 0 8 with
  | false => simp [ir37, ir37_c, h1, sidesB]
  | true =>
    cases h2 : inB c 0 8 with
    | false => simp [ir37, ir37_c, h1, h2, sidesB]
    | true =>
      have e1001 := (inB_iff _ _ _).1 h1
      have e1002 := (inB_iff _ _ _).1 h2
      have w1001 : IntKind.i64.wrap (g + c) = g + c := w96 (by omega)
      by_cases h3 : 0 < g + c <;> simp [ir37, ir37_c, h1, h2, w1001, h3, sidesB]
theorem r41 (C g k b : Nat) (hC : C ≤ 1000) (hg : g ≤ 1000) (hk : k ≤ 1000) (hb : b ≤ 1) : ownR env 41 [ti C, ti g, ti k, ti b] = some (.t (ti (((g * (C + 1) + k) * 2 + b : Nat) : Int)), []) := by
  rw [own_ir e41 _ rfl]
  have hm : g * (C + 1) ≤ 1000 * 1001 := Nat.mul_le_mul hg (by omega)
  have w1001 : IntKind.i64.wrap ((C : Int) + 1) = (C : Int) + 1 := w96 (by omega)
  have em : (g : Int) * ((C : Int) + 1) = ((g * (C + 1) : Nat) : Int) := by push_cast; rfl
  have w1002 : IntKind.i64.wrap ((g : Int) * ((C : Int) + 1)) = ((g * (C + 1) : Nat) : Int) := by rw [em]; exact w96 (by omega)
  generalize g * (C + 1) = m at *
  have w1003 : IntKind.i64.wrap ((m : Int) + k) = (m : Int) + k := w96 (by omega)
  have w1004 : IntKind.i64.wrap (((m : Int) + k) * 2) = ((m : Int) + k) * 2 := w96 (by omega)
  have w1005 : IntKind.i64.wrap (((m : Int) + k) * 2 + b) = ((m : Int) + k) * 2 + b := w96 (by omega)
  simp [ir41, ir41_c, w1001, w1002, w1003, w1004, w1005]
theorem r73 (a b : Int) : ownR env 73 [ti a, ti b] = some (.t (ti (max a b)), []) := by
  rw [own_ir e73 _ rfl]
  by_cases h : b < a
  · simp [ir73, ir73_c, h]; omega
  · simp [ir73, ir73_c, h]; omega
end Go.Proofs.Ytanlmanifpknoaa.Ev

namespace Go.Proofs.Ytanlmanifpknoaa.Ev
open Go
set_option linter.unusedVariables false
set_option linter.unusedSimpArgs false
set_option linter.unusedSectionVars false
attribute [local simp] til_getE til_length til_get til_drop til_take til_snoc til_fold take_snoc til_set tle3_length tle3_getE
theorem tle3_snoc (es : List Ed) (e : Ed) : tle3 es ++ [.agg [.int .i64 e.1, .int .i64 e.2.1, .lst 1 (til e.2.2.2)]] = tle3 (es ++ [e]) := by simp [tle3]
def edOf (x : Nd) (m : Nat × Nat) : Ed := (cd9 (stepTo x m), 1, 0, [(m.1 : Int), (m.2 : Int)])
def rowE (G C : Nat) (x : Nd) (i j d : Nat) : List Ed := (((List.range' j d).map fun y => (i, y)).filter (mvOk G C x)).map (edOf x)
theorem rowE_cons (G C : Nat) (x : Nd) (i j d : Nat) : rowE G C x i j (d + 1) = (if mvOk G C x (i, j) then [edOf x (i, j)] else []) ++ rowE G C x i (j + 1) d := by
  unfold rowE
  rw [List.range'_succ, List.map_cons, List.filter_cons]
  split <;> simp
theorem code_to (G C : Nat) (g k b i j : Nat) (hb : b = 0 ∨ b = 1) (h : mvOk G C (g, k, b) (i, j) = true) : 2 * ((tgt (g, k, b) i j).1 * 9 + (tgt (g, k, b) i j).2) + 1 - (b : Int) = (cd9 (stepTo (g, k, b) (i, j)) : Int) := by
  have h2 := (mvStep_ok (by rcases hb with rfl | rfl <;> simp) h).2.2
  unfold cd9
  push_cast
  rw [h2.1, h2.2]
  dsimp only
  rcases hb with rfl | rfl
  · show _ = _ + ((1 : Nat) : Int); omega
  · show _ = _ + ((0 : Nat) : Int); omega
def ex321 (i j s : Nat) (G C : Nat) : Fr := [(27, .t (ti i)), (28, .t (ti j)), (29, .t (ti ((i + j : Nat) : Int))), (30, .rptr (.agg [ti G, ti C, ti s]) 2), (31, .t (ti s)), (32, .t (tb false))]
set_option maxHeartbeats 2000000 in
theorem l321i (G C s : Nat) (hG : G ≤ 8) (hC : C ≤ 8) (hs : s ≤ 4) (g k b : Nat) (hg : g ≤ G) (hk : k ≤ C) (hb : b = 0 ∨ b = 1) (i : Nat) (hi : i ≤ s) : ∀ (d j : Nat) (acc : List Ed), i + j + d = s + 1 → acc.length ≤ 100 + 10 * i + j →
    loopF env true [1, 4, 5, 6, 7, 8, 9] ir95_b0 ([(1, .t (.ptr (.agg [ti G, ti C, ti s]))), (4, .t (ti g)), (5, .t (ti k)), (6, .t (ti b)), (7, .ref 0 0 acc.length), (8, .t (ti i)), (9, .t (ti j))], [.pure 3 (tle3 acc)]) =
      some (.exit 2, [(1, .t (.ptr (.agg [ti G, ti C, ti s]))), (4, .t (ti g)), (5, .t (ti k)), (6, .t (ti b)), (7, .ref 0 0 (acc ++ rowE G C (g, k, b) i j d).length), (8, .t (ti i)), (9, .t (ti (j + d : Nat)))] ++ ex321 i (j + d) s G C, [.pure 3 (tle3 (acc ++ rowE G C (g, k, b) i j d))]) := by
  intro d
  induction d with
  | zero =>
    intro j acc hj ha
    rw [x95_0]
    have h1 : IntKind.i64.wrap ((i : Int) + j) = (i : Int) + j := w96 (by omega)
    have h2 : ¬ ((i : Int) + j ≤ s) := by omega
    simp [ir95_d0, rowE, ex321, h1, h2]
  | succ d ihd =>
    intro j acc hj ha
    rw [x95_0]
    have h1 : IntKind.i64.wrap ((i : Int) + j) = (i : Int) + j := w96 (by omega)
    have h2 : ((i : Int) + j ≤ s) := by omega
    have w1001 : IntKind.i64.wrap ((g : Int) + i) = (g : Int) + i := w96 (by omega)
    have w1002 : IntKind.i64.wrap ((k : Int) + j) = (k : Int) + j := w96 (by omega)
    have w1003 : IntKind.i64.wrap ((g : Int) - i) = (g : Int) - i := w96 (by omega)
    have w1004 : IntKind.i64.wrap ((k : Int) - j) = (k : Int) - j := w96 (by omega)
    have w1005 : IntKind.i64.wrap ((j : Int) + 1) = (j : Int) + 1 := w96 (by omega)
    have hac : acc.length ≤ 68719476735 := by omega
    rw [rowE_cons]
    have hjd : j + 1 + d = j + (d + 1) := by omega
    cases hm : mvOk G C (g, k, b) (i, j) with
    | true =>
      have ih := ihd (j + 1) (acc ++ [edOf (g, k, b) (i, j)]) (by omega) (by simp; omega)
      have hto := code_to G C g k b i j hb hm
      obtain ⟨m1001, m1002, m1003, m1004, m1005, m1006⟩ := mvOk_iff.1 hm
      have m1001' : (0 : Int) < (i : Int) + j := by omega
      rw [hjd] at ih
      generalize rowE G C (g, k, b) i (j + 1) d = Z at *
      have he : edOf (g, k, b) (i, j) = (cd9 (stepTo (g, k, b) (i, j)), 1, 0, [(i : Int), (j : Int)]) := rfl
      rw [he] at ih ⊢
      have hK : cd9 (stepTo (g, k, b) (i, j)) ≤ 1000 := by
        have := (mvStep_ok (by rcases hb with rfl | rfl <;> simp) hm).1
        have := (bfsG9 (s := s) hG hC).lt _ this
        omega
      generalize cd9 (stepTo (g, k, b) (i, j)) = K at *
      have hsn : tle3 acc ++ [.agg [.int .i64 (K : Int), .int .i64 1, .lst 1 [.int .i64 (i : Int), .int .i64 (j : Int)]]] = tle3 (acc ++ [(K, 1, 0, [(i : Int), (j : Int)])]) := tle3_snoc acc (K, 1, 0, [(i : Int), (j : Int)])
      have k1001 : IntKind.i64.wrap (K : Int) = K := w96 (by omega)
      have k1002 : IntKind.i64.wrap ((K : Int) + 1) = (K : Int) + 1 := w96 (by omega)
      rcases hb with rfl | rfl
      · simp only [tgt, Nat.zero_ne_one, if_false] at m1002 m1003 m1005 m1006 hto
        have q1001 := r46 G C s ((g : Int) + i) ((k : Int) + j) (by omega) (by omega) (by omega) (by omega)
        rw [m1005, m1006] at q1001
        have i1 : inB ((g : Int) + i) 0 G = true := (inB_iff _ _ _).2 m1002
        have i2 : inB ((k : Int) + j) 0 C = true := (inB_iff _ _ _).2 m1003
        have a1 : IntKind.i64.wrap (((g : Int) + i) * 9) = ((g : Int) + i) * 9 := w96 (by omega)
        have a2 : IntKind.i64.wrap (((g : Int) + i) * 9 + ((k : Int) + j)) = ((g : Int) + i) * 9 + ((k : Int) + j) := w96 (by omega)
        have a3 : IntKind.i64.wrap (2 * (((g : Int) + i) * 9 + ((k : Int) + j))) = 2 * (((g : Int) + i) * 9 + ((k : Int) + j)) := w96 (by omega)
        have a5 : 2 * (((g : Int) + i) * 9 + ((k : Int) + j)) + 1 = K := by simpa using hto
        simp at ih
        simp [ir95_d0, h1, h2, w1001, w1002, w1003, w1004, w1005, m1001', m1004, i1, i2, r78, q1001, a1, a2, a3, a5, k1001, hac, hsn, ih]
      · simp only [tgt, if_true] at m1002 m1003 m1005 m1006 hto
        have q1001 := r46 G C s ((g : Int) - i) ((k : Int) - j) (by omega) (by omega) (by omega) (by omega)
        rw [m1005, m1006] at q1001
        have i1 : inB ((g : Int) - i) 0 G = true := (inB_iff _ _ _).2 m1002
        have i2 : inB ((k : Int) - j) 0 C = true := (inB_iff _ _ _).2 m1003
        have a1 : IntKind.i64.wrap (((g : Int) - i) * 9) = ((g : Int) - i) * 9 := w96 (by omega)
        have a2 : IntKind.i64.wrap (((g : Int) - i) * 9 + ((k : Int) - j)) = ((g : Int) - i) * 9 + ((k : Int) - j) := w96 (by omega)
        have a5 : 2 * (((g : Int) - i) * 9 + ((k : Int) - j)) = K := by simpa using hto
        simp at ih
        simp [ir95_d0, h1, h2, w1001, w1002, w1003, w1004, w1005, m1001', m1004, i1, i2, r78, q1001, a1, a2, a5, k1001, k1002, hac, hsn, ih]
    | false =>
      have ih := ihd (j + 1) acc (by omega) (by omega)
      rw [hjd] at ih
      generalize rowE G C (g, k, b) i (j + 1) d = Z at *
      have hz : (0 : Int) < (i : Int) + j ↔ 0 < i + j := by omega
      unfold mvOk at hm
      rcases hb with rfl | rfl
      · simp at ih
        simp only [tgt, Nat.zero_ne_one, if_false] at hm
        have q1001 := r46 G C s ((g : Int) + i) ((k : Int) + j) (by omega) (by omega) (by omega) (by omega)
        generalize (fine ((g : Int) + i) ((k : Int) + j) && fine ((G : Int) - ((g : Int) + i)) ((C : Int) - ((k : Int) + j))) = v5 at *
        by_cases v1 : 0 < i + j
        · have v1' := hz.2 v1
          cases v2 : inB ((g : Int) + i) 0 G with
          | false => simp [ir95_d0, h1, h2, w1001, w1002, w1003, w1004, w1005, v1', v2, r78, ih]
          | true =>
            cases v3 : inB ((k : Int) + j) 0 C with
            | false => simp [ir95_d0, h1, h2, w1001, w1002, w1003, w1004, w1005, v1', v2, v3, r78, ih]
            | true =>
              cases v4 : fine (i : Int) (j : Int) with
              | false => simp [ir95_d0, h1, h2, w1001, w1002, w1003, w1004, w1005, v1', v2, v3, v4, r78, ih]
              | true =>
                cases v5 with
                | false => simp [ir95_d0, h1, h2, w1001, w1002, w1003, w1004, w1005, v1', v2, v3, v4, q1001, r78, ih]
                | true => simp [v1, v2, v3, v4] at hm
        · have v1' : ¬ (0 : Int) < (i : Int) + j := fun h => v1 (hz.1 h)
          simp [ir95_d0, h1, h2, w1001, w1002, w1003, w1004, w1005, v1', ih]
      · simp at ih
        simp only [tgt, if_true] at hm
        have q1001 := r46 G C s ((g : Int) - i) ((k : Int) - j) (by omega) (by omega) (by omega) (by omega)
        generalize (fine ((g : Int) - i) ((k : Int) - j) && fine ((G : Int) - ((g : Int) - i)) ((C : Int) - ((k : Int) - j))) = v5 at *
        by_cases v1 : 0 < i + j
        · have v1' := hz.2 v1
          cases v2 : inB ((g : Int) - i) 0 G with
          | false => simp [ir95_d0, h1, h2, w1001, w1002, w1003, w1004, w1005, v1', v2, r78, ih]
          | true =>
            cases v3 : inB ((k : Int) - j) 0 C with
            | false => simp [ir95_d0, h1, h2, w1001, w1002, w1003, w1004, w1005, v1', v2, v3, r78, ih]
            | true =>
              cases v4 : fine (i : Int) (j : Int) with
              | false => simp [ir95_d0, h1, h2, w1001, w1002, w1003, w1004, w1005, v1', v2, v3, v4, r78, ih]
              | true =>
                cases v5 with
                | false => simp [ir95_d0, h1, h2, w1001, w1002, w1003, w1004, w1005, v1', v2, v3, v4, q1001, r78, ih]
                | true => simp [v1, v2, v3, v4] at hm
        · have v1' : ¬ (0 : Int) < (i : Int) + j := fun h => v1 (hz.1 h)
          simp [ir95_d0, h1, h2, w1001, w1002, w1003, w1004, w1005, v1', ih]
end Go.Proofs.Ytanlmanifpknoaa.Ev

namespace Go.Proofs.Ytanlmanifpknoaa.Ev
open Go
set_option linter.unusedVariables false
set_option linter.unusedSimpArgs false
set_option linter.unusedSectionVars false
attribute [local simp] til_getE til_length til_get til_drop til_take til_snoc til_fold take_snoc til_set tin_getE tin_length tin_take tleN_length tleN_getE
end Go.Proofs.Ytanlmanifpknoaa.Ev

namespace Go.Proofs.Ytanlmanifpknoaa.Ev
open Go
set_option linter.unusedVariables false
set_option linter.unusedSimpArgs false
set_option linter.unusedSectionVars false
attribute [local simp] til_getE til_length til_get til_drop til_take til_snoc til_fold take_snoc til_set
end Go.Proofs.Ytanlmanifpknoaa.Ev

namespace Go.Proofs.Ytanlmanifpknoaa.Ev
open Go
set_option linter.unusedVariables false
set_option linter.unusedSimpArgs false
set_option linter.unusedSectionVars false
end Go.Proofs.Ytanlmanifpknoaa.Ev

namespace Go.Proofs.Ytanlmanifpknoaa.Ev
open Go
set_option linter.unusedVariables false
set_option linter.unusedSimpArgs false
set_option linter.unusedSectionVars false
attribute [local simp] til_getE til_length til_get til_drop til_take til_snoc til_fold take_snoc til_set tin_getE tin_length tin_take tleN_length tleN_getE
def delB (dist : List Int) (s : Nat) (e : Ed) : Bool := decide (dist[e.1]?.getD 0 < 0) || !decide (IntKind.i64.wrap (dist[e.1]?.getD 0 + e.2.1) = dist[s]?.getD 0)
def idxD (del : Ed → Bool) : Nat → List Ed → Int
  | _, [] => -1
  | i, e :: es => if del e then (i : Int) else idxD del (i + 1) es
end Go.Proofs.Ytanlmanifpknoaa.Ev

namespace Go.Proofs.Ytanlmanifpknoaa.Ev
open Go
set_option linter.unusedVariables false
set_option linter.unusedSimpArgs false
set_option linter.unusedSectionVars false
attribute [local simp] til_getE til_length til_get til_drop til_take til_snoc til_fold take_snoc til_set tin_getE tin_length tin_take tleN_length tleN_getE
end Go.Proofs.Ytanlmanifpknoaa.Ev

namespace Go.Proofs.Ytanlmanifpknoaa.Ev
open Go
set_option linter.unusedVariables false
set_option linter.unusedSimpArgs false
set_option linter.unusedSectionVars false
attribute [local simp] til_getE til_length til_get til_drop til_take til_snoc til_fold take_snoc til_set tin_getE tin_length tin_take tleN_length tleN_getE
theorem idxD_is (del : Ed → Bool) : ∀ (es : List Ed) (i : Nat), (idxD del i es = -1 ∧ ∀ e ∈ es, del e = false) ∨ ∃ k, ∃ hk : k < es.length, idxD del i es = ((i + k : Nat) : Int) ∧ (∀ e ∈ es.take k, del e = false) ∧ del es[k] = true
  | [], i => .inl ⟨rfl, by simp⟩
  | e :: es, i => by
    simp only [idxD]
    cases h : del e with
    | true => exact .inr ⟨0, by simp, by simp, by simp, by simpa using h⟩
    | false =>
      rcases idxD_is del es (i + 1) with ⟨h1, h2⟩ | ⟨k, hk, h1, h2, h3⟩
      · refine .inl ⟨by simpa using h1, fun x hx => ?_⟩
        rcases List.mem_cons.1 hx with rfl | hx
        · exact h
        · exact h2 x hx
      · refine .inr ⟨k + 1, by simpa using hk, ?_, fun x hx => ?_, by simpa using h3⟩
        · simp only [Bool.false_eq_true, if_false, h1]; omega
        · rw [List.take_succ_cons] at hx
          rcases List.mem_cons.1 hx with rfl | hx
          · exact h
          · exact h2 x hx
end Go.Proofs.Ytanlmanifpknoaa.Ev

namespace Go.Proofs.Ytanlmanifpknoaa.Ev
open Go
set_option linter.unusedVariables false
set_option linter.unusedSimpArgs false
set_option linter.unusedSectionVars false
attribute [local simp] til_getE til_length til_get til_drop til_take til_snoc til_fold take_snoc til_set tin_getE tin_length tin_take tleN_length tleN_getE
def bestE (out : Nat → List Ed) (dist : List Int) (s : Nat) : List Ed := (out s).filter fun e => !delB dist s e
end Go.Proofs.Ytanlmanifpknoaa.Ev

namespace Go.Proofs.Ytanlmanifpknoaa.Ev
open Go
set_option linter.unusedVariables false
set_option linter.unusedSimpArgs false
set_option linter.unusedSectionVars false
attribute [local simp] til_getE til_length til_get til_drop til_take til_snoc til_fold take_snoc til_set tin_getE tin_length tin_take tle3_length tle3_getE
theorem r98 (dist : List Int) (s : Nat) (hs : s < dist.length) (to c : Nat) (vt : Int) (g : List Int) (hto : to < dist.length) : ownR env 98 [.agg [.int .i64 to, .int .i64 c, .lst 1 (til g)], .ptr (.lst 1 (til dist)), .ptr (ti s)] = some (.t (tb (delB dist s (to, c, vt, g))), []) := by
  rw [own_ir e98 _ rfl]
  have h1 : dist[to]?.getD 0 = dist[to] := by simp [hto]
  have h2 : dist[s]?.getD 0 = dist[s] := by simp [hs]
  unfold delB
  simp only [h1, h2]
  by_cases hn : dist[to] < 0
  · simp [ir98, ir98_c, hto, hs, hn]
  · by_cases he : IntKind.i64.wrap (dist[to] + c) = dist[s] <;> simp [ir98, ir98_c, hto, hs, hn, he]
theorem w107 (dist : List Int) (s : Nat) (hs : s < dist.length) (es : List Ed) (hen : es.length ≤ 1000000) (hes : ∀ e ∈ es, e.1 < dist.length) : ∀ (d i : Nat), i + d = es.length →
    endO [.tmp 4] (andN (outB 0 (loopF env true [0, 1, 7, 8] ir107_b0 ([(0, .t (.lst 3 (tle3 es))), (1, .t (.clo 98 [] [.ptr (.lst 1 (til dist)), .ptr (ti s)])), (7, .t (ti es.length)), (8, .t (ti i))], []))) (execD env (.seq (.reg false [] [⟨some 4, none, .mv (.k (ti (-1)))⟩]) .ret))) = some (.t (ti (idxD (delB dist s) i (es.drop i))), [])
  | 0, i, hi => by
    rw [x107_0]
    have : i = es.length := by omega
    subst this
    simp [ir107_d0, idxD]
  | d + 1, i, hi => by
    rw [x107_0]
    have hlt : i < es.length := by omega
    have hw : IntKind.i64.wrap ((i : Int) + 1) = (i : Int) + 1 := w96 (by omega)
    have ih := w107 dist s hs es hen hes d (i + 1) (by omega)
    have hto := hes es[i] (List.getElem_mem hlt)
    have h323 := r98 dist s hs es[i].1 es[i].2.1 es[i].2.2.1 es[i].2.2.2 hto
    have hd : es.drop i = es[i] :: es.drop (i + 1) := List.drop_eq_getElem_cons hlt
    rw [hd, idxD]
    have he : (es[i].1, es[i].2.1, es[i].2.2.1, es[i].2.2.2) = es[i] := rfl
    rw [he] at h323
    cases hdel : delB dist s es[i] with
    | true =>
      rw [hdel] at h323
      simp [ir107_d0, hlt, hw, h323]
    | false =>
      rw [hdel] at h323
      simp at ih
      simp [ir107_d0, hlt, hw, h323, ih]
theorem r107 (dist : List Int) (s : Nat) (hs : s < dist.length) (es : List Ed) (hen : es.length ≤ 1000000) (hes : ∀ e ∈ es, e.1 < dist.length) : ownR env 107 [.lst 3 (tle3 es), .clo 98 [] [.ptr (.lst 1 (til dist)), .ptr (ti s)]] = some (.t (ti (idxD (delB dist s) 0 es)), []) := by
  rw [own_ir e107 _ rfl]
  have hl := w107 dist s hs es hen hes es.length 0 (by omega)
  simp at hl
  simp [ir107, ir107_c, hl]
theorem tle3_set (es : List Ed) (i : Nat) (e : Ed) : (tle3 es).set i (.agg [.int .i64 e.1, .int .i64 e.2.1, .lst 1 (til e.2.2.2)]) = tle3 (es.set i e) := by simp [tle3, List.map_set]
theorem w97 (dist : List Int) (s : Nat) (hs : s < dist.length) (es : List Ed) (hen : es.length ≤ 1000000) (hes : ∀ e ∈ es, e.1 < dist.length) (ie i5 i4 : Nat) : ∀ (d j : Nat) (H : Heap) (i : Nat) (xs : List Ed), j + d = es.length → i ≤ j → xs.length = es.length → xs.take i = (es.take j).filter (fun e => !delB dist s e) → xs.drop j = es.drop j →
    H[ie]? = some (.pure 3 (tle3 xs)) → H[i5]? = some (.box 1 [.t (.lst 1 (til dist))]) → H[i4]? = some (.box 1 [.t (ti s)]) →
    ∃ H' xs' i', loopF env false [0, 1, 5, 6] ir97_b0 ([(0, .ref ie 0 es.length), (1, .clo 98 [] [.ptr i5 0 0, .ptr i4 0 0]), (5, .t (ti i)), (6, .t (ti j))], H) =
      some (.exit 0, [(0, .ref ie 0 es.length), (1, .clo 98 [] [.ptr i5 0 0, .ptr i4 0 0]), (5, .t (ti (i' : Nat))), (6, .t (ti es.length)), (16, .t (ti es.length)), (17, .ref ie 0 es.length), (18, .t (ti es.length)), (19, .t (tb false))], H') ∧
      xs'.length = es.length ∧ i' ≤ es.length ∧ xs'.take i' = es.filter (fun e => !delB dist s e) ∧ H'[ie]? = some (.pure 3 (tle3 xs')) ∧ H.length ≤ H'.length ∧ ∀ id, id < H.length → id ≠ ie → H'[id]? = H[id]?
  | 0, j, H, i, xs, hj, hij, hxl, hk, hd, he, h5, h4 => by
    rw [x97_0]
    have : j = es.length := by omega
    subst this
    refine ⟨H, xs, i, ?_, hxl, hij, by rw [hk, List.take_length], he, Nat.le_refl _, fun _ _ _ => rfl⟩
    simp [ir97_d0]
  | d + 1, j, H, i, xs, hj, hij, hxl, hk, hd, he, h5, h4 => by
    rw [x97_0]
    have hlt : j < es.length := by omega
    have hltx : j < xs.length := by omega
    have hw : IntKind.i64.wrap ((j : Int) + 1) = (j : Int) + 1 := w96 (by omega)
    have hwi : IntKind.i64.wrap ((i : Int) + 1) = (i : Int) + 1 := w96 (by omega)
    have hxj : xs[j] = es[j] := by
      have := congrArg (fun l => l[0]?) hd
      simpa [hlt, hltx] using this
    have hd' : xs.drop (j + 1) = es.drop (j + 1) := by
      have := congrArg (List.drop 1) hd
      simpa using this
    have htk : es.take (j + 1) = es.take j ++ [es[j]] := by rw [List.take_add_one, List.getElem?_eq_getElem hlt]; rfl
    have hto := hes es[j] (List.getElem_mem hlt)
    have h323 := r98 dist s hs es[j].1 es[j].2.1 es[j].2.2.1 es[j].2.2.2 hto
    rw [show (es[j].1, es[j].2.1, es[j].2.2.1, es[j].2.2.2) = es[j] from rfl] at h323
    have hel := (List.getElem?_eq_some_iff.1 he).1
    have hlX : ∀ {id : Nat} {b : Blk} (X : Heap), H[id]? = some b → (H ++ X)[id]? = some b := fun X h => get_app2 h
    cases hdel : delB dist s es[j] with
    | true =>
      rw [hdel] at h323
      obtain ⟨H', xs', i', g1, g2, g3, g4, g5, g6, g7⟩ := w97 dist s hs es hen hes ie i5 i4 d (j + 1) (H ++ [.box 3 [.t (.int .i64 es[j].1), .t (.int .i64 es[j].2.1), .t (.lst 1 (til es[j].2.2.2))]]) i xs (by omega) (by omega) hxl (by rw [htk, List.filter_append, hk]; simp [hdel]) hd' (hlX _ he) (hlX _ h5) (hlX _ h4)
      refine ⟨H', xs', i', ?_, g2, g3, g4, g5, by simp at g6; omega, fun id hid hne => (g7 id (by simp; omega) hne).trans (get_app hid)⟩
      simp at g1
      simp [ir97_d0, hlt, hltx, hw, he, hxj, hlX _ h5, hlX _ h4, h323, g1]
    | false =>
      rw [hdel] at h323
      have hi : i < xs.length := by omega
      have hie : i < es.length := by omega
      have h5e : ¬ (ie = i5) := fun e => by rw [← e, he] at h5; cases h5
      have h4e : ¬ (ie = i4) := fun e => by rw [← e, he] at h4; cases h4
      obtain ⟨H', xs', i', g1, g2, g3, g4, g5, g6, g7⟩ := w97 dist s hs es hen hes ie i5 i4 d (j + 1) ((H ++ [Blk.box 3 [.t (.int .i64 es[j].1), .t (.int .i64 es[j].2.1), .t (.lst 1 (til es[j].2.2.2))]]).set ie (.pure 3 (tle3 (xs.set i es[j])))) (i + 1) (xs.set i es[j]) (by omega) (by omega) (by simpa using hxl) (by
          rw [htk, List.filter_append, ← hk]
          simp only [List.filter_cons, hdel, Bool.not_false, if_true, List.filter_nil]
          rw [List.take_add_one, List.getElem?_set_self hi, List.take_set_of_le (Nat.le_refl _)]
          rfl) (by rw [List.drop_set_of_lt (by omega)]; exact hd') (by rw [List.getElem?_set_self (by simp; omega)]) (by rw [List.getElem?_set_ne h5e]; exact hlX _ h5) (by rw [List.getElem?_set_ne h4e]; exact hlX _ h4)
      refine ⟨H', xs', i', ?_, g2, g3, g4, g5, by simp at g6; omega, fun id hid hne => (g7 id (by simp; omega) hne).trans (by rw [List.getElem?_set_ne (Ne.symm hne)]; exact get_app hid)⟩
      simp at g1
      simp [ir97_d0, hlt, hltx, hw, hwi, he, hxj, hlX _ he, hlX _ h5, hlX _ h4, h323, hi, hie, tle3_set, g1]
theorem d97 (dist : List Int) (s : Nat) (hs : s < dist.length) (es : List Ed) (hen : es.length ≤ 1000000) (hes : ∀ e ∈ es, e.1 < dist.length) (ie i5 i4 : Nat) (H : Heap)
    (he : H[ie]? = some (.pure 3 (tle3 es))) (h5 : H[i5]? = some (.box 1 [.t (.lst 1 (til dist))])) (h4 : H[i4]? = some (.box 1 [.t (ti s)])) :
    ∃ H' ts, den env 97 [.ref ie 0 es.length, .clo 98 [] [.ptr i5 0 0, .ptr i4 0 0]] H = some (.ref ie 0 (es.filter (fun e => !delB dist s e)).length, H') ∧ H'[ie]? = some (.pure 3 ts) ∧
      ts.take (es.filter (fun e => !delB dist s e)).length = tle3 (es.filter (fun e => !delB dist s e)) ∧ H.length ≤ H'.length ∧ ∀ id, id < H.length → id ≠ ie → H'[id]? = H[id]? := by
  rw [den_ir e97 _ _ rfl (.inl rfl)]
  have h327 := r107 dist s hs es hen hes
  have hel := (List.getElem?_eq_some_iff.1 he).1
  have hte : (tle3 es).take es.length = tle3 es := List.take_of_length_le (by simp)
  rcases idxD_is (delB dist s) es 0 with ⟨g1, g2⟩ | ⟨k, hk, g1, g2, g3⟩
  · have hf : es.filter (fun e => !delB dist s e) = es := List.filter_eq_self.2 fun e he => by simp [g2 e he]
    rw [g1] at h327
    rw [hf]
    refine ⟨H, tle3 es, ?_, he, by simp [List.take_of_length_le], Nat.le_refl _, fun _ _ _ => rfl⟩
    simp [ir97, ir97_c, he, h5, h4, hte, h327]
  · rw [g1, Nat.zero_add] at h327
    have hw : IntKind.i64.wrap ((k : Int) + 1) = (k : Int) + 1 := w96 (by omega)
    have hk0 : es.take k = (es.take (k + 1)).filter (fun e => !delB dist s e) := by
      rw [List.take_add_one, List.getElem?_eq_getElem hk, List.filter_append]
      simp only [Option.toList_some, List.filter_cons, g3, Bool.not_true, Bool.false_eq_true, if_false, List.filter_nil, List.append_nil]
      exact (List.filter_eq_self.2 fun e he => by simp [g2 e he]).symm
    obtain ⟨H', xs', i', q1001, q1002, q1003, q1004, q1005, q1006, q1007⟩ := w97 dist s hs es hen hes ie i5 i4 (es.length - (k + 1)) (k + 1) H k es (by omega) (by omega) rfl hk0 rfl he h5 h4
    have hfl : (es.filter (fun e => !delB dist s e)).length = i' := by rw [← q1004, List.length_take]; omega
    rw [hfl]
    refine ⟨H'.set ie (.pure 3 (splice (tle3 xs') i' (List.replicate (es.length - i') (.agg [.int .i64 0, .int .i64 0, .nil])))), _, ?_, by rw [List.getElem?_set_self (by omega)], ?_, by simpa using q1006, fun id hid hne => by rw [List.getElem?_set_ne (Ne.symm hne)]; exact q1007 id hid hne⟩
    · have hset : ∀ b, (H'.set ie b)[ie]? = some b := fun b => List.getElem?_set_self (by omega)
      simp at q1001
      simp [ir97, ir97_c, he, h5, h4, hte, h327, hw, q1001, q1005, q1002, show ¬ ((k : Int) = -1) by omega, q1003, show i' + (es.length - i') ≤ es.length by omega, splice, hset]
    · rw [← q1004]
      unfold splice
      rw [List.append_assoc, List.take_append_of_le_length (by simp; omega), List.take_take, Nat.min_self]
      simp [tle3, List.map_take]
theorem r76 {f : FuncId} {caps : List T} {N C D : Nat} {P : Nat → Prop} {out : Nat → List Ed} (hG : OkG N C D P out) (hD : D ≤ 1000000)
    (hcall : ∀ s, P s → ∀ H, evCall env (den env) f (.t (ti s) :: caps.map .t) H = some (.ref H.length 0 (out s).length, H ++ [.pure 3 (tle3 (out s))])) (dist : List Int) (hdl : dist.length = N) (s : Nat) (hs : P s) :
    ∃ ts, ownFR env 76 [.agg [ti N, .clo f [] caps], ti s, .lst 1 (til dist)] = some (.ref 0 0 (bestE out dist s).length, [.pure 3 ts]) ∧ ts.take (bestE out dist s).length = tle3 (bestE out dist s) := by
  have hsN := hG.lt s hs
  have hdeg := hG.deg s hs
  obtain ⟨H', ts, h1, h2, h3, h4, h5⟩ := d97 dist s (by omega) (out s) (by omega) (fun e he => by have := hG.lt _ (hG.ed s hs e he).1; omega) 3 2 1
    [.box 2 [.t (ti N), .t (.clo f [] caps)], .box 1 [.t (ti s)], .box 1 [.t (.lst 1 (til dist))], .pure 3 (tle3 (out s))] rfl rfl rfl
  refine ⟨ts, ?_, h3⟩
  rw [ownF_ir e76 _ rfl]
  unfold bestE
  have hc := hcall s hs
  simp [ir76, ir76_c, hc, h1, h2]
end Go.Proofs.Ytanlmanifpknoaa.Ev

namespace Go.Proofs.Ytanlmanifpknoaa.Ev
open Go
set_option linter.unusedVariables false
set_option linter.unusedSimpArgs false
set_option linter.unusedSectionVars false
attribute [local simp] til_getE til_length til_get til_drop til_take til_snoc til_fold take_snoc til_set tle3_length tle3_getE
def rowsE (G C s : Nat) (x : Nd) (i d : Nat) : List Ed := (List.range' i d).flatMap fun i => rowE G C x i 0 (s + 1 - i)
theorem rowE_len (G C : Nat) (x : Nd) (i j d : Nat) : (rowE G C x i j d).length ≤ d := by
  unfold rowE
  rw [List.length_map]
  have := List.length_filter_le (mvOk G C x) ((List.range' j d).map fun y => (i, y))
  simpa using this
theorem l321o (G C s : Nat) (hG : G ≤ 8) (hC : C ≤ 8) (hs : s ≤ 4) (g k b : Nat) (hg : g ≤ G) (hk : k ≤ C) (hb : b = 0 ∨ b = 1) : ∀ (d i : Nat) (acc : List Ed), i + d = s + 1 → acc.length ≤ 5 * i →
    loopF env true [1, 4, 5, 6, 7, 8] ir95_b1 ([(1, .t (.ptr (.agg [ti G, ti C, ti s]))), (4, .t (ti g)), (5, .t (ti k)), (6, .t (ti b)), (7, .ref 0 0 acc.length), (8, .t (ti i))], [.pure 3 (tle3 acc)]) =
      some (.exit 0, [(1, .t (.ptr (.agg [ti G, ti C, ti s]))), (4, .t (ti g)), (5, .t (ti k)), (6, .t (ti b)), (7, .ref 0 0 (acc ++ rowsE G C s (g, k, b) i d).length), (8, .t (ti (s + 1 : Nat))), (21, .t (ti (s + 1 : Nat))), (22, .rptr (.agg [ti G, ti C, ti s]) 2), (23, .t (ti s)), (24, .t (tb false))], [.pure 3 (tle3 (acc ++ rowsE G C s (g, k, b) i d))])
  | 0, i, acc, hi, ha => by
    have : i = s + 1 := by omega
    subst this
    rw [x95_1]
    have h2 : ¬ ((s : Int) + 1 ≤ s) := by omega
    simp [ir95_d1, rowsE, h2]
  | d + 1, i, acc, hi, ha => by
    rw [x95_1]
    have h2 : (i : Int) ≤ s := by omega
    have w1005 : IntKind.i64.wrap ((i : Int) + 1) = (i : Int) + 1 := w96 (by omega)
    have hin := l321i G C s hG hC hs g k b hg hk hb i (by omega) (s + 1 - i) 0 acc (by omega) (by omega)
    have hrl := rowE_len G C (g, k, b) i 0 (s + 1 - i)
    have ih := l321o G C s hG hC hs g k b hg hk hb d (i + 1) (acc ++ rowE G C (g, k, b) i 0 (s + 1 - i)) (by omega) (by rw [List.length_append]; omega)
    have hr : rowsE G C s (g, k, b) i (d + 1) = rowE G C (g, k, b) i 0 (s + 1 - i) ++ rowsE G C s (g, k, b) (i + 1) d := by
      unfold rowsE; rw [List.range'_succ, List.flatMap_cons]
    rw [hr]
    generalize rowE G C (g, k, b) i 0 (s + 1 - i) = Y at *
    generalize rowsE G C s (g, k, b) (i + 1) d = Z at *
    simp [ex321] at hin ih
    simp [ir95_d1, h2, w1005, hin, ih]
theorem rows_all (G C s : Nat) (x : Nd) : rowsE G C s x 0 (s + 1) = (mvsG G C s x).map (edOf x) := by
  unfold rowsE rowE mvsG mvs mvRow
  rw [List.filter_flatMap, List.map_flatMap, List.range_eq_range']
  refine congrArg (fun f => List.flatMap f _) (funext fun i => ?_)
  rw [List.range_eq_range']
def outG (G C s : Nat) (code : Nat) : List Ed := (mvsG G C s (code / 2 / 9, code / 2 % 9, code % 2)).map (edOf (code / 2 / 9, code / 2 % 9, code % 2))
theorem code9 (x : Nd) (h1 : x.2.1 ≤ 8) (h2 : x.2.2 ≤ 1) : (cd9 x / 2 / 9, cd9 x / 2 % 9, cd9 x % 2) = x := by
  obtain ⟨a, b, c⟩ := x
  unfold cd9
  simp only at *
  rw [Prod.mk.injEq, Prod.mk.injEq]
  omega
theorem mvs_len (s : Nat) (hs : s ≤ 4) : (mvs s).length ≤ 15 := by
  have : ∀ s : Fin 5, (mvs s.val).length ≤ 15 := by decide
  exact this ⟨s, by omega⟩
theorem outG_len (G C s code : Nat) (hs : s ≤ 4) : (outG G C s code).length ≤ 15 := by
  unfold outG mvsG
  rw [List.length_map]
  exact Nat.le_trans (List.length_filter_le _ _) (mvs_len s hs)
theorem r95 (G C s : Nat) (hG : G ≤ 8) (hC : C ≤ 8) (hs : s ≤ 4) (x : Nd) (hx : okG G C x) : ownFR env 95 [ti (cd9 x), .ptr (.agg [ti G, ti C, ti s])] = some (.ref 0 0 (outG G C s (cd9 x)).length, [.pure 3 (tle3 (outG G C s (cd9 x)))]) := by
  obtain ⟨h1, h2, h3⟩ := hx
  have hc := code9 x (by omega) h3
  have hl : cd9 x < 200 := by unfold cd9; omega
  have hl15 := outG_len G C s (cd9 x) hs
  have ho : outG G C s (cd9 x) = rowsE G C s x 0 (s + 1) := by rw [rows_all]; unfold outG; rw [hc]
  have h := l321o G C s hG hC hs x.1 x.2.1 x.2.2 h1 h2 (by omega) (s + 1) 0 [] (by omega) (by simp)
  have hxx : (x.1, x.2.1, x.2.2) = x := rfl
  rw [hxx, ← ho] at h
  have hc1 : cd9 x / 2 / 9 = x.1 := congrArg Prod.fst hc
  have hc2 : cd9 x / 2 % 9 = x.2.1 := congrArg (fun y => y.2.1) hc
  have hc3 : cd9 x % 2 = x.2.2 := congrArg (fun y => y.2.2) hc
  clear hc
  generalize outG G C s (cd9 x) = Z at *
  generalize hK : cd9 x = K at *
  obtain ⟨K2, hK2⟩ : ∃ K2, K / 2 = K2 := ⟨_, rfl⟩
  rw [hK2] at hc1 hc2
  have w1002 : IntKind.i64.wrap ((K : Int) / 2) = (K2 : Int) := by rw [w96 (by omega)]; omega
  have w1003 : IntKind.i64.wrap ((K2 : Int).tdiv 9) = (x.1 : Int) := by rw [Int.tdiv_eq_ediv_of_nonneg (by omega), w96 (by omega)]; omega
  have w1003' : IntKind.i64.wrap ((K2 : Int) / 9) = (x.1 : Int) := by rw [w96 (by omega)]; omega
  have w1004 : (K2 : Int).tmod 9 = (x.2.1 : Int) := by rw [Int.tmod_eq_emod_of_nonneg (by omega)]; omega
  have w1005 : (K : Int).tmod 2 = (x.2.2 : Int) := by rw [Int.tmod_eq_emod_of_nonneg (by omega)]; omega
  have w1004' : (K2 : Int) % 9 = (x.2.1 : Int) := by omega
  have w1005' : (K : Int) % 2 = (x.2.2 : Int) := by omega
  rw [ownF_ir e95 _ rfl]
  have ht : tle3 [] = [] := rfl
  simp [ht] at h
  simp [ir95, ir95_c, evBin, evInt, w1002, w1003, w1003', w1004, w1004', w1005, w1005', h]
end Go.Proofs.Ytanlmanifpknoaa.Ev

namespace Go.Proofs.Ytanlmanifpknoaa.Ev
open Go
set_option linter.unusedVariables false
set_option linter.unusedSimpArgs false
set_option linter.unusedSectionVars false
attribute [local simp] til_getE til_length til_get til_drop til_take til_snoc til_fold take_snoc til_set tin_getE tin_length tin_take tle3_length tle3_getE
def PG (G C : Nat) (code : Nat) : Prop := ∃ x, okG G C x ∧ cd9 x = code
theorem okGG (G C s : Nat) (hG : G ≤ 8) (hC : C ≤ 8) (hs : s ≤ 4) : OkG 162 1 256 (PG G C) (outG G C s) := by
  refine ⟨?_, ?_, ?_⟩
  · rintro _ ⟨x, hx, rfl⟩; exact (bfsG9 (s := s) hG hC).lt x hx
  · rintro _ ⟨x, hx, rfl⟩; have := outG_len G C s (cd9 x) hs; omega
  · rintro _ ⟨x, hx, rfl⟩ e he
    have h1 := hx.2.1
    unfold outG at he
    rw [code9 x (by omega) hx.2.2] at he
    obtain ⟨m, hm, rfl⟩ := List.mem_map.1 he
    exact ⟨⟨_, (mvStep_ok hx.2.2 (List.mem_filter.1 hm).2).1, rfl⟩, Nat.le_refl _, Nat.le_refl _⟩
theorem call321 (G C s : Nat) (hG : G ≤ 8) (hC : C ≤ 8) (hs : s ≤ 4) : ∀ q, PG G C q → ∀ H, evCall env (den env) 95 (.t (ti q) :: ([.ptr (.agg [ti G, ti C, ti s])] : List T).map .t) H = some (.ref H.length 0 (outG G C s q).length, H ++ [.pure 3 (tle3 (outG G C s q))]) := by
  rintro _ ⟨x, hx, rfl⟩ H
  have h := r95 G C s hG hC hs x hx
  simp [h]
theorem r74 (G C s : Int) : ownFR env 74 [.agg [ti G, ti C, ti s]] = some (.agg [.t (ti 162), .clo 95 [] [.ptr 0 0 0]], [.box 3 [.t (ti G), .t (ti C), .t (ti s)]]) := by
  rw [ownF_ir e74 _ rfl]
  simp [ir74, ir74_c]
theorem r35_bad (G C s : Int) (h : (sidesB G C s && fine G C) = false) : ownFR env 35 [.agg [ti G, ti C, ti s]] = some (.tup [.agg [.t (ti 162), .clo 95 [] [.ptr 0 0 0]], .t .nil, .t (tb false)], [.box 3 [.t (ti G), .t (ti C), .t (ti s)]]) := by
  rw [ownF_ir e35 _ rfl]
  have h307 := r74 G C s
  have h287 := r44 G C s
  cases hs : sidesB G C s with
  | false =>
    rw [hs] at h287
    simp [ir35, ir35_c, h307, h287]
  | true =>
    rw [hs] at h287 h
    have hi := hs
    simp only [sidesB, Bool.and_eq_true, inB_iff, decide_eq_true_eq] at hi
    have h288 := r46 G C s 0 0 (by omega) (by omega) (by omega) (by omega)
    have e1000 : (fine 0 0 && fine (G - 0) (C - 0)) = false := by
      rw [Int.sub_zero, Int.sub_zero]
      have : fine 0 0 = true := rfl
      rw [this]; simpa using h
    rw [e1000] at h288
    simp [ir35, ir35_c, h307, h287, h288]
theorem r35 (G C s : Nat) (hb : (sidesB G C s && fine G C) = true) : ∃ r : List Int, ownFR env 35 [.agg [ti G, ti C, ti s]] = some (.tup [.agg [.t (ti 162), .clo 95 [] [.ptr 0 0 0]], .ref 1 0 162, .t (tb (decide ((0 : Int) ≤ r[0]?.getD 0)))], [.froz 3 [.agg [ti G, ti C, ti s]], .pure 1 (til r)]) ∧ r.length = 162 ∧ FarT (scG G C s) cd9 (okG G C) (lastG G C) r ∧ ∀ v : Nat, r[v]?.getD 0 ≤ 2 ^ 40 := by
  have hb1 := hb
  simp only [Bool.and_eq_true, sidesB, inB_iff, decide_eq_true_eq] at hb1
  obtain ⟨⟨⟨⟨i1, i2⟩, i3⟩, i4⟩, hf⟩ := hb1
  have hG : G ≤ 8 := by omega
  have hC : C ≤ 8 := by omega
  have hs : s ≤ 4 := by omega
  have hl := (lastG_ok hf).1
  have hgg := okGG G C s hG hC hs
  have hP : PG G C (cd9 (lastG G C)) := ⟨_, hl, rfl⟩
  have hB := bfsG9 (s := s) hG hC
  obtain ⟨r, g1, g2, g3⟩ := from_right hgg (starts := [cd9 (lastG G C)]) (fun x hx => by rw [List.mem_singleton.1 hx]; exact hP)
  have ho : ∀ x, okG G C x → ∀ e ∈ outG G C s (cd9 x), e.2.1 = 1 ∧ ∃ y ∈ scG G C s x, e.1 = cd9 y := fun x hx e he => by
      unfold outG at he
      rw [code9 x (by have := hx.2.1; omega) hx.2.2] at he
      obtain ⟨m, hm, rfl⟩ := List.mem_map.1 he
      exact ⟨rfl, _, List.mem_map.2 ⟨m, hm, rfl⟩, rfl⟩
  have hi : ∀ x, okG G C x → ∀ y ∈ scG G C s x, ∃ e ∈ outG G C s (cd9 x), e.1 = cd9 y ∧ e.2.1 = 1 := fun x hx y hy => by
      obtain ⟨m, hm, rfl⟩ := List.mem_map.1 hy
      refine ⟨edOf x m, ?_, rfl, rfl⟩
      unfold outG
      rw [code9 x (by have := hx.2.1; omega) hx.2.2]
      exact List.mem_map.2 ⟨m, hm, rfl⟩
  have hfar := far_prog hB ho hi hl g3
  refine ⟨r.1, ?_, g2, hfar, fun v => ?_⟩
  · have h307 := r74 G C s
    have h287 := r44 G C s
    have h288 := r46 G C s 0 0 (by omega) (by omega) (by omega) (by omega)
    have e1000 : (fine 0 0 && fine ((G : Int) - 0) ((C : Int) - 0)) = true := by
      rw [Int.sub_zero, Int.sub_zero]
      have : fine 0 0 = true := rfl
      rw [this, hf]; rfl
    rw [e1000] at h288
    have hs2 : sidesB G C s = true := by rw [Bool.and_eq_true] at hb; exact hb.1
    rw [hs2] at h287
    have a1 : IntKind.i64.wrap ((G : Int) * 9) = (G : Int) * 9 := w96 (by omega)
    have a2 : IntKind.i64.wrap ((G : Int) * 9 + C) = (G : Int) * 9 + C := w96 (by omega)
    have a3 : IntKind.i64.wrap (2 * ((G : Int) * 9 + C)) = 2 * ((G : Int) * 9 + C) := w96 (by omega)
    have a4 : IntKind.i64.wrap (2 * ((G : Int) * 9 + C) + 1) = 2 * ((G : Int) * 9 + C) + 1 := w96 (by omega)
    have a5 : 2 * ((G : Int) * 9 + C) + 1 = (cd9 (lastG G C) : Nat) := by unfold cd9 lastG; push_cast; omega
    obtain ⟨H', i, k1001, k1002, k1003, k1004, k1005⟩ := d75 hgg (call321 G C s hG hC hs) (by omega) (by omega) [cd9 (lastG G C)] (by simp) (fun x hx => by rw [List.mem_singleton.1 hx]; exact hP) _ (by omega) r g1
      [.box 3 [.t (ti G), .t (ti C), .t (ti s)], .box 2 [.t (ti 0), .t .nilf], .froz 3 [.agg [ti G, ti C, ti s]], .box 2 [.t (ti 162), .clo 95 [] [.ptr 2 0 0]], .froz 1 [.int .i64 (cd9 (lastG G C))]]
    have q1001 := k1005 1 (by simp)
    have q1002 := k1005 2 (by simp)
    have q1003 := k1005 3 (by simp)
    have hcl : cd9 (lastG G C) < 200 := by have := hB.lt _ hl; omega
    generalize cd9 (lastG G C) = cl at *
    have a6 : IntKind.i64.wrap (cl : Int) = cl := w96 (by omega)
    have k1001' : den env 75 [.t (.agg [ti 162, .clo 95 [] [.ptr (.agg [ti G, ti C, ti s])]]), .t (.lst 1 [.int .i64 cl])] _ = _ := k1001
    simp at q1001 q1002 q1003
    rw [ownF_ir e35 _ rfl]
    simp only [List.length_cons, List.length_nil] at k1003
    have hr0 : 0 < r.1.length := by omega
    have i1 : ¬ (1 = i) := by omega
    have i2 : ¬ (2 = i) := by omega
    have i3 : ¬ (i = 2) := by omega
    have i4 : ¬ (i = 1) := by omega
    have hl2 : 1 < H'.length := (List.getElem?_eq_some_iff.1 q1001).1
    have hs1 : ∀ x, (H'.set 1 x)[1]? = some x := fun x => List.getElem?_set_self hl2
    simp [ir35, ir35_c, hs1, h307, h287, h288, a1, a2, a3, a5, a6, k1001', k1002, q1001, q1002, q1003, hr0, i1, i2, i3, i4]
  · have h40 : (2 : Int) ^ 40 = 1099511627776 := by decide
    rw [h40]
    rcases Nat.lt_or_ge v 162 with hv | hv
    · rcases g3 v hv with ⟨h1, _⟩ | ⟨d, h1, h2, h3⟩
      · omega
      · have hd : ∃ z, okG G C z ∧ cd9 z = v ∧ Dist (scG G C s) (lastG G C) d z := by
          obtain ⟨z, hz, hzc, hze⟩ := (rch_gen hB ho hi hl d v).1 h2
          exact ⟨z, hz, hzc, hze, fun e he hm => h3 e he ((rch_gen hB ho hi hl e v).2 ⟨z, hz, hzc, hm⟩)⟩
        obtain ⟨z, hz, _, hdz⟩ := hd
        have := dist_lt hB hl hdz
        omega
    · rw [List.getElem?_eq_none (by omega)]; simp
end Go.Proofs.Ytanlmanifpknoaa.Ev

namespace Go.Proofs.Ytanlmanifpknoaa.Ev
open Go
set_option linter.unusedVariables false
set_option linter.unusedSimpArgs false
set_option linter.unusedSectionVars false
attribute [local simp] til_getE til_length til_get til_drop til_take til_snoc til_fold take_snoc til_set
abbrev StG := List Int × List Int × List Nd
def stepM (G C : Nat) (x : Nd) (st : StG) (m : Nat × Nat) : StG := if mvOk G C x m then stepA (cdC C) (cdC C x) st (stepTo x m) else st
def codesC (C : Nat) (q : List Nd) : List Int := q.map fun y => (cdC C y : Int)
theorem codesC_len (C : Nat) (q : List Nd) : (codesC C q).length = q.length := by simp [codesC]
theorem stepA_len {X : Type} (cd : X → Nat) (code : Nat) (st : List Int × List Int × List X) (y : X) : (stepA cd code st y).1.length = st.1.length ∧ (stepA cd code st y).2.1.length = st.2.1.length ∧ (stepA cd code st y).2.2.length ≤ st.2.2.length + 1 := by
  refine ⟨?_, ?_, ?_⟩
  · simp only [stepA]; split <;> simp
  · simp only [stepA]; split <;> split <;> simp
  · simp only [stepA]; split <;> simp
theorem stepM_len (G C : Nat) (x : Nd) (st : StG) (m : Nat × Nat) : (stepM G C x st m).1.length = st.1.length ∧ (stepM G C x st m).2.1.length = st.2.1.length ∧ (stepM G C x st m).2.2.length ≤ st.2.2.length + 1 := by
  unfold stepM
  split
  · exact stepA_len _ _ _ _
  · exact ⟨rfl, rfl, Nat.le_succ _⟩
def rowM (i j d : Nat) : List (Nat × Nat) := (List.range' j d).map fun y => (i, y)
def hp (C : Nat) (st : StG) : Heap := [.pure 1 (til st.1), .pure 1 (til (codesC C st.2.2))]
set_option maxHeartbeats 4000000 in
theorem l285y (G C s N : Nat) (hG : G ≤ 8) (hC : C ≤ 8) (hs : s ≤ 4) (hN : N = (G + 1) * (C + 1) * 2) (g k b : Nat) (hx : okG G C (g, k, b)) (kk : Nat) (i : Nat) (hi : i ≤ s) : ∀ (d j : Nat) (st : StG), i + j + d = s + 1 → st.1.length = N → st.2.1.length = N → st.2.2.length + d ≤ 2 ^ 29 →
    loopF env true [0, 1, 2, 7, 10, 11, 12, 13, 14, 15, 16, 17] ir39_b0 ([(0, .t (ti G)), (1, .t (ti C)), (2, .t (ti s)), (7, .ref 0 0 N), (10, .ref 1 0 st.2.2.length), (11, .t (ti kk)), (12, .t (ti (cdC C (g, k, b)))), (13, .t (ti b)), (14, .t (ti g)), (15, .t (ti k)), (16, .t (ti i)), (17, .t (ti j))], hp C st) =
      some (.exit 6, [(0, .t (ti G)), (1, .t (ti C)), (2, .t (ti s)), (7, .ref 0 0 N), (10, .ref 1 0 ((rowM i j d).foldl (stepM G C (g, k, b)) st).2.2.length), (11, .t (ti kk)), (12, .t (ti (cdC C (g, k, b)))), (13, .t (ti b)), (14, .t (ti g)), (15, .t (ti k)), (16, .t (ti i)), (17, .t (ti (j + d : Nat)))] ++
        [(73, .t (ti i)), (74, .t (ti (j + d : Nat))), (75, .t (ti ((i + (j + d) : Nat) : Int))), (76, .t (ti s)), (77, .t (tb false))], hp C ((rowM i j d).foldl (stepM G C (g, k, b)) st)) := by
  intro d
  induction d with
  | zero =>
    intro j st hj h1 h2 h3
    rw [x39_0]
    have w1001 : IntKind.i64.wrap ((i : Int) + j) = (i : Int) + j := w96 (by omega)
    have w1002 : ¬ ((i : Int) + j ≤ s) := by omega
    simp [ir39_d0, rowM, hp, w1001, w1002]
  | succ d ihd =>
    intro j st hj h1 h2 h3
    rw [x39_0]
    have hb : b = 0 ∨ b = 1 := by have := hx.2.2; simp only at this; omega
    have hg := hx.1
    have hk := hx.2.1
    simp only at hg hk
    have w1001 : IntKind.i64.wrap ((i : Int) + j) = (i : Int) + j := w96 (by omega)
    have w1002 : ((i : Int) + j ≤ s) := by omega
    have a1 : IntKind.i64.wrap ((g : Int) + i) = (g : Int) + i := w96 (by omega)
    have a2 : IntKind.i64.wrap ((k : Int) + j) = (k : Int) + j := w96 (by omega)
    have a3 : IntKind.i64.wrap ((g : Int) - i) = (g : Int) - i := w96 (by omega)
    have a4 : IntKind.i64.wrap ((k : Int) - j) = (k : Int) - j := w96 (by omega)
    have a5 : IntKind.i64.wrap ((j : Int) + 1) = (j : Int) + 1 := w96 (by omega)
    have hr : (rowM i j (d + 1)).foldl (stepM G C (g, k, b)) st = (rowM i (j + 1) d).foldl (stepM G C (g, k, b)) (stepM G C (g, k, b) st (i, j)) := by
      unfold rowM; rw [List.range'_succ, List.map_cons, List.foldl_cons]
    have hlen := stepM_len G C (g, k, b) st (i, j)
    have ih := ihd (j + 1) (stepM G C (g, k, b) st (i, j)) (by omega) (hlen.1.trans h1) (hlen.2.1.trans h2) (by omega)
    have hjd : j + 1 + d = j + (d + 1) := by omega
    rw [hr]
    rw [hjd] at ih
    generalize (rowM i (j + 1) d).foldl (stepM G C (g, k, b)) (stepM G C (g, k, b) st (i, j)) = Z at *
    have hcN : cdC C (g, k, b) < N := hN ▸ cdC_lt hx
    have hzi : ((i : Int) + j = 0) ↔ i + j = 0 := by omega
    unfold stepM at ih
    cases hm : mvOk G C (g, k, b) (i, j) with
    | true =>
      rw [hm] at ih
      simp only [if_true] at ih
      obtain ⟨m1001, m1002, m1003, m1004, m1005, m1006⟩ := mvOk_iff.1 hm
      have hok := (mvStep_ok hx.2.2 hm).1
      have hncN : cdC C (stepTo (g, k, b) (i, j)) < N := hN ▸ cdC_lt hok
      have m1001' : ¬ ((i : Int) + j = 0) := by omega
      have hNs : N ≤ 200 := by
        have : (G + 1) * (C + 1) ≤ 9 * 9 := Nat.mul_le_mul (by omega) (by omega)
        omega
      obtain ⟨far, ways, queue⟩ := st
      simp only at h1 h2 h3 ih ⊢
      have gF : ∀ (xs : List Int) (i : Nat) (h : i < xs.length), xs[i]?.getD 0 = xs[i] := fun xs i h => by simp [h]
      have hcs : codesC C (queue ++ [stepTo (g, k, b) (i, j)]) = codesC C queue ++ [(cdC C (stepTo (g, k, b) (i, j)) : Int)] := by simp [codesC]
      have u1 : IntKind.i64.wrap 1 = 1 := by decide
      have u0 : IntKind.i64.wrap 0 = 0 := by decide
      have hq : queue.length ≤ 68719476735 := by omega
      have hcl := codesC_len C queue
      have q41 : ownR env 41 [ti C, ti ((tgt (g, k, b) i j).1), ti ((tgt (g, k, b) i j).2), ti ((1 - b : Nat) : Int)] = some (.t (ti (cdC C (stepTo (g, k, b) (i, j)) : Nat)), []) := by
        have h := r41 C (stepTo (g, k, b) (i, j)).1 (stepTo (g, k, b) (i, j)).2.1 (stepTo (g, k, b) (i, j)).2.2 (by omega) (by have := hok.1; omega) (by have := hok.2.1; omega) hok.2.2
        rw [(mvStep_ok hx.2.2 hm).2.2.1, (mvStep_ok hx.2.2 hm).2.2.2] at h
        exact h
      simp only [stepA] at ih
      generalize hnc : cdC C (stepTo (g, k, b) (i, j)) = nc at *
      generalize hcd : cdC C (g, k, b) = code at *
      have t1001 : nc < far.length := by omega
      have t1002 : code < far.length := by omega
      simp only [gF far nc t1001, gF far code t1002] at ih
      rcases hb with rfl | rfl
      · simp only [tgt, Nat.zero_ne_one, if_false] at m1002 m1003 m1005 m1006 q41
        have q1001 := r47 G C ((g : Int) + i) ((k : Int) + j) (by omega) (by omega) (by omega) (by omega)
        rw [m1005, m1006] at q1001
        have i1 : inB ((g : Int) + i) 0 G = true := (inB_iff _ _ _).2 m1002
        have i2 : inB ((k : Int) + j) 0 C = true := (inB_iff _ _ _).2 m1003
        by_cases hnew : far[nc] < 0
        · simp only [hnew, decide_true, if_true, hcs] at ih
          simp [hp, hcs] at ih q41
          simp [ir39_d0, hp, w1001, w1002, a1, a2, a3, a4, a5, m1001', r38, m1004, i1, i2, q1001, u1, q41, h1, t1001, t1002, hncN, hcN, hnew, hcl, hq, ih]
        · simp only [hnew, decide_false, Bool.false_eq_true, if_false] at ih
          simp [hp] at ih q41
          simp [ir39_d0, hp, w1001, w1002, a1, a2, a3, a4, a5, m1001', r38, m1004, i1, i2, q1001, u1, q41, h1, t1001, t1002, hncN, hcN, hnew, hcl, ih]
      · simp only [tgt, if_true] at m1002 m1003 m1005 m1006 q41
        have q1001 := r47 G C ((g : Int) - i) ((k : Int) - j) (by omega) (by omega) (by omega) (by omega)
        rw [m1005, m1006] at q1001
        have i1 : inB ((g : Int) - i) 0 G = true := (inB_iff _ _ _).2 m1002
        have i2 : inB ((k : Int) - j) 0 C = true := (inB_iff _ _ _).2 m1003
        by_cases hnew : far[nc] < 0
        · simp only [hnew, decide_true, if_true, hcs] at ih
          simp [hp, hcs] at ih q41
          simp [ir39_d0, hp, w1001, w1002, a1, a2, a3, a4, a5, m1001', r38, m1004, i1, i2, q1001, u0, q41, h1, t1001, t1002, hncN, hcN, hnew, hcl, hq, ih]
        · simp only [hnew, decide_false, Bool.false_eq_true, if_false] at ih
          simp [hp] at ih q41
          simp [ir39_d0, hp, w1001, w1002, a1, a2, a3, a4, a5, m1001', r38, m1004, i1, i2, q1001, u0, q41, h1, t1001, t1002, hncN, hcN, hnew, hcl, ih]
    | false =>
      rw [hm] at ih
      simp only [Bool.false_eq_true, if_false] at ih
      unfold mvOk at hm
      generalize cdC C (g, k, b) = code at *
      rcases hb with rfl | rfl
      · simp only [tgt, Nat.zero_ne_one, if_false] at hm
        have q1001 := r47 G C ((g : Int) + i) ((k : Int) + j) (by omega) (by omega) (by omega) (by omega)
        simp [hp] at ih
        by_cases v1 : 0 < i + j
        · have v1' : ¬ ((i : Int) + j = 0) := by omega
          cases v4 : fine (i : Int) (j : Int) with
          | false => simp [ir39_d0, hp, w1001, w1002, a1, a2, a3, a4, a5, v1', r38, v4, ih]
          | true =>
            cases v2 : inB ((g : Int) + i) 0 G with
            | false => simp [ir39_d0, hp, w1001, w1002, a1, a2, a3, a4, a5, v1', r38, v4, v2, ih]
            | true =>
              cases v3 : inB ((k : Int) + j) 0 C with
              | false => simp [ir39_d0, hp, w1001, w1002, a1, a2, a3, a4, a5, v1', r38, v4, v2, v3, ih]
              | true =>
                have v5 : (fine ((g : Int) + i) ((k : Int) + j) && fine ((G : Int) - ((g : Int) + i)) ((C : Int) - ((k : Int) + j))) = false := by
                  simpa [v1, v2, v3, v4] using hm
                rw [v5] at q1001
                simp [ir39_d0, hp, w1001, w1002, a1, a2, a3, a4, a5, v1', r38, v4, v2, v3, q1001, ih]
        · obtain ⟨rfl, rfl⟩ : i = 0 ∧ j = 0 := by omega
          simp at ih w1001 a1 a2 a3 a4 a5
          simp [ir39_d0, hp, w1001, w1002, a1, a2, a3, a4, a5, ih]
      · simp only [tgt, if_true] at hm
        have q1001 := r47 G C ((g : Int) - i) ((k : Int) - j) (by omega) (by omega) (by omega) (by omega)
        simp [hp] at ih
        by_cases v1 : 0 < i + j
        · have v1' : ¬ ((i : Int) + j = 0) := by omega
          cases v4 : fine (i : Int) (j : Int) with
          | false => simp [ir39_d0, hp, w1001, w1002, a1, a2, a3, a4, a5, v1', r38, v4, ih]
          | true =>
            cases v2 : inB ((g : Int) - i) 0 G with
            | false => simp [ir39_d0, hp, w1001, w1002, a1, a2, a3, a4, a5, v1', r38, v4, v2, ih]
            | true =>
              cases v3 : inB ((k : Int) - j) 0 C with
              | false => simp [ir39_d0, hp, w1001, w1002, a1, a2, a3, a4, a5, v1', r38, v4, v2, v3, ih]
              | true =>
                have v5 : (fine ((g : Int) - i) ((k : Int) - j) && fine ((G : Int) - ((g : Int) - i)) ((C : Int) - ((k : Int) - j))) = false := by
                  simpa [v1, v2, v3, v4] using hm
                rw [v5] at q1001
                simp [ir39_d0, hp, w1001, w1002, a1, a2, a3, a4, a5, v1', r38, v4, v2, v3, q1001, ih]
        · obtain ⟨rfl, rfl⟩ : i = 0 ∧ j = 0 := by omega
          simp at ih w1001 a1 a2 a3 a4 a5
          simp [ir39_d0, hp, w1001, w1002, a1, a2, a3, a4, a5, ih]
end Go.Proofs.Ytanlmanifpknoaa.Ev

namespace Go.Proofs.Ytanlmanifpknoaa.Ev
open Go
set_option linter.unusedVariables false
set_option linter.unusedSimpArgs false
set_option linter.unusedSectionVars false
attribute [local simp] til_getE til_length til_get til_drop til_take til_snoc til_fold take_snoc til_set
def rowsM (s i d : Nat) : List (Nat × Nat) := (List.range' i d).flatMap fun i => rowM i 0 (s + 1 - i)
theorem rowsM_cons (s i d : Nat) : rowsM s i (d + 1) = rowM i 0 (s + 1 - i) ++ rowsM s (i + 1) d := by
  unfold rowsM; rw [List.range'_succ, List.flatMap_cons]
theorem foldM_len (G C : Nat) (x : Nd) : ∀ (l : List (Nat × Nat)) (st : StG), (l.foldl (stepM G C x) st).1.length = st.1.length ∧ (l.foldl (stepM G C x) st).2.1.length = st.2.1.length ∧ (l.foldl (stepM G C x) st).2.2.length ≤ st.2.2.length + l.length
  | [], st => ⟨rfl, rfl, Nat.le_refl _⟩
  | m :: l, st => by
    have h := foldM_len G C x l (stepM G C x st m)
    have h2 := stepM_len G C x st m
    rw [List.foldl_cons, List.length_cons]
    exact ⟨h.1.trans h2.1, h.2.1.trans h2.2.1, by omega⟩
theorem rowM_len (i j d : Nat) : (rowM i j d).length = d := by simp [rowM]
theorem l285x (G C s N : Nat) (hG : G ≤ 8) (hC : C ≤ 8) (hs : s ≤ 4) (hN : N = (G + 1) * (C + 1) * 2) (g k b : Nat) (hx : okG G C (g, k, b)) (kk : Nat) : ∀ (d i : Nat) (st : StG), i + d = s + 1 → st.1.length = N → st.2.1.length = N → st.2.2.length + 5 * d ≤ 2 ^ 28 →
    loopF env true [0, 1, 2, 7, 10, 11, 12, 13, 14, 15, 16] ir39_b1 ([(0, .t (ti G)), (1, .t (ti C)), (2, .t (ti s)), (7, .ref 0 0 N), (10, .ref 1 0 st.2.2.length), (11, .t (ti kk)), (12, .t (ti (cdC C (g, k, b)))), (13, .t (ti b)), (14, .t (ti g)), (15, .t (ti k)), (16, .t (ti i))], hp C st) =
      some (.exit 4, [(0, .t (ti G)), (1, .t (ti C)), (2, .t (ti s)), (7, .ref 0 0 N), (10, .ref 1 0 ((rowsM s i d).foldl (stepM G C (g, k, b)) st).2.2.length), (11, .t (ti kk)), (12, .t (ti (cdC C (g, k, b)))), (13, .t (ti b)), (14, .t (ti g)), (15, .t (ti k)), (16, .t (ti (s + 1 : Nat)))] ++
        [(68, .t (ti (s + 1 : Nat))), (69, .t (ti s)), (70, .t (tb false))], hp C ((rowsM s i d).foldl (stepM G C (g, k, b)) st)) := by
  intro d
  induction d with
  | zero =>
    intro i st hi h1 h2 h3
    have : i = s + 1 := by omega
    subst this
    rw [x39_1]
    have w1002 : ¬ ((s : Int) + 1 ≤ s) := by omega
    simp [ir39_d1, rowsM, hp, w1002]
  | succ d ihd =>
    intro i st hi h1 h2 h3
    rw [x39_1]
    have w1002 : (i : Int) ≤ s := by omega
    have a5 : IntKind.i64.wrap ((i : Int) + 1) = (i : Int) + 1 := w96 (by omega)
    have hin := l285y G C s N hG hC hs hN g k b hx kk i (by omega) (s + 1 - i) 0 st (by omega) h1 h2 (by omega)
    have hl := foldM_len G C (g, k, b) (rowM i 0 (s + 1 - i)) st
    rw [rowM_len] at hl
    have ih := ihd (i + 1) ((rowM i 0 (s + 1 - i)).foldl (stepM G C (g, k, b)) st) (by omega) (hl.1.trans h1) (hl.2.1.trans h2) (by omega)
    rw [rowsM_cons, List.foldl_append]
    generalize (rowM i 0 (s + 1 - i)).foldl (stepM G C (g, k, b)) st = Y at *
    generalize (rowsM s (i + 1) d).foldl (stepM G C (g, k, b)) Y = Z at *
    generalize cdC C (g, k, b) = code at *
    simp [hp] at hin ih
    simp [ir39_d1, hp, w1002, a5, hin, ih]
theorem rowsM_all (s : Nat) : rowsM s 0 (s + 1) = mvs s := by
  unfold rowsM rowM mvs mvRow
  rw [List.range_eq_range']
  refine congrArg (fun f => List.flatMap f _) (funext fun i => ?_)
  rw [List.range_eq_range']
theorem foldM_sc (G C s : Nat) (x : Nd) (st : StG) : (mvs s).foldl (stepM G C x) st = (scG G C s x).foldl (stepA (cdC C) (cdC C x)) st := by
  unfold scG mvsG
  rw [List.foldl_map, List.foldl_filter]
  rfl
theorem code_div (C : Nat) (x : Nd) (h1 : x.2.1 ≤ C) (h2 : x.2.2 ≤ 1) : cdC C x / 2 / (C + 1) = x.1 ∧ cdC C x / 2 % (C + 1) = x.2.1 ∧ cdC C x % 2 = x.2.2 := by
  obtain ⟨a, b, c⟩ := x
  simp only at h1 h2
  unfold cdC
  simp only
  have e : ((a * (C + 1) + b) * 2 + c) / 2 = a * (C + 1) + b := by omega
  rw [e]
  refine ⟨?_, ?_, by omega⟩
  · rw [Nat.add_comm, Nat.add_mul_div_right _ _ (by omega), Nat.div_eq_of_lt (by omega), Nat.zero_add]
  · rw [Nat.add_comm, Nat.add_mul_mod_self_right, Nat.mod_eq_of_lt (by omega)]
theorem foldA_ok {X : Type} (cd : X → Nat) (code : Nat) (P : X → Prop) : ∀ (l : List X) (st : List Int × List Int × List X), (∀ y ∈ l, P y) → (∀ y ∈ st.2.2, P y) → (∀ y ∈ (l.foldl (stepA cd code) st).2.2, P y) ∧ st.2.2.length ≤ (l.foldl (stepA cd code) st).2.2.length
  | [], st, _, h => ⟨h, Nat.le_refl _⟩
  | y :: l, st, hl, h => by
    have h1 : (∀ z ∈ (stepA cd code st y).2.2, P z) ∧ st.2.2.length ≤ (stepA cd code st y).2.2.length := by
      simp only [stepA]
      split
      · refine ⟨fun z hz => ?_, by simp⟩
        rw [List.mem_append, List.mem_singleton] at hz
        rcases hz with hz | rfl
        · exact h z hz
        · exact hl _ (List.mem_cons_self ..)
      · exact ⟨h, Nat.le_refl _⟩
    have h2 := foldA_ok cd code P l (stepA cd code st y) (fun z hz => hl z (List.mem_cons_of_mem _ hz)) h1.1
    exact ⟨h2.1, Nat.le_trans h1.2 h2.2⟩
theorem l285k (G C s N : Nat) (hG : G ≤ 8) (hC : C ≤ 8) (hs : s ≤ 4) (hN : N = (G + 1) * (C + 1) * 2) : ∀ (n kk : Nat) (st r : StG), bfsA (scG G C s) (cdC C) n kk st = some r → (∀ x ∈ st.2.2, okG G C x) → st.1.length = N → st.2.1.length = N → st.2.2.length + n * 25 ≤ 2 ^ 27 → kk ≤ st.2.2.length →
    ∃ fr, loopF env true [0, 1, 2, 7, 10, 11] ir39_b2 ([(0, .t (ti G)), (1, .t (ti C)), (2, .t (ti s)), (7, .ref 0 0 N), (10, .ref 1 0 st.2.2.length), (11, .t (ti kk))], hp C st) = some (.exit 2, fr, hp C r) ∧ fr.get 7 = .ref 0 0 N ∧ r.1.length = N := by
  intro n
  induction n with
  | zero => intro kk st r hr; cases hr
  | succ n ihn =>
    intro kk st r hr hok h1 h2 h3 h4
    rw [x39_2]
    unfold bfsA at hr
    cases hk : st.2.2[kk]? with
    | none =>
      rw [hk] at hr
      simp only [Option.some.injEq] at hr
      subst hr
      have hge := List.getElem?_eq_none_iff.1 hk
      have : kk = st.2.2.length := by omega
      subst this
      refine ⟨[(0, .t (ti G)), (1, .t (ti C)), (2, .t (ti s)), (7, .ref 0 0 N), (10, .ref 1 0 st.2.2.length), (11, .t (ti st.2.2.length)), (46, .t (ti st.2.2.length)), (47, .ref 1 0 st.2.2.length), (48, .t (ti st.2.2.length)), (49, .t (tb false))], ?_, by simp, h1⟩
      simp [ir39_d2, hp]
    | some x =>
      rw [hk] at hr
      simp only at hr
      have hlt := (List.getElem?_eq_some_iff.1 hk).1
      have hxo := hok x (List.mem_of_getElem? hk)
      obtain ⟨d1001, d1002, d1003⟩ := code_div C x hxo.2.1 hxo.2.2
      have hcN : cdC C x < N := hN ▸ cdC_lt hxo
      have hin := l285x G C s N hG hC hs hN x.1 x.2.1 x.2.2 hxo kk (s + 1) 0 st (by omega) h1 h2 (by omega)
      rw [rowsM_all, foldM_sc] at hin
      have hl := foldM_len G C x (mvs s) st
      rw [foldM_sc] at hl
      have hm := mvs_len s hs
      have hf := foldA_ok (cdC C) (cdC C x) (okG G C) (scG G C s x) st (fun y hy => (bfsGC (s := s) hG hC).suc x hxo y hy) hok
      obtain ⟨fr, g1, g2, g3⟩ := ihn (kk + 1) _ r hr hf.1 (hl.1.trans h1) (hl.2.1.trans h2) (by omega) (by omega)
      have hxx : (x.1, x.2.1, x.2.2) = x := rfl
      rw [hxx] at hin
      generalize (scG G C s x).foldl (stepA (cdC C) (cdC C x)) st = Y at *
      refine ⟨fr, ?_, g2, g3⟩
      have hcl := codesC_len C st.2.2
      have hcx : (codesC C st.2.2)[kk]? = some (cdC C x : Int) := by simp [codesC, hk]
      have hcx' : (codesC C st.2.2)[kk]'(by omega) = (cdC C x : Int) := by
        have := List.getElem?_eq_getElem (l := codesC C st.2.2) (i := kk) (by omega)
        rw [hcx] at this; exact (Option.some.inj this).symm
      have a5 : IntKind.i64.wrap ((kk : Int) + 1) = (kk : Int) + 1 := w96 (by omega)
      have a6 : IntKind.i64.wrap ((C : Int) + 1) = (C : Int) + 1 := w96 (by omega)
      have hNs : N ≤ 200 := by
        have : (G + 1) * (C + 1) ≤ 9 * 9 := Nat.mul_le_mul (by omega) (by omega)
        omega
      clear hf hl hok hxo hr
      generalize cdC C x = code at *
      obtain ⟨K2, hK2⟩ : ∃ K2, code / 2 = K2 := ⟨_, rfl⟩
      rw [hK2] at d1001 d1002
      have b1 : IntKind.i64.wrap ((code : Int).tdiv 2) = (K2 : Int) := by rw [Int.tdiv_eq_ediv_of_nonneg (by omega), w96 (by omega)]; omega
      have b1' : IntKind.i64.wrap ((code : Int) / 2) = (K2 : Int) := by rw [w96 (by omega)]; omega
      have b2 : (code : Int).tmod 2 = (x.2.2 : Int) := by rw [Int.tmod_eq_emod_of_nonneg (by omega)]; omega
      have b2' : (code : Int) % 2 = (x.2.2 : Int) := by omega
      have cs : (K2 : Int) / ((C : Int) + 1) = (x.1 : Int) := by
        rw [← d1001]; push_cast; rfl
      have cm : (K2 : Int) % ((C : Int) + 1) = (x.2.1 : Int) := by
        rw [← d1002]; push_cast; rfl
      have b3 : (K2 : Int).tdiv ((C : Int) + 1) = (x.1 : Int) := by rw [Int.tdiv_eq_ediv_of_nonneg (by omega)]; exact cs
      have b4 : (K2 : Int).tmod ((C : Int) + 1) = (x.2.1 : Int) := by rw [Int.tmod_eq_emod_of_nonneg (by omega)]; exact cm
      have hx1K : x.1 ≤ K2 := by rw [← d1001]; exact Nat.div_le_self _ _
      have b5 : IntKind.i64.wrap (x.1 : Int) = (x.1 : Int) := w96 (by omega)
      have hz : ¬ ((C : Int) + 1 = 0) := by omega
      simp [hp] at hin g1
      simp [ir39_d2, hp, evBin, evInt, hlt, hcl, hcx', a5, a6, b1, b1', b2, b2', b3, b4, b5, cs, cm, hz, hin, g1]
end Go.Proofs.Ytanlmanifpknoaa.Ev

namespace Go.Proofs.Ytanlmanifpknoaa.Ev
open Go
set_option linter.unusedVariables false
set_option linter.unusedSimpArgs false
set_option linter.unusedSectionVars false
attribute [local simp] til_getE til_length til_get til_drop til_take til_snoc til_fold take_snoc til_set
theorem til_one (x : Int) : til [x] = [T.int .i64 x] := rfl
theorem l285f (A B D : T) (N : Nat) (hN : N ≤ 100000) : ∀ (d i : Nat), i + d = N →
    loopF env true [0, 1, 2, 7, 29, 30] ir39_b3 ([(0, .t A), (1, .t B), (2, .t D), (7, .ref 0 0 N), (29, .t (ti N)), (30, .t (ti i))], [.pure 1 (til (List.replicate i (-1) ++ List.replicate d 0))]) =
      some (.exit 0, [(0, .t A), (1, .t B), (2, .t D), (7, .ref 0 0 N), (29, .t (ti N)), (30, .t (ti N)), (31, .t (tb false))], [.pure 1 (til (List.replicate N (-1)))])
  | 0, i, hi => by
    rw [x39_3]
    have : i = N := by omega
    subst this
    simp [ir39_d3]
  | d + 1, i, hi => by
    rw [x39_3]
    have hlt : i < N := by omega
    have hw : IntKind.i64.wrap ((i : Int) + 1) = (i : Int) + 1 := w96 (by omega)
    have ih := l285f A B D N hN d (i + 1) (by omega)
    have hs : (List.replicate i (-1 : Int) ++ List.replicate (d + 1) 0).set i (-1) = List.replicate (i + 1) (-1) ++ List.replicate d 0 := by
      rw [show List.replicate (d + 1) (0 : Int) = 0 :: List.replicate d 0 from rfl, List.set_append_right _ _ (by simp), show List.replicate (i + 1) (-1 : Int) = List.replicate i (-1) ++ [-1] from List.replicate_succ']
      simp
    have hlen : (List.replicate i (-1 : Int) ++ List.replicate (d + 1) 0).length = N := by simp; omega
    generalize List.replicate i (-1 : Int) ++ List.replicate (d + 1) 0 = X at *
    generalize List.replicate (i + 1) (-1 : Int) ++ List.replicate d 0 = Y at *
    simp at ih
    simp [ir39_d3, hlt, hw, hlen, hs, ih]
theorem r39 (G C s : Nat) (hG : G ≤ 8) (hC : C ≤ 8) (hs : s ≤ 4) (hf : fine G C = true) : ∃ far : List Int, ownR env 39 [ti G, ti C, ti s] = some (.ref 0 0 ((G + 1) * (C + 1) * 2), [.pure 1 (til far)]) ∧ far.length = (G + 1) * (C + 1) * 2 ∧ FarT (scG G C s) (cdC C) (okG G C) (lastG G C) far := by
  have hl := (lastG_ok hf).1
  have hB := bfsGC (s := s) hG hC
  obtain ⟨r, g1, g2, _, _, _, _, _, g8⟩ := bfs_right hB hl
  obtain ⟨N, hN⟩ : ∃ N, N = (G + 1) * (C + 1) * 2 := ⟨_, rfl⟩
  rw [← hN] at g1 g2 ⊢
  have hNs : N ≤ 200 := by
    have : (G + 1) * (C + 1) ≤ 9 * 9 := Nat.mul_le_mul (by omega) (by omega)
    omega
  have hcN : cdC C (lastG G C) < N := hN ▸ cdC_lt hl
  have hcN0 : 0 < N := by omega
  obtain ⟨fr, k1001, k1002, k1003⟩ := l285k G C s N hG hC hs hN (N + 1) 0 _ r g1 (fun x hx => by rw [List.mem_singleton.1 hx]; exact hl) (by simp) (by simp) (by simp; omega) (by simp)
  refine ⟨r.1, ?_, g2, fun y hy => ?_⟩
  · have h286 := r41 C G C 1 (by omega) (by omega) (by omega) (by omega)
    have hcc : (G * (C + 1) + C) * 2 + 1 = cdC C (lastG G C) := rfl
    rw [hcc, show ((1 : Nat) : Int) = 1 from rfl] at h286
    have hfl := l285f (ti G) (ti C) (ti s) N (by omega) N 0 (by omega)
    have a1 : IntKind.i64.wrap ((G : Int) + 1) = (G : Int) + 1 := w96 (by omega)
    have a2 : IntKind.i64.wrap ((C : Int) + 1) = (C : Int) + 1 := w96 (by omega)
    have em : ((G : Int) + 1) * ((C : Int) + 1) * 2 = (N : Int) := by rw [hN]; push_cast; rfl
    have hle : ((G : Int) + 1) * ((C : Int) + 1) ≤ 1000 := by omega
    have hge : 0 ≤ ((G : Int) + 1) * ((C : Int) + 1) := by omega
    have a3 : IntKind.i64.wrap (((G : Int) + 1) * ((C : Int) + 1)) = ((G : Int) + 1) * ((C : Int) + 1) := w96 (by omega)
    have a4 : IntKind.i64.wrap (((G : Int) + 1) * ((C : Int) + 1) * 2) = (N : Int) := by rw [em]; exact w96 (by omega)
    have hrep : til (List.replicate N (0 : Int)) = List.replicate N (.int .i64 0) := by simp [til]
    rw [own_ir e39 _ rfl]
    simp [hp, codesC, til_one] at k1001
    simp [hrep] at hfl
    generalize cdC C (lastG G C) = cl at *
    have hl68 : (N : Int) ≤ 68719476736 := by omega
    have hrl : (List.replicate N (-1 : Int)).length = N := by simp
    have hlr : r.1.length = N := g2
    simp [ir39, ir39_c, a1, a2, a3, a4, hl68, hfl, h286, hcN, k1001, k1002, hp, Fr.get_put, til_flat]
  · rcases g8 y hy with h | ⟨d, h1, h2, _⟩
    · exact .inl h
    · exact .inr ⟨d, h1, h2⟩
end Go.Proofs.Ytanlmanifpknoaa.Ev

namespace Go.Proofs.Ytanlmanifpknoaa.Ev
open Go
set_option linter.unusedVariables false
set_option linter.unusedSimpArgs false
set_option linter.unusedSectionVars false
attribute [local simp] til_getE til_length til_get til_drop til_take til_snoc til_fold take_snoc til_set
theorem sides_nat {g c s : Int} (h : (sidesB g c s && fine g c) = true) : ∃ G C S : Nat, g = G ∧ c = C ∧ s = S ∧ G ≤ 8 ∧ C ≤ 8 ∧ S ≤ 4 ∧ fine (G : Int) (C : Int) = true := by
  have h1 := h
  simp only [Bool.and_eq_true, sidesB, inB_iff, decide_eq_true_eq] at h1
  obtain ⟨⟨⟨⟨i1, i2⟩, i3⟩, i4⟩, hf⟩ := h1
  refine ⟨g.toNat, c.toNat, s.toNat, by omega, by omega, by omega, by omega, by omega, by omega, ?_⟩
  rw [show ((g.toNat : Nat) : Int) = g by omega, show ((c.toNat : Nat) : Int) = c by omega]; exact hf
theorem few_far {G C S : Nat} {cd : Nd → Nat} {r : List Int} (hb : (sidesB (G : Int) C S && fine (G : Int) C) = true) (hcd : cd node0 = 0) (h : FarT (scG G C S) cd (okG G C) (lastG G C) r) :
    (r[0]?.getD 0 = (-1 : Int) ∧ fewG G C S = none) ∨ ∃ d : Nat, r[0]?.getD 0 = (d : Int) ∧ fewG G C S = some d ∧ Dist (scG G C S) (lastG G C) d node0 := by
  have h0 := h node0 node0_ok
  rw [hcd] at h0
  rcases h0 with ⟨h1, h2⟩ | ⟨d, h1, h2⟩
  · exact .inl ⟨h1, fewG_no (by simpa using h2)⟩
  · exact .inr ⟨d, h1, fewG_some hb (by simpa using h2), h2⟩
theorem r9 (g c s : Int) : ownR env 9 [ti g, ti c, ti s] = some (.tup [.t (ti (((fewG g c s).getD 0 : Nat) : Int)), .t (tb (fewG g c s).isSome)], []) := by
  rw [own_ir e9 _ rfl]
  cases hb : (sidesB g c s && fine g c) with
  | false =>
    have h := r35_bad g c s hb
    have hn := fewG_bad hb
    simp [ir9, ir9_c, h, hn]
  | true =>
    obtain ⟨G, C, S, rfl, rfl, rfl, hG, hC, hS, hf⟩ := sides_nat hb
    obtain ⟨r, h1, h2, h3, _⟩ := r35 G C S hb
    have hr0 : 0 < r.length := by omega
    have hg : r[0]?.getD 0 = r[0] := by simp [hr0]
    rcases few_far hb rfl h3 with ⟨h4, h5⟩ | ⟨d, h4, h5, _⟩
    · rw [h4] at h1
      simp [ir9, ir9_c, h1, h5]
    · rw [h4] at h1
      rw [hg] at h4
      simp [ir9, ir9_c, h1, h5, hr0, h4]
theorem r10 (g c s : Int) : ownR env 10 [ti g, ti c, ti s] = some (.tup [.t (ti (((fewG g c s).getD 0 : Nat) : Int)), .t (tb (fewG g c s).isSome)], []) := by
  rw [own_ir e10 _ rfl]
  cases hs : sidesB g c s with
  | false =>
    have hb : (sidesB g c s && fine g c) = false := by rw [hs]; rfl
    have hn := fewG_bad hb
    simp [ir10, ir10_c, r37, hs, hn]
  | true =>
    cases hf : fine g c with
    | false =>
      have hb : (sidesB g c s && fine g c) = false := by rw [hs, hf]; rfl
      have hn := fewG_bad hb
      simp [ir10, ir10_c, r37, r38, hs, hf, hn]
    | true =>
      have hb : (sidesB g c s && fine g c) = true := by rw [hs, hf]; rfl
      obtain ⟨G, C, S, rfl, rfl, rfl, hG, hC, hS, hf'⟩ := sides_nat hb
      obtain ⟨r, h1, h2, h3⟩ := r39 G C S hG hC hS hf'
      have hN0 : 0 < (G + 1) * (C + 1) := Nat.mul_pos (by omega) (by omega)
      have hr0 : 0 < r.length := by omega
      have hg : r[0]?.getD 0 = r[0] := by simp [hr0]
      generalize (G + 1) * (C + 1) * 2 = N at *
      subst h2
      rcases few_far (cd := cdC C) hb (by unfold cdC node0; simp) h3 with ⟨h4, h5⟩ | ⟨d, h4, h5, _⟩
      · rw [hg] at h4
        simp [ir10, ir10_c, r37, r38, hs, hf, h1, h5, hr0, h4]
      · rw [hg] at h4
        have hnn : ¬ ((d : Int) < 0) := by omega
        simp [ir10, ir10_c, r37, r38, hs, hf, h1, h5, hr0, h4, hnn]
noncomputable def seatsG (g c : Int) (i : Nat) : List Nat → Option Nat
  | [] => none
  | s :: l => if (fewG g c s).isSome then some s else seatsG g c i l
noncomputable def seatsR (g c : Int) : Option Nat := seatsG g c 0 [1, 2, 3, 4]
noncomputable def seatsV (o : Option Nat) : Option (V × Heap) := some (.tup [.t (ti ((o.getD 0 : Nat) : Int)), .t (tb o.isSome)], [])
theorem r14 (g c : Int) : ownR env 14 [ti g, ti c] = seatsV (seatsR g c) := by
  have key : ∀ (d i : Nat), i + d = 5 → 1 ≤ i → endO [.tmp 4, .tmp 5] (andN (outB 0 (loopF env true [0, 1, 6] ir14_b0 ([(0, .t (ti g)), (1, .t (ti c)), (6, .t (ti i))], []))) (execD env (.seq (.reg false [] [⟨some 4, none, .mv (.k (ti 0))⟩, ⟨some 5, none, .mv (.k (tb false))⟩]) .ret))) = seatsV (seatsG g c 0 (List.range' i d)) := by
    intro d
    induction d with
    | zero =>
      intro i hi _
      have : i = 5 := by omega
      subst this
      rw [x14_0]
      simp [ir14_d0, seatsG, seatsV]
    | succ d ih =>
      intro i hi h1
      rw [x14_0]
      have hle : (i : Int) ≤ 4 := by omega
      have hw : IntKind.i64.wrap ((i : Int) + 1) = (i : Int) + 1 := w96 (by omega)
      have h := r10 g c i
      have ih := ih (i + 1) (by omega) (by omega)
      rw [List.range'_succ]
      unfold seatsG
      cases hf : (fewG g c (i : Int)).isSome with
      | true =>
        rw [hf] at h
        simp [ir14_d0, hle, h, seatsV]
      | false =>
        rw [hf] at h
        simp at ih
        simp [ir14_d0, hle, h, hw, ih]
  rw [own_ir e14 _ rfl]
  have h := key 4 1 (by omega) (by omega)
  have e : List.range' 1 4 = [1, 2, 3, 4] := rfl
  rw [e] at h
  unfold seatsR
  generalize seatsG g c 0 [1, 2, 3, 4] = o at *
  simp [seatsV] at h
  simp [ir14, ir14_c, seatsV, h]
theorem r12 (g c : Int) : ownR env 12 [ti g, ti c] = seatsV (seatsR g c) := by
  have key : ∀ (d i : Nat), i + d = 5 → 1 ≤ i → andO (endO [.tmp 4, .tmp 5] (andN (outB 0 (loopF env true [0, 1, 6] ir12_b0 ([(0, .t (ti g)), (1, .t (ti c)), (6, .t (ti i))], []))) (execD env (.seq (.reg false [] [⟨some 4, none, .mv (.k (ti 0))⟩, ⟨some 5, none, .mv (.k (tb false))⟩]) .ret)))) ownEnd = seatsV (seatsG g c 0 (List.range' i d)) := by
    intro d
    induction d with
    | zero =>
      intro i hi _
      have : i = 5 := by omega
      subst this
      rw [x12_0]
      simp [ir12_d0, seatsG, seatsV]
    | succ d ih =>
      intro i hi h1
      rw [x12_0]
      have hle : (i : Int) ≤ 4 := by omega
      have hw : IntKind.i64.wrap ((i : Int) + 1) = (i : Int) + 1 := w96 (by omega)
      have ih := ih (i + 1) (by omega) (by omega)
      rw [List.range'_succ]
      unfold seatsG
      cases hb : (sidesB g c i && fine g c) with
      | false =>
        have h := r35_bad g c i hb
        have hn := fewG_bad hb
        simp at ih
        simp [ir12_d0, hle, h, hn, hw, ih]
      | true =>
        obtain ⟨G, C, S, rfl, rfl, hS', hG, hC, hS, hf⟩ := sides_nat hb
        have : S = i := by omega
        subst this
        obtain ⟨r, g1, g2, g3, _⟩ := r35 G C S hb
        rcases few_far hb rfl g3 with ⟨h4, h5⟩ | ⟨d, h4, h5, _⟩
        · rw [h4] at g1
          simp at ih
          simp [ir12_d0, hle, g1, h5, hw, ih]
        · rw [h4] at g1
          simp [ir12_d0, hle, g1, h5, seatsV]
  rw [own_ir e12 _ rfl]
  have h := key 4 1 (by omega) (by omega)
  have e : List.range' 1 4 = [1, 2, 3, 4] := rfl
  rw [e] at h
  unfold seatsR
  generalize seatsG g c 0 [1, 2, 3, 4] = o at *
  simp [seatsV] at h
  simp [ir12, ir12_c, seatsV, h]
end Go.Proofs.Ytanlmanifpknoaa.Ev

namespace Go.Proofs.Ytanlmanifpknoaa.Ev
open Go
set_option linter.unusedVariables false
set_option linter.unusedSimpArgs false
set_option linter.unusedSectionVars false
def bothB (G C : Nat) (a b : Nat) : Bool := fine a b && fine ((G : Int) - a) ((C : Int) - b)
def cntRow (G C a j d : Nat) : Nat := ((List.range' j d).filter (bothB G C a)).length
theorem cntRow_cons (G C a j d : Nat) : cntRow G C a j (d + 1) = (if bothB G C a j then 1 else 0) + cntRow G C a (j + 1) d := by
  unfold cntRow
  rw [List.range'_succ, List.filter_cons]
  split <;> simp <;> omega
def cntAll (G C i : Nat) : Nat → Nat
  | 0 => 0
  | d + 1 => cntRow G C i 0 (C + 1) + cntAll G C (i + 1) d
theorem cntRow_le (G C a j d : Nat) : cntRow G C a j d ≤ d := by
  unfold cntRow
  have := List.length_filter_le (bothB G C a) (List.range' j d)
  simpa using this
theorem l263i (G C : Nat) (hG : G ≤ 8) (hC : C ≤ 8) (a : Nat) (ha : a ≤ G) : ∀ (d j n : Nat), j + d = C + 1 → n ≤ 1000 + j →
    loopF env true [0, 1, 6, 7, 8, 9] ir15_b0 ([(0, .t (ti G)), (1, .t (ti C)), (6, .ptr 0 0 0), (7, .t (ti n)), (8, .t (ti a)), (9, .t (ti j))], [.box 3 [.t (ti G), .t (ti C), .t (ti 1)]]) =
      some (.exit 2, [(0, .t (ti G)), (1, .t (ti C)), (6, .ptr 0 0 0), (7, .t (ti (n + cntRow G C a j d : Nat))), (8, .t (ti a)), (9, .t (ti (C + 1 : Nat))), (21, .t (ti (C + 1 : Nat))), (22, .t (ti C)), (23, .t (tb false))], [.box 3 [.t (ti G), .t (ti C), .t (ti 1)]]) := by
  intro d
  induction d with
  | zero =>
    intro j n hj hn
    have : j = C + 1 := by omega
    subst this
    rw [x15_0]
    have w1002 : ¬ ((C : Int) + 1 ≤ C) := by omega
    simp [ir15_d0, cntRow, w1002]
  | succ d ihd =>
    intro j n hj hn
    rw [x15_0]
    have w1002 : (j : Int) ≤ C := by omega
    have a5 : IntKind.i64.wrap ((j : Int) + 1) = (j : Int) + 1 := w96 (by omega)
    have q1001 := r46 G C 1 a j (by omega) (by omega) (by omega) (by omega)
    rw [cntRow_cons]
    have hb : (fine (a : Int) (j : Int) && fine ((G : Int) - a) ((C : Int) - j)) = bothB G C a j := rfl
    rw [hb] at q1001
    cases hv : bothB G C a j with
    | true =>
      rw [hv] at q1001
      have ih := ihd (j + 1) (n + 1) (by omega) (by omega)
      have a6 : IntKind.i64.wrap ((n : Int) + 1) = (n : Int) + 1 := w96 (by omega)
      rw [show n + 1 + cntRow G C a (j + 1) d = n + (1 + cntRow G C a (j + 1) d) by omega] at ih
      simp at ih
      simp [ir15_d0, w1002, a5, a6, q1001, ih]
    | false =>
      rw [hv] at q1001
      have ih := ihd (j + 1) n (by omega) (by omega)
      have a6 : IntKind.i64.wrap (n : Int) = (n : Int) := w96 (by omega)
      simp at ih
      simp [ir15_d0, w1002, a5, a6, q1001, ih]
theorem l263o (G C : Nat) (hG : G ≤ 8) (hC : C ≤ 8) : ∀ (d i n : Nat), i + d = G + 1 → n ≤ 20 * i →
    loopF env true [0, 1, 6, 7, 8] ir15_b1 ([(0, .t (ti G)), (1, .t (ti C)), (6, .ptr 0 0 0), (7, .t (ti n)), (8, .t (ti i))], [.box 3 [.t (ti G), .t (ti C), .t (ti 1)]]) =
      some (.exit 0, [(0, .t (ti G)), (1, .t (ti C)), (6, .ptr 0 0 0), (7, .t (ti (n + cntAll G C i d : Nat))), (8, .t (ti (G + 1 : Nat))), (16, .t (ti (G + 1 : Nat))), (17, .t (ti G)), (18, .t (tb false))], [.box 3 [.t (ti G), .t (ti C), .t (ti 1)]]) := by
  intro d
  induction d with
  | zero =>
    intro i n hi hn
    have : i = G + 1 := by omega
    subst this
    rw [x15_1]
    have w1002 : ¬ ((G : Int) + 1 ≤ G) := by omega
    simp [ir15_d1, cntAll, w1002]
  | succ d ihd =>
    intro i n hi hn
    rw [x15_1]
    have w1002 : (i : Int) ≤ G := by omega
    have a5 : IntKind.i64.wrap ((i : Int) + 1) = (i : Int) + 1 := w96 (by omega)
    have hin := l263i G C hG hC i (by omega) (C + 1) 0 n (by omega) (by omega)
    have hle := cntRow_le G C i 0 (C + 1)
    have ih := ihd (i + 1) (n + cntRow G C i 0 (C + 1)) (by omega) (by omega)
    rw [Nat.add_assoc] at ih
    unfold cntAll
    generalize cntRow G C i 0 (C + 1) = Y at *
    generalize cntAll G C (i + 1) d = Z at *
    simp at hin ih
    simp [ir15_d1, w1002, a5, hin, ih]
theorem r15 (g c : Int) : ownR env 15 [ti g, ti c] = some (.tup [.t (ti (if sidesB g c 1 then (cntAll g.toNat c.toNat 0 (g.toNat + 1) : Nat) else (0 : Nat) : Nat)), .t (tb (sidesB g c 1))], []) := by
  rw [own_ir e15 _ rfl]
  have h287 := r44 g c 1
  cases hs : sidesB g c 1 with
  | false =>
    rw [hs] at h287
    simp [ir15, ir15_c, h287]
  | true =>
    rw [hs] at h287
    have h1 := hs
    simp only [sidesB, Bool.and_eq_true, inB_iff, decide_eq_true_eq] at h1
    obtain ⟨G, rfl⟩ : ∃ G : Nat, g = G := ⟨g.toNat, by omega⟩
    obtain ⟨C, rfl⟩ : ∃ C : Nat, c = C := ⟨c.toNat, by omega⟩
    have h := l263o G C (by omega) (by omega) (G + 1) 0 0 (by omega) (by omega)
    simp at h
    simp [ir15, ir15_c, h287, h]
end Go.Proofs.Ytanlmanifpknoaa.Ev

namespace Go.Proofs.Ytanlmanifpknoaa.Ev
open Go
set_option linter.unusedVariables false
set_option linter.unusedSimpArgs false
set_option linter.unusedSectionVars false
attribute [local simp] til_getE til_length til_get til_drop til_take til_snoc til_fold take_snoc til_set tle3_length tle3_getE
theorem l264i (G C : Nat) (hG : G ≤ 8) (hC : C ≤ 8) (a : Nat) (ha : a ≤ G) : ∀ (d j n : Nat), j + d = C + 1 → n ≤ 1000 + j →
    loopF env true [0, 1, 6, 7, 8] ir16_b0 ([(0, .t (ti G)), (1, .t (ti C)), (6, .t (ti n)), (7, .t (ti a)), (8, .t (ti j))], []) =
      some (.exit 2, [(0, .t (ti G)), (1, .t (ti C)), (6, .t (ti (n + cntRow G C a j d : Nat))), (7, .t (ti a)), (8, .t (ti (C + 1 : Nat))), (18, .t (ti (C + 1 : Nat))), (19, .t (ti C)), (20, .t (tb false))], []) := by
  intro d
  induction d with
  | zero =>
    intro j n hj hn
    have : j = C + 1 := by omega
    subst this
    rw [x16_0]
    have w1002 : ¬ ((C : Int) + 1 ≤ C) := by omega
    simp [ir16_d0, cntRow, w1002]
  | succ d ihd =>
    intro j n hj hn
    rw [x16_0]
    have w1002 : (j : Int) ≤ C := by omega
    have a5 : IntKind.i64.wrap ((j : Int) + 1) = (j : Int) + 1 := w96 (by omega)
    have q1001 := r47 G C a j (by omega) (by omega) (by omega) (by omega)
    rw [cntRow_cons]
    have hb : (fine (a : Int) (j : Int) && fine ((G : Int) - a) ((C : Int) - j)) = bothB G C a j := rfl
    rw [hb] at q1001
    cases hv : bothB G C a j with
    | true =>
      rw [hv] at q1001
      have ih := ihd (j + 1) (n + 1) (by omega) (by omega)
      have a6 : IntKind.i64.wrap ((n : Int) + 1) = (n : Int) + 1 := w96 (by omega)
      rw [show n + 1 + cntRow G C a (j + 1) d = n + (1 + cntRow G C a (j + 1) d) by omega] at ih
      simp at ih
      simp [ir16_d0, w1002, a5, a6, q1001, ih]
    | false =>
      rw [hv] at q1001
      have ih := ihd (j + 1) n (by omega) (by omega)
      simp at ih
      simp [ir16_d0, w1002, a5, q1001, ih]
theorem l264o (G C : Nat) (hG : G ≤ 8) (hC : C ≤ 8) : ∀ (d i n : Nat), i + d = G + 1 → n ≤ 20 * i →
    loopF env true [0, 1, 6, 7] ir16_b1 ([(0, .t (ti G)), (1, .t (ti C)), (6, .t (ti n)), (7, .t (ti i))], []) =
      some (.exit 0, [(0, .t (ti G)), (1, .t (ti C)), (6, .t (ti (n + cntAll G C i d : Nat))), (7, .t (ti (G + 1 : Nat))), (13, .t (ti (G + 1 : Nat))), (14, .t (ti G)), (15, .t (tb false))], []) := by
  intro d
  induction d with
  | zero =>
    intro i n hi hn
    have : i = G + 1 := by omega
    subst this
    rw [x16_1]
    have w1002 : ¬ ((G : Int) + 1 ≤ G) := by omega
    simp [ir16_d1, cntAll, w1002]
  | succ d ihd =>
    intro i n hi hn
    rw [x16_1]
    have w1002 : (i : Int) ≤ G := by omega
    have a5 : IntKind.i64.wrap ((i : Int) + 1) = (i : Int) + 1 := w96 (by omega)
    have hin := l264i G C hG hC i (by omega) (C + 1) 0 n (by omega) (by omega)
    have hle := cntRow_le G C i 0 (C + 1)
    have ih := ihd (i + 1) (n + cntRow G C i 0 (C + 1)) (by omega) (by omega)
    rw [Nat.add_assoc] at ih
    unfold cntAll
    generalize cntRow G C i 0 (C + 1) = Y at *
    generalize cntAll G C (i + 1) d = Z at *
    simp at hin ih
    simp [ir16_d1, w1002, a5, hin, ih]
theorem r16 (g c : Int) : ownR env 16 [ti g, ti c] = some (.tup [.t (ti (if sidesB g c 1 then (cntAll g.toNat c.toNat 0 (g.toNat + 1) : Nat) else (0 : Nat) : Nat)), .t (tb (sidesB g c 1))], []) := by
  rw [own_ir e16 _ rfl]
  have h283 := r37 g c 1
  cases hs : sidesB g c 1 with
  | false =>
    rw [hs] at h283
    simp [ir16, ir16_c, h283]
  | true =>
    rw [hs] at h283
    have h1 := hs
    simp only [sidesB, Bool.and_eq_true, inB_iff, decide_eq_true_eq] at h1
    obtain ⟨G, rfl⟩ : ∃ G : Nat, g = G := ⟨g.toNat, by omega⟩
    obtain ⟨C, rfl⟩ : ∃ C : Nat, c = C := ⟨c.toNat, by omega⟩
    have h := l264o G C (by omega) (by omega) (G + 1) 0 0 (by omega) (by omega)
    simp at h
    simp [ir16, ir16_c, h283, h]
def ptl (ms : List (Nat × Nat)) : List T := ms.map fun m => .lst 1 [ti m.1, ti m.2]
theorem ptl_len (ms : List (Nat × Nat)) : (ptl ms).length = ms.length := by simp [ptl]
theorem ptl_snoc (ms : List (Nat × Nat)) (m : Nat × Nat) : ptl ms ++ [.lst 1 [ti m.1, ti m.2]] = ptl (ms ++ [m]) := by simp [ptl]
theorem best_head {G C s : Nat} {r : List Int} (hr : r.length = 162) (hG : G ≤ 8) (hC : C ≤ 8) (hs : s ≤ 4) (hf : fine G C = true) (hfar : FarT (scG G C s) cd9 (okG G C) (lastG G C) r) (hr40 : ∀ v : Nat, r[v]?.getD 0 ≤ 2 ^ 40) {x : Nd} (hx : okG G C x) {n : Nat} (hd : Dist (scG G C s) (lastG G C) (n + 1) x) :
    ∃ m, (mvsG G C s x).find? (nearer (fun y => r[cd9 y]?.getD 0) x) = some m ∧ m.1 + m.2 ≤ s ∧ Dist (scG G C s) (lastG G C) n (stepTo x m) ∧ okG G C (stepTo x m) ∧ ∃ rest, bestE (outG G C s) r (cd9 x) = edOf x m :: rest := by
  obtain ⟨m, h1, h2, h3, h4, h5, _, _⟩ := find_near hf (D := fun y => r[cd9 y]?.getD 0) hfar hx hd
  refine ⟨m, h1, h2, h4, h5, ?_⟩
  have hc := code9 x (by have := hx.2.1; omega) hx.2.2
  have hdel : ∀ m ∈ mvsG G C s x, (!delB r (cd9 x) (edOf x m)) = nearer (fun y => r[cd9 y]?.getD 0) x m := fun m hm => by
    have hok := (mvStep_ok hx.2.2 (List.mem_filter.1 hm).2).1
    have hlo := hfar (stepTo x m) hok
    have hhi := hr40 (cd9 (stepTo x m))
    have hv : (-1 : Int) ≤ r[cd9 (stepTo x m)]?.getD 0 := by rcases hlo with ⟨h, _⟩ | ⟨d, h, _⟩ <;> rw [h] <;> omega
    clear hlo hfar hr40
    unfold delB nearer edOf
    simp only
    have hw : IntKind.i64.wrap (r[cd9 (stepTo x m)]?.getD 0 + ((1 : Nat) : Int)) = r[cd9 (stepTo x m)]?.getD 0 + 1 := w96 (by omega)
    rw [hw]
    by_cases a1 : r[cd9 (stepTo x m)]?.getD 0 < 0
    · have a1' : ¬ (0 ≤ r[cd9 (stepTo x m)]?.getD 0) := by omega
      simp only [a1, a1', decide_true, decide_false, Bool.true_or, Bool.not_true, Bool.false_and]
    · have a1' : 0 ≤ r[cd9 (stepTo x m)]?.getD 0 := by omega
      simp only [a1, a1', decide_true, decide_false, Bool.false_or, Bool.not_not, Bool.true_and]
  have hfm : ∀ (l : List (Nat × Nat)), (∀ m ∈ l, m ∈ mvsG G C s x) → ∀ m, l.find? (nearer (fun y => r[cd9 y]?.getD 0) x) = some m → ∃ rest, (l.map (edOf x)).filter (fun e => !delB r (cd9 x) e) = edOf x m :: rest := fun l => by
    induction l with
    | nil => intro _ m h; cases h
    | cons a l ih =>
      intro hl m h
      rw [List.map_cons, List.filter_cons, hdel a (hl a (List.mem_cons_self ..))]
      rw [List.find?_cons] at h
      cases hn : nearer (fun y => r[cd9 y]?.getD 0) x a with
      | true =>
        rw [hn] at h
        simp only [Option.some.injEq] at h
        subst h
        exact ⟨_, rfl⟩
      | false =>
        rw [hn] at h
        exact ih (fun m hm => hl m (List.mem_cons_of_mem _ hm)) m h
  unfold bestE outG
  rw [hc]
  exact hfm _ (fun _ h => h) m h1
end Go.Proofs.Ytanlmanifpknoaa.Ev

namespace Go.Proofs.Ytanlmanifpknoaa.Ev
open Go
set_option linter.unusedVariables false
set_option linter.unusedSimpArgs false
set_option linter.unusedSectionVars false
attribute [local simp] til_getE til_length til_get til_drop til_take til_snoc til_fold take_snoc til_set ptl_len
def cloG (G C s : Nat) : T := .clo 95 [] [.ptr (.agg [ti G, ti C, ti s])]
theorem l36 (G C s : Nat) (hG : G ≤ 8) (hC : C ≤ 8) (hs : s ≤ 4) (hf : fine G C = true) (r : List Int) (hr : r.length = 162) (hfar : FarT (scG G C s) cd9 (okG G C) (lastG G C) r) (hr40 : ∀ v : Nat, r[v]?.getD 0 ≤ 2 ^ 40) : ∀ (n : Nat) (x : Nd) (acc : List (Nat × Nat)), okG G C x → Dist (scG G C s) (lastG G C) n x → acc.length + n ≤ 2 ^ 30 →
    loopF env true [1, 2, 3, 7] ir36_b0 ([(1, .t (ti (cd9 x))), (2, .t (tl r)), (3, .ptr 0 0 0), (7, .ref 1 0 acc.length)], [.box 2 [.t (ti 162), .t (cloG G C s)], .pure 1 (ptl acc)]) =
      some (.exit 0, [(1, .t (ti (cd9 (lastG G C)))), (2, .t (tl r)), (3, .ptr 0 0 0), (7, .ref 1 0 (acc ++ pathG G C s (fun y => r[cd9 y]?.getD 0) n x).length), (10, .t (tl r)), (11, .t (ti (cd9 (lastG G C)))), (12, .rptr (ti 0) 0), (13, .t (ti 0)), (14, .t (tb false))], [.box 2 [.t (ti 162), .t (cloG G C s)], .pure 1 (ptl (acc ++ pathG G C s (fun y => r[cd9 y]?.getD 0) n x))]) := by
  intro n
  induction n with
  | zero =>
    intro x acc hx hd ha
    rw [x36_0]
    have hxl : x = lastG G C := by
      have := hd.1
      simpa [ends] using this
    subst hxl
    have h0 : r[cd9 (lastG G C)]?.getD 0 = ((0 : Nat) : Int) := TabG.at (D := fun y => r[cd9 y]?.getD 0) hfar hx hd
    have hlt : cd9 (lastG G C) < 162 := (bfsG9 (s := s) hG hC).lt _ hx
    generalize cd9 (lastG G C) = cl at *
    have hc : cl < r.length := by omega
    have h0' : r[cl] = 0 := by simpa [hc] using h0
    simp [ir36_d0, pathG, hc, h0']
  | succ n ihn =>
    intro x acc hx hd ha
    rw [x36_0]
    obtain ⟨m, h1, h2, h3, h4, rest, h5⟩ := best_head hr hG hC hs hf hfar hr40 hx hd
    have ih := ihn (stepTo x m) (acc ++ [m]) h4 h3 (by simp; omega)
    have hpath : pathG G C s (fun y => r[cd9 y]?.getD 0) (n + 1) x = m :: pathG G C s (fun y => r[cd9 y]?.getD 0) n (stepTo x m) := by
      rw [pathG, h1]
    rw [hpath]
    have h0 : r[cd9 x]?.getD 0 = ((n + 1 : Nat) : Int) := TabG.at (D := fun y => r[cd9 y]?.getD 0) hfar hx hd
    have hlt : cd9 x < 162 := (bfsG9 (s := s) hG hC).lt _ hx
    obtain ⟨ts, g1, g2⟩ := r76 (okGG G C s hG hC hs) (by omega) (call321 G C s hG hC hs) r hr (cd9 x) ⟨x, hx, rfl⟩
    rw [h5, show ((162 : Nat) : Int) = 162 from rfl] at g1
    rw [h5] at g2
    have hts : ts[0]? = some (.agg [.int .i64 (cd9 (stepTo x m)), .int .i64 1, .lst 1 [ti m.1, ti m.2]]) := by
      have := congrArg (fun l => l[0]?) g2
      simp [tle3, edOf, til] at this
      simpa using this
    generalize pathG G C s (fun y => r[cd9 y]?.getD 0) n (stepTo x m) = Z at *
    generalize cd9 x = cx at *
    generalize cd9 (stepTo x m) = cy at *
    have hc : cx < r.length := by omega
    have h0' : r[cx] = ((n : Int) + 1) := by simpa [hc] using h0
    have hp : (0 : Int) < (n : Int) + 1 := by omega
    have hq : acc.length ≤ 68719476735 := by omega
    have hsn := ptl_snoc acc m
    have hts0 : 0 < ts.length := (List.getElem?_eq_some_iff.1 hts).1
    have hts' : ts[0] = (.agg [.int .i64 cy, .int .i64 1, .lst 1 [ti m.1, ti m.2]]) := (List.getElem?_eq_some_iff.1 hts).2
    simp [cloG] at ih
    simp [ir36_d0, cloG, hc, h0', hp, g1, hts, hts0, hts', hq, hsn, ih]
end Go.Proofs.Ytanlmanifpknoaa.Ev

namespace Go.Proofs.Ytanlmanifpknoaa.Ev
open Go
set_option linter.unusedVariables false
set_option linter.unusedSimpArgs false
set_option linter.unusedSectionVars false
attribute [local simp] til_getE til_length til_get til_drop til_take til_snoc til_fold take_snoc til_set ptl_len
open Classical in
noncomputable def DG (G C s : Nat) (y : Nd) : Int := if h : ∃ d, Dist (scG G C s) (lastG G C) d y then (h.choose : Int) else -1
theorem far_DG {G C s : Nat} {cd : Nd → Nat} {r : List Int} (h : FarT (scG G C s) cd (okG G C) (lastG G C) r) : ∀ y, okG G C y → r[cd y]?.getD 0 = DG G C s y := by
  intro y hy
  rcases h y hy with ⟨h1, h2⟩ | ⟨d, h1, h2⟩
  · rw [h1]
    unfold DG
    rw [dif_neg fun ⟨d, hd⟩ => h2 d hd.1]
  · have hh : ∃ d, Dist (scG G C s) (lastG G C) d y := ⟨d, h2⟩
    rw [h1]
    unfold DG
    rw [dif_pos hh, hh.choose_spec.uniq h2]
theorem tab_DG {G C s : Nat} {cd : Nd → Nat} {r : List Int} (h : FarT (scG G C s) cd (okG G C) (lastG G C) r) : TabG G C s (DG G C s) := by
  intro y hy
  have := h y hy
  rw [far_DG h y hy] at this
  exact this
noncomputable def wayG (g c s : Int) (d : Nat) : List (Nat × Nat) := pathG g.toNat c.toNat s.toNat (DG g.toNat c.toNat s.toNat) d node0
noncomputable def firstV (g c s : Int) : Option Nat → Option (V × Heap)
  | none => some (.tup [.t .nil, .t (tb false)], [])
  | some d => some (.tup [.ref 0 0 d, .t (tb true)], [.pure 1 (ptl (wayG g c s d))])
theorem r7 (g c s : Int) : ownFR env 7 [ti g, ti c, ti s] = firstV g c s (fewG g c s) := by
  rw [ownF_ir e7 _ rfl]
  cases hb : (sidesB g c s && fine g c) with
  | false =>
    have h := r35_bad g c s hb
    have hn := fewG_bad hb
    simp [ir7, ir7_c, h, hn, firstV]
  | true =>
    obtain ⟨G, C, S, rfl, rfl, rfl, hG, hC, hS, hf⟩ := sides_nat hb
    obtain ⟨r, h1, h2, h3, h40⟩ := r35 G C S hb
    have hr0 : 0 < r.length := by omega
    rcases few_far hb rfl h3 with ⟨h4, h5⟩ | ⟨d, h4, h5, hd⟩
    · rw [h4] at h1
      simp [ir7, ir7_c, h1, h5, firstV]
    · rw [h4] at h1
      have hB := bfsG9 (s := S) hG hC
      have hl := (lastG_ok hf).1
      have hd162 := dist_lt hB hl hd
      have h6 := l36 G C S hG hC hS hf r h2 h3 h40 d node0 [] node0_ok hd (by simp; omega)
      have hlen := pathG_len hf (D := fun y => r[cd9 y]?.getD 0) h3 d node0 node0_ok hd
      have hway : pathG G C S (fun y => r[cd9 y]?.getD 0) d node0 = wayG G C S d := by
        unfold wayG
        simp only [Int.toNat_natCast]
        exact pathG_same (far_DG h3) d node0 node0_ok
      have h282 : ownFR env 36 [.agg [ti 162, cloG G C S], ti 0, tl r] = some (.ref 0 0 d, [.pure 1 (ptl (wayG G C S d))]) := by
        rw [hway] at h6 hlen
        rw [ownF_ir e36 _ rfl]
        have hc0 : cd9 node0 = 0 := rfl
        rw [hc0] at h6
        generalize cd9 (lastG G C) = cl at *
        generalize wayG G C S d = w at *
        have hp : ptl [] = [] := rfl
        simp [hp] at h6
        simp [ir36, ir36_c, h6, hlen]
      simp [cloG] at h282
      have htk : r.take 162 = r := List.take_of_length_le (by omega)
      simp [ir7, ir7_c, h1, h5, h282, htk, firstV]
end Go.Proofs.Ytanlmanifpknoaa.Ev

namespace Go.Proofs.Ytanlmanifpknoaa.Ev
open Go
set_option linter.unusedVariables false
set_option linter.unusedSimpArgs false
set_option linter.unusedSectionVars false
attribute [local simp] til_getE til_length til_get til_drop til_take til_snoc til_fold take_snoc til_set ptl_len
noncomputable def condS (G C s : Nat) (x : Nd) (n : Nat) (m : Nat × Nat) : Bool := decide (0 < m.1 + m.2) && fine m.1 m.2 && inB (tgt x m.1 m.2).1 0 G && inB (tgt x m.1 m.2).2 0 C && decide (DG G C s (stepTo x m) = n)
theorem condS_eq {G C s : Nat} (hf : fine G C = true) (hT : TabG G C s (DG G C s)) {x : Nd} (hx : okG G C x) {n : Nat} (hd : Dist (scG G C s) (lastG G C) (n + 1) x) (m : Nat × Nat) : condS G C s x n m = (mvOk G C x m && nearer (DG G C s) x m) := by
  obtain ⟨hl1, hl2⟩ := lastG_ok hf
  have hDx := hT.at hx hd
  rw [Bool.eq_iff_iff]
  unfold condS
  simp only [Bool.and_eq_true, decide_eq_true_eq, inB_iff]
  constructor
  · rintro ⟨⟨⟨⟨h1, h2⟩, h3⟩, h4⟩, h5⟩
    have e1001 : ((tgt x m.1 m.2).1.toNat : Int) = (tgt x m.1 m.2).1 := by omega
    have e1002 : ((tgt x m.1 m.2).2.toNat : Int) = (tgt x m.1 m.2).2 := by omega
    have hok : okG G C (stepTo x m) := ⟨by simp only [stepTo]; omega, by simp only [stepTo]; omega, by have := hx.2.2; simp only [stepTo]; omega⟩
    have hb := (ends_both hl1 hl2 _ _ (hT.of hok h5).1).2
    simp only [bothG, stepTo, e1001, e1002, Bool.and_eq_true] at hb
    refine ⟨mvOk_iff.2 ⟨h1, h3, h4, h2, hb.1, hb.2⟩, ?_⟩
    simp only [nearer, h5, hDx, Bool.and_eq_true, decide_eq_true_eq]
    omega
  · rintro ⟨h1, h2⟩
    obtain ⟨m1001, m1002, m1003, m1004, _, _⟩ := mvOk_iff.1 h1
    simp only [nearer, hDx, Bool.and_eq_true, decide_eq_true_eq] at h2
    exact ⟨⟨⟨⟨m1001, m1004⟩, m1002⟩, m1003⟩, by omega⟩
theorem find_condS {G C s : Nat} (hf : fine G C = true) (hT : TabG G C s (DG G C s)) {x : Nd} (hx : okG G C x) {n : Nat} (hd : Dist (scG G C s) (lastG G C) (n + 1) x) : (mvs s).find? (condS G C s x n) = (mvsG G C s x).find? (nearer (DG G C s) x) := by
  unfold mvsG
  rw [List.find?_filter]
  refine congrArg (fun p => List.find? p (mvs s)) (funext fun m => ?_)
  rw [condS_eq hf hT hx hd]
  cases mvOk G C x m <;> cases nearer (DG G C s) x m <;> rfl
def KE (e : Fr) : Prop := ∀ p ∈ e, 18 < p.1
theorem KE.keep {e : Fr} (h : KE e) (live : List Nat) (hl : ∀ t ∈ live, t ≤ 18) : keep live e = [] := by
  induction e with
  | nil => rfl
  | cons p e ih =>
    obtain ⟨s, v⟩ := p
    have h1 := h (s, v) (List.mem_cons_self ..)
    have : live.contains s = false := by
      rw [Bool.eq_false_iff]; intro hc
      have := hl s (by simpa using hc)
      simp only at h1; omega
    unfold Go.Proofs.Ytanlmanifpknoaa.Ev.keep
    rw [this]
    simp only [Bool.false_eq_true, if_false]
    exact ih fun p hp => h p (List.mem_cons_of_mem _ hp)
theorem KE.put {e : Fr} (h : KE e) {t : Nat} (ht : 18 < t) (v : V) : KE (e.put t v) := by
  induction e with
  | nil => intro p hp; simp [Fr.put] at hp; subst hp; exact ht
  | cons p e ih =>
    obtain ⟨s, u⟩ := p
    unfold Fr.put
    split
    · intro q hq
      rcases List.mem_cons.1 hq with rfl | hq
      · exact ht
      · exact h q (List.mem_cons_of_mem _ hq)
    · intro q hq
      rcases List.mem_cons.1 hq with rfl | hq
      · exact h _ (List.mem_cons_self ..)
      · exact ih (fun p hp => h p (List.mem_cons_of_mem _ hp)) q hq
def oV (acc : List (Nat × Nat)) : V := match acc with | [] => .t .nil | _ => .ref 1 0 acc.length
def oH (far : List Int) (acc : List (Nat × Nat)) : Heap := match acc with | [] => [.pure 1 (til far)] | _ => [.pure 1 (til far), .pure 1 (ptl acc)]
end Go.Proofs.Ytanlmanifpknoaa.Ev

