/- The plain laws of this claim: over numbers and lists alone. -/
import Derived.Test.YtldeaeeolibpjacQx
namespace Go.Proofs.Ytldeaeeolibpjac.Q.Pure
open Go.RowKit Go.Proofs.Ytldeaeeolibpjac Go.Proofs.Ytldeaeeolibpjac.Q Go.Proofs.YtldeaeeolibpjacW.PrintWords Go.Proofs.YtldeaeeolibpjacW.PrintLast Go.Proofs.YtldeaeeolibpjacW.PrintMore

theorem w64 {a : Int} (h0 : -9223372036854775808 ≤ a) (h1 : a ≤ 9223372036854775807) : wrap64 a = a := by unfold wrap64; omega

/-- a, a + 1, .., n numbers. -/
def mk (a : Int) : Nat → List Int
  | 0 => []
  | n + 1 => a :: mk (a + 1) n
theorem mk_length (a : Int) (n : Nat) : (mk a n).length = n := by induction n generalizing a with
  | zero => rfl
  | succ n ih => simp [mk, ih]
theorem mk_at (n : Nat) : ∀ (a : Int) (i : Nat), i < n → (mk a n)[i]? = some (a + i) := by
  induction n with
  | zero => intro a i h; omega
  | succ n ih =>
    intro a i h
    cases i with
    | zero => simp [mk]
    | succ i => simp only [mk, List.getElem?_cons_succ]; rw [ih (a + 1) i (by omega)]; congr 1; omega
theorem rd_at {l : List Int} {i : Nat} {x : Int} (h : l[i]? = some x) : rd l (i : Int) = x := by simp [rd, h]
theorem rd_of {l : List Int} {i : Nat} (h : i < l.length) : l[i]? = some (rd l (i : Int)) := by simp [rd, h]

theorem toIntS_l0 (l : List Int) (hl : l.length ≤ 35184372088832) : ∀ (d k i : Nat) (y : List Int), y.length = l.length → i + d = l.length → (∀ j, j < i → y[j]? = l[j]?) → d < k → laws_toIntS.l0 k l y (i : Int) = some l := by
  intro d
  induction d with
  | zero =>
    intro k i y hy hi hj hk
    obtain ⟨k, rfl⟩ : ∃ m, k = m + 1 := ⟨k - 1, by omega⟩
    simp only [laws_toIntS.l0]
    rw [if_neg (by omega)]
    congr 1
    apply List.ext_getElem?
    intro j
    rcases Nat.lt_or_ge j i with h | h
    · exact hj j h
    · rw [List.getElem?_eq_none (by omega), List.getElem?_eq_none (by omega)]
  | succ d ih =>
    intro k i y hy hi hj hk
    obtain ⟨k, rfl⟩ : ∃ m, k = m + 1 := ⟨k - 1, by omega⟩
    simp only [laws_toIntS.l0]
    rw [if_pos (by omega), if_pos (by omega), if_pos (by omega), w64 (by omega) (by omega)]
    have := ih k (i + 1) (y.set i (rd l i)) (by simpa using hy) (by omega) (fun j h => by
      rcases Nat.lt_or_ge j i with h2 | h2
      · rw [List.getElem?_set_ne (by omega)]; exact hj j h2
      · have : j = i := by omega
        subst this
        rw [List.getElem?_set_self (by omega)]
        exact (rd_of (by omega)).symm) (by omega)
    simpa using this
theorem toIntS_ev (l : List Int) (hl : l.length ≤ 35184372088832) : ∃ K, ∀ k, K ≤ k → laws_toIntS.f k l = some l := by
  refine ⟨l.length + 1, fun k hk => ?_⟩
  unfold laws_toIntS.f
  rw [if_pos (by omega), if_pos (by simpa using hl)]
  exact toIntS_l0 l hl l.length k 0 _ (by simp) (by omega) (fun j h => by omega) (by omega)

theorem eqIntS_l0 (a b : List Int) (hl : a.length = b.length) (hb : a.length ≤ 9223372036854775000) : ∀ (d k i : Nat), i + d = a.length → (∀ j, j < i → a[j]? = b[j]?) → d < k → laws_eqIntS.l0 k a b (i : Int) = some (decide (a = b)) := by
  intro d
  induction d with
  | zero =>
    intro k i hi hj hk
    obtain ⟨k, rfl⟩ : ∃ m, k = m + 1 := ⟨k - 1, by omega⟩
    simp only [laws_eqIntS.l0]
    rw [if_neg (by omega)]
    have : a = b := by
      apply List.ext_getElem?
      intro j
      rcases Nat.lt_or_ge j i with h | h
      · exact hj j h
      · rw [List.getElem?_eq_none (by omega), List.getElem?_eq_none (by omega)]
    simp [this]
  | succ d ih =>
    intro k i hi hj hk
    obtain ⟨k, rfl⟩ : ∃ m, k = m + 1 := ⟨k - 1, by omega⟩
    simp only [laws_eqIntS.l0]
    rw [if_pos (by omega), if_pos (by omega), if_pos (by omega)]
    by_cases he : rd a (i : Int) = rd b (i : Int)
    · rw [if_pos he, w64 (by omega) (by omega)]
      have := ih k (i + 1) (by omega) (fun j h => by
        rcases Nat.lt_or_ge j i with h2 | h2
        · exact hj j h2
        · have : j = i := by omega
          subst this
          rw [rd_of (by omega), rd_of (by omega), he]) (by omega)
      simpa using this
    · rw [if_neg he]
      have : a ≠ b := fun h => he (by rw [h])
      simp [this]
theorem eqIntS_ev (a b : List Int) (hb : a.length ≤ 9223372036854775000) : ∃ K, ∀ k, K ≤ k → laws_eqIntS.f k a b = some (decide (a = b)) := by
  refine ⟨a.length + 1, fun k hk => ?_⟩
  unfold laws_eqIntS.f
  by_cases hl : a.length = b.length
  · rw [if_pos (by omega)]
    exact eqIntS_l0 a b hl hb a.length k 0 (by omega) (fun j h => by omega) (by omega)
  · rw [if_neg (by omega)]
    have : a ≠ b := fun h => hl (by rw [h])
    simp [this]

theorem spec_l1In_eq (x a b : Int) : spec_l1In.f x a b = some (decide (a ≤ x ∧ x ≤ b)) := by
  unfold spec_l1In.f
  by_cases h : a ≤ x <;> simp [h]
theorem impl_in_eq (x a b : Int) : impl_in.f x a b = some (decide (a ≤ x ∧ x ≤ b)) := by
  unfold impl_in.f
  by_cases h : a ≤ x <;> simp [h]

theorem szIntS_eq (l : List Int) (a : Int) (hl : l.length ≤ maxLen) (h0 : 0 ≤ a) (h1 : a ≤ 9223372036854775807) : laws_szIntS.f l a = some (if a < l.length then -1 else a - l.length) := by
  unfold maxLen at hl
  unfold laws_szIntS.f
  rw [w64 (by omega) (by omega)]
  by_cases h : a < l.length
  · rw [if_pos (by omega), if_pos h]
  · rw [if_neg (by omega), if_neg h]
theorem drop_cons {α : Type} (l : List α) (i : Nat) (h : i < l.length) : ∃ y t, l.drop i = y :: t ∧ l[i]? = some y ∧ l.drop (i + 1) = t :=
  ⟨l[i], l.drop (i + 1), List.drop_eq_getElem_cons h, List.getElem?_eq_getElem h, rfl⟩
/-- All numbers of a list lie between two. -/
def allB (l : List Int) (a b : Int) : Bool := l.all fun x => decide (a ≤ x ∧ x ≤ b)
theorem l1All_l0 (l : List Int) (a b : Int) (hl : l.length ≤ 9223372036854775000) : ∀ (d k i : Nat), i + d = l.length → d < k → spec_l1All.l0 k a b l (l.length : Int) (i : Int) = some (allB (l.drop i) a b) := by
  intro d
  induction d with
  | zero =>
    intro k i hi hk
    obtain ⟨k, rfl⟩ : ∃ m, k = m + 1 := ⟨k - 1, by omega⟩
    simp only [spec_l1All.l0]
    rw [if_neg (by omega), List.drop_eq_nil_of_le (by omega)]
    rfl
  | succ d ih =>
    intro k i hi hk
    obtain ⟨k, rfl⟩ : ∃ m, k = m + 1 := ⟨k - 1, by omega⟩
    simp only [spec_l1All.l0]
    obtain ⟨y, t, hd, hy, ht⟩ := drop_cons l i (by omega)
    rw [if_pos (by omega), if_pos (by omega), if_pos (by omega), spec_l1In_eq, hd]
    simp only [Option.bind_some, rd_at hy]
    have := ih k (i + 1) (by omega) (by omega)
    rw [ht] at this
    rw [show ((i + 1 : Nat) : Int) = (i : Int) + 1 by omega] at this
    by_cases h : a ≤ y ∧ y ≤ b
    · rw [if_pos (by simpa using h), w64 (by omega) (by omega), this]
      simp [allB, h]
    · rw [if_neg (by simpa using h)]
      simp [allB, h]
theorem l1All_ev (l : List Int) (a b : Int) (hl : l.length ≤ 9223372036854775000) : ∃ K, ∀ k, K ≤ k → spec_l1All.f k l a b = some (allB l a b) := by
  refine ⟨l.length + 1, fun k hk => ?_⟩
  unfold spec_l1All.f
  simpa using l1All_l0 l a b hl l.length k 0 (by omega) (by omega)
theorem anyO_some {α : Type} {F : α → Option Bool} {p : α → Bool} (l : List α) (h : ∀ x ∈ l, F x = some (p x)) : X.anyO F l = some (l.any p) := by
  induction l with
  | nil => rfl
  | cons x l ih =>
    simp only [X.anyO, h x (by simp), Option.bind_some, ih (fun y hy => h y (by simp [hy])), List.any_cons]
    cases p x <;> simp
theorem areIn_eq (l : List Int) (a b c d : Int) : impl_areIn.f l a b c d = some (decide (c ≤ l.length ∧ (l.length : Int) ≤ d) && allB l a b) := by
  unfold impl_areIn.f
  rw [impl_in_eq]
  simp only [Option.bind_some]
  by_cases h : c ≤ l.length ∧ (l.length : Int) ≤ d
  · rw [if_pos (by simpa using h)]
    unfold slices_ContainsFunc_int_int_at_impl_areIn_1.f
    rw [anyO_some (p := fun x => !decide (a ≤ x ∧ x ≤ b)) l (fun x _ => by simp [impl_areIn_1.f, impl_in_eq])]
    simp only [Option.bind_some, h, and_self, decide_true, Bool.true_and]
    congr 1
    simp [allB, List.all_eq_not_any_not]
  · rw [if_neg (by simpa using h)]
    simp [h]

/-- From index i on each number is above the one before. -/
def Rises (g : List Int) (i : Nat) : Prop := ∀ j : Nat, i ≤ j → 1 ≤ j → j < g.length → rd g ((j - 1 : Nat) : Int) < rd g (j : Int)
theorem l1Rising_l0 (g : List Int) (a b : Int) (hg : g.length ≤ 1000000) : ∀ (d k i : Nat), i + d = g.length → d < k →
    ∃ r, spec_l1Rising.l0 k g a b g (g.length : Int) (i : Int) = some r ∧ (r = true ↔ allB (g.drop i) a b = true ∧ Rises g i) := by
  intro d
  induction d with
  | zero =>
    intro k i hi hk
    obtain ⟨k, rfl⟩ : ∃ m, k = m + 1 := ⟨k - 1, by omega⟩
    simp only [spec_l1Rising.l0]
    rw [if_neg (by omega), List.drop_eq_nil_of_le (by omega)]
    exact ⟨true, rfl, by simp [allB]; intro j h1 h2 h3; omega⟩
  | succ d ih =>
    intro k i hi hk
    obtain ⟨k, rfl⟩ : ∃ m, k = m + 1 := ⟨k - 1, by omega⟩
    obtain ⟨z, t, hd, hz, ht⟩ := drop_cons g i (by omega)
    obtain ⟨r, h1, h2⟩ := ih k (i + 1) (by omega) (by omega)
    rw [show ((i + 1 : Nat) : Int) = (i : Int) + 1 by omega] at h1
    rw [ht] at h2
    simp only [spec_l1Rising.l0]
    rw [if_pos (by omega), if_pos (by omega), if_pos (by omega), spec_l1In_eq, w64 (a := (i : Int) + 1) (by omega) (by omega), h1, hd]
    simp only [Option.bind_some]
    have hz' := rd_at hz
    have hal : allB (z :: t) a b = true ↔ (a ≤ z ∧ z ≤ b) ∧ allB t a b = true := by simp [allB]
    by_cases hb : a ≤ z ∧ z ≤ b
    · rw [if_pos (by rw [hz']; simpa using hb)]
      by_cases h0 : (i : Int) > 0
      · rw [if_pos h0, w64 (by omega) (by omega), if_pos (by omega), if_pos (by omega)]
        by_cases hlt : rd g ((i : Int) - 1) ≥ rd g (i : Int)
        · rw [if_pos hlt]
          refine ⟨false, rfl, ⟨fun h => (by cases h), fun h => ?_⟩⟩
          have h3 := h.2 i (Nat.le_refl _) (by omega) (by omega)
          rw [show ((i - 1 : Nat) : Int) = (i : Int) - 1 by omega] at h3
          omega
        · rw [if_neg hlt]
          refine ⟨r, rfl, h2.trans ?_⟩
          rw [hal]
          constructor
          · rintro ⟨h4, h5⟩
            refine ⟨⟨hb, h4⟩, fun j h6 h7 h8 => ?_⟩
            rcases Nat.lt_or_ge i j with h9 | h9
            · exact h5 j (by omega) h7 h8
            · have : j = i := by omega
              subst this
              rw [show ((j - 1 : Nat) : Int) = (j : Int) - 1 by omega]
              omega
          · rintro ⟨⟨_, h4⟩, h5⟩
            exact ⟨h4, fun j h6 h7 h8 => h5 j (by omega) h7 h8⟩
      · rw [if_neg h0]
        refine ⟨r, rfl, h2.trans ?_⟩
        rw [hal]
        constructor
        · rintro ⟨h4, h5⟩
          exact ⟨⟨hb, h4⟩, fun j h6 h7 h8 => h5 j (by omega) h7 h8⟩
        · rintro ⟨⟨_, h4⟩, h5⟩
          exact ⟨h4, fun j h6 h7 h8 => h5 j (by omega) h7 h8⟩
    · rw [if_neg (by rw [hz']; simpa using hb)]
      exact ⟨false, rfl, ⟨fun h => (by cases h), fun h => absurd (hal.1 h.1).1 hb⟩⟩

theorem rdb_at {l : List Bool} {i : Nat} {x : Bool} (h : l[i]? = some x) : rdOf false l (i : Int) = x := by simp [rdOf, h]
theorem rdl_at {l : List (List Int)} {i : Nat} {x : List Int} (h : l[i]? = some x) : rd_L2 l (i : Int) = x := by simp [rd_L2, h]
theorem szBoolS_eq (l : List Bool) (a : Int) (hl : l.length ≤ maxLen) (h0 : 0 ≤ a) (h1 : a ≤ 9223372036854775807) : laws_szBoolS.f l a = some (if a < l.length then -1 else a - l.length) := by
  unfold maxLen at hl
  unfold laws_szBoolS.f
  rw [w64 (by omega) (by omega)]
  by_cases h : a < l.length
  · rw [if_pos (by omega), if_pos h]
  · rw [if_neg (by omega), if_neg h]
theorem szIntSS_l0 (l : List (List Int)) (hl : l.length ≤ maxLen) (hv : ∀ v ∈ l, v.length ≤ maxLen) : ∀ (d i : Nat) (a : Int), i + d = l.length → 0 ≤ a → a ≤ 1048576 →
    ∃ (r : Int) (K : Nat), (0 ≤ r → r ≤ a ∧ ∀ v ∈ l.drop i, (v.length : Int) ≤ a) ∧ ∀ k, K ≤ k → laws_szIntSS.l0 k l a (i : Int) = some r := by
  have hm : l.length ≤ 9223372036854775807 := by unfold maxLen at hl; omega
  intro d
  induction d with
  | zero =>
    intro i a hi h0 h1
    refine ⟨a, 1, by rw [List.drop_eq_nil_of_le (by omega)]; simp, fun k hk => ?_⟩
    obtain ⟨k, rfl⟩ : ∃ m, k = m + 1 := ⟨k - 1, by omega⟩
    simp only [laws_szIntSS.l0]
    rw [if_neg (by omega)]
  | succ d ih =>
    intro i a hi h0 h1
    obtain ⟨z, t, hd, hz, ht⟩ := drop_cons l i (by omega)
    have hzl := hv z (List.mem_of_getElem? hz)
    have hs := szIntS_eq z a hzl h0 (by omega)
    by_cases hlt : a < z.length
    · rw [if_pos hlt] at hs
      refine ⟨-1, 1, by omega, fun k hk => ?_⟩
      obtain ⟨k, rfl⟩ : ∃ m, k = m + 1 := ⟨k - 1, by omega⟩
      simp only [laws_szIntSS.l0]
      rw [if_pos (by omega), if_pos (by omega), rdl_at hz, hs, Option.bind_some, if_pos (by omega)]
    · rw [if_neg hlt] at hs
      obtain ⟨r, K, h2, h3⟩ := ih (i + 1) (a - z.length) (by omega) (by omega) (by omega)
      refine ⟨r, K + 1, fun hr => ⟨by have := (h2 hr).1; omega, fun v hvm => ?_⟩, fun k hk => ?_⟩
      · rw [hd, List.mem_cons] at hvm
        rcases hvm with rfl | hvm
        · omega
        · rw [ht] at h2
          have := (h2 hr).2 v hvm
          omega
      · obtain ⟨k, rfl⟩ : ∃ m, k = m + 1 := ⟨k - 1, by omega⟩
        have := h3 k (by omega)
        rw [show ((i + 1 : Nat) : Int) = (i : Int) + 1 by omega] at this
        simp only [laws_szIntSS.l0]
        rw [if_pos (by omega), if_pos (by omega), rdl_at hz, hs, Option.bind_some, if_neg (by omega), w64 (by omega) (by omega), this]
theorem szIntSS_ev (l : List (List Int)) (a : Int) (hl : l.length ≤ maxLen) (hv : ∀ v ∈ l, v.length ≤ maxLen) (h0 : 0 ≤ a) (h1 : a ≤ 1048576) :
    ∃ (r : Int) (K : Nat), (0 ≤ r → r ≤ a ∧ (l.length : Int) ≤ a ∧ ∀ v ∈ l, (v.length : Int) ≤ a) ∧ ∀ k, K ≤ k → laws_szIntSS.f k l a = some r := by
  have hm : l.length ≤ 9223372036854775807 := by unfold maxLen at hl; omega
  by_cases h : a - (l.length : Int) < 0
  · refine ⟨-1, 0, by omega, fun k _ => ?_⟩
    unfold laws_szIntSS.f
    rw [w64 (by omega) (by omega), if_pos h]
  · obtain ⟨r, K, h2, h3⟩ := szIntSS_l0 l hl hv l.length 0 (a - l.length) (by omega) (by omega) (by omega)
    refine ⟨r, K, fun hr => ⟨by have := (h2 hr).1; omega, by omega, fun v hvm => ?_⟩, fun k hk => ?_⟩
    · have := (h2 hr).2 v (by simpa using hvm)
      omega
    · unfold laws_szIntSS.f
      rw [w64 (by omega) (by omega), if_neg h]
      exact h3 k hk
theorem toBoolS_l0 (l : List Bool) (hl : l.length ≤ 35184372088832) : ∀ (d k i : Nat) (y : List Bool), y.length = l.length → i + d = l.length → (∀ j, j < i → y[j]? = l[j]?) → d < k → laws_toBoolS.l0 k l y (i : Int) = some l := by
  intro d
  induction d with
  | zero =>
    intro k i y hy hi hj hk
    obtain ⟨k, rfl⟩ : ∃ m, k = m + 1 := ⟨k - 1, by omega⟩
    simp only [laws_toBoolS.l0]
    rw [if_neg (by omega)]
    congr 1
    apply List.ext_getElem?
    intro j
    rcases Nat.lt_or_ge j i with h | h
    · exact hj j h
    · rw [List.getElem?_eq_none (by omega), List.getElem?_eq_none (by omega)]
  | succ d ih =>
    intro k i y hy hi hj hk
    obtain ⟨k, rfl⟩ : ∃ m, k = m + 1 := ⟨k - 1, by omega⟩
    obtain ⟨z, t, hd, hz, ht⟩ := drop_cons l i (by omega)
    simp only [laws_toBoolS.l0]
    rw [if_pos (by omega), if_pos (by omega), if_pos (by omega), rdb_at hz, w64 (by omega) (by omega)]
    have := ih k (i + 1) (y.set i z) (by simpa using hy) (by omega) (fun j hj2 => by
      rw [List.getElem?_set]
      by_cases hij : i = j
      · subst hij
        rw [if_pos rfl, if_pos (by omega), hz]
      · rw [if_neg hij]
        exact hj j (by omega)) (by omega)
    rw [show ((i + 1 : Nat) : Int) = (i : Int) + 1 by omega] at this
    exact this
theorem toBoolS_ev (l : List Bool) (hl : l.length ≤ 35184372088832) : ∃ K, ∀ k, K ≤ k → laws_toBoolS.f k l = some l := by
  refine ⟨l.length + 1, fun k hk => ?_⟩
  unfold laws_toBoolS.f
  rw [if_pos (by omega), if_pos (by omega)]
  exact toBoolS_l0 l hl l.length k 0 _ (by simp) (by omega) (by intro j hj; omega) (by omega)
theorem toIntSS_l0 (l : List (List Int)) (hl : l.length ≤ 1048576) (hv : ∀ v ∈ l, v.length ≤ 1048576) : ∀ (d i : Nat) (y : List (List Int)), i + d = l.length → y.length = l.length → (∀ j, j < i → y[j]? = l[j]?) →
    ∃ (K : Nat), ∀ k, K ≤ k → laws_toIntSS.l0 k l y (i : Int) = some l := by
  intro d
  induction d with
  | zero =>
    intro i y hi hy hj
    refine ⟨1, fun k hk => ?_⟩
    obtain ⟨k, rfl⟩ : ∃ m, k = m + 1 := ⟨k - 1, by omega⟩
    simp only [laws_toIntSS.l0]
    rw [if_neg (by omega)]
    congr 1
    apply List.ext_getElem?
    intro j
    rcases Nat.lt_or_ge j i with h | h
    · exact hj j h
    · rw [List.getElem?_eq_none (by omega), List.getElem?_eq_none (by omega)]
  | succ d ih =>
    intro i y hi hy hj
    obtain ⟨z, t, hd, hz, ht⟩ := drop_cons l i (by omega)
    obtain ⟨K1, e1⟩ := toIntS_ev z (by have := hv z (List.mem_of_getElem? hz); omega)
    obtain ⟨K2, e2⟩ := ih (i + 1) (y.set i z) (by omega) (by simpa using hy) (fun j hj2 => by
      rw [List.getElem?_set]
      by_cases hij : i = j
      · subst hij
        rw [if_pos rfl, if_pos (by omega), hz]
      · rw [if_neg hij]
        exact hj j (by omega))
    refine ⟨K1 + K2 + 1, fun k hk => ?_⟩
    obtain ⟨k, rfl⟩ : ∃ m, k = m + 1 := ⟨k - 1, by omega⟩
    have h2 := e2 k (by omega)
    rw [show ((i + 1 : Nat) : Int) = (i : Int) + 1 by omega] at h2
    simp only [laws_toIntSS.l0]
    rw [if_pos (by omega), if_pos (by omega), rdl_at hz, e1 k (by omega), Option.bind_some, if_pos (by omega), w64 (by omega) (by omega)]
    exact h2
theorem toIntSS_ev (l : List (List Int)) (hl : l.length ≤ 1048576) (hv : ∀ v ∈ l, v.length ≤ 1048576) : ∃ K, ∀ k, K ≤ k → laws_toIntSS.f k l = some l := by
  obtain ⟨K, h⟩ := toIntSS_l0 l hl hv l.length 0 (List.replicate ((l.length : Int)).toNat []) (by omega) (by simp) (by intro j hj; omega)
  refine ⟨K, fun k hk => ?_⟩
  unfold laws_toIntSS.f
  rw [if_pos (by omega), if_pos (by omega)]
  exact h k hk
theorem eqBoolS_l0 (L : List Bool) (hl : L.length ≤ 1048576) : ∀ (d k i : Nat), i + d = L.length → d < k → laws_eqBoolS.l0 k L L (i : Int) = some true := by
  intro d
  induction d with
  | zero =>
    intro k i hi hk
    obtain ⟨k, rfl⟩ : ∃ m, k = m + 1 := ⟨k - 1, by omega⟩
    simp only [laws_eqBoolS.l0]
    rw [if_neg (by omega)]
  | succ d ih =>
    intro k i hi hk
    obtain ⟨k, rfl⟩ : ∃ m, k = m + 1 := ⟨k - 1, by omega⟩
    have := ih k (i + 1) (by omega) (by omega)
    rw [show ((i + 1 : Nat) : Int) = (i : Int) + 1 by omega] at this
    simp only [laws_eqBoolS.l0]
    rw [if_pos (by omega), if_pos (by omega), if_pos (by omega), if_neg (by simp), w64 (by omega) (by omega), this]
theorem eqBoolS_ev (L : List Bool) (hl : L.length ≤ 1048576) : ∃ K, ∀ k, K ≤ k → laws_eqBoolS.f k L L = some true := by
  refine ⟨L.length + 1, fun k hk => ?_⟩
  unfold laws_eqBoolS.f
  rw [if_pos rfl]
  exact eqBoolS_l0 L hl L.length k 0 (by omega) (by omega)
theorem eqIntSS_l0 (L : List (List Int)) (hl : L.length ≤ 1048576) (hv : ∀ v ∈ L, v.length ≤ 1048576) : ∀ (d i : Nat), i + d = L.length → ∃ K, ∀ k, K ≤ k → laws_eqIntSS.l0 k L L (i : Int) = some true := by
  intro d
  induction d with
  | zero =>
    intro i hi
    refine ⟨1, fun k hk => ?_⟩
    obtain ⟨k, rfl⟩ : ∃ m, k = m + 1 := ⟨k - 1, by omega⟩
    simp only [laws_eqIntSS.l0]
    rw [if_neg (by omega)]
  | succ d ih =>
    intro i hi
    obtain ⟨z, t, hd, hz, ht⟩ := drop_cons L i (by omega)
    obtain ⟨K1, e1⟩ := eqIntS_ev z z (by have := hv z (List.mem_of_getElem? hz); omega)
    obtain ⟨K2, e2⟩ := ih (i + 1) (by omega)
    refine ⟨K1 + K2 + 1, fun k hk => ?_⟩
    obtain ⟨k, rfl⟩ : ∃ m, k = m + 1 := ⟨k - 1, by omega⟩
    have h2 := e2 k (by omega)
    rw [show ((i + 1 : Nat) : Int) = (i : Int) + 1 by omega] at h2
    simp only [laws_eqIntSS.l0]
    rw [if_pos (by omega), if_pos (by omega), if_pos (by omega), rdl_at hz, e1 k (by omega), Option.bind_some, if_pos (by simp), w64 (by omega) (by omega)]
    exact h2
theorem eqIntSS_ev (L : List (List Int)) (hl : L.length ≤ 1048576) (hv : ∀ v ∈ L, v.length ≤ 1048576) : ∃ K, ∀ k, K ≤ k → laws_eqIntSS.f k L L = some true := by
  obtain ⟨K, h⟩ := eqIntSS_l0 L hl hv L.length 0 (by omega)
  refine ⟨K, fun k hk => ?_⟩
  unfold laws_eqIntSS.f
  rw [if_pos rfl]
  exact h k hk
/-- A party with a state of it. -/
def paB (T : List Int) (s : Int) (o : List Bool) (t : Bool) : Bool := (decide (1 ≤ (T.length : Int) ∧ (T.length : Int) ≤ 8) && (allB T 1 1000 && decide (1 ≤ s ∧ s ≤ 3))) && (decide ((o.length : Int) = T.length) && decide (t ∈ o))
theorem spec_paState_l0 (o : List Bool) (t : Bool) (ho : o.length ≤ 1048576) : ∀ (d k i : Nat), i + d = o.length → d < k → spec_paState.l0 k o (o.length : Int) (i : Int) o t = some (decide (t ∈ o.drop i)) := by
  intro d
  induction d with
  | zero =>
    intro k i hi hk
    obtain ⟨k, rfl⟩ : ∃ m, k = m + 1 := ⟨k - 1, by omega⟩
    simp only [spec_paState.l0]
    rw [if_neg (by omega), List.drop_eq_nil_of_le (by omega)]
    simp
  | succ d ih =>
    intro k i hi hk
    obtain ⟨k, rfl⟩ : ∃ m, k = m + 1 := ⟨k - 1, by omega⟩
    obtain ⟨z, u, hd, hz, hu⟩ := drop_cons o i (by omega)
    have := ih k (i + 1) (by omega) (by omega)
    rw [show ((i + 1 : Nat) : Int) = (i : Int) + 1 by omega, hu] at this
    simp only [spec_paState.l0]
    rw [if_pos (by omega), if_pos (by omega), if_pos (by omega), rdb_at hz, w64 (by omega) (by omega), this, hd]
    cases z <;> cases t <;> simp
theorem spec_paAsked_ev (T : List Int) (s : Int) (o : List Bool) (t : Bool) (hT : T.length ≤ 1048576) (ho : o.length ≤ 1048576) : ∃ K, ∀ k, K ≤ k → spec_paAsked.f k T s o t = some (paB T s o t) := by
  obtain ⟨K1, e1⟩ := l1All_ev T 1 1000 (by omega)
  refine ⟨K1 + o.length + 1, fun k hk => ?_⟩
  have e2 := spec_paState_l0 o t ho o.length k 0 (by omega) (by omega)
  rw [show ((0 : Nat) : Int) = 0 from rfl, List.drop_zero] at e2
  unfold spec_paAsked.f spec_paGood.f spec_paState.f
  rw [spec_l1In_eq, spec_l1In_eq, e1 k (by omega), e2]
  by_cases h1 : 1 ≤ (T.length : Int) ∧ (T.length : Int) ≤ 8 <;> cases h2 : allB T 1 1000 <;> by_cases h3 : 1 ≤ s ∧ s ≤ 3 <;> by_cases h4 : (o.length : Int) = T.length <;> simp [paB, h1, h2, h3, h4]
theorem indexb_l0 (l : List Bool) (a : Bool) (hl : l.length ≤ 1048576) : ∀ (d k i : Nat), i + d = l.length → d < k → ∃ r, slices_Index_bool_bool.l0 k l a (l.length : Int) (i : Int) = some r ∧ decide (r ≥ 0) = decide (a ∈ l.drop i) := by
  intro d
  induction d with
  | zero =>
    intro k i hi hk
    obtain ⟨k, rfl⟩ : ∃ m, k = m + 1 := ⟨k - 1, by omega⟩
    simp only [slices_Index_bool_bool.l0]
    rw [if_neg (by omega), List.drop_eq_nil_of_le (by omega)]
    exact ⟨-1, rfl, by simp⟩
  | succ d ih =>
    intro k i hi hk
    obtain ⟨k, rfl⟩ : ∃ m, k = m + 1 := ⟨k - 1, by omega⟩
    obtain ⟨y, t, hd, hy, ht⟩ := drop_cons l i (by omega)
    obtain ⟨r, h1, h2⟩ := ih k (i + 1) (by omega) (by omega)
    rw [ht] at h2
    rw [show ((i + 1 : Nat) : Int) = (i : Int) + 1 by omega] at h1
    simp only [slices_Index_bool_bool.l0]
    rw [if_pos (by omega), if_pos (by omega), if_pos (by omega), rdb_at hy, w64 (by omega) (by omega), h1, hd]
    by_cases h : a = y
    · subst h
      rw [if_pos (by simp)]
      exact ⟨i, rfl, by simp⟩
    · rw [if_neg (by simpa using h)]
      exact ⟨r, rfl, by rw [h2]; simp [h]⟩
theorem impl_hasState_ev (T : List Int) (s : Int) (o : List Bool) (t : Bool) (_hT : T.length ≤ 1048576) (ho : o.length ≤ 1048576) : ∃ K, ∀ k, K ≤ k → impl_Party_hasState.f k T s o t = some (paB T s o t) := by
  refine ⟨o.length + 1, fun k hk => ?_⟩
  obtain ⟨r, e1, e2⟩ := indexb_l0 o t ho o.length k 0 (by omega) (by omega)
  rw [show ((0 : Nat) : Int) = 0 from rfl] at e1
  rw [List.drop_zero] at e2
  unfold impl_Party_hasState.f impl_IsParty.f impl_isStateOf.f slices_Contains_bool_bool.f slices_Index_bool_bool.f
  rw [areIn_eq, impl_in_eq, e1]
  simp only [Option.bind_some, e2]
  by_cases h1 : 1 ≤ (T.length : Int) ∧ (T.length : Int) ≤ 8 <;> cases h2 : allB T 1 1000 <;> by_cases h3 : 1 ≤ s ∧ s ≤ 3 <;> by_cases h4 : (o.length : Int) = T.length <;> simp [paB, h1, h2, h3, h4]
/-- Crews that are valid. -/
def loB (W : List Int) (R : List Bool) (m : Int) : Bool := decide (1 ≤ (W.length : Int) ∧ (W.length : Int) ≤ 7) && (allB W 1 500 && (decide ((R.length : Int) = W.length) && decide (0 ≤ m ∧ m ≤ 2000)))
theorem spec_loGood_ev (W : List Int) (R : List Bool) (m : Int) (hW : W.length ≤ 1048576) : ∃ K, ∀ k, K ≤ k → spec_loGood.f k W R m = some (loB W R m) := by
  obtain ⟨K1, e1⟩ := l1All_ev W 1 500 (by omega)
  refine ⟨K1, fun k hk => ?_⟩
  unfold spec_loGood.f
  rw [spec_l1In_eq, spec_l1In_eq, e1 k (by omega)]
  by_cases h1 : 1 ≤ (W.length : Int) ∧ (W.length : Int) ≤ 7 <;> cases h2 : allB W 1 500 <;> by_cases h3 : 0 ≤ m ∧ m ≤ 2000 <;> by_cases h4 : (R.length : Int) = W.length <;> simp [loB, h1, h2, h3, h4]
theorem impl_IsCrew_eq (W : List Int) (R : List Bool) (m : Int) : impl_IsCrew.f W R m = some (loB W R m) := by
  unfold impl_IsCrew.f
  rw [areIn_eq, impl_in_eq]
  by_cases h1 : 1 ≤ (W.length : Int) ∧ (W.length : Int) ≤ 7 <;> cases h2 : allB W 1 500 <;> by_cases h3 : 0 ≤ m ∧ m ≤ 2000 <;> by_cases h4 : (R.length : Int) = W.length <;> simp [loB, h1, h2, h3, h4]

theorem two_of {d : List Int} (h : d.length = 2) : ∃ x y, d = [x, y] := by
  match d, h with
  | [x, y], _ => exact ⟨x, y, rfl⟩
/-- One danger comes before another. -/
def Bef (a b : List Int) : Prop := rd a 0 < rd b 0 ∨ (rd a 0 = rd b 0 ∧ rd a 1 < rd b 1)
/-- A danger of so many things. -/
def DOk (t : Int) (d : List Int) : Prop := d.length = 2 ∧ allB d 0 (t - 1) = true ∧ rd d 0 < rd d 1
/-- From index i on: dangers that are valid, and in order. -/
def KFrom (t : Int) (D : List (List Int)) (i : Nat) : Prop := ∀ j d, i ≤ j → D[j]? = some d → DOk t d ∧ ∀ e, 1 ≤ j → D[j - 1]? = some e → Bef e d
theorem keBefore_at (a b : List Int) (ha : a.length = 2) (hb : b.length = 2) : ∃ r, spec_keBefore.f a b = some r ∧ (r = true ↔ Bef a b) := by
  obtain ⟨x, y, rfl⟩ := two_of ha
  obtain ⟨u, v, rfl⟩ := two_of hb
  unfold spec_keBefore.f Bef
  by_cases h1 : x < u
  · exact ⟨true, by simp [rd, h1], by simp [rd, h1]⟩
  · by_cases h2 : x = u
    · subst h2
      exact ⟨decide (y < v), by simp [rd], by simp [rd]⟩
    · exact ⟨false, by simp [rd, h1, h2], by simp [rd, h1, h2]⟩
theorem cmp_at (x u : Int) : cmp_Compare_int.f x u = some (if x < u then -1 else if x > u then 1 else 0) := by
  unfold cmp_Compare_int.f cmp_isNaN_int.f
  by_cases h1 : x < u <;> by_cases h2 : x > u <;> simp [h1, h2]
theorem compare_at (a b : List Int) (ha : a.length = 2) (hb : b.length = 2) (k : Nat) (hk : 3 ≤ k) : ∃ r, slices_Compare_int_int.f k a b = some r ∧ (r ≥ 0 ↔ ¬ Bef a b) := by
  obtain ⟨x, y, rfl⟩ := two_of ha
  obtain ⟨u, v, rfl⟩ := two_of hb
  obtain ⟨k, rfl⟩ : ∃ m, k = m + 3 := ⟨k - 3, by omega⟩
  unfold slices_Compare_int_int.f Bef
  have w1 : wrap64 1 = 1 := w64 (by omega) (by omega)
  have w2 : wrap64 2 = 2 := w64 (by omega) (by omega)
  by_cases h1 : x < u
  · exact ⟨-1, by simp [slices_Compare_int_int.l0, cmp_at, rd, h1], by simp [rd, h1]⟩
  · by_cases h2 : x > u
    · exact ⟨1, by simp [slices_Compare_int_int.l0, cmp_at, rd, h1, h2], by simp [rd, h1]; omega⟩
    · have h3 : x = u := by omega
      subst h3
      by_cases h4 : y < v
      · exact ⟨-1, by simp [slices_Compare_int_int.l0, cmp_at, rd, h4, w1], by simp [rd, h4]⟩
      · by_cases h5 : y > v
        · exact ⟨1, by simp [slices_Compare_int_int.l0, cmp_at, rd, h4, h5, w1], by simp [rd, h4]⟩
        · have h6 : y = v := by omega
          subst h6
          exact ⟨0, by simp [slices_Compare_int_int.l0, cmp_at, rd, w1, w2], by simp [rd]⟩
theorem rises_two {d : List Int} (h : d.length = 2) : Rises d 0 ↔ rd d 0 < rd d 1 := by
  constructor
  · intro h1
    exact h1 1 (by omega) (by omega) (by omega)
  · intro h1 j _ h2 h3
    have : j = 1 := by omega
    subst this
    exact h1
theorem kfrom_step {t : Int} {D : List (List Int)} {i : Nat} {d : List Int} (hd : D[i]? = some d) : KFrom t D i ↔ (DOk t d ∧ ∀ e, 1 ≤ i → D[i - 1]? = some e → Bef e d) ∧ KFrom t D (i + 1) := by
  constructor
  · intro h
    exact ⟨h i d (Nat.le_refl _) hd, fun j e h1 h2 => h j e (by omega) h2⟩
  · rintro ⟨h1, h2⟩ j e h3 h4
    rcases Nat.lt_or_ge i j with h5 | h5
    · exact h2 j e h5 h4
    · have : j = i := by omega
      subst this
      rw [hd] at h4
      cases h4
      exact h1
theorem keGood_l0 (t s : Int) (D : List (List Int)) (ht : 0 ≤ t ∧ t ≤ 8) (hD : D.length ≤ 1048576) : ∀ (n k i : Nat), i + n = D.length → 2 * n + 10 < k → (∀ e, 1 ≤ i → D[i - 1]? = some e → e.length = 2) →
    ∃ r, spec_keGood.l0 k D (D.length : Int) (i : Int) t D s = some r ∧ (r = true ↔ KFrom t D i) := by
  intro n
  induction n with
  | zero =>
    intro k i hi hk hp
    obtain ⟨k, rfl⟩ : ∃ m, k = m + 1 := ⟨k - 1, by omega⟩
    simp only [spec_keGood.l0]
    rw [if_neg (by omega)]
    refine ⟨true, rfl, ⟨fun _ j d h1 h2 => ?_, fun _ => rfl⟩⟩
    have := (List.getElem?_eq_some_iff.1 h2).1
    omega
  | succ n ih =>
    intro k i hi hk hp
    obtain ⟨k, rfl⟩ : ∃ m, k = m + 2 := ⟨k - 2, by omega⟩
    obtain ⟨d, u, _, hz, _⟩ := drop_cons D i (by omega)
    rw [kfrom_step hz]
    simp only [spec_keGood.l0]
    rw [if_pos (by omega), if_pos (by omega), if_pos (by omega), rdl_at hz]
    by_cases hl : d.length = 2
    · obtain ⟨r1, h1, h2⟩ := l1Rising_l0 d 0 (t - 1) (by omega) d.length (k + 1) 0 (by omega) (by omega)
      rw [List.drop_zero, rises_two hl] at h2
      rw [show ((0 : Nat) : Int) = 0 from rfl] at h1
      unfold spec_l1Rising.f
      rw [if_pos (by omega), w64 (a := t - 1) (by omega) (by omega), h1, Option.bind_some]
      simp only [spec_keGood.j2]
      cases r1 with
      | false =>
        refine ⟨false, by simp, ⟨fun h => (by cases h), fun h => ?_⟩⟩
        exact absurd (h2.2 ⟨h.1.1.2.1, h.1.1.2.2⟩) (by simp)
      | true =>
        have h3 := h2.1 rfl
        obtain ⟨r, h4, h5⟩ := ih k (i + 1) (by omega) (by omega) (fun e h6 h7 => by
          rw [show i + 1 - 1 = i by omega, hz] at h7
          cases h7
          exact hl)
        rw [show ((i + 1 : Nat) : Int) = (i : Int) + 1 by omega] at h4
        rw [if_neg (by simp), w64 (a := (i : Int) + 1) (by omega) (by omega), h4]
        by_cases hi0 : (i : Int) > 0
        · obtain ⟨e, _, _, he, _⟩ := drop_cons D (i - 1) (by omega)
          have hee := rdl_at he
          rw [show ((i - 1 : Nat) : Int) = (i : Int) - 1 by omega] at hee
          obtain ⟨rb, h8, h9⟩ := keBefore_at e d (hp e (by omega) he) hl
          rw [if_pos hi0, w64 (a := (i : Int) - 1) (by omega) (by omega), if_pos (by omega), if_pos (by omega), hee, h8, Option.bind_some]
          by_cases hb : rb = true
          · rw [if_pos hb]
            refine ⟨r, rfl, h5.trans ⟨fun h => ⟨⟨⟨hl, h3⟩, fun e' _ he' => ?_⟩, h⟩, fun h => h.2⟩⟩
            rw [he] at he'
            cases he'
            exact h9.1 hb
          · rw [if_neg hb]
            exact ⟨false, rfl, ⟨fun h => (by cases h), fun h => absurd (h9.2 (h.1.2 e (by omega) he)) hb⟩⟩
        · rw [if_neg hi0]
          exact ⟨r, rfl, h5.trans ⟨fun h => ⟨⟨⟨hl, h3⟩, fun e' h6 _ => absurd h6 (by omega)⟩, h⟩, fun h => h.2⟩⟩
    · rw [if_neg (by omega)]
      simp only [spec_keGood.j2]
      exact ⟨false, by simp, ⟨fun h => (by cases h), fun h => absurd h.1.1.1 hl⟩⟩
theorem isKeep_l0 (t s : Int) (D : List (List Int)) (ht : 0 ≤ t ∧ t ≤ 8) (hD : D.length ≤ 1048576) : ∀ (n k i : Nat), i + n = D.length → n + 10 < k → (∀ e, 1 ≤ i → D[i - 1]? = some e → e.length = 2) →
    ∃ r, impl_IsKeep.l0 k D (D.length : Int) (i : Int) t D s = some r ∧ (r = true ↔ KFrom t D i) := by
  intro n
  induction n with
  | zero =>
    intro k i hi hk hp
    obtain ⟨k, rfl⟩ : ∃ m, k = m + 1 := ⟨k - 1, by omega⟩
    simp only [impl_IsKeep.l0]
    rw [if_neg (by omega)]
    refine ⟨true, rfl, ⟨fun _ j d h1 h2 => ?_, fun _ => rfl⟩⟩
    have := (List.getElem?_eq_some_iff.1 h2).1
    omega
  | succ n ih =>
    intro k i hi hk hp
    obtain ⟨k, rfl⟩ : ∃ m, k = m + 1 := ⟨k - 1, by omega⟩
    obtain ⟨d, u, _, hz, _⟩ := drop_cons D i (by omega)
    rw [kfrom_step hz]
    simp only [impl_IsKeep.l0]
    rw [if_pos (by omega), if_pos (by omega), if_pos (by omega), rdl_at hz, w64 (a := t - 1) (by omega) (by omega), areIn_eq, Option.bind_some]
    by_cases hl : d.length = 2
    · by_cases ha : allB d 0 (t - 1) = true
      · rw [if_pos (by simp [ha, hl]), if_pos (by omega), if_pos (by omega)]
        by_cases hge : rd d 0 ≥ rd d 1
        · rw [if_pos hge]
          exact ⟨false, rfl, ⟨fun h => (by cases h), fun h => absurd h.1.1.2.2 (by omega)⟩⟩
        · rw [if_neg hge]
          have h3 : allB d 0 (t - 1) = true ∧ rd d 0 < rd d 1 := ⟨ha, by omega⟩
          obtain ⟨r, h4, h5⟩ := ih k (i + 1) (by omega) (by omega) (fun e h6 h7 => by
            rw [show i + 1 - 1 = i by omega, hz] at h7
            cases h7
            exact hl)
          rw [show ((i + 1 : Nat) : Int) = (i : Int) + 1 by omega] at h4
          rw [w64 (a := (i : Int) + 1) (by omega) (by omega), h4]
          by_cases hi0 : (i : Int) > 0
          · obtain ⟨e, _, _, he, _⟩ := drop_cons D (i - 1) (by omega)
            have hee := rdl_at he
            rw [show ((i - 1 : Nat) : Int) = (i : Int) - 1 by omega] at hee
            obtain ⟨rb, h8, h9⟩ := compare_at e d (hp e (by omega) he) hl k (by omega)
            rw [if_pos hi0, w64 (a := (i : Int) - 1) (by omega) (by omega), if_pos (by omega), if_pos (by omega), hee, h8, Option.bind_some]
            by_cases hb : rb ≥ 0
            · rw [if_pos hb]
              exact ⟨false, rfl, ⟨fun h => (by cases h), fun h => absurd (h.1.2 e (by omega) he) (h9.1 hb)⟩⟩
            · rw [if_neg hb]
              refine ⟨r, rfl, h5.trans ⟨fun h => ⟨⟨⟨hl, h3⟩, fun e' _ he' => ?_⟩, h⟩, fun h => h.2⟩⟩
              rw [he] at he'
              cases he'
              exact Classical.byContradiction fun hn => hb (h9.2 hn)
          · rw [if_neg hi0]
            exact ⟨r, rfl, h5.trans ⟨fun h => ⟨⟨⟨hl, h3⟩, fun e' h6 _ => absurd h6 (by omega)⟩, h⟩, fun h => h.2⟩⟩
      · rw [if_neg (by simp [ha])]
        exact ⟨false, rfl, ⟨fun h => (by cases h), fun h => absurd h.1.1.2.1 ha⟩⟩
    · rw [if_neg (by simp; intro h; omega)]
      exact ⟨false, rfl, ⟨fun h => (by cases h), fun h => absurd h.1.1.1 hl⟩⟩

/-- Keeps that are valid. -/
def Keep (t : Int) (D : List (List Int)) (s : Int) : Prop := (0 ≤ t ∧ t ≤ 8) ∧ (0 ≤ s ∧ s ≤ 8) ∧ KFrom t D 0
noncomputable def keB (t : Int) (D : List (List Int)) (s : Int) : Bool := @decide (Keep t D s) (Classical.propDecidable _)
theorem keB_iff (t : Int) (D : List (List Int)) (s : Int) : keB t D s = true ↔ Keep t D s := by unfold keB; simp
theorem some_of {o : Option Bool} {b : Bool} (h : ∃ r, o = some r ∧ (r = true ↔ b = true)) : o = some b := by
  obtain ⟨r, h1, h2⟩ := h
  rw [h1]
  cases r <;> cases b <;> simp_all
theorem spec_keGood_at (t : Int) (D : List (List Int)) (s : Int) (hD : D.length ≤ 1048576) (k : Nat) (hk : 3000000 < k) : spec_keGood.f k t D s = some (keB t D s) := by
  refine some_of ?_
  simp only [keB_iff]
  obtain ⟨k, rfl⟩ : ∃ m, k = m + 1 := ⟨k - 1, by omega⟩
  unfold spec_keGood.f
  rw [spec_l1In_eq, spec_l1In_eq, Option.bind_some, Option.bind_some]
  by_cases h1 : 0 ≤ t ∧ t ≤ 8
  · by_cases h2 : 0 ≤ s ∧ s ≤ 8
    · obtain ⟨r, h3, h4⟩ := keGood_l0 t s D h1 hD D.length k 0 (by omega) (by omega) (fun e h => absurd h (by omega))
      rw [show ((0 : Nat) : Int) = 0 from rfl] at h3
      exact ⟨r, by simp [h1, h2, spec_keGood.j0, h3], h4.trans ⟨fun h => ⟨h1, h2, h⟩, fun h => h.2.2⟩⟩
    · exact ⟨false, by simp [h1, h2, spec_keGood.j0], ⟨fun h => (by cases h), fun h => absurd h.2.1 h2⟩⟩
  · exact ⟨false, by simp [h1, spec_keGood.j0], ⟨fun h => (by cases h), fun h => absurd h.1 h1⟩⟩
theorem impl_IsKeep_at (t : Int) (D : List (List Int)) (s : Int) (hD : D.length ≤ 1048576) (k : Nat) (hk : 3000000 < k) : impl_IsKeep.f k t D s = some (keB t D s) := by
  refine some_of ?_
  simp only [keB_iff]
  obtain ⟨k, rfl⟩ : ∃ m, k = m + 1 := ⟨k - 1, by omega⟩
  unfold impl_IsKeep.f
  rw [impl_in_eq, impl_in_eq, Option.bind_some, Option.bind_some]
  by_cases h1 : 0 ≤ t ∧ t ≤ 8
  · by_cases h2 : 0 ≤ s ∧ s ≤ 8
    · obtain ⟨r, h3, h4⟩ := isKeep_l0 t s D h1 hD D.length k 0 (by omega) (by omega) (fun e h => absurd h (by omega))
      rw [show ((0 : Nat) : Int) = 0 from rfl] at h3
      exact ⟨r, by simp [h1, h2, impl_IsKeep.j0, h3], h4.trans ⟨fun h => ⟨h1, h2, h⟩, fun h => h.2.2⟩⟩
    · exact ⟨false, by simp [h1, h2, impl_IsKeep.j0], ⟨fun h => (by cases h), fun h => absurd h.2.1 h2⟩⟩
  · exact ⟨false, by simp [h1, impl_IsKeep.j0], ⟨fun h => (by cases h), fun h => absurd h.1 h1⟩⟩
/-- Desks that are valid. -/
noncomputable def deskB (T : List Int) (s : Int) (o : List Bool) (u : Bool) (t : Int) (D : List (List Int)) (w : Int) (W : List Int) (R : List Bool) (m : Int) : Bool := paB T s o u && (keB t D w && loB W R m)
theorem spec_IsDesk_ev (T : List Int) (s : Int) (o : List Bool) (u : Bool) (t : Int) (D : List (List Int)) (w : Int) (W : List Int) (R : List Bool) (m : Int) (hT : T.length ≤ 1048576) (ho : o.length ≤ 1048576) (hD : D.length ≤ 1048576) (hW : W.length ≤ 1048576) : ∃ K, ∀ k, K ≤ k → spec_IsDesk.f k T s o u t D w W R m = some (deskB T s o u t D w W R m) := by
  obtain ⟨K1, e1⟩ := spec_paAsked_ev T s o u hT ho
  obtain ⟨K2, e2⟩ := spec_loGood_ev W R m hW
  refine ⟨K1 + K2 + 4000000, fun k hk => ?_⟩
  unfold spec_IsDesk.f spec_coGood.f
  rw [e1 k (by omega), spec_keGood_at t D w hD k (by omega), e2 k (by omega)]
  cases h1 : paB T s o u <;> cases h2 : keB t D w <;> simp [deskB, h1, h2]
theorem impl_IsDesk_ev (T : List Int) (s : Int) (o : List Bool) (u : Bool) (t : Int) (D : List (List Int)) (w : Int) (W : List Int) (R : List Bool) (m : Int) (hT : T.length ≤ 1048576) (ho : o.length ≤ 1048576) (hD : D.length ≤ 1048576) : ∃ K, ∀ k, K ≤ k → impl_IsDesk.f k T s o u t D w W R m = some (deskB T s o u t D w W R m) := by
  obtain ⟨K1, e1⟩ := impl_hasState_ev T s o u hT ho
  refine ⟨K1 + 4000000, fun k hk => ?_⟩
  unfold impl_IsDesk.f
  rw [e1 k (by omega), impl_IsKeep_at t D w hD k (by omega), impl_IsCrew_eq]
  cases h1 : paB T s o u <;> cases h2 : keB t D w <;> simp [deskB, h1, h2]
theorem FnExactIsDesk : laws_FnExactIsDesk.Pure := by
  intro T s o u t D w W R m hT _ ho _ hD _ hW hR _
  have z1 := szIntS_eq T 1048576 hT.1 (by omega) (by omega)
  by_cases c1 : (1048576 : Int) < T.length
  · exact ⟨0, by simp [laws_FnExactIsDesk.f, laws_szDesk.f, laws_szParty.f, z1, c1]⟩
  · have d1 : ¬ ((1048576 : Int) - T.length < 0) := by omega
    have z2 := szBoolS_eq o (1048576 - T.length) ho.1 (by omega) (by omega)
    by_cases c2 : (1048576 : Int) - T.length < o.length
    · exact ⟨0, by simp [laws_FnExactIsDesk.f, laws_szDesk.f, laws_szParty.f, laws_szState.f, z1, c1, d1, z2, c2]⟩
    · have d2 : ¬ ((1048576 : Int) - T.length - o.length < 0) := by omega
      obtain ⟨r, K3, h3, z3⟩ := szIntSS_ev D (1048576 - T.length - o.length) hD.1 (fun v hv => (hD.2 v hv).1) (by omega) (by omega)
      by_cases c3 : r < 0
      · exact ⟨K3, by simp [laws_FnExactIsDesk.f, laws_szDesk.f, laws_szParty.f, laws_szState.f, laws_szKeep.f, z1, c1, d1, z2, c2, d2, z3, c3]⟩
      · obtain ⟨q1, q2, q3⟩ := h3 (by omega)
        have z4 := szIntS_eq W r hW.1 (by omega) (by omega)
        by_cases c4 : r < W.length
        · exact ⟨K3, by simp [laws_FnExactIsDesk.f, laws_szDesk.f, laws_szParty.f, laws_szState.f, laws_szKeep.f, laws_szCrew.f, z1, c1, d1, z2, c2, d2, z3, c3, z4, c4]⟩
        · have d4 : ¬ (r - W.length < 0) := by omega
          have z5 := szBoolS_eq R (r - W.length) hR.1 (by omega) (by omega)
          by_cases c5 : r - W.length < R.length
          · exact ⟨K3, by simp [laws_FnExactIsDesk.f, laws_szDesk.f, laws_szParty.f, laws_szState.f, laws_szKeep.f, laws_szCrew.f, z1, c1, d1, z2, c2, d2, z3, c3, z4, c4, d4, z5, c5]⟩
          · have d5 : ¬ (r - W.length - R.length < 0) := by omega
            have hD' : ∀ v ∈ D, v.length ≤ 1048576 := fun v hv => by have := q3 v hv; omega
            obtain ⟨A1, a1⟩ := toIntS_ev T (by omega)
            obtain ⟨A2, a2⟩ := toBoolS_ev o (by omega)
            obtain ⟨A3, a3⟩ := toIntSS_ev D (by omega) hD'
            obtain ⟨A4, a4⟩ := toIntS_ev W (by omega)
            obtain ⟨A5, a5⟩ := toBoolS_ev R (by omega)
            obtain ⟨B1, b1⟩ := eqIntS_ev T T (by omega)
            obtain ⟨B2, b2⟩ := eqBoolS_ev o (by omega)
            obtain ⟨B3, b3⟩ := eqIntSS_ev D (by omega) hD'
            obtain ⟨B4, b4⟩ := eqIntS_ev W W (by omega)
            obtain ⟨B5, b5⟩ := eqBoolS_ev R (by omega)
            obtain ⟨C1, g1⟩ := spec_IsDesk_ev T s o u t D w W R m (by omega) (by omega) (by omega) (by omega)
            obtain ⟨C2, g2⟩ := impl_IsDesk_ev T s o u t D w W R m (by omega) (by omega) (by omega)
            refine ⟨K3 + A1 + A2 + A3 + A4 + A5 + B1 + B2 + B3 + B4 + B5 + C1 + C2, ?_⟩
            generalize hk : K3 + A1 + A2 + A3 + A4 + A5 + B1 + B2 + B3 + B4 + B5 + C1 + C2 = k
            have td : laws_toDesk.f k T s o u t D w W R m = some (T, s, o, u, t, D, w, W, R, m) := by
              simp [laws_toDesk.f, laws_toParty.f, laws_toState.f, laws_toKeep.f, laws_toCrew.f, a1 k (by omega), a2 k (by omega), a3 k (by omega), a4 k (by omega), a5 k (by omega)]
            have ed : laws_eqDesk.f k T s o u t D w W R m T s o u t D w W R m = some true := by
              simp [laws_eqDesk.f, laws_eqParty.f, laws_eqState.f, laws_eqKeep.f, laws_eqCrew.f, b1 k (by omega), b2 k (by omega), b3 k (by omega), b4 k (by omega), b5 k (by omega)]
            have sz : laws_szDesk.f k T s o u t D w W R m 1048576 = some (r - W.length - R.length) := by
              simp [laws_szDesk.f, laws_szParty.f, laws_szState.f, laws_szKeep.f, laws_szCrew.f, z1, c1, d1, z2, c2, d2, z3 k (by omega), c3, z4, c4, d4, z5, c5, d5]
            simp [laws_FnExactIsDesk.f, sz, td, ed, g1 k (by omega), g2 k (by omega)]
end Go.Proofs.Ytldeaeeolibpjac.Q.Pure
