/-
The plain laws of the candidates: what is picked and the order, by definition and as the document says. No memory here.
-/
import Derived.Test.YtbcjdendpdnknaaHx
import Derived.Test.YtbcjdendpdnknaaBet
import Derived.Test.YtbcjdendpdnknaaArgs
namespace Go.Proofs.Ytbcjdendpdnknaa.H
open Go.RowKit Go.Proofs.YtbcjdendpdnknaaW.PrintWords Go.Proofs.YtbcjdendpdnknaaW.PrintLast Go.Proofs.YtbcjdendpdnknaaW.PrintMore

theorem pk_succ (l : List S25) (so : Int → Bool) (n : Nat) : pk l so (n + 1) = if so n && (decide (pk l so n < 0) || bet (rd_T25 l n) (rd_T25 l (pk l so n))) then (n : Int) else pk l so n := rfl

/-- Place p is the best of the first n that 'so' names. -/
structure IsBest (l : List S25) (so : Int → Bool) (n : Nat) (p : Int) : Prop where
  lo : 0 ≤ p
  hi : p < n
  is : so p = true
  best : ∀ k : Int, 0 ≤ k → k < n → so k = true → bet (rd_T25 l k) (rd_T25 l p) = false
  first : ∀ k : Int, 0 ≤ k → k < p → so k = true → bet (rd_T25 l p) (rd_T25 l k) = true

theorem best_one {l : List S25} {so : Int → Bool} {n : Nat} {p q : Int} (hp : IsBest l so n p) (hq : IsBest l so n q) : p = q := by
  rcases Int.lt_trichotomy p q with h | h | h
  · have h1 := hq.first p hp.lo h hp.is
    have h2 := hp.best q hq.lo hq.hi hq.is
    rw [h1] at h2; cases h2
  · exact h
  · have h1 := hp.first q hq.lo h hq.is
    have h2 := hq.best p hp.lo hp.hi hp.is
    rw [h1] at h2; cases h2

theorem pk_tells (l : List S25) (so : Int → Bool) : ∀ n : Nat, (pk l so n = -1 ∧ ∀ k : Int, 0 ≤ k → k < n → so k = false) ∨ IsBest l so n (pk l so n)
  | 0 => .inl ⟨rfl, fun k h0 h1 => by omega⟩
  | n + 1 => by
    rw [pk_succ]
    rcases pk_tells l so n with ⟨h1, h2⟩ | h
    · rw [h1]
      cases hs : so n with
      | true =>
        right
        simp only [Bool.true_and, show decide ((-1 : Int) < 0) = true from rfl, Bool.true_or, if_true]
        refine ⟨by omega, by omega, hs, fun k k0 k1 ks => ?_, fun k k0 k1 ks => ?_⟩
        · by_cases hk : k < n
          · rw [h2 k k0 hk] at ks; cases ks
          · obtain rfl : k = n := by omega
            exact bet_irr _
        · rw [h2 k k0 k1] at ks; cases ks
      | false =>
        left
        simp only [Bool.false_and, Bool.false_eq_true, if_false]
        refine ⟨by trivial, fun k k0 k1 => ?_⟩
        by_cases hk : k < n
        · exact h2 k k0 hk
        · obtain rfl : k = n := by omega
          exact hs
    · right
      have hp0 : decide (pk l so n < 0) = false := decide_eq_false (by have := h.lo; omega)
      rw [hp0, Bool.false_or]
      cases hs : so n with
      | false =>
        simp only [Bool.false_and, Bool.false_eq_true, if_false]
        refine ⟨h.lo, by have := h.hi; omega, h.is, fun k k0 k1 ks => ?_, h.first⟩
        by_cases hk : k < n
        · exact h.best k k0 hk ks
        · obtain rfl : k = n := by omega
          rw [hs] at ks; cases ks
      | true =>
        rw [Bool.true_and]
        cases hb : bet (rd_T25 l n) (rd_T25 l (pk l so n)) with
        | true =>
          simp only [if_true]
          refine ⟨by omega, by omega, hs, fun k k0 k1 ks => ?_, fun k k0 k1 ks => ?_⟩
          · by_cases hk : k < n
            · exact nb_trans (h.best k k0 hk ks) (bet_asym hb)
            · obtain rfl : k = n := by omega
              exact bet_irr _
          · exact bet_nb hb (h.best k k0 k1 ks)
        | false =>
          simp only [Bool.false_eq_true, if_false]
          refine ⟨h.lo, by have := h.hi; omega, h.is, fun k k0 k1 ks => ?_, h.first⟩
          by_cases hk : k < n
          · exact h.best k k0 hk ks
          · obtain rfl : k = n := by omega
            exact hb
theorem pk_best {l : List S25} {so : Int → Bool} {n : Nat} {p : Int} (h : IsBest l so n p) : pk l so n = p := by
  rcases pk_tells l so n with ⟨_, h2⟩ | h2
  · exact absurd h.is (by rw [h2 p h.lo h.hi]; decide)
  · exact best_one h2 h
theorem pk_none {l : List S25} {so : Int → Bool} {n : Nat} (h : ∀ k : Int, 0 ≤ k → k < n → so k = false) : pk l so n = -1 := by
  rcases pk_tells l so n with ⟨h1, _⟩ | h2
  · exact h1
  · exact absurd h2.is (by rw [h _ h2.lo h2.hi]; decide)
theorem pk_congr {l : List S25} {so so' : Int → Bool} : ∀ n : Nat, (∀ k : Int, 0 ≤ k → k < n → so k = so' k) → pk l so n = pk l so' n
  | 0, _ => rfl
  | n + 1, h => by
    rw [pk_succ, pk_succ, pk_congr n (fun k h0 h1 => h k h0 (by omega)), h n (by omega) (by omega)]

/-! ### The document's answer -/
def c28 (a : S28) : S25 := ⟨a.f0, a.f1, a.f2, a.f3, a.f4⟩
def c25 (a : S25) : S28 := ⟨a.f0, a.f1, a.f2, a.f3, a.f4⟩
theorem nn_ref (a : S25) : mx 0 (mn a.f1 30) = nn a := by unfold nn mx mn; (repeat' split) <;> omega
theorem ll_ref (a : S25) : mx 0 (mn a.f2 (nn a)) = ll a := by have := nn_bd a; unfold ll mx mn; (repeat' split) <;> omega
theorem tt_ref (a : S25) (h : 0 ≤ a.f4) : mn a.f4 1099511627776 = tt a := by unfold tt mx mn; (repeat' split) <;> omega
theorem gain_ref (a : S25) (h : 0 ≤ a.f4) : lodgerref14_Gain.f a.f0 a.f1 a.f2 a.f3 a.f4 = some (gn a) := by
  have h2 := ll_bd a; have h1 := nn_bd a; have h4 := gn_bd a
  unfold lodgerref14_Gain.f
  rw [nn_ref, ll_ref, tt_ref a h, IntWalk.u64_in (nn a - ll a) (by omega)]
  show some (IntKind.u64.wrap (gn a)) = _
  rw [IntWalk.u64_in (gn a) (by omega)]
theorem cost_ref (a : S25) : lodgerref14_Cost.f a.f0 a.f1 a.f2 a.f3 a.f4 = some (cs a) := by
  have h2 := ll_bd a; have h1 := nn_bd a
  unfold lodgerref14_Cost.f
  rw [nn_ref, ll_ref]
  unfold cs mx
  by_cases h : nn a + ll a = 0
  · rw [if_pos h, if_pos (by omega)]
  · rw [if_neg h, if_neg (by omega)]
theorem better_ref (a b : S25) (ha : 0 ≤ a.f4) (hb : 0 ≤ b.f4) : lodgerref14_Better.f a.f0 a.f1 a.f2 a.f3 a.f4 b.f0 b.f1 b.f2 b.f3 b.f4 = some (bet a b) := by
  have h1 := prod_bd a b; have h2 := prod_bd b a
  unfold lodgerref14_Better.f
  rw [gain_ref a ha, gain_ref b hb, cost_ref a, cost_ref b]
  simp only [Option.bind_some]
  rw [IntWalk.u64_in (gn a * cs b) (by omega), IntWalk.u64_in (gn b * cs a) (by omega), bet_is]
theorem refs_tell (l : List S25) (hn : l.length ≤ 16) : ∀ (d k i : Nat), i ≤ l.length → l.length - i = d → d < k → lodgerlaw14_Refs.l0 k l ((l.take i).map c25) i = some (l.map c25) := by
  intro d
  induction d with
  | zero =>
    intro k i hi hd hk
    obtain ⟨k, rfl⟩ : ∃ m, k = m + 1 := ⟨k - 1, by omega⟩
    simp only [lodgerlaw14_Refs.l0]
    rw [if_neg (by omega), List.take_of_length_le (by omega)]
  | succ d ih =>
    intro k i hi hd hk
    obtain ⟨k, rfl⟩ : ∃ m, k = m + 1 := ⟨k - 1, by omega⟩
    have hlt : i < l.length := by omega
    simp only [lodgerlaw14_Refs.l0]
    rw [if_pos (by omega), if_pos (by omega)]
    unfold lodgerlaw14_Ref.f
    simp only [Option.bind_some]
    rw [if_pos (by simp; omega)]
    have hw : wrap64 ((i : Int) + 1) = ((i + 1 : Nat) : Int) := by unfold wrap64; omega
    have hr : rd_T25 l (i : Int) = l[i] := by unfold rd_T25; rw [Int.toNat_natCast]; simp [List.getD, hlt]
    rw [hw, hr]
    have := ih k (i + 1) (by omega) (by omega) (by omega)
    rw [List.take_succ_eq_append_getElem hlt, List.map_append] at this
    exact this
theorem refs_are (l : List S25) (hn : l.length ≤ 16) : lodgerlaw14_Refs.f (l.length + 1) l = some (l.map c25) := by
  have := refs_tell l hn l.length (l.length + 1) 0 (by omega) (by omega) (by omega)
  exact this
theorem rd28 (l : List S25) (i : Nat) (h : i < l.length) : rd_T28 (l.map c25) (i : Int) = c25 (rd_T25 l i) := by
  unfold rd_T28 rd_T25
  rw [Int.toNat_natCast]
  simp [List.getD, h]
theorem rd_mem (l : List S25) (i : Nat) (h : i < l.length) : rd_T25 l (i : Int) ∈ l := by
  unfold rd_T25
  rw [Int.toNat_natCast]
  simp [List.getD, h]
theorem rdb (f : Int → Bool) (n i : Nat) (h : i < n) : rdOf false ((List.range n).map fun j => f (j : Nat)) (i : Int) = f i := by
  unfold rdOf
  rw [Int.toNat_natCast]
  simp [List.getD, h]
/-- Is no one of some better than the one at p, from x on, and none ahead as good? -/
theorem first_tells (l : List S25) (hG : ∀ a ∈ l, 0 ≤ a.f4) (hn : l.length ≤ 16) (so : Int → Bool) (p : Nat) (hp : p < l.length) : ∀ (d k x : Nat), x ≤ l.length → l.length - x = d → d < k →
    ∃ b, lodgerref14_first.l0 k (l.map c25) ((List.range l.length).map fun j => so (j : Nat)) p x = some b ∧
      (b = true ↔ ((∀ j : Nat, x ≤ j → j < l.length → so j = true → bet (rd_T25 l j) (rd_T25 l p) = false ∧ (j < p → bet (rd_T25 l p) (rd_T25 l j) = true)) ∧ so p = true)) := by
  intro d
  induction d with
  | zero =>
    intro k x hx hd hk
    obtain ⟨k, rfl⟩ : ∃ m, k = m + 1 := ⟨k - 1, by omega⟩
    simp only [lodgerref14_first.l0, List.length_map, List.length_range]
    rw [if_neg (by omega), if_pos (by omega), if_pos (by omega), rdb so l.length p hp]
    refine ⟨so p, rfl, fun h => ⟨fun j h1 h2 => by omega, h⟩, fun h => h.2⟩
  | succ d ih =>
    intro k x hx hd hk
    obtain ⟨k, rfl⟩ : ∃ m, k = m + 1 := ⟨k - 1, by omega⟩
    have hlt : x < l.length := by omega
    have hw : wrap64 ((x : Int) + 1) = ((x + 1 : Nat) : Int) := by unfold wrap64; omega
    obtain ⟨b, hb1, hb2⟩ := ih k (x + 1) (by omega) (by omega) (by omega)
    simp only [lodgerref14_first.l0, List.length_map, List.length_range]
    rw [if_pos (by omega), if_pos (by omega), if_pos (by omega), rdb so l.length x hlt, hw, hb1]
    cases hs : so x with
    | false =>
      simp only [Bool.false_eq_true, if_false]
      refine ⟨b, rfl, hb2.trans ⟨fun h => ⟨fun j h1 h2 h3 => ?_, h.2⟩, fun h => ⟨fun j h1 h2 h3 => h.1 j (by omega) h2 h3, h.2⟩⟩⟩
      by_cases hj : j = x
      · subst hj; rw [hs] at h3; cases h3
      · exact h.1 j (by omega) h2 h3
    | true =>
      simp only [if_true]
      rw [if_pos (by omega), if_pos (by omega), rd28 l x hlt, rd28 l p hp]
      have e1 := better_ref (rd_T25 l x) (rd_T25 l p) (hG _ (rd_mem l x hlt)) (hG _ (rd_mem l p hp))
      have e2 := better_ref (rd_T25 l p) (rd_T25 l x) (hG _ (rd_mem l p hp)) (hG _ (rd_mem l x hlt))
      simp only [c25]
      rw [e1, e2]
      simp only [Option.bind_some]
      cases h1 : bet (rd_T25 l x) (rd_T25 l p) with
      | true =>
        simp only [if_true]
        refine ⟨false, rfl, ⟨fun h => (by cases h), fun h => ?_⟩⟩
        have := (h.1 x (Nat.le_refl _) hlt hs).1
        rw [h1] at this; cases this
      | false =>
        simp only [Bool.false_eq_true, if_false]
        have step : (x < p → bet (rd_T25 l p) (rd_T25 l x) = true) → (b = true ↔ ((∀ j : Nat, x ≤ j → j < l.length → so j = true → bet (rd_T25 l j) (rd_T25 l p) = false ∧ (j < p → bet (rd_T25 l p) (rd_T25 l j) = true)) ∧ so p = true)) := fun hxp =>
          hb2.trans ⟨fun h => ⟨fun j j1 j2 j3 => by
            by_cases hj : j = x
            · subst hj; exact ⟨h1, hxp⟩
            · exact h.1 j (by omega) j2 j3, h.2⟩, fun h => ⟨fun j j1 j2 j3 => h.1 j (by omega) j2 j3, h.2⟩⟩
        by_cases hxp : x < p
        · rw [if_pos (by omega)]
          cases h2 : bet (rd_T25 l p) (rd_T25 l x) with
          | true =>
            simp only [if_true]
            exact ⟨b, rfl, step (fun _ => h2)⟩
          | false =>
            simp only [Bool.false_eq_true, if_false]
            refine ⟨false, rfl, ⟨fun h => (by cases h), fun h => ?_⟩⟩
            have := (h.1 x (Nat.le_refl _) hlt hs).2 hxp
            rw [h2] at this; cases this
        · rw [if_neg (by omega)]
          exact ⟨b, rfl, step (fun h => absurd h hxp)⟩

def bools (n : Nat) (so : Int → Bool) : List Bool := (List.range n).map fun j => so (j : Nat)
theorem first_is (l : List S25) (hG : ∀ a ∈ l, 0 ≤ a.f4) (hn : l.length ≤ 16) (so : Int → Bool) (p : Nat) (hp : p < l.length) (k : Nat) (hk : l.length < k) :
    ∃ b, lodgerref14_first.f k (l.map c25) (bools l.length so) p = some b ∧ (b = true ↔ IsBest l so l.length p) := by
  obtain ⟨b, h1, h2⟩ := first_tells l hG hn so p hp l.length k 0 (by omega) (by omega) hk
  refine ⟨b, h1, h2.trans ⟨fun h => ⟨by omega, by omega, h.2, fun k k0 k1 ks => ?_, fun k k0 k1 ks => ?_⟩, fun h => ⟨fun j _ j2 j3 => ⟨h.best j (by omega) (by omega) j3, fun jp => h.first j (by omega) (by omega) j3⟩, h.is⟩⟩⟩
  · obtain ⟨j, rfl⟩ := Int.eq_ofNat_of_zero_le k0
    exact (h.1 j (Nat.zero_le _) (by omega) ks).1
  · obtain ⟨j, rfl⟩ := Int.eq_ofNat_of_zero_le k0
    exact (h.1 j (Nat.zero_le _) (by omega) ks).2 (by omega)
theorem among_tells (l : List S25) (hG : ∀ a ∈ l, 0 ≤ a.f4) (hn : l.length ≤ 16) (so : Int → Bool) : ∀ (d k i : Nat), i ≤ l.length → l.length - i = d → d + l.length < k → (∀ j : Nat, j < i → ¬ IsBest l so l.length j) →
    lodgerref14_among.l0 k (l.map c25) (bools l.length so) i = some (pk l so l.length) := by
  intro d
  induction d with
  | zero =>
    intro k i hi hd hk hno
    obtain ⟨k, rfl⟩ : ∃ m, k = m + 1 := ⟨k - 1, by omega⟩
    simp only [lodgerref14_among.l0, List.length_map]
    rw [if_neg (by omega)]
    rcases pk_tells l so l.length with ⟨h, _⟩ | h
    · rw [h]
    · have h0 := h.lo; have h1 := h.hi
      obtain ⟨j, hj⟩ := Int.eq_ofNat_of_zero_le h0
      rw [hj] at h
      exact absurd h (hno j (by omega))
  | succ d ih =>
    intro k i hi hd hk hno
    obtain ⟨k, rfl⟩ : ∃ m, k = m + 1 := ⟨k - 1, by omega⟩
    have hlt : i < l.length := by omega
    have hw : wrap64 ((i : Int) + 1) = ((i + 1 : Nat) : Int) := by unfold wrap64; omega
    simp only [lodgerref14_among.l0, List.length_map]
    obtain ⟨b, h1, h2⟩ := first_is l hG hn so i hlt k (by omega)
    rw [if_pos (by omega), h1, hw]
    simp only [Option.bind_some]
    cases b with
    | true =>
      simp only [if_true]
      rw [pk_best (h2.1 rfl)]
    | false =>
      simp only [Bool.false_eq_true, if_false]
      refine ih k (i + 1) (by omega) (by omega) (by omega) (fun j hj => ?_)
      by_cases hji : j = i
      · subst hji
        exact fun h => by have := h2.2 h; cases this
      · exact hno j (by omega)
theorem among_is (l : List S25) (hG : ∀ a ∈ l, 0 ≤ a.f4) (hn : l.length ≤ 16) (so : Int → Bool) (k : Nat) (hk : l.length + l.length < k) : lodgerref14_among.f k (l.map c25) (bools l.length so) = some (pk l so l.length) :=
  among_tells l hG hn so l.length k 0 (by omega) (by omega) hk (fun j hj => by omega)
theorem bools_succ (n : Nat) (so : Int → Bool) : bools n so ++ [so n] = bools (n + 1) so := by simp [bools, List.range_succ]
theorem bools_length (n : Nat) (so : Int → Bool) : (bools n so).length = n := by simp [bools]
theorem pick_tells (l : List S25) (hG : ∀ a ∈ l, 0 ≤ a.f4) (hn : l.length ≤ 16) (room : Int) : ∀ (d k i : Nat), i ≤ l.length → l.length - i = d → d + l.length + l.length + 1 < k →
    lodgerref14_Pick.l0 k (l.map c25) room (bools i fun i => decide ((rd_T25 l i).f3 ≤ room)) i = some (pk l (fun i => decide ((rd_T25 l i).f3 ≤ room)) l.length) := by
  intro d
  induction d with
  | zero =>
    intro k i hi hd hk
    obtain ⟨k, rfl⟩ : ∃ m, k = m + 1 := ⟨k - 1, by omega⟩
    simp only [lodgerref14_Pick.l0, List.length_map]
    rw [if_neg (by omega), show i = l.length by omega, among_is l hG hn _ k (by omega)]
    rfl
  | succ d ih =>
    intro k i hi hd hk
    obtain ⟨k, rfl⟩ : ∃ m, k = m + 1 := ⟨k - 1, by omega⟩
    have hlt : i < l.length := by omega
    have hw : wrap64 ((i : Int) + 1) = ((i + 1 : Nat) : Int) := by unfold wrap64; omega
    simp only [lodgerref14_Pick.l0, List.length_map]
    rw [if_pos (by omega), if_pos (by omega), if_pos (by rw [bools_length]; omega), hw, rd28 l i hlt]
    have := ih k (i + 1) (by omega) (by omega) (by omega)
    rw [← bools_succ] at this
    exact this
theorem pick_ref (l : List S25) (hG : ∀ a ∈ l, 0 ≤ a.f4) (hn : l.length ≤ 16) (room : Int) : lodgerref14_Pick.f 60 (l.map c25) room = some (pk l (fun i => decide ((rd_T25 l i).f3 ≤ room)) l.length) :=
  pick_tells l hG hn room l.length 60 0 (by omega) (by omega) (by omega)
theorem all_in : ∀ (n : Nat) (xs : List Int), (∀ i : Nat, i < n → (i : Int) ∈ xs) → n ≤ xs.length
  | 0, _, _ => Nat.zero_le _
  | n + 1, xs, h => by
    have h1 := h n (by omega)
    have h2 := all_in n (xs.erase n) (fun i hi => (List.mem_erase_of_ne (by omega)).2 (h i (by omega)))
    rw [List.length_erase_of_mem h1] at h2
    have := List.length_pos_of_mem h1
    omega
/-- As long as places are left, one of them comes next. -/
theorem ord_next (l : List S25) (m : Nat) (hm : m < l.length) : IsBest l (fun i => !(ord l m).contains i) l.length (pk l (fun i => !(ord l m).contains i) l.length) := by
  rcases pk_tells l (fun i => !(ord l m).contains i) l.length with ⟨_, h⟩ | h
  · exfalso
    have := all_in l.length (ord l m) (fun i hi => by
      have := h i (by omega) (by omega)
      simpa using this)
    rw [ord_length] at this
    omega
  · exact h
theorem bools_set (n : Nat) (xs : List Int) (p : Int) (h0 : 0 ≤ p) : (bools n fun i => !xs.contains i).set p.toNat false = bools n fun i => !(xs ++ [p]).contains i := by
  apply List.ext_getElem?
  intro i
  by_cases hi : i < n
  · by_cases hip : p.toNat = i
    · subst hip
      rw [List.getElem?_set_self (by rw [bools_length]; exact hi)]
      have h1 : max p 0 = p := by omega
      simp [bools, hi, h1]
    · rw [List.getElem?_set_ne hip]
      have : ¬ ((i : Int) = p) := by omega
      simp [bools, hi, this]
  · rw [List.getElem?_eq_none (by simp [bools]; omega), List.getElem?_eq_none (by simp [bools]; omega)]
theorem order_tells1 (l : List S25) (hG : ∀ a ∈ l, 0 ≤ a.f4) (hn : l.length ≤ 16) : ∀ (d k m : Nat), m ≤ l.length → l.length - m = d → d + l.length + l.length + 1 < k →
    lodgerref14_Order.l1 k (l.map c25) (bools l.length fun i => !(ord l m).contains i) (ord l m) m = some (ord l l.length) := by
  intro d
  induction d with
  | zero =>
    intro k m hm hd hk
    obtain ⟨k, rfl⟩ : ∃ m, k = m + 1 := ⟨k - 1, by omega⟩
    simp only [lodgerref14_Order.l1, List.length_map]
    rw [if_neg (by omega), show m = l.length by omega]
  | succ d ih =>
    intro k m hm hd hk
    obtain ⟨k, rfl⟩ : ∃ m, k = m + 1 := ⟨k - 1, by omega⟩
    have hlt : m < l.length := by omega
    have hw : wrap64 ((m : Int) + 1) = ((m + 1 : Nat) : Int) := by unfold wrap64; omega
    have hb := ord_next l m hlt
    simp only [lodgerref14_Order.l1, List.length_map]
    rw [if_pos (by omega), among_is l hG hn _ k (by omega)]
    simp only [Option.bind_some]
    rw [if_pos (by rw [ord_length]; omega), if_pos hb.lo, if_pos (by rw [bools_length]; exact hb.hi), hw, bools_set _ _ _ hb.lo]
    exact ih k (m + 1) (by omega) (by omega) (by omega)
theorem order_tells0 (l : List S25) (hG : ∀ a ∈ l, 0 ≤ a.f4) (hn : l.length ≤ 16) : ∀ (d k i : Nat), i ≤ l.length → l.length - i = d → d + l.length + l.length + l.length + 2 < k →
    lodgerref14_Order.l0 k (l.map c25) (bools i fun _ => true) [] i = some (ord l l.length) := by
  intro d
  induction d with
  | zero =>
    intro k i hi hd hk
    obtain ⟨k, rfl⟩ : ∃ m, k = m + 1 := ⟨k - 1, by omega⟩
    simp only [lodgerref14_Order.l0, List.length_map]
    rw [if_neg (by omega), show i = l.length by omega]
    exact order_tells1 l hG hn l.length k 0 (by omega) (by omega) (by omega)
  | succ d ih =>
    intro k i hi hd hk
    obtain ⟨k, rfl⟩ : ∃ m, k = m + 1 := ⟨k - 1, by omega⟩
    have hw : wrap64 ((i : Int) + 1) = ((i + 1 : Nat) : Int) := by unfold wrap64; omega
    simp only [lodgerref14_Order.l0, List.length_map]
    rw [if_pos (by omega), if_pos (by rw [bools_length]; omega), hw]
    have := ih k (i + 1) (by omega) (by omega) (by omega)
    rw [← bools_succ] at this
    exact this
theorem order_ref (l : List S25) (hG : ∀ a ∈ l, 0 ≤ a.f4) (hn : l.length ≤ 16) : lodgerref14_Order.f 80 (l.map c25) = some (ord l l.length) :=
  order_tells0 l hG hn l.length 80 0 (by omega) (by omega) (by omega)
theorem ints_tells (xs : List Int) (hn : xs.length ≤ 9223372036854775807) : ∀ (d k i : Nat), i ≤ xs.length → xs.length - i = d → d < k → lodgerref07_Ints.l0 k xs xs i = some true := by
  intro d
  induction d with
  | zero =>
    intro k i hi hd hk
    obtain ⟨k, rfl⟩ : ∃ m, k = m + 1 := ⟨k - 1, by omega⟩
    simp only [lodgerref07_Ints.l0]
    rw [if_neg (by omega)]
  | succ d ih =>
    intro k i hi hd hk
    obtain ⟨k, rfl⟩ : ∃ m, k = m + 1 := ⟨k - 1, by omega⟩
    have hw : wrap64 ((i : Int) + 1) = ((i + 1 : Nat) : Int) := by unfold wrap64; omega
    simp only [lodgerref07_Ints.l0]
    rw [if_pos (by omega), if_pos (by omega), if_pos (by omega), hw]
    simp only [if_true]
    exact ih k (i + 1) (by omega) (by omega) (by omega)
theorem ints_same (xs : List Int) (hn : xs.length ≤ 9223372036854775807) : lodgerref07_Ints.f (xs.length + 1) xs xs = some true := by
  unfold lodgerref07_Ints.f
  rw [if_pos rfl]
  exact ints_tells xs hn xs.length (xs.length + 1) 0 (by omega) (by omega) (by omega)
end Go.Proofs.Ytbcjdendpdnknaa.H
