/-
The plain laws of a sweep's states: whether one may be, the place of a number, the lists that are alike. No memory here.
-/
import Derived.Test.YtbcmjbjhjnojjaaHx
namespace Go.Proofs.Ytbcmjbjhjnojjaa.H
open Go.RowKit Go.Proofs.YtbcmjbjhjnojjaaW.PrintWords Go.Proofs.YtbcmjbjhjnojjaaW.PrintLast Go.Proofs.YtbcmjbjhjnojjaaW.PrintMore
theorem lt16 (z : Int) : decide (z < 16) = decide (z ≤ 15) := decide_eq_decide.2 (by omega)
theorem rd_nat (l : List Int) (i : Nat) : rd l (i : Int) = l.getD i 0 := by simp [rd]
theorem getD_mem {l : List Int} {j : Nat} (h : j < l.length) : l.getD j 0 ∈ l := by
  rw [List.getD_eq_getElem?_getD, List.getElem?_eq_getElem h]
  exact List.getElem_mem h
theorem mem_getD {l : List Int} {x : Int} (h : x ∈ l) : ∃ j, j < l.length ∧ l.getD j 0 = x := by
  obtain ⟨j, hj, e⟩ := List.getElem_of_mem h
  exact ⟨j, hj, by rw [List.getD_eq_getElem?_getD, List.getElem?_eq_getElem hj]; exact e⟩
theorem getD_take {l : List Int} {i j : Nat} (h : j < i) : (l.take i).getD j 0 = l.getD j 0 := by
  simp [List.getD_eq_getElem?_getD, h]
theorem index_tells (l : List Int) (x : Int) (hn : l.length ≤ 9223372036854775000) : ∀ (d k i : Nat), i ≤ l.length → l.length - i = d → d < k → (∀ j, j < i → l.getD j 0 ≠ x) →
    ∃ p : Int, slices_Index_int_int.l0 k l x l.length i = some p ∧ ((p = -1 ∧ ¬ x ∈ l) ∨ ∃ j : Nat, p = j ∧ j < l.length ∧ l.getD j 0 = x ∧ ∀ q, q < j → l.getD q 0 ≠ x) := by
  intro d
  induction d with
  | zero =>
    intro k i hi hd hk hb
    obtain ⟨k, rfl⟩ : ∃ m, k = m + 1 := ⟨k - 1, by omega⟩
    simp only [slices_Index_int_int.l0]
    rw [if_neg (by omega)]
    refine ⟨-1, rfl, .inl ⟨rfl, fun h => ?_⟩⟩
    obtain ⟨j, hj, e⟩ := mem_getD h
    exact hb j (by omega) e
  | succ d ih =>
    intro k i hi hd hk hb
    obtain ⟨k, rfl⟩ : ∃ m, k = m + 1 := ⟨k - 1, by omega⟩
    have hw : wrap64 ((i : Int) + 1) = ((i + 1 : Nat) : Int) := by unfold wrap64; omega
    simp only [slices_Index_int_int.l0]
    rw [if_pos (by omega), if_pos (by omega), if_pos (by omega), rd_nat, hw]
    by_cases hx : x = l.getD i 0
    · rw [if_pos hx]
      exact ⟨i, rfl, .inr ⟨i, rfl, by omega, hx.symm, hb⟩⟩
    · rw [if_neg hx]
      refine ih k (i + 1) (by omega) (by omega) (by omega) (fun j hj => ?_)
      by_cases hji : j < i
      · exact hb j hji
      · obtain rfl : j = i := by omega
        exact fun h => hx h.symm
theorem index_is (l : List Int) (x : Int) (hn : l.length ≤ 9223372036854775000) (k : Nat) (hk : l.length < k) :
    ∃ p : Int, slices_Index_int_int.f k l x = some p ∧ ((p = -1 ∧ ¬ x ∈ l) ∨ ∃ j : Nat, p = j ∧ j < l.length ∧ l.getD j 0 = x ∧ ∀ q, q < j → l.getD q 0 ≠ x) :=
  index_tells l x hn l.length k 0 (by omega) (by omega) (by omega) (fun j hj => by omega)
theorem contains_is (l : List Int) (x : Int) (hn : l.length ≤ 9223372036854775000) (k : Nat) (hk : l.length < k) : slices_Contains_int_int.f k l x = some (decide (x ∈ l)) := by
  obtain ⟨p, h, hp⟩ := index_is l x hn k hk
  simp only [slices_Contains_int_int.f, h, Option.bind_some]
  congr 1
  rcases hp with ⟨rfl, hno⟩ | ⟨j, rfl, hj, e, _⟩
  · rw [decide_eq_false hno]
    rfl
  · rw [decide_eq_true (show x ∈ l from e ▸ getD_mem hj)]
    exact decide_eq_true (by omega)
theorem in_tells (l : List Int) (x : Int) (hn : l.length ≤ 9223372036854775000) : ∀ (d k i : Nat), i ≤ l.length → l.length - i = d → d < k → (∀ j, j < i → l.getD j 0 ≠ x) →
    lodgerref15_in.l0 k l x i = some (decide (x ∈ l)) := by
  intro d
  induction d with
  | zero =>
    intro k i hi hd hk hb
    obtain ⟨k, rfl⟩ : ∃ m, k = m + 1 := ⟨k - 1, by omega⟩
    simp only [lodgerref15_in.l0]
    rw [if_neg (by omega), decide_eq_false]
    intro h
    obtain ⟨j, hj, e⟩ := mem_getD h
    exact hb j (by omega) e
  | succ d ih =>
    intro k i hi hd hk hb
    obtain ⟨k, rfl⟩ : ∃ m, k = m + 1 := ⟨k - 1, by omega⟩
    have hw : wrap64 ((i : Int) + 1) = ((i + 1 : Nat) : Int) := by unfold wrap64; omega
    simp only [lodgerref15_in.l0]
    rw [if_pos (by omega), if_pos (by omega), rd_nat, hw]
    by_cases hx : l.getD i 0 = x
    · rw [if_pos hx, decide_eq_true (show x ∈ l from hx ▸ getD_mem (by omega))]
    · rw [if_neg hx]
      refine ih k (i + 1) (by omega) (by omega) (by omega) (fun j hj => ?_)
      by_cases hji : j < i
      · exact hb j hji
      · obtain rfl : j = i := by omega
        exact hx
theorem in_is (l : List Int) (x : Int) (hn : l.length ≤ 9223372036854775000) (k : Nat) (hk : l.length < k) : lodgerref15_in.f k l x = some (decide (x ∈ l)) :=
  in_tells l x hn l.length k 0 (by omega) (by omega) (by omega) (fun j hj => by omega)
/-- Whether a state may be. -/
def okA (l : List Int) (v : Int) (i : Nat) : Bool := decide (0 ≤ l.getD i 0) && decide (l.getD i 0 ≤ 15) && !decide (l.getD i 0 = v) && !decide (l.getD i 0 ∈ l.take i)
def tl (v s n : Int) : Bool := if v = -1 then decide (s = 0) && decide (n = 0) else decide (0 ≤ v) && decide (v ≤ 15) && decide (0 ≤ n) && decide (n ≤ 30) && decide (0 ≤ s) && decide (s ≤ n)
def rtf (l : List Int) (v s n : Int) : Nat → Nat → Bool
  | 0, _ => tl v s n
  | d + 1, i => okA l v i && rtf l v s n d (i + 1)
def rt (l : List Int) (v s n : Int) : Bool := rtf l v s n l.length 0
theorem right_tells (l : List Int) (v s n : Int) (hn : l.length ≤ 9223372036854775000) : ∀ (d k i : Nat), i ≤ l.length → l.length - i = d → d + l.length + 1 < k → sweep_Right.l0 k l l.length i l v s n = some (rtf l v s n d i) := by
  intro d
  induction d with
  | zero =>
    intro k i hi hd hk
    obtain ⟨k, rfl⟩ : ∃ m, k = m + 1 := ⟨k - 1, by omega⟩
    simp only [sweep_Right.l0, rtf, tl, sweep_seg.f, lt16]
    rw [if_neg (by omega)]
    by_cases h1 : v = -1
    · rw [if_pos h1, if_pos h1]
      by_cases h2 : s = 0 <;> simp [h2, BEq.beq]
    · rw [if_neg h1, if_neg h1]
      by_cases h2 : 0 ≤ v <;> by_cases h3 : v ≤ 15 <;> by_cases h4 : 0 ≤ n <;> by_cases h5 : n ≤ 30 <;> by_cases h6 : 0 ≤ s <;> simp [h2, h3, h4, h5, h6] <;> omega
  | succ d ih =>
    intro k i hi hd hk
    obtain ⟨k, rfl⟩ : ∃ m, k = m + 1 := ⟨k - 1, by omega⟩
    have hw : wrap64 ((i : Int) + 1) = ((i + 1 : Nat) : Int) := by unfold wrap64; omega
    have hc := contains_is (l.take i) (l.getD i 0) (by rw [List.length_take]; omega) k (by rw [List.length_take]; omega)
    simp only [sweep_Right.l0, rtf, okA, sweep_seg.f, lt16]
    rw [if_pos (by omega), if_pos (by omega), if_pos (by omega), rd_nat, hw, Int.toNat_natCast, hc, ih k (i + 1) (by omega) (by omega) (by omega)]
    rw [if_pos (show (i : Int) ≤ l.length by omega)]
    generalize l.getD i 0 = z
    generalize l.take i = T
    clear hc ih hw hk hd hi
    by_cases h3 : z = v
    · subst h3
      by_cases h1 : 0 ≤ z <;> by_cases h2 : z ≤ 15 <;> simp [h1, h2]
    · by_cases h1 : 0 ≤ z <;> by_cases h2 : z ≤ 15 <;> by_cases h4 : z ∈ T <;> simp [h1, h2, h3, h4]
theorem ref_right_tells (l : List Int) (v s n : Int) (hn : l.length ≤ 9223372036854775000) : ∀ (d k i : Nat), i ≤ l.length → l.length - i = d → d + l.length + 1 < k → lodgerref15_Right.l0 k i l v s n = some (rtf l v s n d i) := by
  intro d
  induction d with
  | zero =>
    intro k i hi hd hk
    obtain ⟨k, rfl⟩ : ∃ m, k = m + 1 := ⟨k - 1, by omega⟩
    simp only [lodgerref15_Right.l0, rtf, tl]
    rw [if_neg (by omega)]
    by_cases h1 : v = -1
    · rw [if_pos h1, if_pos h1]
      by_cases h2 : s = 0 <;> simp [h2, BEq.beq]
    · rw [if_neg h1, if_neg h1]
      by_cases h2 : 0 ≤ v <;> by_cases h3 : v ≤ 15 <;> by_cases h4 : 0 ≤ n <;> by_cases h5 : n ≤ 30 <;> by_cases h6 : 0 ≤ s <;> simp [h2, h3, h4, h5, h6] <;> omega
  | succ d ih =>
    intro k i hi hd hk
    obtain ⟨k, rfl⟩ : ∃ m, k = m + 1 := ⟨k - 1, by omega⟩
    have hw : wrap64 ((i : Int) + 1) = ((i + 1 : Nat) : Int) := by unfold wrap64; omega
    have hc := in_is (l.take i) (l.getD i 0) (by rw [List.length_take]; omega) k (by rw [List.length_take]; omega)
    simp only [lodgerref15_Right.l0, rtf, okA]
    rw [if_pos (by omega), if_pos (by omega), rd_nat, hw, Int.toNat_natCast, hc, ih k (i + 1) (by omega) (by omega) (by omega)]
    rw [if_pos (show (i : Int) ≤ l.length by omega)]
    generalize l.getD i 0 = z
    generalize l.take i = T
    clear hc ih hw hk hd hi
    by_cases h3 : z = v
    · subst h3
      by_cases h1 : 0 ≤ z <;> by_cases h2 : z ≤ 15 <;> simp [h1, h2, show (z < 0) = ¬ (0 ≤ z) from propext (by omega), show (15 < z) = ¬ (z ≤ 15) from propext (by omega)]
    · by_cases h1 : 0 ≤ z <;> by_cases h2 : z ≤ 15 <;> by_cases h4 : z ∈ T <;> simp [h1, h2, h3, h4, show (z < 0) = ¬ (0 ≤ z) from propext (by omega), show (15 < z) = ¬ (z ≤ 15) from propext (by omega)]
theorem rtf_all {l : List Int} {v s n : Int} : ∀ (d i : Nat), rtf l v s n d i = true → (∀ j, i ≤ j → j < i + d → okA l v j = true) ∧ tl v s n = true
  | 0, i, h => ⟨fun j h1 h2 => by omega, h⟩
  | d + 1, i, h => by
    simp only [rtf, Bool.and_eq_true] at h
    obtain ⟨h1, h2⟩ := rtf_all d (i + 1) h.2
    refine ⟨fun j hj hj2 => ?_, h2⟩
    by_cases e : j = i
    · rw [e]; exact h.1
    · exact h1 j (by omega) (by omega)
theorem okA_is {l : List Int} {v : Int} {i : Nat} (h : okA l v i = true) : 0 ≤ l.getD i 0 ∧ l.getD i 0 ≤ 15 ∧ l.getD i 0 ≠ v ∧ ¬ l.getD i 0 ∈ l.take i := by
  simp only [okA, Bool.and_eq_true, decide_eq_true_eq, Bool.not_eq_true', decide_eq_false_iff_not] at h
  exact ⟨h.1.1.1, h.1.1.2, h.1.2, h.2⟩
theorem rt_apart {l : List Int} {v s n : Int} (h : rt l v s n = true) : ∀ i j, i < j → j < l.length → l.getD i 0 ≠ l.getD j 0 := fun i j hij hj e => by
  have := (okA_is ((rtf_all _ _ h).1 j (by omega) (by omega))).2.2.2
  apply this
  rw [← e, ← getD_take (l := l) hij]
  exact getD_mem (by rw [List.length_take]; omega)
theorem rt_nodup {l : List Int} {v s n : Int} (h : rt l v s n = true) : l.Nodup := by
  rw [List.Nodup, List.pairwise_iff_getElem]
  intro i j hi hj hij e
  have := rt_apart h i j hij hj
  simp only [List.getD_eq_getElem?_getD, List.getElem?_eq_getElem hi, List.getElem?_eq_getElem hj, Option.getD_some] at this
  exact this e
theorem few : ∀ (m : Nat) (l : List Int), l.Nodup → (∀ x ∈ l, 0 ≤ x ∧ x < m) → l.length ≤ m
  | 0, l, _, h => by
    cases l with
    | nil => exact Nat.le_refl _
    | cons x r => have := h x (by simp); omega
  | m + 1, l, hd, h => by
    by_cases hm : (m : Int) ∈ l
    · have h2 := few m (l.erase m) (hd.erase _) (fun x hx => by
        have h3 := (hd.mem_erase_iff).1 hx
        have h4 := h x h3.2
        have h5 := h3.1
        omega)
      rw [List.length_erase_of_mem hm] at h2
      omega
    · have := few m l hd (fun x hx => by
        have h4 := h x hx
        have : x ≠ m := fun e => hm (e ▸ hx)
        omega)
      omega
theorem rt_few {l : List Int} {v s n : Int} (h : rt l v s n = true) : l.length ≤ 16 := few 16 l (rt_nodup h) (fun x hx => by
  obtain ⟨j, hj, e⟩ := mem_getD hx
  have := okA_is ((rtf_all _ _ h).1 j (by omega) (by omega))
  rw [e] at this
  omega)
theorem rt_seg {l : List Int} {v s n x : Int} (h : rt l v s n = true) (hx : x ∈ l) : 0 ≤ x ∧ x ≤ 15 := by
  obtain ⟨j, hj, e⟩ := mem_getD hx
  have := okA_is ((rtf_all _ _ h).1 j (by omega) (by omega))
  rw [e] at this
  omega
theorem ref_right_is (l : List Int) (v s n : Int) (hn : l.length ≤ 20) (k : Nat) (hk : 60 < k) : lodgerref15_Right.f k l v s n = some (rt l v s n) :=
  ref_right_tells l v s n (by omega) l.length k 0 (by omega) (by omega) (by omega)
theorem right_is (l : List Int) (v s n : Int) (hn : l.length ≤ 20) (k : Nat) (hk : 60 < k) : sweep_Right.f k l v s n = some (rt l v s n) := by
  unfold sweep_Right.f
  by_cases h : (l.length : Int) > 16
  · rw [if_pos h]
    cases e : rt l v s n with
    | false => rfl
    | true => have := rt_few e; omega
  · rw [if_neg h]
    exact right_tells l v s n (by omega) l.length k 0 (by omega) (by omega) (by omega)
theorem erase_filter {l : List Int} (hd : l.Nodup) {j : Nat} (hj : j < l.length) : l.eraseIdx j = l.filter (fun z => z != l.getD j 0) := by
  induction l generalizing j with
  | nil => simp at hj
  | cons x r ih =>
    rw [List.nodup_cons] at hd
    cases j with
    | zero =>
      simp only [List.eraseIdx_cons_zero, List.getD_cons_zero, List.filter_cons, bne_self_eq_false, Bool.false_eq_true, if_false]
      refine (List.filter_eq_self.2 fun z hz => ?_).symm
      simp only [bne_iff_ne, ne_eq]
      exact fun e => hd.1 (e ▸ hz)
    | succ j =>
      have hj' : j < r.length := by simpa using hj
      rw [List.eraseIdx_cons_succ, List.getD_cons_succ, ih hd.2 hj', List.filter_cons, if_pos]
      simp only [bne_iff_ne, ne_eq]
      exact fun e => hd.1 (e ▸ getD_mem hj')
theorem ints_tells (xs : List Int) (hn : xs.length ≤ 9223372036854775000) : ∀ (d k i : Nat), i ≤ xs.length → xs.length - i = d → d < k → lodgerref07_Ints.l0 k xs xs i = some true := by
  intro d
  induction d with
  | zero =>
    intro k i hi hd hk
    obtain ⟨k, rfl⟩ : ∃ m, k = m + 1 := ⟨k - 1, by omega⟩
    simp only [lodgerref07_Ints.l0]
    rw [if_neg (by omega)]
  | succ d ih =>
    intro k i hi hd hk
    obtain ⟨k, rfl⟩ : ∃ m, k = m + 1 := ⟨k - 1, by omega⟩
    have hw : wrap64 ((i : Int) + 1) = ((i + 1 : Nat) : Int) := by unfold wrap64; omega
    simp only [lodgerref07_Ints.l0]
    rw [if_pos (by omega), if_pos (by omega), if_pos (by omega), if_pos trivial, hw]
    exact ih k (i + 1) (by omega) (by omega) (by omega)
theorem ints_is (xs : List Int) (hn : xs.length ≤ 20) (k : Nat) (hk : 60 < k) : lodgerref07_Ints.f k xs xs = some true := by
  unfold lodgerref07_Ints.f
  rw [if_pos rfl]
  exact ints_tells xs (by omega) xs.length k 0 (by omega) (by omega) (by omega)
theorem same_tells (xs : List Int) (v s n : Int) (hn : xs.length ≤ 9223372036854775000) : ∀ (d k i : Nat), i ≤ xs.length → xs.length - i = d → d < k → lodgerref15_Same.l0 k i xs v s n xs v s n = some true := by
  intro d
  induction d with
  | zero =>
    intro k i hi hd hk
    obtain ⟨k, rfl⟩ : ∃ m, k = m + 1 := ⟨k - 1, by omega⟩
    simp only [lodgerref15_Same.l0]
    rw [if_neg (by omega)]
  | succ d ih =>
    intro k i hi hd hk
    obtain ⟨k, rfl⟩ : ∃ m, k = m + 1 := ⟨k - 1, by omega⟩
    have hw : wrap64 ((i : Int) + 1) = ((i + 1 : Nat) : Int) := by unfold wrap64; omega
    simp only [lodgerref15_Same.l0]
    rw [if_pos (by omega), if_pos (by omega), if_pos (by omega), if_pos trivial, hw]
    exact ih k (i + 1) (by omega) (by omega) (by omega)
theorem same_is (xs : List Int) (v s n : Int) (hn : xs.length ≤ 20) (k : Nat) (hk : 60 < k) : lodgerref15_Same.f k xs v s n xs v s n = some true := by
  obtain ⟨k, rfl⟩ : ∃ m, k = m + 1 := ⟨k - 1, by omega⟩
  unfold lodgerref15_Same.f
  rw [if_pos rfl, if_pos rfl, if_pos rfl]
  simp only [lodgerref15_Same.j0, bne_self_eq_false, Bool.false_eq_true, if_false]
  exact same_tells xs v s n (by omega) xs.length k 0 (by omega) (by omega) (by omega)
end Go.Proofs.Ytbcmjbjhjnojjaa.H
