/-
The plain laws of a table's lists: the place of a number, which segments are free. No memory here.
-/
import Derived.Test.YtbefoehjlgdcgaaHx
namespace Go.Proofs.Ytbefoehjlgdcgaa.H
open Go.RowKit Go.Proofs.YtbefoehjlgdcgaaW.PrintWords Go.Proofs.YtbefoehjlgdcgaaW.PrintLast Go.Proofs.YtbefoehjlgdcgaaW.PrintMore
theorem rd_nat (l : List Int) (i : Nat) : rd l (i : Int) = l.getD i 0 := by simp [rd]
theorem getD_mem {l : List Int} {j : Nat} (h : j < l.length) : l.getD j 0 ∈ l := by
  rw [List.getD_eq_getElem?_getD, List.getElem?_eq_getElem h]
  exact List.getElem_mem h
theorem mem_getD {l : List Int} {x : Int} (h : x ∈ l) : ∃ j, j < l.length ∧ l.getD j 0 = x := by
  obtain ⟨j, hj, e⟩ := List.getElem_of_mem h
  exact ⟨j, hj, by rw [List.getD_eq_getElem?_getD, List.getElem?_eq_getElem hj]; exact e⟩
theorem getD_take {l : List Int} {i j : Nat} (h : j < i) : (l.take i).getD j 0 = l.getD j 0 := by
  simp [List.getD_eq_getElem?_getD, h]
theorem index_tells (l : List Int) (x : Int) (hn : l.length ≤ 9223372036854775000) : ∀ (d k i : Nat), i ≤ l.length → l.length - i = d → d < k → (∀ j, j < i → l.getD j 0 ≠ x) →
    ∃ p : Int, slices_Index_int_int.l0 k l x l.length i = some p ∧ ((p = -1 ∧ ¬ x ∈ l) ∨ ∃ j : Nat, p = j ∧ j < l.length ∧ l.getD j 0 = x ∧ ∀ q, q < j → l.getD q 0 ≠ x) := by
  intro d
  induction d with
  | zero =>
    intro k i hi hd hk hb
    obtain ⟨k, rfl⟩ : ∃ m, k = m + 1 := ⟨k - 1, by omega⟩
    simp only [slices_Index_int_int.l0]
    rw [if_neg (by omega)]
    refine ⟨-1, rfl, .inl ⟨rfl, fun h => ?_⟩⟩
    obtain ⟨j, hj, e⟩ := mem_getD h
    exact hb j (by omega) e
  | succ d ih =>
    intro k i hi hd hk hb
    obtain ⟨k, rfl⟩ : ∃ m, k = m + 1 := ⟨k - 1, by omega⟩
    have hw : wrap64 ((i : Int) + 1) = ((i + 1 : Nat) : Int) := by unfold wrap64; omega
    simp only [slices_Index_int_int.l0]
    rw [if_pos (by omega), if_pos (by omega), if_pos (by omega), rd_nat, hw]
    by_cases hx : x = l.getD i 0
    · rw [if_pos hx]
      exact ⟨i, rfl, .inr ⟨i, rfl, by omega, hx.symm, hb⟩⟩
    · rw [if_neg hx]
      refine ih k (i + 1) (by omega) (by omega) (by omega) (fun j hj => ?_)
      by_cases hji : j < i
      · exact hb j hji
      · obtain rfl : j = i := by omega
        exact fun h => hx h.symm
theorem index_is (l : List Int) (x : Int) (hn : l.length ≤ 9223372036854775000) (k : Nat) (hk : l.length < k) :
    ∃ p : Int, slices_Index_int_int.f k l x = some p ∧ ((p = -1 ∧ ¬ x ∈ l) ∨ ∃ j : Nat, p = j ∧ j < l.length ∧ l.getD j 0 = x ∧ ∀ q, q < j → l.getD q 0 ≠ x) :=
  index_tells l x hn l.length k 0 (by omega) (by omega) (by omega) (fun j hj => by omega)
theorem contains_is (l : List Int) (x : Int) (hn : l.length ≤ 9223372036854775000) (k : Nat) (hk : l.length < k) : slices_Contains_int_int.f k l x = some (decide (x ∈ l)) := by
  obtain ⟨p, h, hp⟩ := index_is l x hn k hk
  simp only [slices_Contains_int_int.f, h, Option.bind_some]
  congr 1
  rcases hp with ⟨rfl, hno⟩ | ⟨j, rfl, hj, e, _⟩
  · rw [decide_eq_false hno]
    rfl
  · rw [decide_eq_true (show x ∈ l from e ▸ getD_mem hj)]
    exact decide_eq_true (by omega)
theorem in_tells (g s : Int) (o l f : List Int) (x : Int) (hn : o.length ≤ 9223372036854775000) : ∀ (d k i : Nat), i ≤ o.length → o.length - i = d → d < k → (∀ j, j < i → o.getD j 0 ≠ x) →
    ∃ p : Int, lodgerref08_In.l0 k x i g s o l f = some p ∧ ((p = -1 ∧ ¬ x ∈ o) ∨ ∃ j : Nat, p = j ∧ j < o.length ∧ o.getD j 0 = x ∧ ∀ q, q < j → o.getD q 0 ≠ x) := by
  intro d
  induction d with
  | zero =>
    intro k i hi hd hk hb
    obtain ⟨k, rfl⟩ : ∃ m, k = m + 1 := ⟨k - 1, by omega⟩
    simp only [lodgerref08_In.l0]
    rw [if_neg (by omega)]
    refine ⟨-1, rfl, .inl ⟨rfl, fun h => ?_⟩⟩
    obtain ⟨j, hj, e⟩ := mem_getD h
    exact hb j (by omega) e
  | succ d ih =>
    intro k i hi hd hk hb
    obtain ⟨k, rfl⟩ : ∃ m, k = m + 1 := ⟨k - 1, by omega⟩
    have hw : wrap64 ((i : Int) + 1) = ((i + 1 : Nat) : Int) := by unfold wrap64; omega
    simp only [lodgerref08_In.l0]
    rw [if_pos (by omega), if_pos (by omega), rd_nat, hw]
    by_cases hx : o.getD i 0 = x
    · rw [if_pos hx]
      exact ⟨i, rfl, .inr ⟨i, rfl, by omega, hx, hb⟩⟩
    · rw [if_neg hx]
      refine ih k (i + 1) (by omega) (by omega) (by omega) (fun j hj => ?_)
      by_cases hji : j < i
      · exact hb j hji
      · obtain rfl : j = i := by omega
        exact hx
/-- The place of a number, or -1. -/
def pl (o : List Int) (x : Int) : Int := if x ∈ o then (o.idxOf x : Int) else -1
theorem pl_of {o : List Int} {x p : Int} (h : (p = -1 ∧ ¬ x ∈ o) ∨ ∃ j : Nat, p = j ∧ j < o.length ∧ o.getD j 0 = x ∧ ∀ q, q < j → o.getD q 0 ≠ x) : p = pl o x := by
  unfold pl
  rcases h with ⟨rfl, hno⟩ | ⟨j, rfl, hj, e, hb⟩
  · rw [if_neg hno]
  · have hin : x ∈ o := e ▸ getD_mem hj
    have h1 := List.idxOf_lt_length_of_mem hin
    have h2 : o.getD (o.idxOf x) 0 = x := by
      rw [List.getD_eq_getElem?_getD, List.getElem?_eq_getElem h1]
      simp
    rw [if_pos hin]
    by_cases hlt : o.idxOf x < j
    · exact absurd h2 (hb _ hlt)
    · by_cases hgt : j < o.idxOf x
      · have h3 := List.not_of_lt_findIdx (p := (· == x)) (xs := o) hgt
        rw [List.getD_eq_getElem?_getD, List.getElem?_eq_getElem hj] at e
        simp at e h3
        exact absurd e h3
      · omega
theorem index_pl (o : List Int) (x : Int) (hn : o.length ≤ 9223372036854775000) (k : Nat) (hk : o.length < k) : slices_Index_int_int.f k o x = some (pl o x) := by
  obtain ⟨p, h, hp⟩ := index_is o x hn k hk
  rw [h, pl_of hp]
theorem in_pl (g s : Int) (o l f : List Int) (x : Int) (hn : o.length ≤ 9223372036854775000) (k : Nat) (hk : o.length < k) : lodgerref08_In.f k g s o l f x = some (pl o x) := by
  obtain ⟨p, h, hp⟩ := in_tells g s o l f x hn o.length k 0 (by omega) (by omega) (by omega) (fun j hj => by omega)
  exact h.trans (congrArg some (pl_of hp))
theorem pl_lo (o : List Int) (x : Int) : -1 ≤ pl o x ∧ pl o x < o.length ∧ (pl o x < 0 ↔ ¬ x ∈ o) := by
  unfold pl
  split
  · rename_i h
    have := List.idxOf_lt_length_of_mem h
    exact ⟨by omega, by omega, ⟨fun h2 => by omega, fun h2 => absurd h h2⟩⟩
  · rename_i h
    exact ⟨by omega, by omega, ⟨fun _ => h, fun _ => by omega⟩⟩
/-- The free ones of the first k segments. -/
def frk (k : Nat) (o : List Int) : List Int := ((List.range k).map (fun i : Nat => (i : Int))).filter (fun z => !decide (z ∈ o))
theorem frk_succ (k : Nat) (o : List Int) : frk (k + 1) o = if (k : Int) ∈ o then frk k o else frk k o ++ [(k : Int)] := by
  unfold frk
  rw [List.range_succ, List.map_append, List.filter_append]
  by_cases h : (k : Int) ∈ o
  · rw [if_pos h]; simp [h]
  · rw [if_neg h]; simp [h]
theorem frk_len (k : Nat) (o : List Int) : (frk k o).length ≤ k := by
  unfold frk
  refine Nat.le_trans (List.length_filter_le _ _) ?_
  simp
theorem frk_pre {k m : Nat} (o : List Int) (h : k ≤ m) : frk k o <+: frk m o := by
  obtain ⟨d, rfl⟩ : ∃ d, m = k + d := ⟨m - k, by omega⟩
  induction d with
  | zero => exact List.prefix_refl _
  | succ d ih =>
    have h2 := frk_succ (k + d) o
    rw [Nat.add_assoc] at h2
    rw [h2]
    split
    · exact ih (by omega)
    · exact (ih (by omega)).trans (List.prefix_append _ _)
end Go.Proofs.Ytbefoehjlgdcgaa.H
