/-
Plain: what a table that may be is; what is used, free and open of it, and how that changes.
-/
import Derived.Test.YtbefoehjlgdcgaaRg
namespace Go.Proofs.Ytbefoehjlgdcgaa.H
open Go.RowKit Go.Proofs.YtbefoehjlgdcgaaW.PrintWords Go.Proofs.YtbefoehjlgdcgaaW.PrintLast Go.Proofs.YtbefoehjlgdcgaaW.PrintMore
set_option linter.unusedVariables false
set_option linter.unusedSimpArgs false
structure RT (g s : Int) (o l f : List Int) : Prop where
  hm : mayT g s = true
  n1 : 1 ≤ o.length
  hl : l.length = o.length
  hf : f.length = o.length
  nd : o.Nodup
  ro : ∀ z ∈ o, 0 ≤ z ∧ z < g
  rl : ∀ z ∈ l, 0 ≤ z ∧ z ≤ s
variable {g s : Int} {o l f : List Int}
theorem getD_get {xs : List Int} {i : Nat} (h : i < xs.length) : xs.getD i 0 = xs[i] := by
  rw [List.getD_eq_getElem?_getD, List.getElem?_eq_getElem h]
  rfl
theorem nodup_take : o.Nodup ↔ ∀ i, i < o.length → ¬ o.getD i 0 ∈ o.take i := by
  unfold List.Nodup
  rw [List.pairwise_iff_getElem]
  constructor
  · intro h i hi hin
    obtain ⟨j, hj, e⟩ := mem_getD hin
    rw [List.length_take] at hj
    rw [getD_take (by omega), getD_get (by omega), getD_get hi] at e
    exact h j i (by omega) hi (by omega) e
  · intro h i j hi hj hij e
    refine h j hj ?_
    rw [getD_get hj, ← e, ← getD_get hi, ← getD_take hij]
    exact getD_mem (by rw [List.length_take]; omega)
theorem rt_iff : rtT g s o l f = true ↔ RT g s o l f := by
  unfold rtT upT
  simp only [Bool.and_eq_true, decide_eq_true_eq]
  constructor
  · rintro ⟨⟨⟨⟨h1, h2⟩, h3⟩, h4⟩, h5⟩
    refine ⟨h1, by omega, h3, h4, nodup_take.2 (fun i hi => (h5 i hi).2.1), fun z hz => ?_, fun z hz => ?_⟩
    · obtain ⟨j, hj, e⟩ := mem_getD hz
      rw [← e]
      exact (h5 j hj).1
    · obtain ⟨j, hj, e⟩ := mem_getD hz
      rw [← e]
      exact (h5 j (by omega)).2.2
  · rintro ⟨h1, h2, h3, h4, h5, h6, h7⟩
    exact ⟨⟨⟨⟨h1, by omega⟩, h3⟩, h4⟩, fun i hi => ⟨h6 _ (getD_mem hi), nodup_take.1 h5 i hi, h7 _ (getD_mem (by omega))⟩⟩
theorem RT.may (h : RT g s o l f) : 4 ≤ g ∧ g ≤ 16 ∧ 1 ≤ s ∧ s ≤ 30 := of_decide_eq_true h.hm
/-- How many of the first k segments are in use. -/
theorem below_count (nd : o.Nodup) (h0 : ∀ z ∈ o, 0 ≤ z) : ∀ k : Nat, (frk k o).length + (o.filter (fun z => decide (z < (k : Int)))).length = k
  | 0 => by
    have e : o.filter (fun z => decide (z < ((0 : Nat) : Int))) = [] := List.filter_eq_nil_iff.2 (fun z hz => by have := h0 z hz; simp; omega)
    rw [e]
    rfl
  | k + 1 => by
    have ih := below_count nd h0 k
    have hc : ∀ xs : List Int, (xs.filter (fun z => decide (z < ((k + 1 : Nat) : Int)))).length = (xs.filter (fun z => decide (z < (k : Int)))).length + xs.count (k : Int) := by
      intro xs
      induction xs with
      | nil => rfl
      | cons z r ih2 =>
        rw [List.count_cons, List.filter_cons, List.filter_cons]
        by_cases h1 : z < (k : Int)
        · have h2 : z < ((k + 1 : Nat) : Int) := by omega
          have h3 : (z == (k : Int)) = false := beq_eq_false_iff_ne.2 (by omega)
          rw [if_pos (decide_eq_true h2), if_pos (decide_eq_true h1), h3]
          simp only [List.length_cons, ih2]
          simp only [Bool.false_eq_true, if_false]
          omega
        · by_cases h4 : z = (k : Int)
          · have h2 : z < ((k + 1 : Nat) : Int) := by omega
            have h3 : (z == (k : Int)) = true := beq_iff_eq.2 h4
            rw [if_pos (decide_eq_true h2), if_neg (by simp; omega), h3]
            simp only [List.length_cons, ih2, if_true]
            omega
          · have h3 : (z == (k : Int)) = false := beq_eq_false_iff_ne.2 h4
            rw [if_neg (by simp; omega), if_neg (by simp; omega), h3, ih2]
            simp
    rw [hc, frk_succ, nd.count]
    by_cases hk : (k : Int) ∈ o
    · rw [if_pos hk, if_pos hk]
      omega
    · rw [if_neg hk, if_neg hk, List.length_append]
      simp only [List.length_cons, List.length_nil]
      omega
theorem RT.free (h : RT g s o l f) : (frk g.toNat o).length + o.length = g.toNat := by
  have e := below_count h.nd (fun z hz => (h.ro z hz).1) g.toNat
  have hm := h.may
  have e2 : o.filter (fun z => decide (z < (g.toNat : Int))) = o := List.filter_eq_self.2 (fun z hz => by have := h.ro z hz; exact decide_eq_true (by omega))
  rw [e2] at e
  exact e
theorem RT.len (h : RT g s o l f) : (o.length : Int) ≤ g := by
  have := h.free
  have := h.may
  omega
def Lst (l : List Int) : Int := l.getD (l.length - 1) 0
theorem RT.lst (h : RT g s o l f) : 0 ≤ Lst l ∧ Lst l ≤ s := h.rl _ (getD_mem (by have := h.n1; have := h.hl; omega))
theorem mul_fit (hs : 0 ≤ s ∧ s ≤ 30) {q : Int} (hq : 0 ≤ q ∧ q ≤ 16) : 0 ≤ s * q ∧ s * q ≤ 30 * 16 := ⟨Int.mul_nonneg hs.1 hq.1, Int.mul_le_mul hs.2 hq.2 hq.1 (by omega)⟩
theorem RT.room (h : RT g s o l f) : table_Room.f g s o l f = some (s - Lst l + s * (g - o.length)) := by
  have hm := h.may
  have hn := h.len
  have h1 := h.n1
  have h2 := h.hl
  have hq := h.lst
  unfold table_Room.f
  have e1 : rd l ((o.length : Int) - 1) = Lst l := by
    show l.getD ((o.length : Int) - 1).toNat 0 = _
    unfold Lst
    congr 1
    omega
  rw [last_is g s o l f (by omega), Option.bind_some, if_pos (by omega), if_pos (by omega), e1]
  have h3 := mul_fit (s := s) (by omega) (q := g - o.length) (by omega)
  have e2 : wrap64 (g - (o.length : Int)) = g - o.length := by unfold wrap64; omega
  rw [e2]
  generalize s * (g - (o.length : Int)) = q at h3
  generalize Lst l = z at hq
  congr 1
  unfold wrap64
  omega
/-- All records and all room are within what there is. -/
theorem sum_last : ∀ {xs : List Int}, (∀ z ∈ xs, 0 ≤ z ∧ z ≤ s) → 1 ≤ xs.length → xs.sum - Lst xs ≤ s * (xs.length - 1)
  | [], _, h => by simp at h
  | [z], _, _ => by simp [Lst]
  | z :: y :: r, h, _ => by
    have h1 := h z (List.mem_cons_self ..)
    have h2 := sum_last (xs := y :: r) (fun x hx => h x (List.mem_cons_of_mem _ hx)) (by simp)
    have e : Lst (z :: y :: r) = Lst (y :: r) := rfl
    rw [List.sum_cons, e]
    have e2 : (((z :: y :: r).length : Int) - 1) = (((y :: r).length : Int) - 1) + 1 := by simp only [List.length_cons]; omega
    rw [e2, Int.mul_add, Int.mul_one]
    omega
theorem RT.all (h : RT g s o l f) : (s - Lst l + s * (g - o.length)) + l.sum ≤ g * s := by
  have h2 := h.hl
  have h1 := sum_last h.rl (by have := h.n1; omega)
  rw [h2] at h1
  have e : s * (g - (o.length : Int)) + s * ((o.length : Int) - 1) + s = g * s := by
    rw [← Int.mul_add, Int.mul_comm g s, show g - (o.length : Int) + ((o.length : Int) - 1) = g - 1 by omega, Int.mul_sub, Int.mul_one]
    omega
  omega
/-- A record more. -/
theorem RT.count (h : RT g s o l f) (hc : Lst l < s) : RT g s o (l.set (l.length - 1) (Lst l + 1)) f := by
  have hq := h.lst
  refine ⟨h.hm, h.n1, by rw [List.length_set]; exact h.hl, h.hf, h.nd, h.ro, fun z hz => ?_⟩
  rcases List.mem_or_eq_of_mem_set hz with q | q
  · exact h.rl z q
  · omega
/-- A segment less. -/
theorem RT.drop (h : RT g s o l f) {p : Nat} (hp : p + 1 < o.length) : RT g s (o.eraseIdx p) (l.eraseIdx p) (f.eraseIdx p) := by
  have h2 := h.hl
  have h3 := h.hf
  have e1 : (o.eraseIdx p).length = o.length - 1 := by rw [List.length_eraseIdx, if_pos (by omega)]
  have e2 : (l.eraseIdx p).length = l.length - 1 := by rw [List.length_eraseIdx, if_pos (by omega)]
  have e3 : (f.eraseIdx p).length = f.length - 1 := by rw [List.length_eraseIdx, if_pos (by omega)]
  refine ⟨h.hm, by omega, by omega, by omega, h.nd.sublist (List.eraseIdx_sublist ..), fun z hz => h.ro z ((List.eraseIdx_sublist ..).subset hz), fun z hz => h.rl z ((List.eraseIdx_sublist ..).subset hz)⟩
end Go.Proofs.Ytbefoehjlgdcgaa.H
