/-
Plain: what the reference tells of a table that may be is what the program tells.
-/
import Derived.Test.YtbefoehjlgdcgaaRm
import Derived.Test.YtbefoehjlgdcgaaTk
namespace Go.Proofs.Ytbefoehjlgdcgaa.H
open Go.RowKit Go.Proofs.YtbefoehjlgdcgaaW.PrintWords Go.Proofs.YtbefoehjlgdcgaaW.PrintLast Go.Proofs.YtbefoehjlgdcgaaW.PrintMore
set_option linter.unusedVariables false
set_option linter.unusedSimpArgs false
variable {g s : Int} {o l f : List Int}
theorem rfree_tells (ho : o.length ≤ 16) (hg : 0 ≤ g ∧ g ≤ 16) : ∀ (d k i : Nat), (i : Int) ≤ g → g.toNat - i = d → d + 20 < k → lodgerref08_Free.l0 k (frk i o) (i : Int) g s o l f = some (frk g.toNat o) := by
  intro d
  induction d with
  | zero =>
    intro k i hi hd hk
    obtain ⟨k, rfl⟩ : ∃ k', k = k' + 1 := ⟨k - 1, by omega⟩
    have e : i = g.toNat := by omega
    subst e
    unfold lodgerref08_Free.l0
    rw [if_neg (by omega)]
  | succ d ih =>
    intro k i hi hd hk
    obtain ⟨k, rfl⟩ : ∃ k', k = k' + 1 := ⟨k - 1, by omega⟩
    unfold lodgerref08_Free.l0
    have hb := pl_lo o (i : Int)
    have hl := frk_len i o
    have e2 : wrap64 ((i : Int) + 1) = ((i + 1 : Nat) : Int) := by unfold wrap64; omega
    rw [if_pos (by omega), in_pl g s o l f (i : Int) (by omega) k (by omega), Option.bind_some, e2]
    have hs := frk_succ i o
    by_cases hin : (i : Int) ∈ o
    · rw [if_neg (by intro h; exact hb.2.2.1 h hin)]
      rw [if_pos hin] at hs
      rw [← hs]
      exact ih k (i + 1) (by omega) (by omega) (by omega)
    · rw [if_pos (hb.2.2.2 hin), if_pos (by omega)]
      rw [if_neg hin] at hs
      rw [← hs]
      exact ih k (i + 1) (by omega) (by omega) (by omega)
theorem RT.rfree (h : RT g s o l f) : lodgerref08_Free.f 40 g s o l f = some (frk g.toNat o) := by
  have hm := h.may
  have hn := h.len
  exact rfree_tells (by omega) (by omega) g.toNat 40 0 (by omega) (by omega) (by omega)
theorem RT.rroom (h : RT g s o l f) : lodgerref08_Room.f 40 g s o l f = some (s - Lst l + s * (g - o.length)) := by
  have hm := h.may
  have hn := h.len
  have h1 := h.n1
  have h2 := h.hl
  have hq := h.lst
  have hf := h.free
  unfold lodgerref08_Room.f
  have e0 : wrap64 ((l.length : Int) - 1) = (l.length : Int) - 1 := by unfold wrap64; omega
  have e1 : rd l ((l.length : Int) - 1) = Lst l := by
    show l.getD ((l.length : Int) - 1).toNat 0 = _
    unfold Lst
    congr 1
    omega
  rw [e0, if_pos (by omega), if_pos (by omega), h.rfree, Option.bind_some, e1]
  have h3 := mul_fit (s := s) (by omega) (q := g - o.length) (by omega)
  have e3 : ((frk g.toNat o).length : Int) = g - o.length := by omega
  rw [e3, Int.mul_comm]
  generalize s * (g - (o.length : Int)) = q at h3
  generalize Lst l = z at hq
  congr 1
  unfold wrap64
  omega
theorem rused_tells (hl : l.length ≤ 20) (h : ∀ z ∈ l, 0 ≤ z ∧ z ≤ s) (hs : 0 ≤ s ∧ s ≤ 30) : ∀ (d k i : Nat) (x : Int), i ≤ l.length → l.length - i = d → d < k → 0 ≤ x ∧ x ≤ 30 * (i : Int) → lodgerref08_Used.l0 k x (i : Int) g s o l f = some (x + (l.drop i).sum) := by
  intro d
  induction d with
  | zero =>
    intro k i x hi hd hk hx
    obtain ⟨k, rfl⟩ : ∃ k', k = k' + 1 := ⟨k - 1, by omega⟩
    have e : i = l.length := by omega
    subst e
    unfold lodgerref08_Used.l0
    rw [if_neg (by omega), List.drop_length]
    simp
  | succ d ih =>
    intro k i x hi hd hk hx
    obtain ⟨k, rfl⟩ : ∃ k', k = k' + 1 := ⟨k - 1, by omega⟩
    unfold lodgerref08_Used.l0
    have hr := h _ (getD_mem (l := l) (j := i) (by omega))
    have e1 : rd l (i : Int) = l.getD i 0 := rd_nat l i
    have e2 : wrap64 ((i : Int) + 1) = ((i + 1 : Nat) : Int) := by unfold wrap64; omega
    have e3 : wrap64 (x + l.getD i 0) = x + l.getD i 0 := by unfold wrap64; omega
    rw [if_pos (by omega), if_pos (by omega), e1, e2, e3, ih k (i + 1) _ (by omega) (by omega) (by omega) (by omega)]
    rw [List.drop_eq_getElem_cons (i := i) (by omega), List.sum_cons, ← getD_get (by omega)]
    congr 1
    omega
theorem RT.rused (h : RT g s o l f) : lodgerref08_Used.f 40 g s o l f = some l.sum := by
  have hm := h.may
  have hn := h.len
  have h2 := h.hl
  have := rused_tells (g := g) (s := s) (o := o) (f := f) (l := l) (by omega) h.rl (by omega) l.length 40 0 0 (by omega) (by omega) (by omega) (by omega)
  unfold lodgerref08_Used.f
  simpa using this
/-- What both tell of a segment's records. -/
theorem RT.both (h : RT g s o l f) (z : Int) : ∃ r : Int, table_Len.f 21 g s o l f z = some r ∧ lodgerref08_Len.f 40 g s o l f z = some r := by
  have h1 := pl_lo o z
  have h2 := h.hl
  have h3 := h.len
  have h4 := h.may
  unfold lodgerref08_Len.f
  rw [in_pl g s o l f z (by omega) 40 (by omega), Option.bind_some]
  by_cases hx : 0 ≤ pl o z
  · refine ⟨_, h.len_in hx, ?_⟩
    rw [if_neg (by omega), if_pos (by omega), if_pos (by omega)]
    rfl
  · refine ⟨_, h.len_out (h1.2.2.1 (by omega)), ?_⟩
    rw [if_pos (by omega)]
end Go.Proofs.Ytbefoehjlgdcgaa.H
