/-
Plain: tables of segments that follow one another, without records.
-/
import Derived.Test.YtbefoehjlgdcgaaFu
namespace Go.Proofs.Ytbefoehjlgdcgaa.H
open Go.RowKit Go.Proofs.YtbefoehjlgdcgaaW.PrintWords Go.Proofs.YtbefoehjlgdcgaaW.PrintLast Go.Proofs.YtbefoehjlgdcgaaW.PrintMore
theorem R5 {α : Type} {d : Kd α} {W w : World} {g e base t : Nat} {cs : Array Value} {ok : Nat → Prop} {v v0 v1 v2 v3 v4 : Value} {xs : List α} (hW : W = ((((w.setCell ⟨g, 0, none⟩ v0).setCell ⟨g, 1, none⟩ v1).setCell ⟨g, 2, none⟩ v2).setCell ⟨g, 3, none⟩ v3).setCell ⟨g, 4, none⟩ v4) (h : w.heap[g]? = some (.cells cs t (0, 0))) (hr : d.R e w base ok v xs) (ht : ∀ q, q ∈ e :: d.E → q ≠ t := by decide) : d.R e W base ok v xs := by
  rw [hW]
  exact Kd.R_set (Kd.R_set (Kd.R_set (Kd.R_set (Kd.R_set hr h ht 0 v0) (blk_set h 0 v0) ht 1 v1) (blk_set (blk_set h 0 v0) 1 v1) ht 2 v2) (blk_set (blk_set (blk_set h 0 v0) 1 v1) 2 v2) ht 3 v3) (blk_set (blk_set (blk_set (blk_set h 0 v0) 1 v1) 2 v2) 3 v3) ht 4 v4
theorem ints_same (l : List Int) (h : l.length ≤ 16) : ∃ k, lodgerref07_Ints.f k l l = some true := by
  have key : ∀ (d i : Nat), l.length - i = d → i ≤ l.length → ∃ k, lodgerref07_Ints.l0 k l l (i : Int) = some true := by
    intro d
    induction d with
    | zero =>
      intro i h1 h2
      refine ⟨1, ?_⟩
      unfold lodgerref07_Ints.l0
      rw [if_neg (by omega)]
    | succ d ih =>
      intro i h1 h2
      obtain ⟨k, hk⟩ := ih (i + 1) (by omega) (by omega)
      refine ⟨k + 1, ?_⟩
      unfold lodgerref07_Ints.l0
      have e : wrap64 ((i : Int) + 1) = ((i + 1 : Nat) : Int) := by unfold wrap64; omega
      rw [if_pos (by omega), if_pos (by omega), if_pos (by omega), if_pos rfl, e]
      exact hk
  obtain ⟨k, hk⟩ := key l.length 0 rfl (by omega)
  refine ⟨k, ?_⟩
  unfold lodgerref07_Ints.f
  simpa using hk
end Go.Proofs.Ytbefoehjlgdcgaa.H
