/-
VictimScale as a function.
-/
import Derived.Test.YtbcjdendpdnknaaHx
import Derived.Test.YtbcjdendpdnknaaCut
namespace Go.Proofs.Ytbcjdendpdnknaa.H
open Go.RowKit Go.Proofs.YtbcjdendpdnknaaW.PrintWords Go.Proofs.YtbcjdendpdnknaaW.PrintLast Go.Proofs.YtbcjdendpdnknaaW.PrintMore
attribute [local go_sem] max2_int min2_int max_two min_two max_three min_three max_four min_four
set_option linter.unusedVariables false
set_option linter.unusedSimpArgs false
/-! ### lodgerlaw14_VictimScale: function 8 -/
def lodgerlaw14_VictimScale.l0 : Nat → List (S25) → Int → Int → List (S25) → Int → Option (Bool)
  | 0, _, _, _, _, _ => none
  | k + 1, x0, x1, x2, x7, x8 => if x8 < (x0.length : Int) then (if 0 ≤ x8 then ((some (x0.set (x8 : Int).toNat (⟨(rd_T25 x0 x8).f0, (rd_T25 x0 x8).f1, (rd_T25 x0 x8).f2, (rd_T25 x0 x8).f3, Int.tmod ((rd_T25 x0 x8).f4) 1048576⟩ : S25) : List (S25))).bind fun y182 => (if x7.length < 3518437208883 then (lodgerlaw14_VictimScale.l0 k y182 x1 x2 (x7 ++ [(⟨(rd_T25 y182 x8).f0, (rd_T25 y182 x8).f1, (rd_T25 y182 x8).f2, (rd_T25 y182 x8).f3, IntKind.u64.wrap (((rd_T25 y182 x8).f4) * (IntKind.u64.wrap (1 + (Int.tmod (IntKind.u64.wrap (x2)) 1000))))⟩ : S25)]) (wrap64 (x8 + 1))) else (none))) else (none)) else ((victim_Pick.f x0 x1).bind fun t188 => ((victim_Pick.f x7 x1).bind fun t189 => (if t188 = t189 then ((victim_Order.f x0).bind fun t190 => ((victim_Order.f x7).bind fun t193 => ((lodgerref07_Ints.f k t190 t193).bind fun t196 => (if t196 = true then ((lodgerlaw14_fixed.f).bind fun t197 => (some t197)) else (some false))))) else (some false))))
def lodgerlaw14_VictimScale.f (k : Nat) (l0 : List (S25)) (a1 : Int) (a2 : Int) : Option (Bool) := (some (([] : List (S25)) : List (S25))).bind fun y168 => (if 0 ≤ (mn (l0.length : Int) 16) then (if (mn (l0.length : Int) 16) ≤ (l0.length : Int) then ((some (l0.take ((mn (l0.length : Int) 16) : Int).toNat : List (S25))).bind fun y171 => (if y168.length + y171.length < 3518437208883 then (lodgerlaw14_VictimScale.l0 k (y168 ++ y171) a1 a2 (([] : List (S25))) 0) else (none))) else (none)) else (none))
theorem lodgerlaw14_VictimScale.mono_l : ∀ k, (∀ y0 y1 y2 y3 y4, LeO (lodgerlaw14_VictimScale.l0 k y0 y1 y2 y3 y4) (lodgerlaw14_VictimScale.l0 (k + 1) y0 y1 y2 y3 y4))
  | 0 => fun _ _ _ _ _ r h => by simp [lodgerlaw14_VictimScale.l0] at h
  | k + 1 => by
    have ih0 := lodgerlaw14_VictimScale.mono_l k
    · intro y0 y1 y2 y3 y4
      unfold lodgerlaw14_VictimScale.l0
      repeat' first
      | (with_reducible exact ih0 _ _ _ _ _)
      | (with_reducible exact lodgerref07_Ints.mono _ _ _)
      | (with_reducible exact LeO.refl _)
      | (with_reducible exact LeO.none _)
      | (with_reducible refine LeO.ite ?_ ?_)
      | (with_reducible refine LeO.bind ?_ (fun _ => ?_))
      | exact ih0 _ _ _ _ _
      | exact lodgerref07_Ints.mono _ _ _
      | exact LeO.none _
      | refine LeO.ite ?_ ?_
      | refine LeO.bind ?_ (fun _ => ?_)
theorem lodgerlaw14_VictimScale.mono : ∀ a0 a1 a2 k, LeO (lodgerlaw14_VictimScale.f k a0 a1 a2) (lodgerlaw14_VictimScale.f (k + 1) a0 a1 a2) := by
  intro a0 a1 a2 k
  have ih0 := lodgerlaw14_VictimScale.mono_l k
  unfold lodgerlaw14_VictimScale.f
  repeat' first
      | (with_reducible exact ih0 _ _ _ _ _)
      | (with_reducible exact lodgerref07_Ints.mono _ _ _)
      | (with_reducible exact LeO.refl _)
      | (with_reducible exact LeO.none _)
      | (with_reducible refine LeO.ite ?_ ?_)
      | (with_reducible refine LeO.bind ?_ (fun _ => ?_))
      | exact ih0 _ _ _ _ _
      | exact lodgerref07_Ints.mono _ _ _
      | exact LeO.none _
      | refine LeO.ite ?_ ?_
      | refine LeO.bind ?_ (fun _ => ?_)
end Go.Proofs.Ytbcjdendpdnknaa.H
