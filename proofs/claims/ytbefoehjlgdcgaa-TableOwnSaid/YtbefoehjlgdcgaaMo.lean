/-
Few words that the walks use besides: the builtins min and max, looks ahead of a step, a row that another row's growth leaves.
-/
import Derived.Test.YtbefoehjlgdcgaaWWords
import Derived.Test.YtbefoehjlgdcgaaWLast
namespace Go.Proofs.YtbefoehjlgdcgaaW.PrintMore
theorem min2_int (k k' : IntKind) (x y : Int) : Builtin.min2 (.int k x) (.int k' y) = pure (.int k (if y < x then y else x)) := by unfold Builtin.min2; rfl
theorem min_two (ats : Array TypeId) (ty : TypeId) (a b : Value) : Builtin.min_ ats ty #[a, b] = (Builtin.min2 a b >>= fun s => pure s) := by simp [Builtin.min_]
end Go.Proofs.YtbefoehjlgdcgaaW.PrintMore
namespace Go.Proofs.YtbefoehjlgdcgaaW.PrintWords
open Go.RowKit
theorem gate_callee {P : Program} {ops : Array Oper} {rest : List Oper} {o : Oper} {a : Act} {Q : Exit → Act → World → Prop} {W : World} {f : FuncId} {as : Array Operand} {ts : Array TypeId} (_ : o.op = .call { callee := .value (.func f), args := as, argTypes := ts }) (h : wpList P ops Q (o :: rest) a W) : wpList P ops Q (o :: rest) a W := h
theorem gate_builtin {P : Program} {ops : Array Oper} {rest : List Oper} {o : Oper} {a : Act} {Q : Exit → Act → World → Prop} {W : World} {b : Builtin} {xs : Array Operand} {ts : Array TypeId} (_ : o.op = .call { callee := .builtin b, args := xs, argTypes := ts }) (h : wpList P ops Q (o :: rest) a W) : wpList P ops Q (o :: rest) a W := h
theorem Kd.R_grown1 {α : Type} {d : Kd α} {e base : Nat} {ok : Nat → Prop} {W w1 : World} {v : Value} {xs : List α} (h : Kd.R d e W base ok v xs) (hE : d.E = []) {row : Option Nat} (hg : W.grownBy w1 row) (hne : row ≠ v.ownBlock) : Kd.R d e w1 base ok v xs := by
  have h0 := h.1
  have ht : Kd.R d e W base (fun k => some k = v.ownBlock) v xs := by
    obtain ⟨_, inner, ho, hr⟩ := h
    refine ⟨fun k hk => hk.symm, inner, ho, hr.imp_ (fun p c hp => d.M_mono (fun k hk => ?_) (d.M_bound hp))⟩
    obtain ⟨_, _, _, q, hq, _⟩ := hk
    rw [hE] at hq
    cases hq
  exact Kd.R_mono (Kd.R_grown ht hg (fun _ hk q => hne (q.symm.trans hk))) (fun k hk => h0 k hk.symm)
end Go.Proofs.YtbefoehjlgdcgaaW.PrintWords
