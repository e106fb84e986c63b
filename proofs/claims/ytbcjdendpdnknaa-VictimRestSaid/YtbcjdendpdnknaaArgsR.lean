/-
How the pair that VictimRest takes is opened.
-/
import Derived.Test.YtbcjdendpdnknaaLRest
import Derived.Test.YtbcjdendpdnknaaArgs
import Derived.KernelRfl
namespace Go.Proofs.Ytbcjdendpdnknaa.Op
theorem opens46 : Opens Try.prog 46 Go.Proofs.Ytbcjdendpdnknaa.H.Op.k46 Go.Proofs.Ytbcjdendpdnknaa.H.Op.G46 := opens_array (fun y => ⟨y.1, y.2⟩) (fun _ => rfl) Try.underlying46 (by kernel_rfl) (opens_pair (by kernel_rfl) (opens_int Try.underlying3) (opens_one (by kernel_rfl) (opens_int Try.underlying3)))
theorem okWide_array {P : Program} {w : World} {base : Nat} {t e : TypeId} {k : Nat} {v : Value} (ht : P.underlying t = some (.array k e)) (h : Value.okWide P w .any base t v) : ∃ cs, v = .agg cs ∧ cs.size = P.cellsOf t := by
  simp only [Value.okWide, ht] at h
  obtain ⟨cs, h1, h2, _⟩ := h
  exact ⟨cs, h1, h2⟩
end Go.Proofs.Ytbcjdendpdnknaa.Op
