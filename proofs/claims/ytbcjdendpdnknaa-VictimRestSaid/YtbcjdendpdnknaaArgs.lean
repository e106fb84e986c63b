/-
How the arguments of the laws over candidates are opened.
-/
import Derived.Test.YtbcjdendpdnknaaOpens
import Derived.Test.YtbcjdendpdnknaaHx0
import Derived.KernelRfl
namespace Go.Proofs.Ytbcjdendpdnknaa
namespace Op
open Go.Proofs.Ytbcjdendpdnknaa.H Go.Proofs.YtbcjdendpdnknaaW.PrintWords
def G25 (x : S25) : Prop := (Lit.int .i64 x.f0).wf = true ∧ (Lit.int .i64 x.f1).wf = true ∧ (Lit.int .i64 x.f2).wf = true ∧ (Lit.int .i64 x.f3).wf = true ∧ (Lit.int .u64 x.f4).wf = true
theorem opens25 : Opens Try.prog 25 k25 G25 :=
  opens_struct (fun y => ⟨y.1, y.2.1, y.2.2.1, y.2.2.2.1, y.2.2.2.2⟩) (fun _ => rfl) Try.underlying25 [3, 3, 3, 3, 23] rfl (by kernel_rfl) (by kernel_rfl)
    (opens_pair (by kernel_rfl) (opens_int Try.underlying3) (opens_pair (by kernel_rfl) (opens_int Try.underlying3) (opens_pair (by kernel_rfl) (opens_int Try.underlying3) (opens_pair (by kernel_rfl) (opens_int Try.underlying3) (opens_one (by kernel_rfl) (opens_int Try.underlying23))))))
instance : Inhabited S25 := ⟨z25⟩
theorem opens22 : Opens Try.prog 22 (Kd.slice 25 k25) (fun l => ∀ p ∈ l, G25 p) := opens_slice Try.underlying22 (by kernel_rfl) opens25
end Op
end Go.Proofs.Ytbcjdendpdnknaa
