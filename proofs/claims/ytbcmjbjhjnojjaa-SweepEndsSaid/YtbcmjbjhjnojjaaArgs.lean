/-
How the arguments of the laws over sweeps are opened.
-/
import Derived.Test.YtbcmjbjhjnojjaaOpens
import Derived.Test.YtbcmjbjhjnojjaaHx0
import Derived.KernelRfl
namespace Go.Proofs.Ytbcmjbjhjnojjaa
namespace Op
open Go.Proofs.Ytbcmjbjhjnojjaa.H Go.Proofs.YtbcmjbjhjnojjaaW.PrintWords
def W64 (x : Int) : Prop := (Lit.int .i64 x).wf = true
def GL (l : List Int) : Prop := ∀ p ∈ l, (Lit.int .i64 p).wf = true
def G25 (x : S25) : Prop := GL x.f0 ∧ W64 x.f1 ∧ W64 x.f2 ∧ W64 x.f3
def G32 (x : S32) : Prop := W64 x.f0 ∧ W64 x.f1 ∧ W64 x.f2 ∧ GL x.f3
theorem opens23 : Opens Try.prog 23 (Kd.slice 3 (Kd.int .i64)) GL := opens_slice Try.underlying23 (by kernel_rfl) (opens_int Try.underlying3)
theorem opens25 : Opens Try.prog 25 k25 G25 :=
  opens_struct (fun y => ⟨y.1, y.2.1, y.2.2.1, y.2.2.2⟩) (fun _ => rfl) Try.underlying25 [23, 3, 3, 3] rfl (by kernel_rfl) (by kernel_rfl)
    (opens_pair (by kernel_rfl) opens23 (opens_pair (by kernel_rfl) (opens_int Try.underlying3) (opens_pair (by kernel_rfl) (opens_int Try.underlying3) (opens_one (by kernel_rfl) (opens_int Try.underlying3)))))
theorem opens32 : Opens Try.prog 32 k32 G32 :=
  opens_struct (fun y => ⟨y.1, y.2.1, y.2.2.1, y.2.2.2⟩) (fun _ => rfl) Try.underlying32 [3, 3, 3, 23] rfl (by kernel_rfl) (by kernel_rfl)
    (opens_pair (by kernel_rfl) (opens_int Try.underlying3) (opens_pair (by kernel_rfl) (opens_int Try.underlying3) (opens_pair (by kernel_rfl) (opens_int Try.underlying3) (opens_one (by kernel_rfl) opens23))))
instance : Inhabited S32 := ⟨z32⟩
theorem opens22 : Opens Try.prog 22 (Kd.slice 32 k32) (fun l => ∀ p ∈ l, G32 p) := opens_slice Try.underlying22 (by kernel_rfl) opens32
end Op
end Go.Proofs.Ytbcmjbjhjnojjaa
