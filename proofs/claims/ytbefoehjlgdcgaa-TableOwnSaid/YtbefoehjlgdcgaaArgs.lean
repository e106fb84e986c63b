/-
How the arguments of the laws over tables are opened.
-/
import Derived.Test.YtbefoehjlgdcgaaOpens
import Derived.Test.YtbefoehjlgdcgaaHx0
import Derived.KernelRfl
namespace Go.Proofs.Ytbefoehjlgdcgaa
namespace Op
open Go.Proofs.Ytbefoehjlgdcgaa.H Go.Proofs.YtbefoehjlgdcgaaW.PrintWords
def W64 (x : Int) : Prop := (Lit.int .i64 x).wf = true
def GL (l : List Int) : Prop := ∀ p ∈ l, (Lit.int .i64 p).wf = true
def GU (l : List Int) : Prop := ∀ p ∈ l, (Lit.int .u64 p).wf = true
def G28 (x : S28) : Prop := W64 x.f0 ∧ W64 x.f1 ∧ GL x.f2 ∧ GL x.f3 ∧ GU x.f4
theorem opens25 : Opens Try.prog 25 (Kd.slice 3 (Kd.int .i64)) GL := opens_slice Try.underlying25 (by kernel_rfl) (opens_int Try.underlying3)
theorem opens26 : Opens Try.prog 26 (Kd.slice 23 (Kd.int .u64)) GU := opens_slice Try.underlying26 (by kernel_rfl) (opens_int Try.underlying23)
theorem opens28 : Opens Try.prog 28 k28 G28 :=
  opens_struct (fun y => ⟨y.1, y.2.1, y.2.2.1, y.2.2.2.1, y.2.2.2.2⟩) (fun _ => rfl) Try.underlying28 [3, 3, 25, 25, 26] rfl (by kernel_rfl) (by kernel_rfl)
    (opens_pair (by kernel_rfl) (opens_int Try.underlying3) (opens_pair (by kernel_rfl) (opens_int Try.underlying3) (opens_pair (by kernel_rfl) opens25 (opens_pair (by kernel_rfl) opens25 (opens_one (by kernel_rfl) opens26)))))
structure S55 where
  f0 : Int
  f1 : Int
  f2 : Int
structure S22 where
  f0 : Int
  f1 : Int
instance : Inhabited S42 := ⟨z42⟩
end Op
end Go.Proofs.Ytbefoehjlgdcgaa
