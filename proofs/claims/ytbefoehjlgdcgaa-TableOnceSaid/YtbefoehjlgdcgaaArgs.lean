/-
How the arguments of the laws over tables are opened.
-/
import Derived.Test.YtbefoehjlgdcgaaOpens
import Derived.Test.YtbefoehjlgdcgaaHx0
import Derived.KernelRfl
namespace Go.Proofs.Ytbefoehjlgdcgaa
namespace Op
open Go.Proofs.Ytbefoehjlgdcgaa.H Go.Proofs.YtbefoehjlgdcgaaW.PrintWords
def W64 (x : Int) : Prop := (Lit.int .i64 x).wf = true
def GL (l : List Int) : Prop := ∀ p ∈ l, (Lit.int .i64 p).wf = true
def GU (l : List Int) : Prop := ∀ p ∈ l, (Lit.int .u64 p).wf = true
def G28 (x : S28) : Prop := W64 x.f0 ∧ W64 x.f1 ∧ GL x.f2 ∧ GL x.f3 ∧ GU x.f4
def G53 (x : S53) : Prop := W64 x.f0 ∧ W64 x.f1
def G42 (x : S42) : Prop := W64 x.f0 ∧ W64 x.f1 ∧ (Lit.int .u64 x.f2).wf = true
theorem opens25 : Opens Try.prog 25 (Kd.slice 3 (Kd.int .i64)) GL := opens_slice Try.underlying25 (by kernel_rfl) (opens_int Try.underlying3)
theorem opens26 : Opens Try.prog 26 (Kd.slice 23 (Kd.int .u64)) GU := opens_slice Try.underlying26 (by kernel_rfl) (opens_int Try.underlying23)
theorem opens28 : Opens Try.prog 28 k28 G28 :=
  opens_struct (fun y => ⟨y.1, y.2.1, y.2.2.1, y.2.2.2.1, y.2.2.2.2⟩) (fun _ => rfl) Try.underlying28 [3, 3, 25, 25, 26] rfl (by kernel_rfl) (by kernel_rfl)
    (opens_pair (by kernel_rfl) (opens_int Try.underlying3) (opens_pair (by kernel_rfl) (opens_int Try.underlying3) (opens_pair (by kernel_rfl) opens25 (opens_pair (by kernel_rfl) opens25 (opens_one (by kernel_rfl) opens26)))))
theorem opens53 : Opens Try.prog 53 k53 G53 :=
  opens_struct (fun y => ⟨y.1, y.2⟩) (fun _ => rfl) Try.underlying53 [3, 3] rfl (by kernel_rfl) (by kernel_rfl)
    (opens_pair (by kernel_rfl) (opens_int Try.underlying3) (opens_one (by kernel_rfl) (opens_int Try.underlying3)))
theorem opens42 : Opens Try.prog 42 k42 G42 :=
  opens_struct (fun y => ⟨y.1, y.2.1, y.2.2⟩) (fun _ => rfl) Try.underlying42 [3, 3, 23] rfl (by kernel_rfl) (by kernel_rfl)
    (opens_pair (by kernel_rfl) (opens_int Try.underlying3) (opens_pair (by kernel_rfl) (opens_int Try.underlying3) (opens_one (by kernel_rfl) (opens_int Try.underlying23))))
structure S55 where
  f0 : Int
  f1 : Int
  f2 : Int
def G55 (x : S55) : Prop := W64 x.f0 ∧ W64 x.f1 ∧ W64 x.f2
def k55 : Kd S55 := Kd.iso (Kd.pair (Kd.int .i64) k53) (fun x : S55 => (x.f0, (⟨x.f1, x.f2⟩ : S53)))
theorem k55_open {w : World} {x : S55} {cs : List Value} (h : k55.K w x cs) : cs = [.int .i64 x.f0, .int .i64 x.f1, .int .i64 x.f2] := by
  obtain ⟨_, _, rfl, rfl, h2⟩ := h
  rw [k53_open h2]
  rfl
theorem opens55 : Opens Try.prog 55 k55 G55 :=
  opens_struct (fun y => ⟨y.1, y.2.f0, y.2.f1⟩) (fun _ => rfl) Try.underlying55 [3, 53] rfl (by kernel_rfl) (by kernel_rfl)
    (opens_pair (by kernel_rfl) (opens_int Try.underlying3) (opens_one (by kernel_rfl) opens53))
instance : Inhabited S42 := ⟨z42⟩
end Op
end Go.Proofs.Ytbefoehjlgdcgaa
