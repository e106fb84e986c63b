/-
How the arguments of the laws over tables are opened.
-/
import Derived.Test.YtbefoehjlgdcgaaOpens
import Derived.Test.YtbefoehjlgdcgaaHx0
import Derived.KernelRfl
namespace Go.Proofs.Ytbefoehjlgdcgaa
namespace Op
open Go.Proofs.Ytbefoehjlgdcgaa.H Go.Proofs.YtbefoehjlgdcgaaW.PrintWords
def W64 (x : Int) : Prop := (Lit.int .i64 x).wf = true
def G42 (x : S42) : Prop := W64 x.f0 ∧ W64 x.f1 ∧ (Lit.int .u64 x.f2).wf = true
theorem opens42 : Opens Try.prog 42 k42 G42 :=
  opens_struct (fun y => ⟨y.1, y.2.1, y.2.2⟩) (fun _ => rfl) Try.underlying42 [3, 3, 23] rfl (by kernel_rfl) (by kernel_rfl)
    (opens_pair (by kernel_rfl) (opens_int Try.underlying3) (opens_pair (by kernel_rfl) (opens_int Try.underlying3) (opens_one (by kernel_rfl) (opens_int Try.underlying23))))
structure S55 where
  f0 : Int
  f1 : Int
  f2 : Int
structure S22 where
  f0 : Int
  f1 : Int
def G22 (x : S22) : Prop := W64 x.f0 ∧ W64 x.f1
def k22 : Kd S22 := Kd.iso (Kd.pair (Kd.int .i64) (Kd.int .i64)) (fun x : S22 => (x.f0, x.f1))
theorem k22_open {w : World} {x : S22} {cs : List Value} (h : k22.K w x cs) : cs = [.int .i64 x.f0, .int .i64 x.f1] := by
  obtain ⟨_, _, rfl, rfl, rfl⟩ := h
  rfl
theorem opens22 : Opens Try.prog 22 k22 G22 := opens_array (fun y => ⟨y.1, y.2⟩) (fun _ => rfl) Try.underlying22 (by kernel_rfl) (opens_pair (by kernel_rfl) (opens_int Try.underlying3) (opens_one (by kernel_rfl) (opens_int Try.underlying3)))
theorem okWide_array {P : Program} {w : World} {base : Nat} {t e : TypeId} {k : Nat} {v : Value} (ht : P.underlying t = some (.array k e)) (h : Value.okWide P w .any base t v) : ∃ cs, v = .agg cs ∧ cs.size = P.cellsOf t := by
  simp only [Value.okWide, ht] at h
  obtain ⟨cs, h1, h2, _⟩ := h
  exact ⟨cs, h1, h2⟩
instance : Inhabited S42 := ⟨z42⟩
theorem opens41 : Opens Try.prog 24 (Kd.slice 42 k42) (fun l => ∀ p ∈ l, G42 p) := opens_slice Try.underlying24 (by kernel_rfl) opens42
end Op
end Go.Proofs.Ytbefoehjlgdcgaa
