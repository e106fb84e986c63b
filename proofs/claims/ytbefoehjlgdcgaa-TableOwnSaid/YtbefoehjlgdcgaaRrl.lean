/-
lodgerref08.Roll: a segment more.
-/
import Derived.Test.YtbefoehjlgdcgaaRo
import Derived.Test.YtbefoehjlgdcgaaCy
namespace Go.Proofs.Ytbefoehjlgdcgaa.H
open Go.RowKit Go.Proofs.YtbefoehjlgdcgaaW.PrintWords Go.Proofs.YtbefoehjlgdcgaaW.PrintLast Go.Proofs.YtbefoehjlgdcgaaW.PrintMore
attribute [local go_sem] min2_int min_two
set_option linter.unusedVariables false
set_option linter.unusedSimpArgs false
theorem add_none (a : Addr) : a.add 0 = a := by
 obtain ⟨b,o,x⟩ := a
 unfold Addr.add
 cases x <;> simp
def rroll.T1 : Bool × List (List Nat × List Nat) := (true,[([],[]),([0],[0]),([],[]),([2,1],[2]),([],[]),([1,3,0,1,4],[1]),([4,3,5,0,1,2,3,4,5],[3,4])])
def rroll.B1 : List Nat := [0,1,0,7,0,31,63]
theorem rroll.tab1 : rtab .any (opsOf Try.f37 1) = rroll.T1 := by kernel_rfl
theorem rroll.bits1 : waitsOk rroll.T1.2 rroll.B1 = true := by kernel_rfl
def rroll.T4 : Bool × List (List Nat × List Nat) := (true,[([],[]),([0],[0]),([],[]),([2],[2]),([3],[3]),([4],[4]),([1,5],[1,5]),([0,1,2,3,4,5,6],[]),([7,6,6,0,1,2,3,4,5,6],[6,7])])
def rroll.B4 : List Nat := [0,1,0,4,12,28,63,127,255]
theorem rroll.tab4 : rtab .any (opsOf Try.f37 4) = rroll.T4 := by kernel_rfl
theorem rroll.bits4 : waitsOk rroll.T4.2 rroll.B4 = true := by kernel_rfl
end Go.Proofs.Ytbefoehjlgdcgaa.H
