/-
lodgerref08.Count: a record more.
-/
import Derived.Test.YtbefoehjlgdcgaaRo
namespace Go.Proofs.Ytbefoehjlgdcgaa.H
open Go.RowKit Go.Proofs.YtbefoehjlgdcgaaW.PrintWords Go.Proofs.YtbefoehjlgdcgaaW.PrintLast Go.Proofs.YtbefoehjlgdcgaaW.PrintMore
attribute [local go_sem] min2_int min_two
set_option linter.unusedVariables false
set_option linter.unusedSimpArgs false
def rcount.T1 : Bool × List (List Nat × List Nat) := (true,[([],[]),([0],[0]),([],[]),([2],[2]),([3],[3]),([4],[4]),([],[]),([6,1,1,0,1,6],[1,6]),([5,7,0,1,2,3,4,5,6,7],[5])])
def rcount.B1 : List Nat := [0,1,0,4,12,28,0,67,255]
theorem rcount.tab1 : rtab .any (opsOf Try.f36 1) = rcount.T1 := by kernel_rfl
theorem rcount.bits1 : waitsOk rcount.T1.2 rcount.B1 = true := by kernel_rfl
def rcount.T4 : Bool × List (List Nat × List Nat) := (true,[([],[]),([0],[0]),([],[]),([],[]),([3],[3]),([],[]),([4,5],[4,5]),([6],[6]),([7],[7]),([1,2,0,1,2,3,4,5,6,7,8],[1,2]),([9,8,0,1,2,3,4,5,6,7,8],[8,9])])
def rcount.B4 : List Nat := [0,1,0,0,8,0,56,120,248,511,1023]
theorem rcount.tab4 : rtab .any (opsOf Try.f36 4) = rcount.T4 := by kernel_rfl
theorem rcount.bits4 : waitsOk rcount.T4.2 rcount.B4 = true := by kernel_rfl
end Go.Proofs.Ytbefoehjlgdcgaa.H
