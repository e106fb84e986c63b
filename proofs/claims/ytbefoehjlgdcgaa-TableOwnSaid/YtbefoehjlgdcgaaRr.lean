/-
lodgerref08.Right: whether a table may be.
-/
import Derived.Test.YtbefoehjlgdcgaaRg
namespace Go.Proofs.Ytbefoehjlgdcgaa.H
open Go.RowKit Go.Proofs.YtbefoehjlgdcgaaW.PrintWords Go.Proofs.YtbefoehjlgdcgaaW.PrintLast Go.Proofs.YtbefoehjlgdcgaaW.PrintMore
attribute [local go_sem] min2_int min_two
set_option linter.unusedVariables false
set_option linter.unusedSimpArgs false
def zh0 : Array Bool := #[false,false,false,false,false,false,false,false,false,false,false,false,false,false,false,false,false,false,false,false,false,false,false,false,false,false,false,false,false,false,false,false,false,false,false,false,false,false,false,false,false,false,false,false,false]
def zh1 : Array Bool := #[true,false,false,false,false,false,false,false,false,false,false,false,false,false,false,false,false,false,false,false,false,false,false,false,false,false,false,false,false,false,false,false,false,false,false,false,false,false,false,false,false,false,false,false,false]
def zh2 : Array Bool := #[true,false,true,false,false,false,false,false,false,false,false,false,false,false,false,false,false,false,false,false,false,false,false,false,false,false,false,false,false,false,false,false,false,false,false,false,false,false,false,false,false,false,false,false,false]
def zh3 : Array Bool := #[true,true,true,false,false,false,false,false,false,false,false,false,false,false,false,false,false,false,false,false,false,false,false,false,false,false,false,false,false,false,false,false,false,false,false,false,false,false,false,false,false,false,false,false,false]
def zh4 : Array Bool := #[true,true,true,true,false,false,false,false,false,false,false,false,false,false,false,false,false,false,false,false,false,false,false,false,false,false,false,false,false,false,false,false,false,false,false,false,false,false,false,false,false,false,false,false,false]
def zh5 : Array Bool := #[true,true,true,true,true,false,false,false,false,false,false,false,false,false,false,false,false,false,false,false,false,false,false,false,false,false,false,false,false,false,false,false,false,false,false,false,false,false,false,false,false,false,false,false,false]
def zh6 : Array Bool := #[true,true,true,true,true,true,false,false,false,false,false,false,false,false,false,false,false,false,false,false,false,false,false,false,false,false,false,false,false,false,false,false,false,false,false,false,false,false,false,false,false,false,false,false,false]
def zh7 : Array Bool := #[true,true,true,true,true,true,true,false,false,false,false,false,false,false,false,false,false,false,false,false,false,false,false,false,false,false,false,false,false,false,false,false,false,false,false,false,false,false,false,false,false,false,false,false,false]
def zh8 : Array Bool := #[true,true,true,true,true,true,true,true,false,false,false,false,false,false,false,false,false,false,false,false,false,false,false,false,false,false,false,false,false,false,false,false,false,false,false,false,false,false,false,false,false,false,false,false,false]
def zh9 : Array Bool := #[true,true,true,true,true,true,true,true,true,false,false,false,false,false,false,false,false,false,false,false,false,false,false,false,false,false,false,false,false,false,false,false,false,false,false,false,false,false,false,false,false,false,false,false,false]
def zh10 : Array Bool := #[true,true,true,true,true,true,true,true,true,true,false,false,false,false,false,false,false,false,false,false,false,false,false,false,false,false,false,false,false,false,false,false,false,false,false,false,false,false,false,false,false,false,false,false,false]
def zh11 : Array Bool := #[true,true,true,true,true,true,true,true,true,true,true,false,false,false,false,false,false,false,false,false,false,false,false,false,false,false,false,false,false,false,false,false,false,false,false,false,false,false,false,false,false,false,false,false,false]
def zh12 : Array Bool := #[true,true,true,true,true,true,true,true,true,true,true,true,false,false,false,false,false,false,false,false,false,false,false,false,false,false,false,false,false,false,false,false,false,false,false,false,false,false,false,false,false,false,false,false,false]
def zh13 : Array Bool := #[true,true,true,true,true,true,true,true,true,true,true,true,true,false,false,false,false,false,false,false,false,false,false,false,false,false,false,false,false,false,false,false,false,false,false,false,false,false,false,false,false,false,false,false,false]
def zh14 : Array Bool := #[true,true,true,true,true,true,true,true,true,true,true,true,true,true,false,false,false,false,false,false,false,false,false,false,false,false,false,false,false,false,false,false,false,false,false,false,false,false,false,false,false,false,false,false,false]
def zh15 : Array Bool := #[true,true,true,true,true,true,true,true,true,true,true,true,true,true,true,false,false,false,false,false,false,false,false,false,false,false,false,false,false,false,false,false,false,false,false,false,false,false,false,false,false,false,false,false,false]
def zh16 : Array Bool := #[true,true,true,true,true,true,true,true,true,true,true,true,true,true,true,true,false,false,false,false,false,false,false,false,false,false,false,false,false,false,false,false,false,false,false,false,false,false,false,false,false,false,false,false,false]
def zh17 : Array Bool := #[true,true,true,true,true,true,true,true,true,true,true,true,true,true,true,true,true,false,false,false,false,false,false,false,false,false,false,false,false,false,false,false,false,false,false,false,false,false,false,false,false,false,false,false,false]
def zh18 : Array Bool := #[true,true,true,true,true,true,true,true,true,true,true,true,true,true,true,true,true,true,false,false,false,false,false,false,false,false,false,false,false,false,false,false,false,false,false,false,false,false,false,false,false,false,false,false,false]
def zh19 : Array Bool := #[true,true,true,true,true,true,true,true,true,true,true,true,true,true,true,true,true,true,true,false,false,false,false,false,false,false,false,false,false,false,false,false,false,false,false,false,false,false,false,false,false,false,false,false,false]
def zh20 : Array Bool := #[true,true,true,true,true,true,true,true,true,true,true,true,true,true,true,true,true,true,true,true,false,false,false,false,false,false,false,false,false,false,false,false,false,false,false,false,false,false,false,false,false,false,false,false,false]
def zh21 : Array Bool := #[true,true,true,true,true,true,true,true,true,true,true,true,true,true,true,true,true,true,true,true,true,false,false,false,false,false,false,false,false,false,false,false,false,false,false,false,false,false,false,false,false,false,false,false,false]
def zh22 : Array Bool := #[true,true,true,true,true,true,true,true,true,true,true,true,true,true,true,true,true,true,true,true,true,true,false,false,false,false,false,false,false,false,false,false,false,false,false,false,false,false,false,false,false,false,false,false,false]
def zh23 : Array Bool := #[true,true,true,true,true,true,true,true,true,true,true,true,true,true,true,true,true,true,true,true,true,true,true,false,false,false,false,false,false,false,false,false,false,false,false,false,false,false,false,false,false,false,false,false,false]
def zh24 : Array Bool := #[true,true,true,true,true,true,true,true,true,true,true,true,true,true,true,true,true,true,true,true,true,true,true,true,false,false,false,false,false,false,false,false,false,false,false,false,false,false,false,false,false,false,false,false,false]
def zh25 : Array Bool := #[true,true,true,true,true,true,true,true,true,true,true,true,true,true,true,true,true,true,true,true,true,true,true,true,true,false,false,false,false,false,false,false,false,false,false,false,false,false,false,false,false,false,false,false,false]
def zh26 : Array Bool := #[true,true,true,true,true,true,true,true,true,true,true,true,true,true,true,true,true,true,true,true,true,true,true,true,true,true,false,false,false,false,false,false,false,false,false,false,false,false,false,false,false,false,false,false,false]
def zh27 : Array Bool := #[true,true,true,true,true,true,true,true,true,true,true,true,true,true,true,true,true,true,true,true,true,true,true,true,true,true,true,false,false,false,false,false,false,false,false,false,false,false,false,false,false,false,false,false,false]
def zh28 : Array Bool := #[true,true,true,true,true,true,true,true,true,true,true,true,true,true,true,true,true,true,true,true,true,true,true,true,true,true,true,true,false,false,false,false,false,false,false,false,false,false,false,false,false,false,false,false,false]
def zh29 : Array Bool := #[true,true,true,true,true,true,true,true,true,true,true,true,true,true,true,true,true,true,true,true,true,true,true,true,true,true,true,true,true,false,false,false,false,false,false,false,false,false,false,false,false,false,false,false,false]
def zh30 : Array Bool := #[true,true,true,true,true,true,true,true,true,true,true,true,true,true,true,true,true,true,true,true,true,true,true,true,true,true,true,true,true,true,false,false,false,false,false,false,false,false,false,false,false,false,false,false,false]
def zh31 : Array Bool := #[true,true,true,true,true,true,true,true,true,true,true,true,true,true,true,true,true,true,true,true,true,true,true,true,true,true,true,true,true,true,true,false,false,false,false,false,false,false,false,false,false,false,false,false,false]
def zh32 : Array Bool := #[true,true,true,true,true,true,true,true,true,true,true,true,true,true,true,true,true,true,true,true,true,true,true,true,true,true,true,true,true,true,true,true,false,false,false,false,false,false,false,false,false,false,false,false,false]
def zh33 : Array Bool := #[true,true,true,true,true,true,true,true,true,true,true,true,true,true,true,true,true,true,true,true,true,true,true,true,true,true,true,true,true,true,true,true,true,false,false,false,false,false,false,false,false,false,false,false,false]
def zh34 : Array Bool := #[true,true,true,true,true,true,true,true,true,true,true,true,true,true,true,true,true,true,true,true,true,true,true,true,true,true,true,true,true,true,true,true,true,true,false,false,false,false,false,false,false,false,false,false,false]
def zh35 : Array Bool := #[true,true,true,true,true,true,true,true,true,true,true,true,true,true,true,true,true,true,true,true,true,true,true,true,true,true,true,true,true,true,true,true,true,true,true,false,false,false,false,false,false,false,false,false,false]
def zh36 : Array Bool := #[true,true,true,true,true,true,true,true,true,true,true,true,true,true,true,true,true,true,true,true,true,true,true,true,true,true,true,true,true,true,true,true,true,true,true,true,false,false,false,false,false,false,false,false,false]
def zh37 : Array Bool := #[true,true,true,true,true,true,true,true,true,true,true,true,true,true,true,true,true,true,true,true,true,true,true,true,true,true,true,true,true,true,true,true,true,true,true,true,true,false,false,false,false,false,false,false,false]
def zh38 : Array Bool := #[true,true,true,true,true,true,true,true,true,true,true,true,true,true,true,true,true,true,true,true,true,true,true,true,true,true,true,true,true,true,true,true,true,true,true,true,true,true,false,false,false,false,false,false,false]
def zh39 : Array Bool := #[true,true,true,true,true,true,true,true,true,true,true,true,true,true,true,true,true,true,true,true,true,true,true,true,true,true,true,true,true,true,true,true,true,true,true,true,true,true,true,false,false,false,false,false,false]
def zh40 : Array Bool := #[true,true,true,true,true,true,true,true,true,true,true,true,true,true,true,true,true,true,true,true,true,true,true,true,true,true,true,true,true,true,true,true,true,true,true,true,true,true,true,true,false,false,false,false,false]
def zh41 : Array Bool := #[true,true,true,true,true,true,true,true,true,true,true,true,true,true,true,true,true,true,true,true,true,true,true,true,true,true,true,true,true,true,true,true,true,true,true,true,true,true,true,true,true,false,false,false,false]
def zh42 : Array Bool := #[true,true,true,true,true,true,true,true,true,true,true,true,true,true,true,true,true,true,true,true,true,true,true,true,true,true,true,true,true,true,true,true,true,true,true,true,true,true,true,true,true,true,false,false,false]
def zh43 : Array Bool := #[true,true,true,true,true,true,true,true,true,true,true,true,true,true,true,true,true,true,true,true,true,true,true,true,true,true,true,true,true,true,true,true,true,true,true,true,true,true,true,true,true,true,true,false,false]
def zh44 : Array Bool := #[true,true,true,true,true,true,true,true,true,true,true,true,true,true,true,true,true,true,true,true,true,true,true,true,true,true,true,true,true,true,true,true,true,true,true,true,true,true,true,true,true,true,true,true,false]
def zh45 : Array Bool := #[true,true,true,true,true,true,true,true,true,true,true,true,true,true,true,true,true,true,true,true,true,true,true,true,true,true,true,true,true,true,true,true,true,true,true,true,true,true,true,true,true,true,true,true,true]
def zh46 : Array Bool := #[true,true,true,true,true,true,true,true,false,true,false,false,false,false,false,false,false,false,false,false,false,false,false,false,false,false,false,false,false,false,false,false,false,false,false,false,false,false,false,false,false,false,false,false,false]
def zh47 : Array Bool := #[true,true,true,true,true,true,true,true,false,true,false,false,true,false,false,false,false,false,false,false,false,false,false,false,false,false,false,false,false,false,false,false,false,false,false,false,false,false,false,false,false,false,false,false,false]
def zh48 : Array Bool := #[true,true,true,true,true,true,true,true,true,true,false,false,true,false,false,false,false,false,false,false,false,false,false,false,false,false,false,false,false,false,false,false,false,false,false,false,false,false,false,false,false,false,false,false,false]
def zh49 : Array Bool := #[true,true,true,true,true,true,true,true,true,true,true,false,true,false,false,false,false,false,false,false,false,false,false,false,false,false,false,false,false,false,false,false,false,false,false,false,false,false,false,false,false,false,false,false,false]
def zh50 : Array Bool := #[true,true,true,true,true,true,true,true,true,true,true,true,true,true,true,true,true,false,true,false,false,false,false,false,false,false,false,false,false,false,false,false,false,false,false,false,false,false,false,false,false,false,false,false,false]
def zh51 : Array Bool := #[true,true,true,true,true,true,true,true,true,true,true,true,true,true,true,true,true,false,true,false,true,false,false,false,false,false,false,false,false,false,false,false,false,false,false,false,false,false,false,false,false,false,false,false,false]
def zh52 : Array Bool := #[true,true,true,true,true,true,true,true,true,true,true,true,true,true,true,true,true,false,true,false,true,false,false,false,true,false,false,false,false,false,false,false,false,false,false,false,false,false,false,false,false,false,false,false,false]
def zh53 : Array Bool := #[true,true,true,true,true,true,true,true,true,true,true,true,true,true,true,true,true,true,true,false,true,false,false,false,true,false,false,false,false,false,false,false,false,false,false,false,false,false,false,false,false,false,false,false,false]
def zh54 : Array Bool := #[true,true,true,true,true,true,true,true,true,true,true,true,true,true,true,true,true,true,true,true,true,false,false,false,true,false,false,false,false,false,false,false,false,false,false,false,false,false,false,false,false,false,false,false,false]
def zh55 : Array Bool := #[true,true,true,true,true,true,true,true,true,true,true,true,true,true,true,true,true,true,true,true,true,true,false,false,true,false,false,false,false,false,false,false,false,false,false,false,false,false,false,false,false,false,false,false,false]
def zh56 : Array Bool := #[true,true,true,true,true,true,true,true,true,true,true,true,true,true,true,true,true,true,true,true,true,true,true,false,true,false,false,false,false,false,false,false,false,false,false,false,false,false,false,false,false,false,false,false,false]
def zh57 : Array Bool := #[true,true,true,true,true,true,true,true,true,true,true,true,true,true,true,true,true,true,true,true,true,true,true,true,true,true,true,true,true,false,true,false,false,false,false,false,false,false,false,false,false,false,false,false,false]
def zh58 : Array Bool := #[true,true,true,true,true,true,true,true,true,true,true,true,true,true,true,true,true,true,true,true,true,true,true,true,true,true,true,true,true,true,true,true,true,true,true,true,true,false,true,false,false,false,false,false,false]
def zh59 : Array Bool := #[true,true,true,true,true,true,true,true,true,true,true,true,true,true,true,true,true,true,true,true,true,true,true,true,true,true,true,true,true,true,true,true,true,true,true,true,true,false,true,false,false,true,false,false,false]
def zh60 : Array Bool := #[true,true,true,true,true,true,true,true,true,true,true,true,true,true,true,true,true,true,true,true,true,true,true,true,true,true,true,true,true,true,true,true,true,true,true,true,true,true,true,false,false,true,false,false,false]
def zh61 : Array Bool := #[true,true,true,true,true,true,true,true,true,true,true,true,true,true,true,true,true,true,true,true,true,true,true,true,true,true,true,true,true,true,true,true,true,true,true,true,true,true,true,true,false,true,false,false,false]
theorem zhI {α : Type} (l : List α) (i : Nat) (a : α) : l.toArray.setIfInBounds i a = (l.set i a).toArray := List.setIfInBounds_toArray l i a
theorem zhs0 {α : Type} (x : α) (l : List α) (a : α) : (x :: l).set 0 a = a :: l := rfl
theorem zhs1 {α : Type} (x : α) (l : List α) (i : Nat) (a : α) : (x :: l).set (i + 1) a = x :: l.set i a := rfl
theorem pl_take {o : List Int} {i : Nat} {z : Int} (hi : i < o.length) (hz : z = o.getD i 0) : pl o z = (i : Int) ↔ ¬ z ∈ o.take i := by
 constructor
 ·intro h hin
  obtain ⟨j,hj,e⟩ := mem_getD hin
  rw [List.length_take] at hj
  rw [getD_take (by omega)] at e
  have hm : z ∈ o := e ▸ getD_mem (by omega)
  unfold pl at h
  rw [if_pos hm] at h
  have h3 := List.not_of_lt_findIdx (p := (· == z)) (xs := o) (i := j) (by have : o.findIdx (· == z) = o.idxOf z := rfl; omega)
  rw [List.getD_eq_getElem?_getD,List.getElem?_eq_getElem (by omega)] at e
  simp at e h3
  exact h3 e
 ·intro h
  refine (pl_of (.inr ⟨i,rfl,hi,hz.symm,fun q hq e => h ?_⟩)).symm
  rw [← e,← getD_take hq]
  exact getD_mem (by rw [List.length_take]; omega)
def rright.T7 : Bool × List (List Nat × List Nat) := (true,[([],[]),([0],[0]),([],[]),([1,2],[1,2]),([3],[3]),([4],[4]),([5],[5]),([6],[6]),([7,6],[6,7]),([6],[6]),([8,9,6],[6,8,9]),([10,6],[6,10]),([6],[6]),([12,6],[6,12]),([11,13,6],[6,11,13]),([6,14],[6,14]),([15,6],[15]),([16],[16]),([16],[16]),([18,16],[16,18]),([16],[16]),([19,20,16],[16,19,20]),([21,16],[16,21]),([17,22,16,16],[16,17,22]),([16],[16]),([23,24,16],[16,23,24]),([16,25],[16,25]),([26,23],[26]),([27],[27]),([28,27],[27,28]),([27],[27]),([29,30,27],[27,29,30]),([31,27],[27,31]),([32,27],[27,32]),([27,33],[27,33]),([34,27],[34]),([35],[35]),([36,35],[35,36]),([35],[35]),([37,38,35],[35,37,38]),([39,35],[35,39]),([35],[35]),([41,35],[35,41]),([40,42,35],[35,40,42]),([35,43],[35,43])])
def rright.B7 : List Nat := [0,1,0,7,15,31,63,127,255,127,1023,2047,127,4223,16383,32767,65535,131071,131071,393215,131071,1966079,4063231,8388607,131071,33554431,67108863,134217727,268435455,536870911,268435455,2147483647,4294967295,8589934591,17179869183,34359738367,68719476735,137438953471,68719476735,549755813887,1099511627775,68719476735,2267742732287,8796093022207,17592186044415]
theorem rright.tab7 : rtab .any (opsOf Try.f14 7) = rright.T7 := by kernel_rfl
theorem rright.bits7 : waitsOk rright.T7.2 rright.B7 = true := by kernel_rfl
set_option maxHeartbeats 8000000 in
set_option maxRecDepth 100000 in
theorem rright_calls (g s : Int) (Ao : Option Addr) (co : Nat) (o : List Int) (Al : Option Addr) (cl : Nat) (l : List Int) (Af : Option Addr) (cf : Nat) (f : List Int) (w : World) (hT : TC w Ao co o Al cl l Af cf f) (hl : o.length ≤ 1000) :
  Calls Try.prog 14 #[.agg #[.int .i64 g,.int .i64 s,.slice Ao o.length co,.slice Al l.length cl,.slice Af f.length cf]] w fun e w' => e = .returned (.bool (rtT g s o l f)) ∧ Below w.heap.size w w' := by
 have HT := Aside0.mk hT
 have HL := Aside0.mk hl
 clear hT hl
 obtain ⟨r,hr⟩ : ∃ r,r = rtT g s o l f := ⟨_,rfl⟩
 rw [← hr]
 have HR := Aside0.mk hr
 clear hr
 go_enter Try.func14,Try.ntmps14
 go_upto_region 1 with fail
 obtain ⟨W1,hW1⟩ : ∃ W1,W1 = w.alloc (.cells #[.int .i64 g,.int .i64 s,.slice Ao o.length co,.slice Al l.length cl,.slice Af f.length cf] 32) := ⟨_,rfl⟩
 rw [← hW1]
 obtain ⟨gs,hgs⟩ : ∃ g,g = w.heap.size := ⟨_,rfl⟩
 have HXs : Aside0 (W1.heap[gs]? = some (.cells #[.int .i64 g,.int .i64 s,.slice Ao o.length co,.slice Al l.length cl,.slice Af f.length cf] 32 (0,0))) := ⟨by rw [hW1,hgs]; exact blk_new _ _⟩
 have HB : Aside0 (Below w.heap.size w W1) := ⟨by rw [hW1]; exact below_alloc (Below.refl _ _) _⟩
 rw [← hgs]
 clear hW1 hgs
 have s_0 : W1.cell? ⟨gs,0,none⟩ = some (.int .i64 g) := cL HXs 0 rfl
 have s_1 : W1.cell? ⟨gs,1,none⟩ = some (.int .i64 s) := cL HXs 1 rfl
 have s_2 : W1.cell? ⟨gs,2,none⟩ = some (.slice Ao o.length co) := cL HXs 2 rfl
 have s_3 : W1.cell? ⟨gs,3,none⟩ = some (.slice Al l.length cl) := cL HXs 3 rfl
 have s_4 : W1.cell? ⟨gs,4,none⟩ = some (.slice Af f.length cf) := cL HXs 4 rfl
 go_upto_region 2 with fail
 go_wp2_with fail
 refine (lodgerref08_may.calls g s (mayT g s) _ (rmay_is g s)).mono ?_
 rintro e_ w2 ⟨rfl,hb⟩
 replace hb := Drawn0.below hb
 clear s_0 s_1 s_2 s_3 s_4
 replace HXs := mB HXs hb
 replace HB := mS HB hb
 clear hb
 have s_0 : w2.cell? ⟨gs,0,none⟩ = some (.int .i64 g) := cL HXs 0 rfl
 have s_1 : w2.cell? ⟨gs,1,none⟩ = some (.int .i64 s) := cL HXs 1 rfl
 have s_2 : w2.cell? ⟨gs,2,none⟩ = some (.slice Ao o.length co) := cL HXs 2 rfl
 have s_3 : w2.cell? ⟨gs,3,none⟩ = some (.slice Al l.length cl) := cL HXs 3 rfl
 have s_4 : w2.cell? ⟨gs,4,none⟩ = some (.slice Af f.length cf) := cL HXs 4 rfl
 by_cases hm : mayT g s = false
 ·have hq : (!mayT g s) = true := by rw [hm]; rfl
  go_wp2_with fail
  go_ret
  exact ⟨by rw [HR.out,rtT_may hm]; rfl,HB.out⟩
 ·have hm := (by simpa using hm : mayT g s = true)
  have hq : (!mayT g s) = false := by rw [hm]; rfl
  by_cases h0 : o.length = 0
  ·have z1 : decide ((o.length : Int) < 1) = true := decide_eq_true (by omega)
   have z2 : decide (o.length < 1) = true := decide_eq_true (by omega)
   have z3 : (o.length == 0) = true := beq_iff_eq.2 h0
   go_wp2_with fail
   go_ret
   exact ⟨by rw [HR.out,rtT_zero h0]; rfl,HB.out⟩
  ·have z1 : decide ((o.length : Int) < 1) = false := decide_eq_false (by omega)
   have z2 : decide (o.length < 1) = false := decide_eq_false (by omega)
   have z3 : (o.length == 0) = false := beq_eq_false_iff_ne.2 h0
   by_cases hlo : l.length = o.length
   ·obtain ⟨n1,n2,n3,n4⟩ := int_eq (a := l.length) (b := o.length) hlo
    by_cases hfo : f.length = o.length
    ·obtain ⟨m1,m2,m3,m4⟩ := int_eq (a := f.length) (b := o.length) hfo
     have HRT := Aside0.mk (HR.out.trans (rtT_up hm h0 hlo hfo))
     have HLO := Aside0.mk hlo
     clear HR hm h0 hlo hfo
     go_upto_region 4 with fail
     clear z1 z2 z3 n1 n2 n3 n4 m1 m2 m3 m4 hq
     go_wp2_with fail
     clear s_0 s_1 s_2 s_3 s_4
     go_loopw [4] (fun v wr => ∃ i : Nat,v = .int .i64 (i : Int) ∧ Aside0 (i ≤ o.length) ∧ Aside0 (∀ j,j < i → okT g s o l j) ∧ Aside0 (Below w2.heap.size w2 wr)) (fun v _ => o.length - (intOf v).toNat)
     case atStart => exact ⟨0,rfl,⟨Nat.zero_le _⟩,⟨fun j hj => absurd hj (Nat.not_lt_zero _)⟩,⟨Below.refl _ _⟩⟩
     case round =>
      obtain ⟨i,rfl,HI,HU,HBR⟩ := hrel
      have HXr := Aside0.mk (blk_below HXs.out HBR.out)
      have HBr := Aside0.mk (below_step HB.out HBR.out)
      have HTr := Aside0.mk (TC_below HT.out HBr.out)
      by_cases hlt : i < o.length
      ·have HII := Aside0.mk hlt
       have hil : (i : Int) < (o.length : Int) := by omega
       have hil2 : (i : Int) < (l.length : Int) := by have := HLO.out; omega
       have hi64 : (i : Int) + 1 ≤ 9223372036854775807 := by have := HL.out; omega
       have hlt2 : decide ((i : Int) < (o.length : Int)) = true := decide_eq_true hil
       have hlt3 : decide (i < o.length) = true := decide_eq_true hlt
       obtain ⟨ad,ea,hz⟩ := Kd.at_int HT.out.1.1 (i : Int) (Int.natCast_nonneg i) hil
       obtain ⟨al,eb,hy⟩ := Kd.at_int HT.out.2.1.1 (i : Int) (Int.natCast_nonneg i) hil2
       rw [rd_nat,Int.toNat_natCast] at hz hy
       obtain ⟨z,hzz⟩ : ∃ z,z = o.getD i 0 := ⟨_,rfl⟩
       obtain ⟨y,hyy⟩ : ∃ y,y = l.getD i 0 := ⟨_,rfl⟩
       rw [← hzz] at hz
       rw [← hyy] at hy
       have HPT := Aside0.mk (pl_take hlt hzz)
       have HIN := Aside0.mk (in_pl g s o l f z (by have := HL.out; omega) 1001 (by have := HL.out; omega))
       have HZ := Aside0.mk hzz
       have HY := Aside0.mk hyy
       have HZC := Aside0.mk hz
       have HYC := Aside0.mk hy
       cases ea
       cases eb
       replace hil := eq_true hil
       replace hil2 := eq_true hil2
       clear hlt hzz hyy hz hy
       have s_0 : wr.cell? ⟨gs,0,none⟩ = some (.int .i64 g) := cL HXr 0 rfl
       have s_1 : wr.cell? ⟨gs,1,none⟩ = some (.int .i64 s) := cL HXr 1 rfl
       have s_2 : wr.cell? ⟨gs,2,none⟩ = some (.slice (some ad) o.length co) := cL HXr 2 rfl
       have s_3 : wr.cell? ⟨gs,3,none⟩ = some (.slice (some al) l.length cl) := cL HXr 3 rfl
       have s_4 : wr.cell? ⟨gs,4,none⟩ = some (.slice Af f.length cf) := cL HXr 4 rfl
       go_upto_region 7 with fail
       clear hlt2 hlt3
       clear s_0 s_1 s_2 s_3 s_4
       by_cases h1 : z < 0
       ·have t1 := decide_eq_true h1
        refine start_ (n := 45) (S := fun w' => w'.cell? ⟨gs,0,none⟩ = some (.int .i64 g) ∧ w'.cell? ⟨gs,1,none⟩ = some (.int .i64 s) ∧ w'.cell? ⟨gs,2,none⟩ = some (.slice (some ad) o.length co) ∧ w'.cell? ⟨gs,3,none⟩ = some (.slice (some al) l.length cl) ∧ w'.cell? ⟨gs,4,none⟩ = some (.slice Af f.length cf) ∧ w'.cell? (ad.add i) = some (.int .i64 z) ∧ w'.cell? (al.add i) = some (.int .i64 y)) (ds := []) zh0 (by kernel_rfl) rfl rfl ⟨((blk_cell (blk_drew HXr.out) 0).trans rfl),((blk_cell (blk_drew HXr.out) 1).trans rfl),((blk_cell (blk_drew HXr.out) 2).trans rfl),((blk_cell (blk_drew HXr.out) 3).trans rfl),((blk_cell (blk_drew HXr.out) 4).trans rfl),(pw_cell_below (below_drew HBr.out) HZC.out),(pw_cell_below (below_drew HBr.out) HYC.out)⟩ (fun hHeld => ?_)
        refine with_tabW rright.tab7 rright.bits7 (fun HT_ HW_ => ?_)
        replace HXr := Aside0.mk (blk_drew HXr.out)
        replace HBr := Aside0.mk (below_drew HBr.out)
        replace HBR := Aside0.mk (below_drew HBR.out)
        generalize wr.drew = wd at *
        refine pure_ (i := 0) (N := some 37) (v := ?_) (a' := ?_) zh1 rfl rfl (any_of HT_.out (by kernel_rfl)) (fun _ _ _ h => h) (Or.inl ⟨by rfl,?_⟩) ?_ ?_
        rotate_left
        ·intro w'
         go_simp
         with_reducible rfl
        rotate_left
        ·simp only [Act.put,zhI,zhs0,zhs1,i64_w,i32_w]
         rfl
        refine pure_ (i := 2) (N := some 39) (v := ?_) (a' := ?_) zh2 rfl rfl (any_of HT_.out (by kernel_rfl)) (fun _ _ _ h => h) (Or.inl ⟨by rfl,?_⟩) ?_ ?_
        rotate_left
        ·intro w'
         go_simp
         with_reducible rfl
        rotate_left
        ·simp only [Act.put,zhI,zhs0,zhs1,i64_w,i32_w]
         rfl
        refine take_ (i := 1) (N := some 38) (v := ?_) (a' := ?_) zh3 rfl rfl (take_ofW HT_.out HW_.out (by kernel_rfl)) (fun _ _ _ h => h) (Or.inl ⟨by rfl,?_⟩) hHeld ?_ ?_
        rotate_left
        ·rintro w' ⟨s0,s1,s2,s3,s4,s5,s6⟩
         go_simp
         with_reducible rfl
        rotate_left
        ·simp only [Act.put,zhI,zhs0,zhs1,i64_w,i32_w]
         rfl
        refine pure_ (i := 3) (N := some 40) (v := ?_) (a' := ?_) zh4 rfl rfl (any_of HT_.out (by kernel_rfl)) (fun _ _ _ h => h) (Or.inl ⟨by rfl,?_⟩) ?_ ?_
        rotate_left
        ·intro w'
         go_simp
         with_reducible rfl
        rotate_left
        ·simp only [Act.put,zhI,zhs0,zhs1,i64_w,i32_w]
         rfl
        refine take_ (i := 4) (N := some 41) (v := ?_) (a' := ?_) zh5 rfl rfl (take_ofW HT_.out HW_.out (by kernel_rfl)) (fun _ _ _ h => h) (Or.inl ⟨by rfl,?_⟩) hHeld ?_ ?_
        rotate_left
        ·rintro w' ⟨s0,s1,s2,s3,s4,s5,s6⟩
         go_simp
         with_reducible rfl
        rotate_left
        ·simp only [Act.put,zhI,zhs0,zhs1,i64_w,i32_w]
         rfl
        refine pure_ (i := 5) (N := some 42) (v := ?_) (a' := ?_) zh6 rfl rfl (any_of HT_.out (by kernel_rfl)) (fun _ _ _ h => h) (Or.inl ⟨by rfl,?_⟩) ?_ ?_
        rotate_left
        ·intro w'
         go_simp
         with_reducible rfl
        rotate_left
        ·simp only [Act.put,zhI,zhs0,zhs1,i64_w,i32_w]
         rfl
        refine pure_ (i := 6) (N := some 43) (v := ?_) (a' := ?_) zh7 rfl rfl (any_of HT_.out (by kernel_rfl)) (fun _ _ _ h => h) (Or.inl ⟨by rfl,?_⟩) ?_ ?_
        rotate_left
        ·intro w'
         go_simp
         with_reducible rfl
        rotate_left
        ·simp only [Act.put,zhI,zhs0,zhs1,i64_w,i32_w]
         rfl
        refine pure_ (i := 7) (N := some 44) (v := undef) (a' := ?_) zh8 rfl rfl (any_of HT_.out (by kernel_rfl)) (fun _ _ _ h => h) (Or.inr ⟨by rfl,rfl⟩) ?_ ?_
        rotate_left
        ·simp only [Act.put,zhI,zhs0,zhs1,i64_w,i32_w]
         rfl
        refine pure_ (i := 8) (N := some 45) (v := undef) (a' := ?_) zh9 rfl rfl (any_of HT_.out (by kernel_rfl)) (fun _ _ _ h => h) (Or.inr ⟨by rfl,rfl⟩) ?_ ?_
        rotate_left
        ·simp only [Act.put,zhI,zhs0,zhs1,i64_w,i32_w]
         rfl
        refine pure_ (i := 9) (N := some 46) (v := undef) (a' := ?_) zh10 rfl rfl (any_of HT_.out (by kernel_rfl)) (fun _ _ _ h => h) (Or.inr ⟨by rfl,rfl⟩) ?_ ?_
        rotate_left
        ·simp only [Act.put,zhI,zhs0,zhs1,i64_w,i32_w]
         rfl
        refine pure_ (i := 10) (N := some 47) (v := undef) (a' := ?_) zh11 rfl rfl (any_of HT_.out (by kernel_rfl)) (fun _ _ _ h => h) (Or.inr ⟨by rfl,rfl⟩) ?_ ?_
        rotate_left
        ·simp only [Act.put,zhI,zhs0,zhs1,i64_w,i32_w]
         rfl
        refine pure_ (i := 11) (N := some 48) (v := undef) (a' := ?_) zh12 rfl rfl (any_of HT_.out (by kernel_rfl)) (fun _ _ _ h => h) (Or.inr ⟨by rfl,rfl⟩) ?_ ?_
        rotate_left
        ·simp only [Act.put,zhI,zhs0,zhs1,i64_w,i32_w]
         rfl
        refine pure_ (i := 12) (N := some 49) (v := undef) (a' := ?_) zh13 rfl rfl (any_of HT_.out (by kernel_rfl)) (fun _ _ _ h => h) (Or.inr ⟨by rfl,rfl⟩) ?_ ?_
        rotate_left
        ·simp only [Act.put,zhI,zhs0,zhs1,i64_w,i32_w]
         rfl
        refine pure_ (i := 13) (N := some 50) (v := undef) (a' := ?_) zh14 rfl rfl (any_of HT_.out (by kernel_rfl)) (fun _ _ _ h => h) (Or.inr ⟨by rfl,rfl⟩) ?_ ?_
        rotate_left
        ·simp only [Act.put,zhI,zhs0,zhs1,i64_w,i32_w]
         rfl
        refine pure_ (i := 14) (N := some 51) (v := undef) (a' := ?_) zh15 rfl rfl (any_of HT_.out (by kernel_rfl)) (fun _ _ _ h => h) (Or.inr ⟨by rfl,rfl⟩) ?_ ?_
        rotate_left
        ·simp only [Act.put,zhI,zhs0,zhs1,i64_w,i32_w]
         rfl
        refine pure_ (i := 15) (N := some 52) (v := ?_) (a' := ?_) zh16 rfl rfl (any_of HT_.out (by kernel_rfl)) (fun _ _ _ h => h) (Or.inl ⟨by rfl,?_⟩) ?_ ?_
        rotate_left
        ·intro w'
         go_simp
         with_reducible rfl
        rotate_left
        ·simp only [Act.put,zhI,zhs0,zhs1,i64_w,i32_w]
         rfl
        refine pure_ (i := 16) (N := some 53) (v := ?_) (a' := ?_) zh17 rfl rfl (any_of HT_.out (by kernel_rfl)) (fun _ _ _ h => h) (Or.inl ⟨by rfl,?_⟩) ?_ ?_
        rotate_left
        ·intro w'
         go_simp
         with_reducible rfl
        rotate_left
        ·simp only [Act.put,zhI,zhs0,zhs1,i64_w,i32_w]
         rfl
        refine pure_ (i := 17) (N := some 54) (v := undef) (a' := ?_) zh18 rfl rfl (any_of HT_.out (by kernel_rfl)) (fun _ _ _ h => h) (Or.inr ⟨by rfl,rfl⟩) ?_ ?_
        rotate_left
        ·simp only [Act.put,zhI,zhs0,zhs1,i64_w,i32_w]
         rfl
        refine pure_ (i := 18) (N := some 55) (v := undef) (a' := ?_) zh19 rfl rfl (any_of HT_.out (by kernel_rfl)) (fun _ _ _ h => h) (Or.inr ⟨by rfl,rfl⟩) ?_ ?_
        rotate_left
        ·simp only [Act.put,zhI,zhs0,zhs1,i64_w,i32_w]
         rfl
        refine pure_ (i := 19) (N := some 56) (v := undef) (a' := ?_) zh20 rfl rfl (any_of HT_.out (by kernel_rfl)) (fun _ _ _ h => h) (Or.inr ⟨by rfl,rfl⟩) ?_ ?_
        rotate_left
        ·simp only [Act.put,zhI,zhs0,zhs1,i64_w,i32_w]
         rfl
        refine pure_ (i := 20) (N := some 57) (v := undef) (a' := ?_) zh21 rfl rfl (any_of HT_.out (by kernel_rfl)) (fun _ _ _ h => h) (Or.inr ⟨by rfl,rfl⟩) ?_ ?_
        rotate_left
        ·simp only [Act.put,zhI,zhs0,zhs1,i64_w,i32_w]
         rfl
        refine pure_ (i := 21) (N := some 58) (v := undef) (a' := ?_) zh22 rfl rfl (any_of HT_.out (by kernel_rfl)) (fun _ _ _ h => h) (Or.inr ⟨by rfl,rfl⟩) ?_ ?_
        rotate_left
        ·simp only [Act.put,zhI,zhs0,zhs1,i64_w,i32_w]
         rfl
        refine pure_ (i := 22) (N := some 59) (v := undef) (a' := ?_) zh23 rfl rfl (any_of HT_.out (by kernel_rfl)) (fun _ _ _ h => h) (Or.inr ⟨by rfl,rfl⟩) ?_ ?_
        rotate_left
        ·simp only [Act.put,zhI,zhs0,zhs1,i64_w,i32_w]
         rfl
        refine pure_ (i := 23) (N := some 60) (v := undef) (a' := ?_) zh24 rfl rfl (any_of HT_.out (by kernel_rfl)) (fun _ _ _ h => h) (Or.inr ⟨by rfl,rfl⟩) ?_ ?_
        rotate_left
        ·simp only [Act.put,zhI,zhs0,zhs1,i64_w,i32_w]
         rfl
        refine pure_ (i := 24) (N := some 61) (v := undef) (a' := ?_) zh25 rfl rfl (any_of HT_.out (by kernel_rfl)) (fun _ _ _ h => h) (Or.inr ⟨by rfl,rfl⟩) ?_ ?_
        rotate_left
        ·simp only [Act.put,zhI,zhs0,zhs1,i64_w,i32_w]
         rfl
        refine pure_ (i := 25) (N := some 62) (v := undef) (a' := ?_) zh26 rfl rfl (any_of HT_.out (by kernel_rfl)) (fun _ _ _ h => h) (Or.inr ⟨by rfl,rfl⟩) ?_ ?_
        rotate_left
        ·simp only [Act.put,zhI,zhs0,zhs1,i64_w,i32_w]
         rfl
        refine pure_ (i := 26) (N := some 63) (v := ?_) (a' := ?_) zh27 rfl rfl (any_of HT_.out (by kernel_rfl)) (fun _ _ _ h => h) (Or.inl ⟨by rfl,?_⟩) ?_ ?_
        rotate_left
        ·intro w'
         go_simp
         with_reducible rfl
        rotate_left
        ·simp only [Act.put,zhI,zhs0,zhs1,i64_w,i32_w]
         rfl
        refine pure_ (i := 27) (N := some 64) (v := ?_) (a' := ?_) zh28 rfl rfl (any_of HT_.out (by kernel_rfl)) (fun _ _ _ h => h) (Or.inl ⟨by rfl,?_⟩) ?_ ?_
        rotate_left
        ·intro w'
         go_simp
         with_reducible rfl
        rotate_left
        ·simp only [Act.put,zhI,zhs0,zhs1,i64_w,i32_w]
         rfl
        refine pure_ (i := 28) (N := some 65) (v := undef) (a' := ?_) zh29 rfl rfl (any_of HT_.out (by kernel_rfl)) (fun _ _ _ h => h) (Or.inr ⟨by rfl,rfl⟩) ?_ ?_
        rotate_left
        ·simp only [Act.put,zhI,zhs0,zhs1,i64_w,i32_w]
         rfl
        refine pure_ (i := 29) (N := some 66) (v := undef) (a' := ?_) zh30 rfl rfl (any_of HT_.out (by kernel_rfl)) (fun _ _ _ h => h) (Or.inr ⟨by rfl,rfl⟩) ?_ ?_
        rotate_left
        ·simp only [Act.put,zhI,zhs0,zhs1,i64_w,i32_w]
         rfl
        refine pure_ (i := 30) (N := some 67) (v := undef) (a' := ?_) zh31 rfl rfl (any_of HT_.out (by kernel_rfl)) (fun _ _ _ h => h) (Or.inr ⟨by rfl,rfl⟩) ?_ ?_
        rotate_left
        ·simp only [Act.put,zhI,zhs0,zhs1,i64_w,i32_w]
         rfl
        refine pure_ (i := 31) (N := some 68) (v := undef) (a' := ?_) zh32 rfl rfl (any_of HT_.out (by kernel_rfl)) (fun _ _ _ h => h) (Or.inr ⟨by rfl,rfl⟩) ?_ ?_
        rotate_left
        ·simp only [Act.put,zhI,zhs0,zhs1,i64_w,i32_w]
         rfl
        refine pure_ (i := 32) (N := some 69) (v := undef) (a' := ?_) zh33 rfl rfl (any_of HT_.out (by kernel_rfl)) (fun _ _ _ h => h) (Or.inr ⟨by rfl,rfl⟩) ?_ ?_
        rotate_left
        ·simp only [Act.put,zhI,zhs0,zhs1,i64_w,i32_w]
         rfl
        refine pure_ (i := 33) (N := some 70) (v := undef) (a' := ?_) zh34 rfl rfl (any_of HT_.out (by kernel_rfl)) (fun _ _ _ h => h) (Or.inr ⟨by rfl,rfl⟩) ?_ ?_
        rotate_left
        ·simp only [Act.put,zhI,zhs0,zhs1,i64_w,i32_w]
         rfl
        refine pure_ (i := 34) (N := some 71) (v := ?_) (a' := ?_) zh35 rfl rfl (any_of HT_.out (by kernel_rfl)) (fun _ _ _ h => h) (Or.inl ⟨by rfl,?_⟩) ?_ ?_
        rotate_left
        ·intro w'
         go_simp
         with_reducible rfl
        rotate_left
        ·simp only [Act.put,zhI,zhs0,zhs1,i64_w,i32_w]
         rfl
        refine pure_ (i := 35) (N := some 72) (v := ?_) (a' := ?_) zh36 rfl rfl (any_of HT_.out (by kernel_rfl)) (fun _ _ _ h => h) (Or.inl ⟨by rfl,?_⟩) ?_ ?_
        rotate_left
        ·intro w'
         go_simp
         with_reducible rfl
        rotate_left
        ·simp only [Act.put,zhI,zhs0,zhs1,i64_w,i32_w]
         rfl
        refine pure_ (i := 36) (N := some 73) (v := undef) (a' := ?_) zh37 rfl rfl (any_of HT_.out (by kernel_rfl)) (fun _ _ _ h => h) (Or.inr ⟨by rfl,rfl⟩) ?_ ?_
        rotate_left
        ·simp only [Act.put,zhI,zhs0,zhs1,i64_w,i32_w]
         rfl
        refine pure_ (i := 37) (N := some 74) (v := undef) (a' := ?_) zh38 rfl rfl (any_of HT_.out (by kernel_rfl)) (fun _ _ _ h => h) (Or.inr ⟨by rfl,rfl⟩) ?_ ?_
        rotate_left
        ·simp only [Act.put,zhI,zhs0,zhs1,i64_w,i32_w]
         rfl
        refine pure_ (i := 38) (N := some 75) (v := undef) (a' := ?_) zh39 rfl rfl (any_of HT_.out (by kernel_rfl)) (fun _ _ _ h => h) (Or.inr ⟨by rfl,rfl⟩) ?_ ?_
        rotate_left
        ·simp only [Act.put,zhI,zhs0,zhs1,i64_w,i32_w]
         rfl
        refine pure_ (i := 39) (N := some 76) (v := undef) (a' := ?_) zh40 rfl rfl (any_of HT_.out (by kernel_rfl)) (fun _ _ _ h => h) (Or.inr ⟨by rfl,rfl⟩) ?_ ?_
        rotate_left
        ·simp only [Act.put,zhI,zhs0,zhs1,i64_w,i32_w]
         rfl
        refine pure_ (i := 40) (N := some 77) (v := undef) (a' := ?_) zh41 rfl rfl (any_of HT_.out (by kernel_rfl)) (fun _ _ _ h => h) (Or.inr ⟨by rfl,rfl⟩) ?_ ?_
        rotate_left
        ·simp only [Act.put,zhI,zhs0,zhs1,i64_w,i32_w]
         rfl
        refine pure_ (i := 41) (N := some 78) (v := undef) (a' := ?_) zh42 rfl rfl (any_of HT_.out (by kernel_rfl)) (fun _ _ _ h => h) (Or.inr ⟨by rfl,rfl⟩) ?_ ?_
        rotate_left
        ·simp only [Act.put,zhI,zhs0,zhs1,i64_w,i32_w]
         rfl
        refine pure_ (i := 42) (N := some 79) (v := undef) (a' := ?_) zh43 rfl rfl (any_of HT_.out (by kernel_rfl)) (fun _ _ _ h => h) (Or.inr ⟨by rfl,rfl⟩) ?_ ?_
        rotate_left
        ·simp only [Act.put,zhI,zhs0,zhs1,i64_w,i32_w]
         rfl
        refine pure_ (i := 43) (N := some 80) (v := undef) (a' := ?_) zh44 rfl rfl (any_of HT_.out (by kernel_rfl)) (fun _ _ _ h => h) (Or.inr ⟨by rfl,rfl⟩) ?_ ?_
        rotate_left
        ·simp only [Act.put,zhI,zhs0,zhs1,i64_w,i32_w]
         rfl
        refine pure_ (i := 44) (N := some 81) (v := ?_) (a' := ?_) zh45 rfl rfl (any_of HT_.out (by kernel_rfl)) (fun _ _ _ h => h) (Or.inl ⟨by rfl,?_⟩) ?_ ?_
        rotate_left
        ·intro w'
         go_simp
         with_reducible rfl
        rotate_left
        ·simp only [Act.put,zhI,zhs0,zhs1,i64_w,i32_w]
         rfl
        refine done_ (done_of HT_.out (by kernel_rfl)) ?_
        clear HT_ HW_ hHeld
        have hno : ¬ okT g s o l i := fun q_ => by
         obtain ⟨⟨q1,q2⟩,q3,q4,q5⟩ := q_
         rw [← HZ.out] at q1 q2 q3
         rw [← HY.out] at q4 q5
         omega
        go_wp2_with fail
        go_ret
        exact ⟨by rw [HRT.out,up_no HII.out hno]; rfl,HBr.out⟩
       ·have t1 := decide_eq_false h1
        by_cases h2 : g ≤ z
        ·have t2 := decide_eq_true h2
         refine start_ (n := 45) (S := fun w' => w'.cell? ⟨gs,0,none⟩ = some (.int .i64 g) ∧ w'.cell? ⟨gs,1,none⟩ = some (.int .i64 s) ∧ w'.cell? ⟨gs,2,none⟩ = some (.slice (some ad) o.length co) ∧ w'.cell? ⟨gs,3,none⟩ = some (.slice (some al) l.length cl) ∧ w'.cell? ⟨gs,4,none⟩ = some (.slice Af f.length cf) ∧ w'.cell? (ad.add i) = some (.int .i64 z) ∧ w'.cell? (al.add i) = some (.int .i64 y)) (ds := []) zh0 (by kernel_rfl) rfl rfl ⟨((blk_cell (blk_drew HXr.out) 0).trans rfl),((blk_cell (blk_drew HXr.out) 1).trans rfl),((blk_cell (blk_drew HXr.out) 2).trans rfl),((blk_cell (blk_drew HXr.out) 3).trans rfl),((blk_cell (blk_drew HXr.out) 4).trans rfl),(pw_cell_below (below_drew HBr.out) HZC.out),(pw_cell_below (below_drew HBr.out) HYC.out)⟩ (fun hHeld => ?_)
         refine with_tabW rright.tab7 rright.bits7 (fun HT_ HW_ => ?_)
         replace HXr := Aside0.mk (blk_drew HXr.out)
         replace HBr := Aside0.mk (below_drew HBr.out)
         replace HBR := Aside0.mk (below_drew HBR.out)
         generalize wr.drew = wd at *
         refine pure_ (i := 0) (N := some 37) (v := ?_) (a' := ?_) zh1 rfl rfl (any_of HT_.out (by kernel_rfl)) (fun _ _ _ h => h) (Or.inl ⟨by rfl,?_⟩) ?_ ?_
         rotate_left
         ·intro w'
          go_simp
          with_reducible rfl
         rotate_left
         ·simp only [Act.put,zhI,zhs0,zhs1,i64_w,i32_w]
          rfl
         refine pure_ (i := 2) (N := some 39) (v := ?_) (a' := ?_) zh2 rfl rfl (any_of HT_.out (by kernel_rfl)) (fun _ _ _ h => h) (Or.inl ⟨by rfl,?_⟩) ?_ ?_
         rotate_left
         ·intro w'
          go_simp
          with_reducible rfl
         rotate_left
         ·simp only [Act.put,zhI,zhs0,zhs1,i64_w,i32_w]
          rfl
         refine take_ (i := 1) (N := some 38) (v := ?_) (a' := ?_) zh3 rfl rfl (take_ofW HT_.out HW_.out (by kernel_rfl)) (fun _ _ _ h => h) (Or.inl ⟨by rfl,?_⟩) hHeld ?_ ?_
         rotate_left
         ·rintro w' ⟨s0,s1,s2,s3,s4,s5,s6⟩
          go_simp
          with_reducible rfl
         rotate_left
         ·simp only [Act.put,zhI,zhs0,zhs1,i64_w,i32_w]
          rfl
         refine pure_ (i := 3) (N := some 40) (v := ?_) (a' := ?_) zh4 rfl rfl (any_of HT_.out (by kernel_rfl)) (fun _ _ _ h => h) (Or.inl ⟨by rfl,?_⟩) ?_ ?_
         rotate_left
         ·intro w'
          go_simp
          with_reducible rfl
         rotate_left
         ·simp only [Act.put,zhI,zhs0,zhs1,i64_w,i32_w]
          rfl
         refine take_ (i := 4) (N := some 41) (v := ?_) (a' := ?_) zh5 rfl rfl (take_ofW HT_.out HW_.out (by kernel_rfl)) (fun _ _ _ h => h) (Or.inl ⟨by rfl,?_⟩) hHeld ?_ ?_
         rotate_left
         ·rintro w' ⟨s0,s1,s2,s3,s4,s5,s6⟩
          go_simp
          with_reducible rfl
         rotate_left
         ·simp only [Act.put,zhI,zhs0,zhs1,i64_w,i32_w]
          rfl
         refine pure_ (i := 5) (N := some 42) (v := ?_) (a' := ?_) zh6 rfl rfl (any_of HT_.out (by kernel_rfl)) (fun _ _ _ h => h) (Or.inl ⟨by rfl,?_⟩) ?_ ?_
         rotate_left
         ·intro w'
          go_simp
          with_reducible rfl
         rotate_left
         ·simp only [Act.put,zhI,zhs0,zhs1,i64_w,i32_w]
          rfl
         refine pure_ (i := 6) (N := some 43) (v := ?_) (a' := ?_) zh7 rfl rfl (any_of HT_.out (by kernel_rfl)) (fun _ _ _ h => h) (Or.inl ⟨by rfl,?_⟩) ?_ ?_
         rotate_left
         ·intro w'
          go_simp
          with_reducible rfl
         rotate_left
         ·simp only [Act.put,zhI,zhs0,zhs1,i64_w,i32_w]
          rfl
         refine pure_ (i := 7) (N := some 44) (v := ?_) (a' := ?_) zh8 rfl rfl (any_of HT_.out (by kernel_rfl)) (fun _ _ _ h => h) (Or.inl ⟨by rfl,?_⟩) ?_ ?_
         rotate_left
         ·intro w'
          go_simp
          with_reducible rfl
         rotate_left
         ·simp only [Act.put,zhI,zhs0,zhs1,i64_w,i32_w]
          rfl
         refine pure_ (i := 9) (N := some 46) (v := ?_) (a' := ?_) zh46 rfl rfl (any_of HT_.out (by kernel_rfl)) (fun _ _ _ h => h) (Or.inl ⟨by rfl,?_⟩) ?_ ?_
         rotate_left
         ·intro w'
          go_simp
          with_reducible rfl
         rotate_left
         ·simp only [Act.put,zhI,zhs0,zhs1,i64_w,i32_w]
          rfl
         refine pure_ (i := 12) (N := some 49) (v := ?_) (a' := ?_) zh47 rfl rfl (any_of HT_.out (by kernel_rfl)) (fun _ _ _ h => h) (Or.inl ⟨by rfl,?_⟩) ?_ ?_
         rotate_left
         ·intro w'
          go_simp
          with_reducible rfl
         rotate_left
         ·simp only [Act.put,zhI,zhs0,zhs1,i64_w,i32_w]
          rfl
         refine take_ (i := 8) (N := some 45) (v := ?_) (a' := ?_) zh48 rfl rfl (take_ofW HT_.out HW_.out (by kernel_rfl)) (fun _ _ _ h => h) (Or.inl ⟨by rfl,?_⟩) hHeld ?_ ?_
         rotate_left
         ·rintro w' ⟨s0,s1,s2,s3,s4,s5,s6⟩
          go_simp
          with_reducible rfl
         rotate_left
         ·simp only [Act.put,zhI,zhs0,zhs1,i64_w,i32_w]
          rfl
         refine pure_ (i := 10) (N := some 47) (v := ?_) (a' := ?_) zh49 rfl rfl (any_of HT_.out (by kernel_rfl)) (fun _ _ _ h => h) (Or.inl ⟨by rfl,?_⟩) ?_ ?_
         rotate_left
         ·intro w'
          go_simp
          with_reducible rfl
         rotate_left
         ·simp only [Act.put,zhI,zhs0,zhs1,i64_w,i32_w]
          rfl
         refine take_ (i := 11) (N := some 48) (v := ?_) (a' := ?_) zh13 rfl rfl (take_ofW HT_.out HW_.out (by kernel_rfl)) (fun _ _ _ h => h) (Or.inl ⟨by rfl,?_⟩) hHeld ?_ ?_
         rotate_left
         ·rintro w' ⟨s0,s1,s2,s3,s4,s5,s6⟩
          go_simp
          with_reducible rfl
         rotate_left
         ·simp only [Act.put,zhI,zhs0,zhs1,i64_w,i32_w]
          rfl
         refine take_ (i := 13) (N := some 50) (v := ?_) (a' := ?_) zh14 rfl rfl (take_ofW HT_.out HW_.out (by kernel_rfl)) (fun _ _ _ h => h) (Or.inl ⟨by rfl,?_⟩) hHeld ?_ ?_
         rotate_left
         ·rintro w' ⟨s0,s1,s2,s3,s4,s5,s6⟩
          go_simp
          with_reducible rfl
         rotate_left
         ·simp only [Act.put,zhI,zhs0,zhs1,i64_w,i32_w]
          rfl
         refine pure_ (i := 14) (N := some 51) (v := ?_) (a' := ?_) zh15 rfl rfl (any_of HT_.out (by kernel_rfl)) (fun _ _ _ h => h) (Or.inl ⟨by rfl,?_⟩) ?_ ?_
         rotate_left
         ·intro w'
          go_simp
          with_reducible rfl
         rotate_left
         ·simp only [Act.put,zhI,zhs0,zhs1,i64_w,i32_w]
          rfl
         refine pure_ (i := 15) (N := some 52) (v := ?_) (a' := ?_) zh16 rfl rfl (any_of HT_.out (by kernel_rfl)) (fun _ _ _ h => h) (Or.inl ⟨by rfl,?_⟩) ?_ ?_
         rotate_left
         ·intro w'
          go_simp
          with_reducible rfl
         rotate_left
         ·simp only [Act.put,zhI,zhs0,zhs1,i64_w,i32_w]
          rfl
         refine pure_ (i := 16) (N := some 53) (v := ?_) (a' := ?_) zh17 rfl rfl (any_of HT_.out (by kernel_rfl)) (fun _ _ _ h => h) (Or.inl ⟨by rfl,?_⟩) ?_ ?_
         rotate_left
         ·intro w'
          go_simp
          with_reducible rfl
         rotate_left
         ·simp only [Act.put,zhI,zhs0,zhs1,i64_w,i32_w]
          rfl
         refine pure_ (i := 17) (N := some 54) (v := undef) (a' := ?_) zh18 rfl rfl (any_of HT_.out (by kernel_rfl)) (fun _ _ _ h => h) (Or.inr ⟨by rfl,rfl⟩) ?_ ?_
         rotate_left
         ·simp only [Act.put,zhI,zhs0,zhs1,i64_w,i32_w]
          rfl
         refine pure_ (i := 18) (N := some 55) (v := undef) (a' := ?_) zh19 rfl rfl (any_of HT_.out (by kernel_rfl)) (fun _ _ _ h => h) (Or.inr ⟨by rfl,rfl⟩) ?_ ?_
         rotate_left
         ·simp only [Act.put,zhI,zhs0,zhs1,i64_w,i32_w]
          rfl
         refine pure_ (i := 19) (N := some 56) (v := undef) (a' := ?_) zh20 rfl rfl (any_of HT_.out (by kernel_rfl)) (fun _ _ _ h => h) (Or.inr ⟨by rfl,rfl⟩) ?_ ?_
         rotate_left
         ·simp only [Act.put,zhI,zhs0,zhs1,i64_w,i32_w]
          rfl
         refine pure_ (i := 20) (N := some 57) (v := undef) (a' := ?_) zh21 rfl rfl (any_of HT_.out (by kernel_rfl)) (fun _ _ _ h => h) (Or.inr ⟨by rfl,rfl⟩) ?_ ?_
         rotate_left
         ·simp only [Act.put,zhI,zhs0,zhs1,i64_w,i32_w]
          rfl
         refine pure_ (i := 21) (N := some 58) (v := undef) (a' := ?_) zh22 rfl rfl (any_of HT_.out (by kernel_rfl)) (fun _ _ _ h => h) (Or.inr ⟨by rfl,rfl⟩) ?_ ?_
         rotate_left
         ·simp only [Act.put,zhI,zhs0,zhs1,i64_w,i32_w]
          rfl
         refine pure_ (i := 22) (N := some 59) (v := undef) (a' := ?_) zh23 rfl rfl (any_of HT_.out (by kernel_rfl)) (fun _ _ _ h => h) (Or.inr ⟨by rfl,rfl⟩) ?_ ?_
         rotate_left
         ·simp only [Act.put,zhI,zhs0,zhs1,i64_w,i32_w]
          rfl
         refine pure_ (i := 23) (N := some 60) (v := undef) (a' := ?_) zh24 rfl rfl (any_of HT_.out (by kernel_rfl)) (fun _ _ _ h => h) (Or.inr ⟨by rfl,rfl⟩) ?_ ?_
         rotate_left
         ·simp only [Act.put,zhI,zhs0,zhs1,i64_w,i32_w]
          rfl
         refine pure_ (i := 24) (N := some 61) (v := undef) (a' := ?_) zh25 rfl rfl (any_of HT_.out (by kernel_rfl)) (fun _ _ _ h => h) (Or.inr ⟨by rfl,rfl⟩) ?_ ?_
         rotate_left
         ·simp only [Act.put,zhI,zhs0,zhs1,i64_w,i32_w]
          rfl
         refine pure_ (i := 25) (N := some 62) (v := undef) (a' := ?_) zh26 rfl rfl (any_of HT_.out (by kernel_rfl)) (fun _ _ _ h => h) (Or.inr ⟨by rfl,rfl⟩) ?_ ?_
         rotate_left
         ·simp only [Act.put,zhI,zhs0,zhs1,i64_w,i32_w]
          rfl
         refine pure_ (i := 26) (N := some 63) (v := ?_) (a' := ?_) zh27 rfl rfl (any_of HT_.out (by kernel_rfl)) (fun _ _ _ h => h) (Or.inl ⟨by rfl,?_⟩) ?_ ?_
         rotate_left
         ·intro w'
          go_simp
          with_reducible rfl
         rotate_left
         ·simp only [Act.put,zhI,zhs0,zhs1,i64_w,i32_w]
          rfl
         refine pure_ (i := 27) (N := some 64) (v := ?_) (a' := ?_) zh28 rfl rfl (any_of HT_.out (by kernel_rfl)) (fun _ _ _ h => h) (Or.inl ⟨by rfl,?_⟩) ?_ ?_
         rotate_left
         ·intro w'
          go_simp
          with_reducible rfl
         rotate_left
         ·simp only [Act.put,zhI,zhs0,zhs1,i64_w,i32_w]
          rfl
         refine pure_ (i := 28) (N := some 65) (v := undef) (a' := ?_) zh29 rfl rfl (any_of HT_.out (by kernel_rfl)) (fun _ _ _ h => h) (Or.inr ⟨by rfl,rfl⟩) ?_ ?_
         rotate_left
         ·simp only [Act.put,zhI,zhs0,zhs1,i64_w,i32_w]
          rfl
         refine pure_ (i := 29) (N := some 66) (v := undef) (a' := ?_) zh30 rfl rfl (any_of HT_.out (by kernel_rfl)) (fun _ _ _ h => h) (Or.inr ⟨by rfl,rfl⟩) ?_ ?_
         rotate_left
         ·simp only [Act.put,zhI,zhs0,zhs1,i64_w,i32_w]
          rfl
         refine pure_ (i := 30) (N := some 67) (v := undef) (a' := ?_) zh31 rfl rfl (any_of HT_.out (by kernel_rfl)) (fun _ _ _ h => h) (Or.inr ⟨by rfl,rfl⟩) ?_ ?_
         rotate_left
         ·simp only [Act.put,zhI,zhs0,zhs1,i64_w,i32_w]
          rfl
         refine pure_ (i := 31) (N := some 68) (v := undef) (a' := ?_) zh32 rfl rfl (any_of HT_.out (by kernel_rfl)) (fun _ _ _ h => h) (Or.inr ⟨by rfl,rfl⟩) ?_ ?_
         rotate_left
         ·simp only [Act.put,zhI,zhs0,zhs1,i64_w,i32_w]
          rfl
         refine pure_ (i := 32) (N := some 69) (v := undef) (a' := ?_) zh33 rfl rfl (any_of HT_.out (by kernel_rfl)) (fun _ _ _ h => h) (Or.inr ⟨by rfl,rfl⟩) ?_ ?_
         rotate_left
         ·simp only [Act.put,zhI,zhs0,zhs1,i64_w,i32_w]
          rfl
         refine pure_ (i := 33) (N := some 70) (v := undef) (a' := ?_) zh34 rfl rfl (any_of HT_.out (by kernel_rfl)) (fun _ _ _ h => h) (Or.inr ⟨by rfl,rfl⟩) ?_ ?_
         rotate_left
         ·simp only [Act.put,zhI,zhs0,zhs1,i64_w,i32_w]
          rfl
         refine pure_ (i := 34) (N := some 71) (v := ?_) (a' := ?_) zh35 rfl rfl (any_of HT_.out (by kernel_rfl)) (fun _ _ _ h => h) (Or.inl ⟨by rfl,?_⟩) ?_ ?_
         rotate_left
         ·intro w'
          go_simp
          with_reducible rfl
         rotate_left
         ·simp only [Act.put,zhI,zhs0,zhs1,i64_w,i32_w]
          rfl
         refine pure_ (i := 35) (N := some 72) (v := ?_) (a' := ?_) zh36 rfl rfl (any_of HT_.out (by kernel_rfl)) (fun _ _ _ h => h) (Or.inl ⟨by rfl,?_⟩) ?_ ?_
         rotate_left
         ·intro w'
          go_simp
          with_reducible rfl
         rotate_left
         ·simp only [Act.put,zhI,zhs0,zhs1,i64_w,i32_w]
          rfl
         refine pure_ (i := 36) (N := some 73) (v := undef) (a' := ?_) zh37 rfl rfl (any_of HT_.out (by kernel_rfl)) (fun _ _ _ h => h) (Or.inr ⟨by rfl,rfl⟩) ?_ ?_
         rotate_left
         ·simp only [Act.put,zhI,zhs0,zhs1,i64_w,i32_w]
          rfl
         refine pure_ (i := 37) (N := some 74) (v := undef) (a' := ?_) zh38 rfl rfl (any_of HT_.out (by kernel_rfl)) (fun _ _ _ h => h) (Or.inr ⟨by rfl,rfl⟩) ?_ ?_
         rotate_left
         ·simp only [Act.put,zhI,zhs0,zhs1,i64_w,i32_w]
          rfl
         refine pure_ (i := 38) (N := some 75) (v := undef) (a' := ?_) zh39 rfl rfl (any_of HT_.out (by kernel_rfl)) (fun _ _ _ h => h) (Or.inr ⟨by rfl,rfl⟩) ?_ ?_
         rotate_left
         ·simp only [Act.put,zhI,zhs0,zhs1,i64_w,i32_w]
          rfl
         refine pure_ (i := 39) (N := some 76) (v := undef) (a' := ?_) zh40 rfl rfl (any_of HT_.out (by kernel_rfl)) (fun _ _ _ h => h) (Or.inr ⟨by rfl,rfl⟩) ?_ ?_
         rotate_left
         ·simp only [Act.put,zhI,zhs0,zhs1,i64_w,i32_w]
          rfl
         refine pure_ (i := 40) (N := some 77) (v := undef) (a' := ?_) zh41 rfl rfl (any_of HT_.out (by kernel_rfl)) (fun _ _ _ h => h) (Or.inr ⟨by rfl,rfl⟩) ?_ ?_
         rotate_left
         ·simp only [Act.put,zhI,zhs0,zhs1,i64_w,i32_w]
          rfl
         refine pure_ (i := 41) (N := some 78) (v := undef) (a' := ?_) zh42 rfl rfl (any_of HT_.out (by kernel_rfl)) (fun _ _ _ h => h) (Or.inr ⟨by rfl,rfl⟩) ?_ ?_
         rotate_left
         ·simp only [Act.put,zhI,zhs0,zhs1,i64_w,i32_w]
          rfl
         refine pure_ (i := 42) (N := some 79) (v := undef) (a' := ?_) zh43 rfl rfl (any_of HT_.out (by kernel_rfl)) (fun _ _ _ h => h) (Or.inr ⟨by rfl,rfl⟩) ?_ ?_
         rotate_left
         ·simp only [Act.put,zhI,zhs0,zhs1,i64_w,i32_w]
          rfl
         refine pure_ (i := 43) (N := some 80) (v := undef) (a' := ?_) zh44 rfl rfl (any_of HT_.out (by kernel_rfl)) (fun _ _ _ h => h) (Or.inr ⟨by rfl,rfl⟩) ?_ ?_
         rotate_left
         ·simp only [Act.put,zhI,zhs0,zhs1,i64_w,i32_w]
          rfl
         refine pure_ (i := 44) (N := some 81) (v := ?_) (a' := ?_) zh45 rfl rfl (any_of HT_.out (by kernel_rfl)) (fun _ _ _ h => h) (Or.inl ⟨by rfl,?_⟩) ?_ ?_
         rotate_left
         ·intro w'
          go_simp
          with_reducible rfl
         rotate_left
         ·simp only [Act.put,zhI,zhs0,zhs1,i64_w,i32_w]
          rfl
         refine done_ (done_of HT_.out (by kernel_rfl)) ?_
         clear HT_ HW_ hHeld
         have hno : ¬ okT g s o l i := fun q_ => by
          obtain ⟨⟨q1,q2⟩,q3,q4,q5⟩ := q_
          rw [← HZ.out] at q1 q2 q3
          rw [← HY.out] at q4 q5
          omega
         go_wp2_with fail
         go_ret
         exact ⟨by rw [HRT.out,up_no HII.out hno]; rfl,HBr.out⟩
        ·have t2 := decide_eq_false h2
         by_cases h3 : pl o z = (i : Int)
         ·have t3 : (pl o z != (i : Int)) = false := bne_eq_false_iff_eq.2 h3
          by_cases h4 : y < 0
          ·have t4 := decide_eq_true h4
           refine start_ (n := 45) (S := fun w' => w'.cell? ⟨gs,0,none⟩ = some (.int .i64 g) ∧ w'.cell? ⟨gs,1,none⟩ = some (.int .i64 s) ∧ w'.cell? ⟨gs,2,none⟩ = some (.slice (some ad) o.length co) ∧ w'.cell? ⟨gs,3,none⟩ = some (.slice (some al) l.length cl) ∧ w'.cell? ⟨gs,4,none⟩ = some (.slice Af f.length cf) ∧ w'.cell? (ad.add i) = some (.int .i64 z) ∧ w'.cell? (al.add i) = some (.int .i64 y)) (ds := []) zh0 (by kernel_rfl) rfl rfl ⟨((blk_cell (blk_drew HXr.out) 0).trans rfl),((blk_cell (blk_drew HXr.out) 1).trans rfl),((blk_cell (blk_drew HXr.out) 2).trans rfl),((blk_cell (blk_drew HXr.out) 3).trans rfl),((blk_cell (blk_drew HXr.out) 4).trans rfl),(pw_cell_below (below_drew HBr.out) HZC.out),(pw_cell_below (below_drew HBr.out) HYC.out)⟩ (fun hHeld => ?_)
           refine with_tabW rright.tab7 rright.bits7 (fun HT_ HW_ => ?_)
           replace HXr := Aside0.mk (blk_drew HXr.out)
           replace HBr := Aside0.mk (below_drew HBr.out)
           replace HBR := Aside0.mk (below_drew HBR.out)
           generalize wr.drew = wd at *
           refine pure_ (i := 0) (N := some 37) (v := ?_) (a' := ?_) zh1 rfl rfl (any_of HT_.out (by kernel_rfl)) (fun _ _ _ h => h) (Or.inl ⟨by rfl,?_⟩) ?_ ?_
           rotate_left
           ·intro w'
            go_simp
            with_reducible rfl
           rotate_left
           ·simp only [Act.put,zhI,zhs0,zhs1,i64_w,i32_w]
            rfl
           refine pure_ (i := 2) (N := some 39) (v := ?_) (a' := ?_) zh2 rfl rfl (any_of HT_.out (by kernel_rfl)) (fun _ _ _ h => h) (Or.inl ⟨by rfl,?_⟩) ?_ ?_
           rotate_left
           ·intro w'
            go_simp
            with_reducible rfl
           rotate_left
           ·simp only [Act.put,zhI,zhs0,zhs1,i64_w,i32_w]
            rfl
           refine take_ (i := 1) (N := some 38) (v := ?_) (a' := ?_) zh3 rfl rfl (take_ofW HT_.out HW_.out (by kernel_rfl)) (fun _ _ _ h => h) (Or.inl ⟨by rfl,?_⟩) hHeld ?_ ?_
           rotate_left
           ·rintro w' ⟨s0,s1,s2,s3,s4,s5,s6⟩
            go_simp
            with_reducible rfl
           rotate_left
           ·simp only [Act.put,zhI,zhs0,zhs1,i64_w,i32_w]
            rfl
           refine pure_ (i := 3) (N := some 40) (v := ?_) (a' := ?_) zh4 rfl rfl (any_of HT_.out (by kernel_rfl)) (fun _ _ _ h => h) (Or.inl ⟨by rfl,?_⟩) ?_ ?_
           rotate_left
           ·intro w'
            go_simp
            with_reducible rfl
           rotate_left
           ·simp only [Act.put,zhI,zhs0,zhs1,i64_w,i32_w]
            rfl
           refine take_ (i := 4) (N := some 41) (v := ?_) (a' := ?_) zh5 rfl rfl (take_ofW HT_.out HW_.out (by kernel_rfl)) (fun _ _ _ h => h) (Or.inl ⟨by rfl,?_⟩) hHeld ?_ ?_
           rotate_left
           ·rintro w' ⟨s0,s1,s2,s3,s4,s5,s6⟩
            go_simp
            with_reducible rfl
           rotate_left
           ·simp only [Act.put,zhI,zhs0,zhs1,i64_w,i32_w]
            rfl
           refine pure_ (i := 5) (N := some 42) (v := ?_) (a' := ?_) zh6 rfl rfl (any_of HT_.out (by kernel_rfl)) (fun _ _ _ h => h) (Or.inl ⟨by rfl,?_⟩) ?_ ?_
           rotate_left
           ·intro w'
            go_simp
            with_reducible rfl
           rotate_left
           ·simp only [Act.put,zhI,zhs0,zhs1,i64_w,i32_w]
            rfl
           refine pure_ (i := 6) (N := some 43) (v := ?_) (a' := ?_) zh7 rfl rfl (any_of HT_.out (by kernel_rfl)) (fun _ _ _ h => h) (Or.inl ⟨by rfl,?_⟩) ?_ ?_
           rotate_left
           ·intro w'
            go_simp
            with_reducible rfl
           rotate_left
           ·simp only [Act.put,zhI,zhs0,zhs1,i64_w,i32_w]
            rfl
           refine pure_ (i := 7) (N := some 44) (v := ?_) (a' := ?_) zh8 rfl rfl (any_of HT_.out (by kernel_rfl)) (fun _ _ _ h => h) (Or.inl ⟨by rfl,?_⟩) ?_ ?_
           rotate_left
           ·intro w'
            go_simp
            with_reducible rfl
           rotate_left
           ·simp only [Act.put,zhI,zhs0,zhs1,i64_w,i32_w]
            rfl
           refine pure_ (i := 9) (N := some 46) (v := ?_) (a' := ?_) zh46 rfl rfl (any_of HT_.out (by kernel_rfl)) (fun _ _ _ h => h) (Or.inl ⟨by rfl,?_⟩) ?_ ?_
           rotate_left
           ·intro w'
            go_simp
            with_reducible rfl
           rotate_left
           ·simp only [Act.put,zhI,zhs0,zhs1,i64_w,i32_w]
            rfl
           refine pure_ (i := 12) (N := some 49) (v := ?_) (a' := ?_) zh47 rfl rfl (any_of HT_.out (by kernel_rfl)) (fun _ _ _ h => h) (Or.inl ⟨by rfl,?_⟩) ?_ ?_
           rotate_left
           ·intro w'
            go_simp
            with_reducible rfl
           rotate_left
           ·simp only [Act.put,zhI,zhs0,zhs1,i64_w,i32_w]
            rfl
           refine take_ (i := 8) (N := some 45) (v := ?_) (a' := ?_) zh48 rfl rfl (take_ofW HT_.out HW_.out (by kernel_rfl)) (fun _ _ _ h => h) (Or.inl ⟨by rfl,?_⟩) hHeld ?_ ?_
           rotate_left
           ·rintro w' ⟨s0,s1,s2,s3,s4,s5,s6⟩
            go_simp
            with_reducible rfl
           rotate_left
           ·simp only [Act.put,zhI,zhs0,zhs1,i64_w,i32_w]
            rfl
           refine pure_ (i := 10) (N := some 47) (v := ?_) (a' := ?_) zh49 rfl rfl (any_of HT_.out (by kernel_rfl)) (fun _ _ _ h => h) (Or.inl ⟨by rfl,?_⟩) ?_ ?_
           rotate_left
           ·intro w'
            go_simp
            with_reducible rfl
           rotate_left
           ·simp only [Act.put,zhI,zhs0,zhs1,i64_w,i32_w]
            rfl
           refine take_ (i := 11) (N := some 48) (v := ?_) (a' := ?_) zh13 rfl rfl (take_ofW HT_.out HW_.out (by kernel_rfl)) (fun _ _ _ h => h) (Or.inl ⟨by rfl,?_⟩) hHeld ?_ ?_
           rotate_left
           ·rintro w' ⟨s0,s1,s2,s3,s4,s5,s6⟩
            go_simp
            with_reducible rfl
           rotate_left
           ·simp only [Act.put,zhI,zhs0,zhs1,i64_w,i32_w]
            rfl
           refine take_ (i := 13) (N := some 50) (v := ?_) (a' := ?_) zh14 rfl rfl (take_ofW HT_.out HW_.out (by kernel_rfl)) (fun _ _ _ h => h) (Or.inl ⟨by rfl,?_⟩) hHeld ?_ ?_
           rotate_left
           ·rintro w' ⟨s0,s1,s2,s3,s4,s5,s6⟩
            go_simp
            with_reducible rfl
           rotate_left
           ·simp only [Act.put,zhI,zhs0,zhs1,i64_w,i32_w]
            rfl
           refine pure_ (i := 14) (N := some 51) (v := ?_) (a' := ?_) zh15 rfl rfl (any_of HT_.out (by kernel_rfl)) (fun _ _ _ h => h) (Or.inl ⟨by rfl,?_⟩) ?_ ?_
           rotate_left
           ·intro w'
            go_simp
            with_reducible rfl
           rotate_left
           ·simp only [Act.put,zhI,zhs0,zhs1,i64_w,i32_w]
            rfl
           refine pure_ (i := 15) (N := some 52) (v := ?_) (a' := ?_) zh16 rfl rfl (any_of HT_.out (by kernel_rfl)) (fun _ _ _ h => h) (Or.inl ⟨by rfl,?_⟩) ?_ ?_
           rotate_left
           ·intro w'
            go_simp
            with_reducible rfl
           rotate_left
           ·simp only [Act.put,zhI,zhs0,zhs1,i64_w,i32_w]
            rfl
           refine pure_ (i := 16) (N := some 53) (v := ?_) (a' := ?_) zh17 rfl rfl (any_of HT_.out (by kernel_rfl)) (fun _ _ _ h => h) (Or.inl ⟨by rfl,?_⟩) ?_ ?_
           rotate_left
           ·intro w'
            go_simp
            with_reducible rfl
           rotate_left
           ·simp only [Act.put,zhI,zhs0,zhs1,i64_w,i32_w]
            rfl
           refine pure_ (i := 18) (N := some 55) (v := ?_) (a' := ?_) zh50 rfl rfl (any_of HT_.out (by kernel_rfl)) (fun _ _ _ h => h) (Or.inl ⟨by rfl,?_⟩) ?_ ?_
           rotate_left
           ·intro w'
            go_simp
            with_reducible rfl
           rotate_left
           ·simp only [Act.put,zhI,zhs0,zhs1,i64_w,i32_w]
            rfl
           refine pure_ (i := 20) (N := some 57) (v := ?_) (a' := ?_) zh51 rfl rfl (any_of HT_.out (by kernel_rfl)) (fun _ _ _ h => h) (Or.inl ⟨by rfl,?_⟩) ?_ ?_
           rotate_left
           ·intro w'
            go_simp
            with_reducible rfl
           rotate_left
           ·simp only [Act.put,zhI,zhs0,zhs1,i64_w,i32_w]
            rfl
           refine pure_ (i := 24) (N := some 61) (v := ?_) (a' := ?_) zh52 rfl rfl (any_of HT_.out (by kernel_rfl)) (fun _ _ _ h => h) (Or.inl ⟨by rfl,?_⟩) ?_ ?_
           rotate_left
           ·intro w'
            go_simp
            with_reducible rfl
           rotate_left
           ·simp only [Act.put,zhI,zhs0,zhs1,i64_w,i32_w]
            rfl
           refine take_ (i := 17) (N := some 54) (v := ?_) (a' := ?_) zh53 rfl rfl (take_ofW HT_.out HW_.out (by kernel_rfl)) (fun _ _ _ h => h) (Or.inl ⟨by rfl,?_⟩) hHeld ?_ ?_
           rotate_left
           ·rintro w' ⟨s0,s1,s2,s3,s4,s5,s6⟩
            go_simp
            with_reducible rfl
           rotate_left
           ·simp only [Act.put,zhI,zhs0,zhs1,i64_w,i32_w]
            rfl
           refine take_ (i := 19) (N := some 56) (v := ?_) (a' := ?_) zh54 rfl rfl (take_ofW HT_.out HW_.out (by kernel_rfl)) (fun _ _ _ h => h) (Or.inl ⟨by rfl,?_⟩) hHeld ?_ ?_
           rotate_left
           ·rintro w' ⟨s0,s1,s2,s3,s4,s5,s6⟩
            go_simp
            with_reducible rfl
           rotate_left
           ·simp only [Act.put,zhI,zhs0,zhs1,i64_w,i32_w]
            rfl
           refine pure_ (i := 21) (N := some 58) (v := ?_) (a' := ?_) zh55 rfl rfl (any_of HT_.out (by kernel_rfl)) (fun _ _ _ h => h) (Or.inl ⟨by rfl,?_⟩) ?_ ?_
           rotate_left
           ·intro w'
            go_simp
            with_reducible rfl
           rotate_left
           ·simp only [Act.put,zhI,zhs0,zhs1,i64_w,i32_w]
            rfl
           refine take_ (i := 22) (N := some 59) (v := ?_) (a' := ?_) zh56 rfl rfl (take_ofW HT_.out HW_.out (by kernel_rfl)) (fun _ _ _ h => h) (Or.inl ⟨by rfl,?_⟩) hHeld ?_ ?_
           rotate_left
           ·rintro w' ⟨s0,s1,s2,s3,s4,s5,s6⟩
            go_simp
            with_reducible rfl
           rotate_left
           ·simp only [Act.put,zhI,zhs0,zhs1,i64_w,i32_w]
            rfl
           refine one_ (i := 23) (N := some 60) zh25 rfl rfl (one_of HT_.out (by kernel_rfl)) (by decide) (fun K hK => ?_)
           refine goes_ Try.func35 (by kernel_rfl) rfl #[.agg #[.int .i64 g,.int .i64 s,.slice (some ad) o.length co,.slice (some al) l.length cl,.slice Af f.length cf],.int .i64 z] (by rfl) rfl rfl (by simp only [List.map_toArray,List.map_cons,List.map_nil]; rfl) ?_
           with_reducible refine (In_calls 1001 g s _ _ o _ _ l _ _ f z _ (TC_below HT.out HBr.out) _ HIN.out).mono ?_
           rintro e_ wc ⟨rfl,hb⟩
           refine ⟨_,rfl,?_⟩
           replace HXr := mB HXr hb
           replace HBr := mS HBr hb
           replace HBR := mS HBR hb
           clear hb
           refine hK.out _ _ ⟨(cL HXr 0 rfl),(cL HXr 1 rfl),(cL HXr 2 rfl),(cL HXr 3 rfl),(cL HXr 4 rfl),(pw_cell_below HBr.out HZC.out),(pw_cell_below HBr.out HYC.out)⟩ (fun hHeld => ?_)
           clear hK K
           refine norm_ (a' := ?_) ?_ ?_
           rotate_left
           ·show Act.put _ (some 60) _ = _
            simp only [Act.put,zhI,zhs0,zhs1,i64_w,i32_w]
            rfl
           refine pure_ (i := 25) (N := some 62) (v := ?_) (a' := ?_) zh26 rfl rfl (any_of HT_.out (by kernel_rfl)) (fun _ _ _ h => h) (Or.inl ⟨by rfl,?_⟩) ?_ ?_
           rotate_left
           ·intro w'
            go_simp
            with_reducible rfl
           rotate_left
           ·simp only [Act.put,zhI,zhs0,zhs1,i64_w,i32_w]
            rfl
           refine pure_ (i := 26) (N := some 63) (v := ?_) (a' := ?_) zh27 rfl rfl (any_of HT_.out (by kernel_rfl)) (fun _ _ _ h => h) (Or.inl ⟨by rfl,?_⟩) ?_ ?_
           rotate_left
           ·intro w'
            go_simp
            with_reducible rfl
           rotate_left
           ·simp only [Act.put,zhI,zhs0,zhs1,i64_w,i32_w]
            rfl
           refine pure_ (i := 27) (N := some 64) (v := ?_) (a' := ?_) zh28 rfl rfl (any_of HT_.out (by kernel_rfl)) (fun _ _ _ h => h) (Or.inl ⟨by rfl,?_⟩) ?_ ?_
           rotate_left
           ·intro w'
            go_simp
            with_reducible rfl
           rotate_left
           ·simp only [Act.put,zhI,zhs0,zhs1,i64_w,i32_w]
            rfl
           refine pure_ (i := 28) (N := some 65) (v := ?_) (a' := ?_) zh29 rfl rfl (any_of HT_.out (by kernel_rfl)) (fun _ _ _ h => h) (Or.inl ⟨by rfl,?_⟩) ?_ ?_
           rotate_left
           ·intro w'
            go_simp
            with_reducible rfl
           rotate_left
           ·simp only [Act.put,zhI,zhs0,zhs1,i64_w,i32_w]
            rfl
           refine pure_ (i := 30) (N := some 67) (v := ?_) (a' := ?_) zh57 rfl rfl (any_of HT_.out (by kernel_rfl)) (fun _ _ _ h => h) (Or.inl ⟨by rfl,?_⟩) ?_ ?_
           rotate_left
           ·intro w'
            go_simp
            with_reducible rfl
           rotate_left
           ·simp only [Act.put,zhI,zhs0,zhs1,i64_w,i32_w]
            rfl
           refine take_ (i := 29) (N := some 66) (v := ?_) (a' := ?_) zh31 rfl rfl (take_ofW HT_.out HW_.out (by kernel_rfl)) (fun _ _ _ h => h) (Or.inl ⟨by rfl,?_⟩) hHeld ?_ ?_
           rotate_left
           ·rintro w' ⟨s0,s1,s2,s3,s4,s5,s6⟩
            go_simp
            with_reducible rfl
           rotate_left
           ·simp only [Act.put,zhI,zhs0,zhs1,i64_w,i32_w]
            rfl
           refine pure_ (i := 31) (N := some 68) (v := ?_) (a' := ?_) zh32 rfl rfl (any_of HT_.out (by kernel_rfl)) (fun _ _ _ h => h) (Or.inl ⟨by rfl,?_⟩) ?_ ?_
           rotate_left
           ·intro w'
            go_simp
            with_reducible rfl
           rotate_left
           ·simp only [Act.put,zhI,zhs0,zhs1,i64_w,i32_w]
            rfl
           refine take_ (i := 32) (N := some 69) (v := ?_) (a' := ?_) zh33 rfl rfl (take_ofW HT_.out HW_.out (by kernel_rfl)) (fun _ _ _ h => h) (Or.inl ⟨by rfl,?_⟩) hHeld ?_ ?_
           rotate_left
           ·rintro w' ⟨s0,s1,s2,s3,s4,s5,s6⟩
            go_simp
            with_reducible rfl
           rotate_left
           ·simp only [Act.put,zhI,zhs0,zhs1,i64_w,i32_w]
            rfl
           refine pure_ (i := 33) (N := some 70) (v := ?_) (a' := ?_) zh34 rfl rfl (any_of HT_.out (by kernel_rfl)) (fun _ _ _ h => h) (Or.inl ⟨by rfl,?_⟩) ?_ ?_
           rotate_left
           ·intro w'
            go_simp
            with_reducible rfl
           rotate_left
           ·simp only [Act.put,zhI,zhs0,zhs1,i64_w,i32_w]
            rfl
           refine pure_ (i := 34) (N := some 71) (v := ?_) (a' := ?_) zh35 rfl rfl (any_of HT_.out (by kernel_rfl)) (fun _ _ _ h => h) (Or.inl ⟨by rfl,?_⟩) ?_ ?_
           rotate_left
           ·intro w'
            go_simp
            with_reducible rfl
           rotate_left
           ·simp only [Act.put,zhI,zhs0,zhs1,i64_w,i32_w]
            rfl
           refine pure_ (i := 35) (N := some 72) (v := ?_) (a' := ?_) zh36 rfl rfl (any_of HT_.out (by kernel_rfl)) (fun _ _ _ h => h) (Or.inl ⟨by rfl,?_⟩) ?_ ?_
           rotate_left
           ·intro w'
            go_simp
            with_reducible rfl
           rotate_left
           ·simp only [Act.put,zhI,zhs0,zhs1,i64_w,i32_w]
            rfl
           refine pure_ (i := 36) (N := some 73) (v := undef) (a' := ?_) zh37 rfl rfl (any_of HT_.out (by kernel_rfl)) (fun _ _ _ h => h) (Or.inr ⟨by rfl,rfl⟩) ?_ ?_
           rotate_left
           ·simp only [Act.put,zhI,zhs0,zhs1,i64_w,i32_w]
            rfl
           refine pure_ (i := 37) (N := some 74) (v := undef) (a' := ?_) zh38 rfl rfl (any_of HT_.out (by kernel_rfl)) (fun _ _ _ h => h) (Or.inr ⟨by rfl,rfl⟩) ?_ ?_
           rotate_left
           ·simp only [Act.put,zhI,zhs0,zhs1,i64_w,i32_w]
            rfl
           refine pure_ (i := 38) (N := some 75) (v := undef) (a' := ?_) zh39 rfl rfl (any_of HT_.out (by kernel_rfl)) (fun _ _ _ h => h) (Or.inr ⟨by rfl,rfl⟩) ?_ ?_
           rotate_left
           ·simp only [Act.put,zhI,zhs0,zhs1,i64_w,i32_w]
            rfl
           refine pure_ (i := 39) (N := some 76) (v := undef) (a' := ?_) zh40 rfl rfl (any_of HT_.out (by kernel_rfl)) (fun _ _ _ h => h) (Or.inr ⟨by rfl,rfl⟩) ?_ ?_
           rotate_left
           ·simp only [Act.put,zhI,zhs0,zhs1,i64_w,i32_w]
            rfl
           refine pure_ (i := 40) (N := some 77) (v := undef) (a' := ?_) zh41 rfl rfl (any_of HT_.out (by kernel_rfl)) (fun _ _ _ h => h) (Or.inr ⟨by rfl,rfl⟩) ?_ ?_
           rotate_left
           ·simp only [Act.put,zhI,zhs0,zhs1,i64_w,i32_w]
            rfl
           refine pure_ (i := 41) (N := some 78) (v := undef) (a' := ?_) zh42 rfl rfl (any_of HT_.out (by kernel_rfl)) (fun _ _ _ h => h) (Or.inr ⟨by rfl,rfl⟩) ?_ ?_
           rotate_left
           ·simp only [Act.put,zhI,zhs0,zhs1,i64_w,i32_w]
            rfl
           refine pure_ (i := 42) (N := some 79) (v := undef) (a' := ?_) zh43 rfl rfl (any_of HT_.out (by kernel_rfl)) (fun _ _ _ h => h) (Or.inr ⟨by rfl,rfl⟩) ?_ ?_
           rotate_left
           ·simp only [Act.put,zhI,zhs0,zhs1,i64_w,i32_w]
            rfl
           refine pure_ (i := 43) (N := some 80) (v := undef) (a' := ?_) zh44 rfl rfl (any_of HT_.out (by kernel_rfl)) (fun _ _ _ h => h) (Or.inr ⟨by rfl,rfl⟩) ?_ ?_
           rotate_left
           ·simp only [Act.put,zhI,zhs0,zhs1,i64_w,i32_w]
            rfl
           refine pure_ (i := 44) (N := some 81) (v := ?_) (a' := ?_) zh45 rfl rfl (any_of HT_.out (by kernel_rfl)) (fun _ _ _ h => h) (Or.inl ⟨by rfl,?_⟩) ?_ ?_
           rotate_left
           ·intro w'
            go_simp
            with_reducible rfl
           rotate_left
           ·simp only [Act.put,zhI,zhs0,zhs1,i64_w,i32_w]
            rfl
           refine done_ (done_of HT_.out (by kernel_rfl)) ?_
           clear HT_ HW_ hHeld
           have hno : ¬ okT g s o l i := fun q_ => by
            obtain ⟨⟨q1,q2⟩,q3,q4,q5⟩ := q_
            rw [← HZ.out] at q1 q2 q3
            rw [← HY.out] at q4 q5
            omega
           go_wp2_with fail
           go_ret
           exact ⟨by rw [HRT.out,up_no HII.out hno]; rfl,HBr.out⟩
          ·have t4 := decide_eq_false h4
           by_cases h5 : s < y
           ·have t5 := decide_eq_true h5
            refine start_ (n := 45) (S := fun w' => w'.cell? ⟨gs,0,none⟩ = some (.int .i64 g) ∧ w'.cell? ⟨gs,1,none⟩ = some (.int .i64 s) ∧ w'.cell? ⟨gs,2,none⟩ = some (.slice (some ad) o.length co) ∧ w'.cell? ⟨gs,3,none⟩ = some (.slice (some al) l.length cl) ∧ w'.cell? ⟨gs,4,none⟩ = some (.slice Af f.length cf) ∧ w'.cell? (ad.add i) = some (.int .i64 z) ∧ w'.cell? (al.add i) = some (.int .i64 y)) (ds := []) zh0 (by kernel_rfl) rfl rfl ⟨((blk_cell (blk_drew HXr.out) 0).trans rfl),((blk_cell (blk_drew HXr.out) 1).trans rfl),((blk_cell (blk_drew HXr.out) 2).trans rfl),((blk_cell (blk_drew HXr.out) 3).trans rfl),((blk_cell (blk_drew HXr.out) 4).trans rfl),(pw_cell_below (below_drew HBr.out) HZC.out),(pw_cell_below (below_drew HBr.out) HYC.out)⟩ (fun hHeld => ?_)
            refine with_tabW rright.tab7 rright.bits7 (fun HT_ HW_ => ?_)
            replace HXr := Aside0.mk (blk_drew HXr.out)
            replace HBr := Aside0.mk (below_drew HBr.out)
            replace HBR := Aside0.mk (below_drew HBR.out)
            generalize wr.drew = wd at *
            refine pure_ (i := 0) (N := some 37) (v := ?_) (a' := ?_) zh1 rfl rfl (any_of HT_.out (by kernel_rfl)) (fun _ _ _ h => h) (Or.inl ⟨by rfl,?_⟩) ?_ ?_
            rotate_left
            ·intro w'
             go_simp
             with_reducible rfl
            rotate_left
            ·simp only [Act.put,zhI,zhs0,zhs1,i64_w,i32_w]
             rfl
            refine pure_ (i := 2) (N := some 39) (v := ?_) (a' := ?_) zh2 rfl rfl (any_of HT_.out (by kernel_rfl)) (fun _ _ _ h => h) (Or.inl ⟨by rfl,?_⟩) ?_ ?_
            rotate_left
            ·intro w'
             go_simp
             with_reducible rfl
            rotate_left
            ·simp only [Act.put,zhI,zhs0,zhs1,i64_w,i32_w]
             rfl
            refine take_ (i := 1) (N := some 38) (v := ?_) (a' := ?_) zh3 rfl rfl (take_ofW HT_.out HW_.out (by kernel_rfl)) (fun _ _ _ h => h) (Or.inl ⟨by rfl,?_⟩) hHeld ?_ ?_
            rotate_left
            ·rintro w' ⟨s0,s1,s2,s3,s4,s5,s6⟩
             go_simp
             with_reducible rfl
            rotate_left
            ·simp only [Act.put,zhI,zhs0,zhs1,i64_w,i32_w]
             rfl
            refine pure_ (i := 3) (N := some 40) (v := ?_) (a' := ?_) zh4 rfl rfl (any_of HT_.out (by kernel_rfl)) (fun _ _ _ h => h) (Or.inl ⟨by rfl,?_⟩) ?_ ?_
            rotate_left
            ·intro w'
             go_simp
             with_reducible rfl
            rotate_left
            ·simp only [Act.put,zhI,zhs0,zhs1,i64_w,i32_w]
             rfl
            refine take_ (i := 4) (N := some 41) (v := ?_) (a' := ?_) zh5 rfl rfl (take_ofW HT_.out HW_.out (by kernel_rfl)) (fun _ _ _ h => h) (Or.inl ⟨by rfl,?_⟩) hHeld ?_ ?_
            rotate_left
            ·rintro w' ⟨s0,s1,s2,s3,s4,s5,s6⟩
             go_simp
             with_reducible rfl
            rotate_left
            ·simp only [Act.put,zhI,zhs0,zhs1,i64_w,i32_w]
             rfl
            refine pure_ (i := 5) (N := some 42) (v := ?_) (a' := ?_) zh6 rfl rfl (any_of HT_.out (by kernel_rfl)) (fun _ _ _ h => h) (Or.inl ⟨by rfl,?_⟩) ?_ ?_
            rotate_left
            ·intro w'
             go_simp
             with_reducible rfl
            rotate_left
            ·simp only [Act.put,zhI,zhs0,zhs1,i64_w,i32_w]
             rfl
            refine pure_ (i := 6) (N := some 43) (v := ?_) (a' := ?_) zh7 rfl rfl (any_of HT_.out (by kernel_rfl)) (fun _ _ _ h => h) (Or.inl ⟨by rfl,?_⟩) ?_ ?_
            rotate_left
            ·intro w'
             go_simp
             with_reducible rfl
            rotate_left
            ·simp only [Act.put,zhI,zhs0,zhs1,i64_w,i32_w]
             rfl
            refine pure_ (i := 7) (N := some 44) (v := ?_) (a' := ?_) zh8 rfl rfl (any_of HT_.out (by kernel_rfl)) (fun _ _ _ h => h) (Or.inl ⟨by rfl,?_⟩) ?_ ?_
            rotate_left
            ·intro w'
             go_simp
             with_reducible rfl
            rotate_left
            ·simp only [Act.put,zhI,zhs0,zhs1,i64_w,i32_w]
             rfl
            refine pure_ (i := 9) (N := some 46) (v := ?_) (a' := ?_) zh46 rfl rfl (any_of HT_.out (by kernel_rfl)) (fun _ _ _ h => h) (Or.inl ⟨by rfl,?_⟩) ?_ ?_
            rotate_left
            ·intro w'
             go_simp
             with_reducible rfl
            rotate_left
            ·simp only [Act.put,zhI,zhs0,zhs1,i64_w,i32_w]
             rfl
            refine pure_ (i := 12) (N := some 49) (v := ?_) (a' := ?_) zh47 rfl rfl (any_of HT_.out (by kernel_rfl)) (fun _ _ _ h => h) (Or.inl ⟨by rfl,?_⟩) ?_ ?_
            rotate_left
            ·intro w'
             go_simp
             with_reducible rfl
            rotate_left
            ·simp only [Act.put,zhI,zhs0,zhs1,i64_w,i32_w]
             rfl
            refine take_ (i := 8) (N := some 45) (v := ?_) (a' := ?_) zh48 rfl rfl (take_ofW HT_.out HW_.out (by kernel_rfl)) (fun _ _ _ h => h) (Or.inl ⟨by rfl,?_⟩) hHeld ?_ ?_
            rotate_left
            ·rintro w' ⟨s0,s1,s2,s3,s4,s5,s6⟩
             go_simp
             with_reducible rfl
            rotate_left
            ·simp only [Act.put,zhI,zhs0,zhs1,i64_w,i32_w]
             rfl
            refine pure_ (i := 10) (N := some 47) (v := ?_) (a' := ?_) zh49 rfl rfl (any_of HT_.out (by kernel_rfl)) (fun _ _ _ h => h) (Or.inl ⟨by rfl,?_⟩) ?_ ?_
            rotate_left
            ·intro w'
             go_simp
             with_reducible rfl
            rotate_left
            ·simp only [Act.put,zhI,zhs0,zhs1,i64_w,i32_w]
             rfl
            refine take_ (i := 11) (N := some 48) (v := ?_) (a' := ?_) zh13 rfl rfl (take_ofW HT_.out HW_.out (by kernel_rfl)) (fun _ _ _ h => h) (Or.inl ⟨by rfl,?_⟩) hHeld ?_ ?_
            rotate_left
            ·rintro w' ⟨s0,s1,s2,s3,s4,s5,s6⟩
             go_simp
             with_reducible rfl
            rotate_left
            ·simp only [Act.put,zhI,zhs0,zhs1,i64_w,i32_w]
             rfl
            refine take_ (i := 13) (N := some 50) (v := ?_) (a' := ?_) zh14 rfl rfl (take_ofW HT_.out HW_.out (by kernel_rfl)) (fun _ _ _ h => h) (Or.inl ⟨by rfl,?_⟩) hHeld ?_ ?_
            rotate_left
            ·rintro w' ⟨s0,s1,s2,s3,s4,s5,s6⟩
             go_simp
             with_reducible rfl
            rotate_left
            ·simp only [Act.put,zhI,zhs0,zhs1,i64_w,i32_w]
             rfl
            refine pure_ (i := 14) (N := some 51) (v := ?_) (a' := ?_) zh15 rfl rfl (any_of HT_.out (by kernel_rfl)) (fun _ _ _ h => h) (Or.inl ⟨by rfl,?_⟩) ?_ ?_
            rotate_left
            ·intro w'
             go_simp
             with_reducible rfl
            rotate_left
            ·simp only [Act.put,zhI,zhs0,zhs1,i64_w,i32_w]
             rfl
            refine pure_ (i := 15) (N := some 52) (v := ?_) (a' := ?_) zh16 rfl rfl (any_of HT_.out (by kernel_rfl)) (fun _ _ _ h => h) (Or.inl ⟨by rfl,?_⟩) ?_ ?_
            rotate_left
            ·intro w'
             go_simp
             with_reducible rfl
            rotate_left
            ·simp only [Act.put,zhI,zhs0,zhs1,i64_w,i32_w]
             rfl
            refine pure_ (i := 16) (N := some 53) (v := ?_) (a' := ?_) zh17 rfl rfl (any_of HT_.out (by kernel_rfl)) (fun _ _ _ h => h) (Or.inl ⟨by rfl,?_⟩) ?_ ?_
            rotate_left
            ·intro w'
             go_simp
             with_reducible rfl
            rotate_left
            ·simp only [Act.put,zhI,zhs0,zhs1,i64_w,i32_w]
             rfl
            refine pure_ (i := 18) (N := some 55) (v := ?_) (a' := ?_) zh50 rfl rfl (any_of HT_.out (by kernel_rfl)) (fun _ _ _ h => h) (Or.inl ⟨by rfl,?_⟩) ?_ ?_
            rotate_left
            ·intro w'
             go_simp
             with_reducible rfl
            rotate_left
            ·simp only [Act.put,zhI,zhs0,zhs1,i64_w,i32_w]
             rfl
            refine pure_ (i := 20) (N := some 57) (v := ?_) (a' := ?_) zh51 rfl rfl (any_of HT_.out (by kernel_rfl)) (fun _ _ _ h => h) (Or.inl ⟨by rfl,?_⟩) ?_ ?_
            rotate_left
            ·intro w'
             go_simp
             with_reducible rfl
            rotate_left
            ·simp only [Act.put,zhI,zhs0,zhs1,i64_w,i32_w]
             rfl
            refine pure_ (i := 24) (N := some 61) (v := ?_) (a' := ?_) zh52 rfl rfl (any_of HT_.out (by kernel_rfl)) (fun _ _ _ h => h) (Or.inl ⟨by rfl,?_⟩) ?_ ?_
            rotate_left
            ·intro w'
             go_simp
             with_reducible rfl
            rotate_left
            ·simp only [Act.put,zhI,zhs0,zhs1,i64_w,i32_w]
             rfl
            refine take_ (i := 17) (N := some 54) (v := ?_) (a' := ?_) zh53 rfl rfl (take_ofW HT_.out HW_.out (by kernel_rfl)) (fun _ _ _ h => h) (Or.inl ⟨by rfl,?_⟩) hHeld ?_ ?_
            rotate_left
            ·rintro w' ⟨s0,s1,s2,s3,s4,s5,s6⟩
             go_simp
             with_reducible rfl
            rotate_left
            ·simp only [Act.put,zhI,zhs0,zhs1,i64_w,i32_w]
             rfl
            refine take_ (i := 19) (N := some 56) (v := ?_) (a' := ?_) zh54 rfl rfl (take_ofW HT_.out HW_.out (by kernel_rfl)) (fun _ _ _ h => h) (Or.inl ⟨by rfl,?_⟩) hHeld ?_ ?_
            rotate_left
            ·rintro w' ⟨s0,s1,s2,s3,s4,s5,s6⟩
             go_simp
             with_reducible rfl
            rotate_left
            ·simp only [Act.put,zhI,zhs0,zhs1,i64_w,i32_w]
             rfl
            refine pure_ (i := 21) (N := some 58) (v := ?_) (a' := ?_) zh55 rfl rfl (any_of HT_.out (by kernel_rfl)) (fun _ _ _ h => h) (Or.inl ⟨by rfl,?_⟩) ?_ ?_
            rotate_left
            ·intro w'
             go_simp
             with_reducible rfl
            rotate_left
            ·simp only [Act.put,zhI,zhs0,zhs1,i64_w,i32_w]
             rfl
            refine take_ (i := 22) (N := some 59) (v := ?_) (a' := ?_) zh56 rfl rfl (take_ofW HT_.out HW_.out (by kernel_rfl)) (fun _ _ _ h => h) (Or.inl ⟨by rfl,?_⟩) hHeld ?_ ?_
            rotate_left
            ·rintro w' ⟨s0,s1,s2,s3,s4,s5,s6⟩
             go_simp
             with_reducible rfl
            rotate_left
            ·simp only [Act.put,zhI,zhs0,zhs1,i64_w,i32_w]
             rfl
            refine one_ (i := 23) (N := some 60) zh25 rfl rfl (one_of HT_.out (by kernel_rfl)) (by decide) (fun K hK => ?_)
            refine goes_ Try.func35 (by kernel_rfl) rfl #[.agg #[.int .i64 g,.int .i64 s,.slice (some ad) o.length co,.slice (some al) l.length cl,.slice Af f.length cf],.int .i64 z] (by rfl) rfl rfl (by simp only [List.map_toArray,List.map_cons,List.map_nil]; rfl) ?_
            with_reducible refine (In_calls 1001 g s _ _ o _ _ l _ _ f z _ (TC_below HT.out HBr.out) _ HIN.out).mono ?_
            rintro e_ wc ⟨rfl,hb⟩
            refine ⟨_,rfl,?_⟩
            replace HXr := mB HXr hb
            replace HBr := mS HBr hb
            replace HBR := mS HBR hb
            clear hb
            refine hK.out _ _ ⟨(cL HXr 0 rfl),(cL HXr 1 rfl),(cL HXr 2 rfl),(cL HXr 3 rfl),(cL HXr 4 rfl),(pw_cell_below HBr.out HZC.out),(pw_cell_below HBr.out HYC.out)⟩ (fun hHeld => ?_)
            clear hK K
            refine norm_ (a' := ?_) ?_ ?_
            rotate_left
            ·show Act.put _ (some 60) _ = _
             simp only [Act.put,zhI,zhs0,zhs1,i64_w,i32_w]
             rfl
            refine pure_ (i := 25) (N := some 62) (v := ?_) (a' := ?_) zh26 rfl rfl (any_of HT_.out (by kernel_rfl)) (fun _ _ _ h => h) (Or.inl ⟨by rfl,?_⟩) ?_ ?_
            rotate_left
            ·intro w'
             go_simp
             with_reducible rfl
            rotate_left
            ·simp only [Act.put,zhI,zhs0,zhs1,i64_w,i32_w]
             rfl
            refine pure_ (i := 26) (N := some 63) (v := ?_) (a' := ?_) zh27 rfl rfl (any_of HT_.out (by kernel_rfl)) (fun _ _ _ h => h) (Or.inl ⟨by rfl,?_⟩) ?_ ?_
            rotate_left
            ·intro w'
             go_simp
             with_reducible rfl
            rotate_left
            ·simp only [Act.put,zhI,zhs0,zhs1,i64_w,i32_w]
             rfl
            refine pure_ (i := 27) (N := some 64) (v := ?_) (a' := ?_) zh28 rfl rfl (any_of HT_.out (by kernel_rfl)) (fun _ _ _ h => h) (Or.inl ⟨by rfl,?_⟩) ?_ ?_
            rotate_left
            ·intro w'
             go_simp
             with_reducible rfl
            rotate_left
            ·simp only [Act.put,zhI,zhs0,zhs1,i64_w,i32_w]
             rfl
            refine pure_ (i := 28) (N := some 65) (v := ?_) (a' := ?_) zh29 rfl rfl (any_of HT_.out (by kernel_rfl)) (fun _ _ _ h => h) (Or.inl ⟨by rfl,?_⟩) ?_ ?_
            rotate_left
            ·intro w'
             go_simp
             with_reducible rfl
            rotate_left
            ·simp only [Act.put,zhI,zhs0,zhs1,i64_w,i32_w]
             rfl
            refine pure_ (i := 30) (N := some 67) (v := ?_) (a' := ?_) zh57 rfl rfl (any_of HT_.out (by kernel_rfl)) (fun _ _ _ h => h) (Or.inl ⟨by rfl,?_⟩) ?_ ?_
            rotate_left
            ·intro w'
             go_simp
             with_reducible rfl
            rotate_left
            ·simp only [Act.put,zhI,zhs0,zhs1,i64_w,i32_w]
             rfl
            refine take_ (i := 29) (N := some 66) (v := ?_) (a' := ?_) zh31 rfl rfl (take_ofW HT_.out HW_.out (by kernel_rfl)) (fun _ _ _ h => h) (Or.inl ⟨by rfl,?_⟩) hHeld ?_ ?_
            rotate_left
            ·rintro w' ⟨s0,s1,s2,s3,s4,s5,s6⟩
             go_simp
             with_reducible rfl
            rotate_left
            ·simp only [Act.put,zhI,zhs0,zhs1,i64_w,i32_w]
             rfl
            refine pure_ (i := 31) (N := some 68) (v := ?_) (a' := ?_) zh32 rfl rfl (any_of HT_.out (by kernel_rfl)) (fun _ _ _ h => h) (Or.inl ⟨by rfl,?_⟩) ?_ ?_
            rotate_left
            ·intro w'
             go_simp
             with_reducible rfl
            rotate_left
            ·simp only [Act.put,zhI,zhs0,zhs1,i64_w,i32_w]
             rfl
            refine take_ (i := 32) (N := some 69) (v := ?_) (a' := ?_) zh33 rfl rfl (take_ofW HT_.out HW_.out (by kernel_rfl)) (fun _ _ _ h => h) (Or.inl ⟨by rfl,?_⟩) hHeld ?_ ?_
            rotate_left
            ·rintro w' ⟨s0,s1,s2,s3,s4,s5,s6⟩
             go_simp
             with_reducible rfl
            rotate_left
            ·simp only [Act.put,zhI,zhs0,zhs1,i64_w,i32_w]
             rfl
            refine pure_ (i := 33) (N := some 70) (v := ?_) (a' := ?_) zh34 rfl rfl (any_of HT_.out (by kernel_rfl)) (fun _ _ _ h => h) (Or.inl ⟨by rfl,?_⟩) ?_ ?_
            rotate_left
            ·intro w'
             go_simp
             with_reducible rfl
            rotate_left
            ·simp only [Act.put,zhI,zhs0,zhs1,i64_w,i32_w]
             rfl
            refine pure_ (i := 34) (N := some 71) (v := ?_) (a' := ?_) zh35 rfl rfl (any_of HT_.out (by kernel_rfl)) (fun _ _ _ h => h) (Or.inl ⟨by rfl,?_⟩) ?_ ?_
            rotate_left
            ·intro w'
             go_simp
             with_reducible rfl
            rotate_left
            ·simp only [Act.put,zhI,zhs0,zhs1,i64_w,i32_w]
             rfl
            refine pure_ (i := 35) (N := some 72) (v := ?_) (a' := ?_) zh36 rfl rfl (any_of HT_.out (by kernel_rfl)) (fun _ _ _ h => h) (Or.inl ⟨by rfl,?_⟩) ?_ ?_
            rotate_left
            ·intro w'
             go_simp
             with_reducible rfl
            rotate_left
            ·simp only [Act.put,zhI,zhs0,zhs1,i64_w,i32_w]
             rfl
            refine pure_ (i := 36) (N := some 73) (v := ?_) (a' := ?_) zh37 rfl rfl (any_of HT_.out (by kernel_rfl)) (fun _ _ _ h => h) (Or.inl ⟨by rfl,?_⟩) ?_ ?_
            rotate_left
            ·intro w'
             go_simp
             with_reducible rfl
            rotate_left
            ·simp only [Act.put,zhI,zhs0,zhs1,i64_w,i32_w]
             rfl
            refine pure_ (i := 38) (N := some 75) (v := ?_) (a' := ?_) zh58 rfl rfl (any_of HT_.out (by kernel_rfl)) (fun _ _ _ h => h) (Or.inl ⟨by rfl,?_⟩) ?_ ?_
            rotate_left
            ·intro w'
             go_simp
             with_reducible rfl
            rotate_left
            ·simp only [Act.put,zhI,zhs0,zhs1,i64_w,i32_w]
             rfl
            refine pure_ (i := 41) (N := some 78) (v := ?_) (a' := ?_) zh59 rfl rfl (any_of HT_.out (by kernel_rfl)) (fun _ _ _ h => h) (Or.inl ⟨by rfl,?_⟩) ?_ ?_
            rotate_left
            ·intro w'
             go_simp
             with_reducible rfl
            rotate_left
            ·simp only [Act.put,zhI,zhs0,zhs1,i64_w,i32_w]
             rfl
            refine take_ (i := 37) (N := some 74) (v := ?_) (a' := ?_) zh60 rfl rfl (take_ofW HT_.out HW_.out (by kernel_rfl)) (fun _ _ _ h => h) (Or.inl ⟨by rfl,?_⟩) hHeld ?_ ?_
            rotate_left
            ·rintro w' ⟨s0,s1,s2,s3,s4,s5,s6⟩
             go_simp
             with_reducible rfl
            rotate_left
            ·simp only [Act.put,zhI,zhs0,zhs1,i64_w,i32_w]
             rfl
            refine pure_ (i := 39) (N := some 76) (v := ?_) (a' := ?_) zh61 rfl rfl (any_of HT_.out (by kernel_rfl)) (fun _ _ _ h => h) (Or.inl ⟨by rfl,?_⟩) ?_ ?_
            rotate_left
            ·intro w'
             go_simp
             with_reducible rfl
            rotate_left
            ·simp only [Act.put,zhI,zhs0,zhs1,i64_w,i32_w]
             rfl
            refine take_ (i := 40) (N := some 77) (v := ?_) (a' := ?_) zh42 rfl rfl (take_ofW HT_.out HW_.out (by kernel_rfl)) (fun _ _ _ h => h) (Or.inl ⟨by rfl,?_⟩) hHeld ?_ ?_
            rotate_left
            ·rintro w' ⟨s0,s1,s2,s3,s4,s5,s6⟩
             go_simp
             with_reducible rfl
            rotate_left
            ·simp only [Act.put,zhI,zhs0,zhs1,i64_w,i32_w]
             rfl
            refine take_ (i := 42) (N := some 79) (v := ?_) (a' := ?_) zh43 rfl rfl (take_ofW HT_.out HW_.out (by kernel_rfl)) (fun _ _ _ h => h) (Or.inl ⟨by rfl,?_⟩) hHeld ?_ ?_
            rotate_left
            ·rintro w' ⟨s0,s1,s2,s3,s4,s5,s6⟩
             go_simp
             with_reducible rfl
            rotate_left
            ·simp only [Act.put,zhI,zhs0,zhs1,i64_w,i32_w]
             rfl
            refine pure_ (i := 43) (N := some 80) (v := ?_) (a' := ?_) zh44 rfl rfl (any_of HT_.out (by kernel_rfl)) (fun _ _ _ h => h) (Or.inl ⟨by rfl,?_⟩) ?_ ?_
            rotate_left
            ·intro w'
             go_simp
             with_reducible rfl
            rotate_left
            ·simp only [Act.put,zhI,zhs0,zhs1,i64_w,i32_w]
             rfl
            refine pure_ (i := 44) (N := some 81) (v := ?_) (a' := ?_) zh45 rfl rfl (any_of HT_.out (by kernel_rfl)) (fun _ _ _ h => h) (Or.inl ⟨by rfl,?_⟩) ?_ ?_
            rotate_left
            ·intro w'
             go_simp
             with_reducible rfl
            rotate_left
            ·simp only [Act.put,zhI,zhs0,zhs1,i64_w,i32_w]
             rfl
            refine done_ (done_of HT_.out (by kernel_rfl)) ?_
            clear HT_ HW_ hHeld
            have hno : ¬ okT g s o l i := fun q_ => by
             obtain ⟨⟨q1,q2⟩,q3,q4,q5⟩ := q_
             rw [← HZ.out] at q1 q2 q3
             rw [← HY.out] at q4 q5
             omega
            go_wp2_with fail
            go_ret
            exact ⟨by rw [HRT.out,up_no HII.out hno]; rfl,HBr.out⟩
           ·have t5 := decide_eq_false h5
            have HOK : Aside0 (okT g s o l i) := ⟨⟨by rw [← HZ.out]; omega,by rw [← HZ.out]; exact HPT.out.1 h3,by rw [← HY.out]; omega⟩⟩
            refine start_ (n := 45) (S := fun w' => w'.cell? ⟨gs,0,none⟩ = some (.int .i64 g) ∧ w'.cell? ⟨gs,1,none⟩ = some (.int .i64 s) ∧ w'.cell? ⟨gs,2,none⟩ = some (.slice (some ad) o.length co) ∧ w'.cell? ⟨gs,3,none⟩ = some (.slice (some al) l.length cl) ∧ w'.cell? ⟨gs,4,none⟩ = some (.slice Af f.length cf) ∧ w'.cell? (ad.add i) = some (.int .i64 z) ∧ w'.cell? (al.add i) = some (.int .i64 y)) (ds := []) zh0 (by kernel_rfl) rfl rfl ⟨((blk_cell (blk_drew HXr.out) 0).trans rfl),((blk_cell (blk_drew HXr.out) 1).trans rfl),((blk_cell (blk_drew HXr.out) 2).trans rfl),((blk_cell (blk_drew HXr.out) 3).trans rfl),((blk_cell (blk_drew HXr.out) 4).trans rfl),(pw_cell_below (below_drew HBr.out) HZC.out),(pw_cell_below (below_drew HBr.out) HYC.out)⟩ (fun hHeld => ?_)
            refine with_tabW rright.tab7 rright.bits7 (fun HT_ HW_ => ?_)
            replace HXr := Aside0.mk (blk_drew HXr.out)
            replace HBr := Aside0.mk (below_drew HBr.out)
            replace HBR := Aside0.mk (below_drew HBR.out)
            generalize wr.drew = wd at *
            refine pure_ (i := 0) (N := some 37) (v := ?_) (a' := ?_) zh1 rfl rfl (any_of HT_.out (by kernel_rfl)) (fun _ _ _ h => h) (Or.inl ⟨by rfl,?_⟩) ?_ ?_
            rotate_left
            ·intro w'
             go_simp
             with_reducible rfl
            rotate_left
            ·simp only [Act.put,zhI,zhs0,zhs1,i64_w,i32_w]
             rfl
            refine pure_ (i := 2) (N := some 39) (v := ?_) (a' := ?_) zh2 rfl rfl (any_of HT_.out (by kernel_rfl)) (fun _ _ _ h => h) (Or.inl ⟨by rfl,?_⟩) ?_ ?_
            rotate_left
            ·intro w'
             go_simp
             with_reducible rfl
            rotate_left
            ·simp only [Act.put,zhI,zhs0,zhs1,i64_w,i32_w]
             rfl
            refine take_ (i := 1) (N := some 38) (v := ?_) (a' := ?_) zh3 rfl rfl (take_ofW HT_.out HW_.out (by kernel_rfl)) (fun _ _ _ h => h) (Or.inl ⟨by rfl,?_⟩) hHeld ?_ ?_
            rotate_left
            ·rintro w' ⟨s0,s1,s2,s3,s4,s5,s6⟩
             go_simp
             with_reducible rfl
            rotate_left
            ·simp only [Act.put,zhI,zhs0,zhs1,i64_w,i32_w]
             rfl
            refine pure_ (i := 3) (N := some 40) (v := ?_) (a' := ?_) zh4 rfl rfl (any_of HT_.out (by kernel_rfl)) (fun _ _ _ h => h) (Or.inl ⟨by rfl,?_⟩) ?_ ?_
            rotate_left
            ·intro w'
             go_simp
             with_reducible rfl
            rotate_left
            ·simp only [Act.put,zhI,zhs0,zhs1,i64_w,i32_w]
             rfl
            refine take_ (i := 4) (N := some 41) (v := ?_) (a' := ?_) zh5 rfl rfl (take_ofW HT_.out HW_.out (by kernel_rfl)) (fun _ _ _ h => h) (Or.inl ⟨by rfl,?_⟩) hHeld ?_ ?_
            rotate_left
            ·rintro w' ⟨s0,s1,s2,s3,s4,s5,s6⟩
             go_simp
             with_reducible rfl
            rotate_left
            ·simp only [Act.put,zhI,zhs0,zhs1,i64_w,i32_w]
             rfl
            refine pure_ (i := 5) (N := some 42) (v := ?_) (a' := ?_) zh6 rfl rfl (any_of HT_.out (by kernel_rfl)) (fun _ _ _ h => h) (Or.inl ⟨by rfl,?_⟩) ?_ ?_
            rotate_left
            ·intro w'
             go_simp
             with_reducible rfl
            rotate_left
            ·simp only [Act.put,zhI,zhs0,zhs1,i64_w,i32_w]
             rfl
            refine pure_ (i := 6) (N := some 43) (v := ?_) (a' := ?_) zh7 rfl rfl (any_of HT_.out (by kernel_rfl)) (fun _ _ _ h => h) (Or.inl ⟨by rfl,?_⟩) ?_ ?_
            rotate_left
            ·intro w'
             go_simp
             with_reducible rfl
            rotate_left
            ·simp only [Act.put,zhI,zhs0,zhs1,i64_w,i32_w]
             rfl
            refine pure_ (i := 7) (N := some 44) (v := ?_) (a' := ?_) zh8 rfl rfl (any_of HT_.out (by kernel_rfl)) (fun _ _ _ h => h) (Or.inl ⟨by rfl,?_⟩) ?_ ?_
            rotate_left
            ·intro w'
             go_simp
             with_reducible rfl
            rotate_left
            ·simp only [Act.put,zhI,zhs0,zhs1,i64_w,i32_w]
             rfl
            refine pure_ (i := 9) (N := some 46) (v := ?_) (a' := ?_) zh46 rfl rfl (any_of HT_.out (by kernel_rfl)) (fun _ _ _ h => h) (Or.inl ⟨by rfl,?_⟩) ?_ ?_
            rotate_left
            ·intro w'
             go_simp
             with_reducible rfl
            rotate_left
            ·simp only [Act.put,zhI,zhs0,zhs1,i64_w,i32_w]
             rfl
            refine pure_ (i := 12) (N := some 49) (v := ?_) (a' := ?_) zh47 rfl rfl (any_of HT_.out (by kernel_rfl)) (fun _ _ _ h => h) (Or.inl ⟨by rfl,?_⟩) ?_ ?_
            rotate_left
            ·intro w'
             go_simp
             with_reducible rfl
            rotate_left
            ·simp only [Act.put,zhI,zhs0,zhs1,i64_w,i32_w]
             rfl
            refine take_ (i := 8) (N := some 45) (v := ?_) (a' := ?_) zh48 rfl rfl (take_ofW HT_.out HW_.out (by kernel_rfl)) (fun _ _ _ h => h) (Or.inl ⟨by rfl,?_⟩) hHeld ?_ ?_
            rotate_left
            ·rintro w' ⟨s0,s1,s2,s3,s4,s5,s6⟩
             go_simp
             with_reducible rfl
            rotate_left
            ·simp only [Act.put,zhI,zhs0,zhs1,i64_w,i32_w]
             rfl
            refine pure_ (i := 10) (N := some 47) (v := ?_) (a' := ?_) zh49 rfl rfl (any_of HT_.out (by kernel_rfl)) (fun _ _ _ h => h) (Or.inl ⟨by rfl,?_⟩) ?_ ?_
            rotate_left
            ·intro w'
             go_simp
             with_reducible rfl
            rotate_left
            ·simp only [Act.put,zhI,zhs0,zhs1,i64_w,i32_w]
             rfl
            refine take_ (i := 11) (N := some 48) (v := ?_) (a' := ?_) zh13 rfl rfl (take_ofW HT_.out HW_.out (by kernel_rfl)) (fun _ _ _ h => h) (Or.inl ⟨by rfl,?_⟩) hHeld ?_ ?_
            rotate_left
            ·rintro w' ⟨s0,s1,s2,s3,s4,s5,s6⟩
             go_simp
             with_reducible rfl
            rotate_left
            ·simp only [Act.put,zhI,zhs0,zhs1,i64_w,i32_w]
             rfl
            refine take_ (i := 13) (N := some 50) (v := ?_) (a' := ?_) zh14 rfl rfl (take_ofW HT_.out HW_.out (by kernel_rfl)) (fun _ _ _ h => h) (Or.inl ⟨by rfl,?_⟩) hHeld ?_ ?_
            rotate_left
            ·rintro w' ⟨s0,s1,s2,s3,s4,s5,s6⟩
             go_simp
             with_reducible rfl
            rotate_left
            ·simp only [Act.put,zhI,zhs0,zhs1,i64_w,i32_w]
             rfl
            refine pure_ (i := 14) (N := some 51) (v := ?_) (a' := ?_) zh15 rfl rfl (any_of HT_.out (by kernel_rfl)) (fun _ _ _ h => h) (Or.inl ⟨by rfl,?_⟩) ?_ ?_
            rotate_left
            ·intro w'
             go_simp
             with_reducible rfl
            rotate_left
            ·simp only [Act.put,zhI,zhs0,zhs1,i64_w,i32_w]
             rfl
            refine pure_ (i := 15) (N := some 52) (v := ?_) (a' := ?_) zh16 rfl rfl (any_of HT_.out (by kernel_rfl)) (fun _ _ _ h => h) (Or.inl ⟨by rfl,?_⟩) ?_ ?_
            rotate_left
            ·intro w'
             go_simp
             with_reducible rfl
            rotate_left
            ·simp only [Act.put,zhI,zhs0,zhs1,i64_w,i32_w]
             rfl
            refine pure_ (i := 16) (N := some 53) (v := ?_) (a' := ?_) zh17 rfl rfl (any_of HT_.out (by kernel_rfl)) (fun _ _ _ h => h) (Or.inl ⟨by rfl,?_⟩) ?_ ?_
            rotate_left
            ·intro w'
             go_simp
             with_reducible rfl
            rotate_left
            ·simp only [Act.put,zhI,zhs0,zhs1,i64_w,i32_w]
             rfl
            refine pure_ (i := 18) (N := some 55) (v := ?_) (a' := ?_) zh50 rfl rfl (any_of HT_.out (by kernel_rfl)) (fun _ _ _ h => h) (Or.inl ⟨by rfl,?_⟩) ?_ ?_
            rotate_left
            ·intro w'
             go_simp
             with_reducible rfl
            rotate_left
            ·simp only [Act.put,zhI,zhs0,zhs1,i64_w,i32_w]
             rfl
            refine pure_ (i := 20) (N := some 57) (v := ?_) (a' := ?_) zh51 rfl rfl (any_of HT_.out (by kernel_rfl)) (fun _ _ _ h => h) (Or.inl ⟨by rfl,?_⟩) ?_ ?_
            rotate_left
            ·intro w'
             go_simp
             with_reducible rfl
            rotate_left
            ·simp only [Act.put,zhI,zhs0,zhs1,i64_w,i32_w]
             rfl
            refine pure_ (i := 24) (N := some 61) (v := ?_) (a' := ?_) zh52 rfl rfl (any_of HT_.out (by kernel_rfl)) (fun _ _ _ h => h) (Or.inl ⟨by rfl,?_⟩) ?_ ?_
            rotate_left
            ·intro w'
             go_simp
             with_reducible rfl
            rotate_left
            ·simp only [Act.put,zhI,zhs0,zhs1,i64_w,i32_w]
             rfl
            refine take_ (i := 17) (N := some 54) (v := ?_) (a' := ?_) zh53 rfl rfl (take_ofW HT_.out HW_.out (by kernel_rfl)) (fun _ _ _ h => h) (Or.inl ⟨by rfl,?_⟩) hHeld ?_ ?_
            rotate_left
            ·rintro w' ⟨s0,s1,s2,s3,s4,s5,s6⟩
             go_simp
             with_reducible rfl
            rotate_left
            ·simp only [Act.put,zhI,zhs0,zhs1,i64_w,i32_w]
             rfl
            refine take_ (i := 19) (N := some 56) (v := ?_) (a' := ?_) zh54 rfl rfl (take_ofW HT_.out HW_.out (by kernel_rfl)) (fun _ _ _ h => h) (Or.inl ⟨by rfl,?_⟩) hHeld ?_ ?_
            rotate_left
            ·rintro w' ⟨s0,s1,s2,s3,s4,s5,s6⟩
             go_simp
             with_reducible rfl
            rotate_left
            ·simp only [Act.put,zhI,zhs0,zhs1,i64_w,i32_w]
             rfl
            refine pure_ (i := 21) (N := some 58) (v := ?_) (a' := ?_) zh55 rfl rfl (any_of HT_.out (by kernel_rfl)) (fun _ _ _ h => h) (Or.inl ⟨by rfl,?_⟩) ?_ ?_
            rotate_left
            ·intro w'
             go_simp
             with_reducible rfl
            rotate_left
            ·simp only [Act.put,zhI,zhs0,zhs1,i64_w,i32_w]
             rfl
            refine take_ (i := 22) (N := some 59) (v := ?_) (a' := ?_) zh56 rfl rfl (take_ofW HT_.out HW_.out (by kernel_rfl)) (fun _ _ _ h => h) (Or.inl ⟨by rfl,?_⟩) hHeld ?_ ?_
            rotate_left
            ·rintro w' ⟨s0,s1,s2,s3,s4,s5,s6⟩
             go_simp
             with_reducible rfl
            rotate_left
            ·simp only [Act.put,zhI,zhs0,zhs1,i64_w,i32_w]
             rfl
            refine one_ (i := 23) (N := some 60) zh25 rfl rfl (one_of HT_.out (by kernel_rfl)) (by decide) (fun K hK => ?_)
            refine goes_ Try.func35 (by kernel_rfl) rfl #[.agg #[.int .i64 g,.int .i64 s,.slice (some ad) o.length co,.slice (some al) l.length cl,.slice Af f.length cf],.int .i64 z] (by rfl) rfl rfl (by simp only [List.map_toArray,List.map_cons,List.map_nil]; rfl) ?_
            with_reducible refine (In_calls 1001 g s _ _ o _ _ l _ _ f z _ (TC_below HT.out HBr.out) _ HIN.out).mono ?_
            rintro e_ wc ⟨rfl,hb⟩
            refine ⟨_,rfl,?_⟩
            replace HXr := mB HXr hb
            replace HBr := mS HBr hb
            replace HBR := mS HBR hb
            clear hb
            refine hK.out _ _ ⟨(cL HXr 0 rfl),(cL HXr 1 rfl),(cL HXr 2 rfl),(cL HXr 3 rfl),(cL HXr 4 rfl),(pw_cell_below HBr.out HZC.out),(pw_cell_below HBr.out HYC.out)⟩ (fun hHeld => ?_)
            clear hK K
            refine norm_ (a' := ?_) ?_ ?_
            rotate_left
            ·show Act.put _ (some 60) _ = _
             simp only [Act.put,zhI,zhs0,zhs1,i64_w,i32_w]
             rfl
            refine pure_ (i := 25) (N := some 62) (v := ?_) (a' := ?_) zh26 rfl rfl (any_of HT_.out (by kernel_rfl)) (fun _ _ _ h => h) (Or.inl ⟨by rfl,?_⟩) ?_ ?_
            rotate_left
            ·intro w'
             go_simp
             with_reducible rfl
            rotate_left
            ·simp only [Act.put,zhI,zhs0,zhs1,i64_w,i32_w]
             rfl
            refine pure_ (i := 26) (N := some 63) (v := ?_) (a' := ?_) zh27 rfl rfl (any_of HT_.out (by kernel_rfl)) (fun _ _ _ h => h) (Or.inl ⟨by rfl,?_⟩) ?_ ?_
            rotate_left
            ·intro w'
             go_simp
             with_reducible rfl
            rotate_left
            ·simp only [Act.put,zhI,zhs0,zhs1,i64_w,i32_w]
             rfl
            refine pure_ (i := 27) (N := some 64) (v := ?_) (a' := ?_) zh28 rfl rfl (any_of HT_.out (by kernel_rfl)) (fun _ _ _ h => h) (Or.inl ⟨by rfl,?_⟩) ?_ ?_
            rotate_left
            ·intro w'
             go_simp
             with_reducible rfl
            rotate_left
            ·simp only [Act.put,zhI,zhs0,zhs1,i64_w,i32_w]
             rfl
            refine pure_ (i := 28) (N := some 65) (v := ?_) (a' := ?_) zh29 rfl rfl (any_of HT_.out (by kernel_rfl)) (fun _ _ _ h => h) (Or.inl ⟨by rfl,?_⟩) ?_ ?_
            rotate_left
            ·intro w'
             go_simp
             with_reducible rfl
            rotate_left
            ·simp only [Act.put,zhI,zhs0,zhs1,i64_w,i32_w]
             rfl
            refine pure_ (i := 30) (N := some 67) (v := ?_) (a' := ?_) zh57 rfl rfl (any_of HT_.out (by kernel_rfl)) (fun _ _ _ h => h) (Or.inl ⟨by rfl,?_⟩) ?_ ?_
            rotate_left
            ·intro w'
             go_simp
             with_reducible rfl
            rotate_left
            ·simp only [Act.put,zhI,zhs0,zhs1,i64_w,i32_w]
             rfl
            refine take_ (i := 29) (N := some 66) (v := ?_) (a' := ?_) zh31 rfl rfl (take_ofW HT_.out HW_.out (by kernel_rfl)) (fun _ _ _ h => h) (Or.inl ⟨by rfl,?_⟩) hHeld ?_ ?_
            rotate_left
            ·rintro w' ⟨s0,s1,s2,s3,s4,s5,s6⟩
             go_simp
             with_reducible rfl
            rotate_left
            ·simp only [Act.put,zhI,zhs0,zhs1,i64_w,i32_w]
             rfl
            refine pure_ (i := 31) (N := some 68) (v := ?_) (a' := ?_) zh32 rfl rfl (any_of HT_.out (by kernel_rfl)) (fun _ _ _ h => h) (Or.inl ⟨by rfl,?_⟩) ?_ ?_
            rotate_left
            ·intro w'
             go_simp
             with_reducible rfl
            rotate_left
            ·simp only [Act.put,zhI,zhs0,zhs1,i64_w,i32_w]
             rfl
            refine take_ (i := 32) (N := some 69) (v := ?_) (a' := ?_) zh33 rfl rfl (take_ofW HT_.out HW_.out (by kernel_rfl)) (fun _ _ _ h => h) (Or.inl ⟨by rfl,?_⟩) hHeld ?_ ?_
            rotate_left
            ·rintro w' ⟨s0,s1,s2,s3,s4,s5,s6⟩
             go_simp
             with_reducible rfl
            rotate_left
            ·simp only [Act.put,zhI,zhs0,zhs1,i64_w,i32_w]
             rfl
            refine pure_ (i := 33) (N := some 70) (v := ?_) (a' := ?_) zh34 rfl rfl (any_of HT_.out (by kernel_rfl)) (fun _ _ _ h => h) (Or.inl ⟨by rfl,?_⟩) ?_ ?_
            rotate_left
            ·intro w'
             go_simp
             with_reducible rfl
            rotate_left
            ·simp only [Act.put,zhI,zhs0,zhs1,i64_w,i32_w]
             rfl
            refine pure_ (i := 34) (N := some 71) (v := ?_) (a' := ?_) zh35 rfl rfl (any_of HT_.out (by kernel_rfl)) (fun _ _ _ h => h) (Or.inl ⟨by rfl,?_⟩) ?_ ?_
            rotate_left
            ·intro w'
             go_simp
             with_reducible rfl
            rotate_left
            ·simp only [Act.put,zhI,zhs0,zhs1,i64_w,i32_w]
             rfl
            refine pure_ (i := 35) (N := some 72) (v := ?_) (a' := ?_) zh36 rfl rfl (any_of HT_.out (by kernel_rfl)) (fun _ _ _ h => h) (Or.inl ⟨by rfl,?_⟩) ?_ ?_
            rotate_left
            ·intro w'
             go_simp
             with_reducible rfl
            rotate_left
            ·simp only [Act.put,zhI,zhs0,zhs1,i64_w,i32_w]
             rfl
            refine pure_ (i := 36) (N := some 73) (v := ?_) (a' := ?_) zh37 rfl rfl (any_of HT_.out (by kernel_rfl)) (fun _ _ _ h => h) (Or.inl ⟨by rfl,?_⟩) ?_ ?_
            rotate_left
            ·intro w'
             go_simp
             with_reducible rfl
            rotate_left
            ·simp only [Act.put,zhI,zhs0,zhs1,i64_w,i32_w]
             rfl
            refine pure_ (i := 38) (N := some 75) (v := ?_) (a' := ?_) zh58 rfl rfl (any_of HT_.out (by kernel_rfl)) (fun _ _ _ h => h) (Or.inl ⟨by rfl,?_⟩) ?_ ?_
            rotate_left
            ·intro w'
             go_simp
             with_reducible rfl
            rotate_left
            ·simp only [Act.put,zhI,zhs0,zhs1,i64_w,i32_w]
             rfl
            refine pure_ (i := 41) (N := some 78) (v := ?_) (a' := ?_) zh59 rfl rfl (any_of HT_.out (by kernel_rfl)) (fun _ _ _ h => h) (Or.inl ⟨by rfl,?_⟩) ?_ ?_
            rotate_left
            ·intro w'
             go_simp
             with_reducible rfl
            rotate_left
            ·simp only [Act.put,zhI,zhs0,zhs1,i64_w,i32_w]
             rfl
            refine take_ (i := 37) (N := some 74) (v := ?_) (a' := ?_) zh60 rfl rfl (take_ofW HT_.out HW_.out (by kernel_rfl)) (fun _ _ _ h => h) (Or.inl ⟨by rfl,?_⟩) hHeld ?_ ?_
            rotate_left
            ·rintro w' ⟨s0,s1,s2,s3,s4,s5,s6⟩
             go_simp
             with_reducible rfl
            rotate_left
            ·simp only [Act.put,zhI,zhs0,zhs1,i64_w,i32_w]
             rfl
            refine pure_ (i := 39) (N := some 76) (v := ?_) (a' := ?_) zh61 rfl rfl (any_of HT_.out (by kernel_rfl)) (fun _ _ _ h => h) (Or.inl ⟨by rfl,?_⟩) ?_ ?_
            rotate_left
            ·intro w'
             go_simp
             with_reducible rfl
            rotate_left
            ·simp only [Act.put,zhI,zhs0,zhs1,i64_w,i32_w]
             rfl
            refine take_ (i := 40) (N := some 77) (v := ?_) (a' := ?_) zh42 rfl rfl (take_ofW HT_.out HW_.out (by kernel_rfl)) (fun _ _ _ h => h) (Or.inl ⟨by rfl,?_⟩) hHeld ?_ ?_
            rotate_left
            ·rintro w' ⟨s0,s1,s2,s3,s4,s5,s6⟩
             go_simp
             with_reducible rfl
            rotate_left
            ·simp only [Act.put,zhI,zhs0,zhs1,i64_w,i32_w]
             rfl
            refine take_ (i := 42) (N := some 79) (v := ?_) (a' := ?_) zh43 rfl rfl (take_ofW HT_.out HW_.out (by kernel_rfl)) (fun _ _ _ h => h) (Or.inl ⟨by rfl,?_⟩) hHeld ?_ ?_
            rotate_left
            ·rintro w' ⟨s0,s1,s2,s3,s4,s5,s6⟩
             go_simp
             with_reducible rfl
            rotate_left
            ·simp only [Act.put,zhI,zhs0,zhs1,i64_w,i32_w]
             rfl
            refine pure_ (i := 43) (N := some 80) (v := ?_) (a' := ?_) zh44 rfl rfl (any_of HT_.out (by kernel_rfl)) (fun _ _ _ h => h) (Or.inl ⟨by rfl,?_⟩) ?_ ?_
            rotate_left
            ·intro w'
             go_simp
             with_reducible rfl
            rotate_left
            ·simp only [Act.put,zhI,zhs0,zhs1,i64_w,i32_w]
             rfl
            refine pure_ (i := 44) (N := some 81) (v := ?_) (a' := ?_) zh45 rfl rfl (any_of HT_.out (by kernel_rfl)) (fun _ _ _ h => h) (Or.inl ⟨by rfl,?_⟩) ?_ ?_
            rotate_left
            ·intro w'
             go_simp
             with_reducible rfl
            rotate_left
            ·simp only [Act.put,zhI,zhs0,zhs1,i64_w,i32_w]
             rfl
            refine done_ (done_of HT_.out (by kernel_rfl)) ?_
            clear HT_ HW_ hHeld
            clear t1 t2 t3 t4 t5 h1 h2 h3 h4 h5
            go_wp2_with fail
            go_roundw
            case rel => exact ⟨i + 1,by go_num,⟨HII.out⟩,⟨fun j hj => by rcases Nat.lt_succ_iff_lt_or_eq.1 hj with h | h; exact HU.out j h; exact h ▸ HOK.out⟩,HBR⟩
            case measure => have := HII.out; simp [intOf]; omega
         ·have t3 : (pl o z != (i : Int)) = true := bne_iff_ne.2 h3
          refine start_ (n := 45) (S := fun w' => w'.cell? ⟨gs,0,none⟩ = some (.int .i64 g) ∧ w'.cell? ⟨gs,1,none⟩ = some (.int .i64 s) ∧ w'.cell? ⟨gs,2,none⟩ = some (.slice (some ad) o.length co) ∧ w'.cell? ⟨gs,3,none⟩ = some (.slice (some al) l.length cl) ∧ w'.cell? ⟨gs,4,none⟩ = some (.slice Af f.length cf) ∧ w'.cell? (ad.add i) = some (.int .i64 z) ∧ w'.cell? (al.add i) = some (.int .i64 y)) (ds := []) zh0 (by kernel_rfl) rfl rfl ⟨((blk_cell (blk_drew HXr.out) 0).trans rfl),((blk_cell (blk_drew HXr.out) 1).trans rfl),((blk_cell (blk_drew HXr.out) 2).trans rfl),((blk_cell (blk_drew HXr.out) 3).trans rfl),((blk_cell (blk_drew HXr.out) 4).trans rfl),(pw_cell_below (below_drew HBr.out) HZC.out),(pw_cell_below (below_drew HBr.out) HYC.out)⟩ (fun hHeld => ?_)
          refine with_tabW rright.tab7 rright.bits7 (fun HT_ HW_ => ?_)
          replace HXr := Aside0.mk (blk_drew HXr.out)
          replace HBr := Aside0.mk (below_drew HBr.out)
          replace HBR := Aside0.mk (below_drew HBR.out)
          generalize wr.drew = wd at *
          refine pure_ (i := 0) (N := some 37) (v := ?_) (a' := ?_) zh1 rfl rfl (any_of HT_.out (by kernel_rfl)) (fun _ _ _ h => h) (Or.inl ⟨by rfl,?_⟩) ?_ ?_
          rotate_left
          ·intro w'
           go_simp
           with_reducible rfl
          rotate_left
          ·simp only [Act.put,zhI,zhs0,zhs1,i64_w,i32_w]
           rfl
          refine pure_ (i := 2) (N := some 39) (v := ?_) (a' := ?_) zh2 rfl rfl (any_of HT_.out (by kernel_rfl)) (fun _ _ _ h => h) (Or.inl ⟨by rfl,?_⟩) ?_ ?_
          rotate_left
          ·intro w'
           go_simp
           with_reducible rfl
          rotate_left
          ·simp only [Act.put,zhI,zhs0,zhs1,i64_w,i32_w]
           rfl
          refine take_ (i := 1) (N := some 38) (v := ?_) (a' := ?_) zh3 rfl rfl (take_ofW HT_.out HW_.out (by kernel_rfl)) (fun _ _ _ h => h) (Or.inl ⟨by rfl,?_⟩) hHeld ?_ ?_
          rotate_left
          ·rintro w' ⟨s0,s1,s2,s3,s4,s5,s6⟩
           go_simp
           with_reducible rfl
          rotate_left
          ·simp only [Act.put,zhI,zhs0,zhs1,i64_w,i32_w]
           rfl
          refine pure_ (i := 3) (N := some 40) (v := ?_) (a' := ?_) zh4 rfl rfl (any_of HT_.out (by kernel_rfl)) (fun _ _ _ h => h) (Or.inl ⟨by rfl,?_⟩) ?_ ?_
          rotate_left
          ·intro w'
           go_simp
           with_reducible rfl
          rotate_left
          ·simp only [Act.put,zhI,zhs0,zhs1,i64_w,i32_w]
           rfl
          refine take_ (i := 4) (N := some 41) (v := ?_) (a' := ?_) zh5 rfl rfl (take_ofW HT_.out HW_.out (by kernel_rfl)) (fun _ _ _ h => h) (Or.inl ⟨by rfl,?_⟩) hHeld ?_ ?_
          rotate_left
          ·rintro w' ⟨s0,s1,s2,s3,s4,s5,s6⟩
           go_simp
           with_reducible rfl
          rotate_left
          ·simp only [Act.put,zhI,zhs0,zhs1,i64_w,i32_w]
           rfl
          refine pure_ (i := 5) (N := some 42) (v := ?_) (a' := ?_) zh6 rfl rfl (any_of HT_.out (by kernel_rfl)) (fun _ _ _ h => h) (Or.inl ⟨by rfl,?_⟩) ?_ ?_
          rotate_left
          ·intro w'
           go_simp
           with_reducible rfl
          rotate_left
          ·simp only [Act.put,zhI,zhs0,zhs1,i64_w,i32_w]
           rfl
          refine pure_ (i := 6) (N := some 43) (v := ?_) (a' := ?_) zh7 rfl rfl (any_of HT_.out (by kernel_rfl)) (fun _ _ _ h => h) (Or.inl ⟨by rfl,?_⟩) ?_ ?_
          rotate_left
          ·intro w'
           go_simp
           with_reducible rfl
          rotate_left
          ·simp only [Act.put,zhI,zhs0,zhs1,i64_w,i32_w]
           rfl
          refine pure_ (i := 7) (N := some 44) (v := ?_) (a' := ?_) zh8 rfl rfl (any_of HT_.out (by kernel_rfl)) (fun _ _ _ h => h) (Or.inl ⟨by rfl,?_⟩) ?_ ?_
          rotate_left
          ·intro w'
           go_simp
           with_reducible rfl
          rotate_left
          ·simp only [Act.put,zhI,zhs0,zhs1,i64_w,i32_w]
           rfl
          refine pure_ (i := 9) (N := some 46) (v := ?_) (a' := ?_) zh46 rfl rfl (any_of HT_.out (by kernel_rfl)) (fun _ _ _ h => h) (Or.inl ⟨by rfl,?_⟩) ?_ ?_
          rotate_left
          ·intro w'
           go_simp
           with_reducible rfl
          rotate_left
          ·simp only [Act.put,zhI,zhs0,zhs1,i64_w,i32_w]
           rfl
          refine pure_ (i := 12) (N := some 49) (v := ?_) (a' := ?_) zh47 rfl rfl (any_of HT_.out (by kernel_rfl)) (fun _ _ _ h => h) (Or.inl ⟨by rfl,?_⟩) ?_ ?_
          rotate_left
          ·intro w'
           go_simp
           with_reducible rfl
          rotate_left
          ·simp only [Act.put,zhI,zhs0,zhs1,i64_w,i32_w]
           rfl
          refine take_ (i := 8) (N := some 45) (v := ?_) (a' := ?_) zh48 rfl rfl (take_ofW HT_.out HW_.out (by kernel_rfl)) (fun _ _ _ h => h) (Or.inl ⟨by rfl,?_⟩) hHeld ?_ ?_
          rotate_left
          ·rintro w' ⟨s0,s1,s2,s3,s4,s5,s6⟩
           go_simp
           with_reducible rfl
          rotate_left
          ·simp only [Act.put,zhI,zhs0,zhs1,i64_w,i32_w]
           rfl
          refine pure_ (i := 10) (N := some 47) (v := ?_) (a' := ?_) zh49 rfl rfl (any_of HT_.out (by kernel_rfl)) (fun _ _ _ h => h) (Or.inl ⟨by rfl,?_⟩) ?_ ?_
          rotate_left
          ·intro w'
           go_simp
           with_reducible rfl
          rotate_left
          ·simp only [Act.put,zhI,zhs0,zhs1,i64_w,i32_w]
           rfl
          refine take_ (i := 11) (N := some 48) (v := ?_) (a' := ?_) zh13 rfl rfl (take_ofW HT_.out HW_.out (by kernel_rfl)) (fun _ _ _ h => h) (Or.inl ⟨by rfl,?_⟩) hHeld ?_ ?_
          rotate_left
          ·rintro w' ⟨s0,s1,s2,s3,s4,s5,s6⟩
           go_simp
           with_reducible rfl
          rotate_left
          ·simp only [Act.put,zhI,zhs0,zhs1,i64_w,i32_w]
           rfl
          refine take_ (i := 13) (N := some 50) (v := ?_) (a' := ?_) zh14 rfl rfl (take_ofW HT_.out HW_.out (by kernel_rfl)) (fun _ _ _ h => h) (Or.inl ⟨by rfl,?_⟩) hHeld ?_ ?_
          rotate_left
          ·rintro w' ⟨s0,s1,s2,s3,s4,s5,s6⟩
           go_simp
           with_reducible rfl
          rotate_left
          ·simp only [Act.put,zhI,zhs0,zhs1,i64_w,i32_w]
           rfl
          refine pure_ (i := 14) (N := some 51) (v := ?_) (a' := ?_) zh15 rfl rfl (any_of HT_.out (by kernel_rfl)) (fun _ _ _ h => h) (Or.inl ⟨by rfl,?_⟩) ?_ ?_
          rotate_left
          ·intro w'
           go_simp
           with_reducible rfl
          rotate_left
          ·simp only [Act.put,zhI,zhs0,zhs1,i64_w,i32_w]
           rfl
          refine pure_ (i := 15) (N := some 52) (v := ?_) (a' := ?_) zh16 rfl rfl (any_of HT_.out (by kernel_rfl)) (fun _ _ _ h => h) (Or.inl ⟨by rfl,?_⟩) ?_ ?_
          rotate_left
          ·intro w'
           go_simp
           with_reducible rfl
          rotate_left
          ·simp only [Act.put,zhI,zhs0,zhs1,i64_w,i32_w]
           rfl
          refine pure_ (i := 16) (N := some 53) (v := ?_) (a' := ?_) zh17 rfl rfl (any_of HT_.out (by kernel_rfl)) (fun _ _ _ h => h) (Or.inl ⟨by rfl,?_⟩) ?_ ?_
          rotate_left
          ·intro w'
           go_simp
           with_reducible rfl
          rotate_left
          ·simp only [Act.put,zhI,zhs0,zhs1,i64_w,i32_w]
           rfl
          refine pure_ (i := 18) (N := some 55) (v := ?_) (a' := ?_) zh50 rfl rfl (any_of HT_.out (by kernel_rfl)) (fun _ _ _ h => h) (Or.inl ⟨by rfl,?_⟩) ?_ ?_
          rotate_left
          ·intro w'
           go_simp
           with_reducible rfl
          rotate_left
          ·simp only [Act.put,zhI,zhs0,zhs1,i64_w,i32_w]
           rfl
          refine pure_ (i := 20) (N := some 57) (v := ?_) (a' := ?_) zh51 rfl rfl (any_of HT_.out (by kernel_rfl)) (fun _ _ _ h => h) (Or.inl ⟨by rfl,?_⟩) ?_ ?_
          rotate_left
          ·intro w'
           go_simp
           with_reducible rfl
          rotate_left
          ·simp only [Act.put,zhI,zhs0,zhs1,i64_w,i32_w]
           rfl
          refine pure_ (i := 24) (N := some 61) (v := ?_) (a' := ?_) zh52 rfl rfl (any_of HT_.out (by kernel_rfl)) (fun _ _ _ h => h) (Or.inl ⟨by rfl,?_⟩) ?_ ?_
          rotate_left
          ·intro w'
           go_simp
           with_reducible rfl
          rotate_left
          ·simp only [Act.put,zhI,zhs0,zhs1,i64_w,i32_w]
           rfl
          refine take_ (i := 17) (N := some 54) (v := ?_) (a' := ?_) zh53 rfl rfl (take_ofW HT_.out HW_.out (by kernel_rfl)) (fun _ _ _ h => h) (Or.inl ⟨by rfl,?_⟩) hHeld ?_ ?_
          rotate_left
          ·rintro w' ⟨s0,s1,s2,s3,s4,s5,s6⟩
           go_simp
           with_reducible rfl
          rotate_left
          ·simp only [Act.put,zhI,zhs0,zhs1,i64_w,i32_w]
           rfl
          refine take_ (i := 19) (N := some 56) (v := ?_) (a' := ?_) zh54 rfl rfl (take_ofW HT_.out HW_.out (by kernel_rfl)) (fun _ _ _ h => h) (Or.inl ⟨by rfl,?_⟩) hHeld ?_ ?_
          rotate_left
          ·rintro w' ⟨s0,s1,s2,s3,s4,s5,s6⟩
           go_simp
           with_reducible rfl
          rotate_left
          ·simp only [Act.put,zhI,zhs0,zhs1,i64_w,i32_w]
           rfl
          refine pure_ (i := 21) (N := some 58) (v := ?_) (a' := ?_) zh55 rfl rfl (any_of HT_.out (by kernel_rfl)) (fun _ _ _ h => h) (Or.inl ⟨by rfl,?_⟩) ?_ ?_
          rotate_left
          ·intro w'
           go_simp
           with_reducible rfl
          rotate_left
          ·simp only [Act.put,zhI,zhs0,zhs1,i64_w,i32_w]
           rfl
          refine take_ (i := 22) (N := some 59) (v := ?_) (a' := ?_) zh56 rfl rfl (take_ofW HT_.out HW_.out (by kernel_rfl)) (fun _ _ _ h => h) (Or.inl ⟨by rfl,?_⟩) hHeld ?_ ?_
          rotate_left
          ·rintro w' ⟨s0,s1,s2,s3,s4,s5,s6⟩
           go_simp
           with_reducible rfl
          rotate_left
          ·simp only [Act.put,zhI,zhs0,zhs1,i64_w,i32_w]
           rfl
          refine one_ (i := 23) (N := some 60) zh25 rfl rfl (one_of HT_.out (by kernel_rfl)) (by decide) (fun K hK => ?_)
          refine goes_ Try.func35 (by kernel_rfl) rfl #[.agg #[.int .i64 g,.int .i64 s,.slice (some ad) o.length co,.slice (some al) l.length cl,.slice Af f.length cf],.int .i64 z] (by rfl) rfl rfl (by simp only [List.map_toArray,List.map_cons,List.map_nil]; rfl) ?_
          with_reducible refine (In_calls 1001 g s _ _ o _ _ l _ _ f z _ (TC_below HT.out HBr.out) _ HIN.out).mono ?_
          rintro e_ wc ⟨rfl,hb⟩
          refine ⟨_,rfl,?_⟩
          replace HXr := mB HXr hb
          replace HBr := mS HBr hb
          replace HBR := mS HBR hb
          clear hb
          refine hK.out _ _ ⟨(cL HXr 0 rfl),(cL HXr 1 rfl),(cL HXr 2 rfl),(cL HXr 3 rfl),(cL HXr 4 rfl),(pw_cell_below HBr.out HZC.out),(pw_cell_below HBr.out HYC.out)⟩ (fun hHeld => ?_)
          clear hK K
          refine norm_ (a' := ?_) ?_ ?_
          rotate_left
          ·show Act.put _ (some 60) _ = _
           simp only [Act.put,zhI,zhs0,zhs1,i64_w,i32_w]
           rfl
          refine pure_ (i := 25) (N := some 62) (v := ?_) (a' := ?_) zh26 rfl rfl (any_of HT_.out (by kernel_rfl)) (fun _ _ _ h => h) (Or.inl ⟨by rfl,?_⟩) ?_ ?_
          rotate_left
          ·intro w'
           go_simp
           with_reducible rfl
          rotate_left
          ·simp only [Act.put,zhI,zhs0,zhs1,i64_w,i32_w]
           rfl
          refine pure_ (i := 26) (N := some 63) (v := ?_) (a' := ?_) zh27 rfl rfl (any_of HT_.out (by kernel_rfl)) (fun _ _ _ h => h) (Or.inl ⟨by rfl,?_⟩) ?_ ?_
          rotate_left
          ·intro w'
           go_simp
           with_reducible rfl
          rotate_left
          ·simp only [Act.put,zhI,zhs0,zhs1,i64_w,i32_w]
           rfl
          refine pure_ (i := 27) (N := some 64) (v := ?_) (a' := ?_) zh28 rfl rfl (any_of HT_.out (by kernel_rfl)) (fun _ _ _ h => h) (Or.inl ⟨by rfl,?_⟩) ?_ ?_
          rotate_left
          ·intro w'
           go_simp
           with_reducible rfl
          rotate_left
          ·simp only [Act.put,zhI,zhs0,zhs1,i64_w,i32_w]
           rfl
          refine pure_ (i := 28) (N := some 65) (v := undef) (a' := ?_) zh29 rfl rfl (any_of HT_.out (by kernel_rfl)) (fun _ _ _ h => h) (Or.inr ⟨by rfl,rfl⟩) ?_ ?_
          rotate_left
          ·simp only [Act.put,zhI,zhs0,zhs1,i64_w,i32_w]
           rfl
          refine pure_ (i := 29) (N := some 66) (v := undef) (a' := ?_) zh30 rfl rfl (any_of HT_.out (by kernel_rfl)) (fun _ _ _ h => h) (Or.inr ⟨by rfl,rfl⟩) ?_ ?_
          rotate_left
          ·simp only [Act.put,zhI,zhs0,zhs1,i64_w,i32_w]
           rfl
          refine pure_ (i := 30) (N := some 67) (v := undef) (a' := ?_) zh31 rfl rfl (any_of HT_.out (by kernel_rfl)) (fun _ _ _ h => h) (Or.inr ⟨by rfl,rfl⟩) ?_ ?_
          rotate_left
          ·simp only [Act.put,zhI,zhs0,zhs1,i64_w,i32_w]
           rfl
          refine pure_ (i := 31) (N := some 68) (v := undef) (a' := ?_) zh32 rfl rfl (any_of HT_.out (by kernel_rfl)) (fun _ _ _ h => h) (Or.inr ⟨by rfl,rfl⟩) ?_ ?_
          rotate_left
          ·simp only [Act.put,zhI,zhs0,zhs1,i64_w,i32_w]
           rfl
          refine pure_ (i := 32) (N := some 69) (v := undef) (a' := ?_) zh33 rfl rfl (any_of HT_.out (by kernel_rfl)) (fun _ _ _ h => h) (Or.inr ⟨by rfl,rfl⟩) ?_ ?_
          rotate_left
          ·simp only [Act.put,zhI,zhs0,zhs1,i64_w,i32_w]
           rfl
          refine pure_ (i := 33) (N := some 70) (v := undef) (a' := ?_) zh34 rfl rfl (any_of HT_.out (by kernel_rfl)) (fun _ _ _ h => h) (Or.inr ⟨by rfl,rfl⟩) ?_ ?_
          rotate_left
          ·simp only [Act.put,zhI,zhs0,zhs1,i64_w,i32_w]
           rfl
          refine pure_ (i := 34) (N := some 71) (v := ?_) (a' := ?_) zh35 rfl rfl (any_of HT_.out (by kernel_rfl)) (fun _ _ _ h => h) (Or.inl ⟨by rfl,?_⟩) ?_ ?_
          rotate_left
          ·intro w'
           go_simp
           with_reducible rfl
          rotate_left
          ·simp only [Act.put,zhI,zhs0,zhs1,i64_w,i32_w]
           rfl
          refine pure_ (i := 35) (N := some 72) (v := ?_) (a' := ?_) zh36 rfl rfl (any_of HT_.out (by kernel_rfl)) (fun _ _ _ h => h) (Or.inl ⟨by rfl,?_⟩) ?_ ?_
          rotate_left
          ·intro w'
           go_simp
           with_reducible rfl
          rotate_left
          ·simp only [Act.put,zhI,zhs0,zhs1,i64_w,i32_w]
           rfl
          refine pure_ (i := 36) (N := some 73) (v := undef) (a' := ?_) zh37 rfl rfl (any_of HT_.out (by kernel_rfl)) (fun _ _ _ h => h) (Or.inr ⟨by rfl,rfl⟩) ?_ ?_
          rotate_left
          ·simp only [Act.put,zhI,zhs0,zhs1,i64_w,i32_w]
           rfl
          refine pure_ (i := 37) (N := some 74) (v := undef) (a' := ?_) zh38 rfl rfl (any_of HT_.out (by kernel_rfl)) (fun _ _ _ h => h) (Or.inr ⟨by rfl,rfl⟩) ?_ ?_
          rotate_left
          ·simp only [Act.put,zhI,zhs0,zhs1,i64_w,i32_w]
           rfl
          refine pure_ (i := 38) (N := some 75) (v := undef) (a' := ?_) zh39 rfl rfl (any_of HT_.out (by kernel_rfl)) (fun _ _ _ h => h) (Or.inr ⟨by rfl,rfl⟩) ?_ ?_
          rotate_left
          ·simp only [Act.put,zhI,zhs0,zhs1,i64_w,i32_w]
           rfl
          refine pure_ (i := 39) (N := some 76) (v := undef) (a' := ?_) zh40 rfl rfl (any_of HT_.out (by kernel_rfl)) (fun _ _ _ h => h) (Or.inr ⟨by rfl,rfl⟩) ?_ ?_
          rotate_left
          ·simp only [Act.put,zhI,zhs0,zhs1,i64_w,i32_w]
           rfl
          refine pure_ (i := 40) (N := some 77) (v := undef) (a' := ?_) zh41 rfl rfl (any_of HT_.out (by kernel_rfl)) (fun _ _ _ h => h) (Or.inr ⟨by rfl,rfl⟩) ?_ ?_
          rotate_left
          ·simp only [Act.put,zhI,zhs0,zhs1,i64_w,i32_w]
           rfl
          refine pure_ (i := 41) (N := some 78) (v := undef) (a' := ?_) zh42 rfl rfl (any_of HT_.out (by kernel_rfl)) (fun _ _ _ h => h) (Or.inr ⟨by rfl,rfl⟩) ?_ ?_
          rotate_left
          ·simp only [Act.put,zhI,zhs0,zhs1,i64_w,i32_w]
           rfl
          refine pure_ (i := 42) (N := some 79) (v := undef) (a' := ?_) zh43 rfl rfl (any_of HT_.out (by kernel_rfl)) (fun _ _ _ h => h) (Or.inr ⟨by rfl,rfl⟩) ?_ ?_
          rotate_left
          ·simp only [Act.put,zhI,zhs0,zhs1,i64_w,i32_w]
           rfl
          refine pure_ (i := 43) (N := some 80) (v := undef) (a' := ?_) zh44 rfl rfl (any_of HT_.out (by kernel_rfl)) (fun _ _ _ h => h) (Or.inr ⟨by rfl,rfl⟩) ?_ ?_
          rotate_left
          ·simp only [Act.put,zhI,zhs0,zhs1,i64_w,i32_w]
           rfl
          refine pure_ (i := 44) (N := some 81) (v := ?_) (a' := ?_) zh45 rfl rfl (any_of HT_.out (by kernel_rfl)) (fun _ _ _ h => h) (Or.inl ⟨by rfl,?_⟩) ?_ ?_
          rotate_left
          ·intro w'
           go_simp
           with_reducible rfl
          rotate_left
          ·simp only [Act.put,zhI,zhs0,zhs1,i64_w,i32_w]
           rfl
          refine done_ (done_of HT_.out (by kernel_rfl)) ?_
          clear HT_ HW_ hHeld
          have hno : ¬ okT g s o l i := fun q_ => by
           obtain ⟨⟨q1,q2⟩,q3,q4,q5⟩ := q_
           rw [← HZ.out] at q1 q2 q3
           rw [← HY.out] at q4 q5
           exact h3 (HPT.out.2 q3)
          go_wp2_with fail
          go_ret
          exact ⟨by rw [HRT.out,up_no HII.out hno]; rfl,HBr.out⟩
      ·obtain rfl : i = o.length := by have := HI.out; omega
       have hlt2 : decide ((o.length : Int) < (o.length : Int)) = false := decide_eq_false (by omega)
       have hlt3 : decide (o.length < o.length) = false := decide_eq_false (by omega)
       go_wp2_with fail
       go_ret
       exact ⟨by rw [HRT.out,up_yes HU.out]; rfl,HBr.out⟩
    ·obtain ⟨m1,m2,m3,m4⟩ := int_ne (a := f.length) (b := o.length) hfo
     go_wp2_with fail
     go_ret
     exact ⟨by rw [HR.out,rtT_f hfo]; rfl,HB.out⟩
   ·obtain ⟨n1,n2,n3,n4⟩ := int_ne (a := l.length) (b := o.length) hlo
    go_wp2_with fail
    go_ret
    exact ⟨by rw [HR.out,rtT_l hlo]; rfl,HB.out⟩
end Go.Proofs.Ytbefoehjlgdcgaa.H
