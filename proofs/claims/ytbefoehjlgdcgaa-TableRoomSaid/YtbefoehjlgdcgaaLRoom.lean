/-
The walk of TableRoom.
-/
import Derived.Test.YtbefoehjlgdcgaaFx
import Derived.Test.YtbefoehjlgdcgaaRr
import Derived.Test.YtbefoehjlgdcgaaCu
import Derived.Test.YtbefoehjlgdcgaaRm
namespace Go.Proofs.Ytbefoehjlgdcgaa.H
open Go.RowKit Go.Proofs.YtbefoehjlgdcgaaW.PrintWords Go.Proofs.YtbefoehjlgdcgaaW.PrintLast Go.Proofs.YtbefoehjlgdcgaaW.PrintMore
attribute [local go_sem] max2_int min2_int max_two min_two max_three min_three max_four min_four
set_option linter.unusedVariables false
set_option linter.unusedSimpArgs false
def zo0 : Array Bool := #[false,false,false,false,false,false,false,false,false,false,false,false,false,false,false,false,false,false]
def zo1 : Array Bool := #[false,false,false,false,true,false,false,false,false,false,false,false,false,false,false,false,false,false]
def zo2 : Array Bool := #[false,false,false,false,true,false,true,false,false,false,false,false,false,false,false,false,false,false]
def zo3 : Array Bool := #[false,false,false,false,true,false,true,false,true,false,false,false,false,false,false,false,false,false]
def zo4 : Array Bool := #[true,false,false,false,true,false,true,false,true,false,false,false,false,false,false,false,false,false]
def zo5 : Array Bool := #[true,false,true,false,true,false,true,false,true,false,false,false,false,false,false,false,false,false]
def zo6 : Array Bool := #[true,false,true,false,true,true,true,false,true,false,false,false,false,false,false,false,false,false]
def zo7 : Array Bool := #[true,false,true,false,true,true,true,true,true,false,false,false,false,false,false,false,false,false]
def zo8 : Array Bool := #[true,false,true,false,true,true,true,true,true,true,false,false,false,false,false,false,false,false]
def zo9 : Array Bool := #[true,false,true,false,true,true,true,true,true,true,true,false,false,false,false,false,false,false]
def zo10 : Array Bool := #[true,false,true,false,true,true,true,true,true,true,true,true,false,false,false,false,false,false]
def zo11 : Array Bool := #[true,false,true,false,true,true,true,true,true,true,true,true,true,false,false,false,false,false]
def zo12 : Array Bool := #[true,false,true,false,true,true,true,true,true,true,true,true,true,true,false,false,false,false]
def zo13 : Array Bool := #[true,false,true,false,true,true,true,true,true,true,true,true,true,true,true,false,false,false]
def zo14 : Array Bool := #[true,true,true,false,true,true,true,true,true,true,true,true,true,true,true,false,false,false]
def zo15 : Array Bool := #[true,true,true,true,true,true,true,true,true,true,true,true,true,true,true,false,false,false]
def zo16 : Array Bool := #[true,true,true,true,true,true,true,true,true,true,true,true,true,true,true,true,false,false]
def zo17 : Array Bool := #[true,true,true,true,true,true,true,true,true,true,true,true,true,true,true,true,true,false]
def zo18 : Array Bool := #[true,true,true,true,true,true,true,true,true,true,true,true,true,true,true,true,true,true]
def zo19 : Array Bool := #[false,false,false,false,false,false,false,false,false,false,false,false,false,false,false,false,false,false,false,false,false,false,false,false,false,false,false,false,false,false,false,false]
def zo20 : Array Bool := #[true,false,false,false,false,false,false,false,false,false,false,false,false,false,false,false,false,false,false,false,false,false,false,false,false,false,false,false,false,false,false,false]
def zo21 : Array Bool := #[true,true,false,false,false,false,false,false,false,false,false,false,false,false,false,false,false,false,false,false,false,false,false,false,false,false,false,false,false,false,false,false]
def zo22 : Array Bool := #[true,true,true,false,false,false,false,false,false,false,false,false,false,false,false,false,false,false,false,false,false,false,false,false,false,false,false,false,false,false,false,false]
def zo23 : Array Bool := #[true,true,true,true,false,false,false,false,false,false,false,false,false,false,false,false,false,false,false,false,false,false,false,false,false,false,false,false,false,false,false,false]
def zo24 : Array Bool := #[true,true,true,true,true,false,false,false,false,false,false,false,false,false,false,false,false,false,false,false,false,false,false,false,false,false,false,false,false,false,false,false]
def zo25 : Array Bool := #[true,true,true,true,true,true,false,false,false,false,false,false,false,false,false,false,false,false,false,false,false,false,false,false,false,false,false,false,false,false,false,false]
def zo26 : Array Bool := #[true,true,true,true,true,true,true,false,false,false,false,false,false,false,false,false,false,false,false,false,false,false,false,false,false,false,false,false,false,false,false,false]
def zo27 : Array Bool := #[true,true,true,true,true,true,true,true,false,false,false,false,false,false,false,false,false,false,false,false,false,false,false,false,false,false,false,false,false,false,false,false]
def zo28 : Array Bool := #[true,true,true,true,true,true,true,true,true,false,false,false,false,false,false,false,false,false,false,false,false,false,false,false,false,false,false,false,false,false,false,false]
def zo29 : Array Bool := #[true,true,true,true,true,true,true,true,true,true,false,false,false,false,false,false,false,false,false,false,false,false,false,false,false,false,false,false,false,false,false,false]
def zo30 : Array Bool := #[true,true,true,true,true,true,true,true,true,true,true,false,false,false,false,false,false,false,false,false,false,false,false,false,false,false,false,false,false,false,false,false]
def zo31 : Array Bool := #[true,true,true,true,true,true,true,true,true,true,true,true,false,false,false,false,false,false,false,false,false,false,false,false,false,false,false,false,false,false,false,false]
def zo32 : Array Bool := #[true,true,true,true,true,true,true,true,true,true,true,true,true,false,false,false,false,false,false,false,false,false,false,false,false,false,false,false,false,false,false,false]
def zo33 : Array Bool := #[true,true,true,true,true,true,true,true,true,true,true,true,true,true,false,false,false,false,false,false,false,false,false,false,false,false,false,false,false,false,false,false]
def zo34 : Array Bool := #[true,true,true,true,true,true,true,true,true,true,true,true,true,true,true,false,false,false,false,false,false,false,false,false,false,false,false,false,false,false,false,false]
def zo35 : Array Bool := #[true,true,true,true,true,true,true,true,true,true,true,true,true,true,true,true,false,false,false,false,false,false,false,false,false,false,false,false,false,false,false,false]
def zo36 : Array Bool := #[true,true,true,true,true,true,true,true,true,true,true,true,true,true,true,true,true,false,false,false,false,false,false,false,false,false,false,false,false,false,false,false]
def zo37 : Array Bool := #[true,true,true,true,true,true,true,true,true,true,true,true,true,true,true,true,true,true,false,false,false,false,false,false,false,false,false,false,false,false,false,false]
def zo38 : Array Bool := #[true,true,true,true,true,true,true,true,true,true,true,true,true,true,true,true,true,true,true,false,false,false,false,false,false,false,false,false,false,false,false,false]
def zo39 : Array Bool := #[true,true,true,true,true,true,true,true,true,true,true,true,true,true,true,true,true,true,true,true,false,false,false,false,false,false,false,false,false,false,false,false]
def zo40 : Array Bool := #[true,true,true,true,true,true,true,true,true,true,true,true,true,true,true,true,true,true,true,true,true,false,false,false,false,false,false,false,false,false,false,false]
def zo41 : Array Bool := #[true,true,true,true,true,true,true,true,true,true,true,true,true,true,true,true,true,true,true,true,true,true,false,false,false,false,false,false,false,false,false,false]
def zo42 : Array Bool := #[true,true,true,true,true,true,true,true,true,true,true,true,true,true,true,true,true,true,true,true,true,true,true,false,false,false,false,false,false,false,false,false]
def zo43 : Array Bool := #[true,true,true,true,true,true,true,true,true,true,true,true,true,true,true,true,true,true,true,true,true,true,true,true,false,false,false,false,false,false,false,false]
def zo44 : Array Bool := #[true,true,true,true,true,true,true,true,true,true,true,true,true,true,true,true,true,true,true,true,true,true,true,true,true,false,false,false,false,false,false,false]
def zo45 : Array Bool := #[true,true,true,true,true,true,true,true,true,true,true,true,true,true,true,true,true,true,true,true,true,true,true,true,true,true,false,false,false,false,false,false]
def zo46 : Array Bool := #[true,true,true,true,true,true,true,true,true,true,true,true,true,true,true,true,true,true,true,true,true,true,true,true,true,true,true,false,false,false,false,false]
def zo47 : Array Bool := #[true,true,true,true,true,true,true,true,true,true,true,true,true,true,true,true,true,true,true,true,true,true,true,true,true,true,true,true,false,false,false,false]
def zo48 : Array Bool := #[true,true,true,true,true,true,true,true,true,true,true,true,true,true,true,true,true,true,true,true,true,true,true,true,true,true,true,true,true,false,false,false]
def zo49 : Array Bool := #[true,true,true,true,true,true,true,true,true,true,true,true,true,true,true,true,true,true,true,true,true,true,true,true,true,true,true,true,true,true,false,false]
def zo50 : Array Bool := #[true,true,true,true,true,true,true,true,true,true,true,true,true,true,true,true,true,true,true,true,true,true,true,true,true,true,true,true,true,true,true,false]
def zo51 : Array Bool := #[true,true,true,true,true,true,true,true,true,true,true,true,true,true,true,true,true,true,true,true,true,true,true,true,true,true,true,true,true,true,true,true]
def zo52 : Array Bool := #[true,true,true,true,true,true,true,false,false,true,false,false,false,false,false,false,false,false,false,false,false,false,false,false,false,false,false,false,false,false,false,false]
def zo53 : Array Bool := #[true,true,true,true,true,true,true,false,false,true,true,false,false,false,false,false,false,false,false,false,false,false,false,false,false,false,false,false,false,false,false,false]
def zo54 : Array Bool := #[true,true,true,true,true,true,true,true,false,true,true,false,false,false,false,false,false,false,false,false,false,false,false,false,false,false,false,false,false,false,false,false]
def zo55 : Array Bool := #[true,true,true,true,true,true,true,true,false,true,true,true,false,false,false,false,false,false,false,false,false,false,false,false,false,false,false,false,false,false,false,false]
def zo56 : Array Bool := #[true,true,true,true,true,true,true,true,false,true,true,true,true,false,false,false,false,false,false,false,false,false,false,false,false,false,false,false,false,false,false,false]
def zo57 : Array Bool := #[true,true,true,true,true,true,true,true,true,true,true,true,true,true,true,true,false,false,true,false,false,false,false,false,false,false,false,false,false,false,false,false]
def zo58 : Array Bool := #[true,true,true,true,true,true,true,true,true,true,true,true,true,true,true,true,false,false,true,false,true,false,false,false,false,false,false,false,false,false,false,false]
def zo59 : Array Bool := #[true,true,true,true,true,true,true,true,true,true,true,true,true,true,true,true,true,false,true,false,true,false,false,false,false,false,false,false,false,false,false,false]
def zo60 : Array Bool := #[true,true,true,true,true,true,true,true,true,true,true,true,true,true,true,true,true,false,true,true,true,false,false,false,false,false,false,false,false,false,false,false]
def zo61 : Array Bool := #[true,true,true,true,true,true,true,true,true,true,true,true,true,true,true,true,true,true,true,true,true,true,true,true,true,true,false,true,false,false,false,false]
def zo62 : Array Bool := #[false,false,false,false,false,false,false,false,false,false,false,false,false,false,false,false,false,false,false,false,false,false,false,false,false]
def zo63 : Array Bool := #[true,false,false,false,false,false,false,false,false,false,false,false,false,false,false,false,false,false,false,false,false,false,false,false,false]
def zo64 : Array Bool := #[true,true,false,false,false,false,false,false,false,false,false,false,false,false,false,false,false,false,false,false,false,false,false,false,false]
def zo65 : Array Bool := #[true,true,true,false,false,false,false,false,false,false,false,false,false,false,false,false,false,false,false,false,false,false,false,false,false]
def zo66 : Array Bool := #[true,true,true,true,false,false,false,false,false,false,false,false,false,false,false,false,false,false,false,false,false,false,false,false,false]
def zo67 : Array Bool := #[true,true,true,true,false,true,false,false,false,false,false,false,false,false,false,false,false,false,false,false,false,false,false,false,false]
def zo68 : Array Bool := #[true,true,true,true,true,true,false,false,false,false,false,false,false,false,false,false,false,false,false,false,false,false,false,false,false]
def zo69 : Array Bool := #[true,true,true,true,true,true,true,false,false,false,false,false,false,false,false,false,false,false,false,false,false,false,false,false,false]
def zo70 : Array Bool := #[true,true,true,true,true,true,true,true,false,false,false,false,false,false,false,false,false,false,false,false,false,false,false,false,false]
def zo71 : Array Bool := #[true,true,true,true,true,true,true,true,true,false,false,false,false,false,false,false,false,false,false,false,false,false,false,false,false]
def zo72 : Array Bool := #[true,true,true,true,true,true,true,true,true,true,false,false,false,false,false,false,false,false,false,false,false,false,false,false,false]
def zo73 : Array Bool := #[true,true,true,true,true,true,true,true,true,true,false,false,false,true,false,false,false,false,false,false,false,false,false,false,false]
def zo74 : Array Bool := #[true,true,true,true,true,true,true,true,true,true,false,false,false,true,false,false,false,true,false,false,false,false,false,false,false]
def zo75 : Array Bool := #[true,true,true,true,true,true,true,true,true,true,true,false,false,true,false,false,false,true,false,false,false,false,false,false,false]
def zo76 : Array Bool := #[true,true,true,true,true,true,true,true,true,true,true,false,false,true,true,false,false,true,false,false,false,false,false,false,false]
def zo77 : Array Bool := #[true,true,true,true,true,true,true,true,true,true,true,false,false,true,true,true,false,true,false,false,false,false,false,false,false]
def zo78 : Array Bool := #[true,true,true,true,true,true,true,true,true,true,true,false,false,true,true,true,false,true,true,false,false,false,false,false,false]
def zo79 : Array Bool := #[true,true,true,true,true,true,true,true,true,true,true,true,false,true,true,true,false,true,true,false,false,false,false,false,false]
def zo80 : Array Bool := #[true,true,true,true,true,true,true,true,true,true,true,true,true,true,true,true,false,true,true,false,false,false,false,false,false]
def zo81 : Array Bool := #[true,true,true,true,true,true,true,true,true,true,true,true,true,true,true,true,true,true,true,false,false,false,false,false,false]
def zo82 : Array Bool := #[true,true,true,true,true,true,true,true,true,true,true,true,true,true,true,true,true,true,true,true,false,false,false,false,false]
def zo83 : Array Bool := #[true,true,true,true,true,true,true,true,true,true,true,true,true,true,true,true,true,true,true,true,true,false,false,false,false]
def zo84 : Array Bool := #[true,true,true,true,true,true,true,true,true,true,true,true,true,true,true,true,true,true,true,true,true,true,false,false,false]
def zo85 : Array Bool := #[true,true,true,true,true,true,true,true,true,true,true,true,true,true,true,true,true,true,true,true,true,true,true,false,false]
def zo86 : Array Bool := #[true,true,true,true,true,true,true,true,true,true,true,true,true,true,true,true,true,true,true,true,true,true,true,true,false]
def zo87 : Array Bool := #[true,true,true,true,true,true,true,true,true,true,true,true,true,true,true,true,true,true,true,true,true,true,true,true,true]
theorem zoI {α : Type} (l : List α) (i : Nat) (a : α) : l.toArray.setIfInBounds i a = (l.set i a).toArray := List.setIfInBounds_toArray l i a
theorem zos0 {α : Type} (x : α) (l : List α) (a : α) : (x :: l).set 0 a = a :: l := rfl
theorem zos1 {α : Type} (x : α) (l : List α) (i : Nat) (a : α) : (x :: l).set (i + 1) a = x :: l.set i a := rfl
def room.T4 : Bool × List (List Nat × List Nat) := (true,[([],[]),([0],[0]),([],[]),([2,1],[2]),([],[]),([4],[4]),([],[]),([6],[6]),([],[]),([8],[8]),([9],[9]),([10],[10]),([7,11],[7,11]),([12],[12]),([5,13],[5,13]),([1,3,0,1],[1]),([3,15,0,1,2,3,15],[3]),([14,16,0,1,2,3,4,5,6,7,8,9,10,11,12,13,14,15,16],[14])])
def room.B4 : List Nat := [0,1,0,7,0,16,0,64,0,256,768,1792,4032,8128,16368,15,32783,131071]
theorem room.tab4 : rtab .any (opsOf Try.f5 4) = room.T4 := by kernel_rfl
theorem room.bits4 : waitsOk room.T4.2 room.B4 = true := by kernel_rfl
def room.T12 : Bool × List (List Nat × List Nat) := (true,[([],[]),([0],[0]),([1],[1]),([2],[2]),([3,2,2],[2,3]),([4,2],[2,4]),([5,4,2],[2,5]),([6],[6]),([7,6,6],[6,7]),([6],[6]),([6],[6]),([10,6],[6,10]),([9,11,6],[6,9,11]),([8,12,6],[6,8,12]),([6,13,2],[2,6,13]),([14,8,2],[2,14]),([15],[15]),([16,15,15],[15,16]),([15],[15]),([15],[15]),([15],[15]),([19,20,17,15],[15,19,20]),([18,21,15],[15,18,21]),([17,22,15],[15,17,22]),([15,23,2],[2,15,23]),([24,21,2],[2,24]),([25],[25]),([25],[25]),([26,27,25,25],[25,26,27]),([28,25],[25,28]),([25,29,2],[2,25,29]),([2,30],[2,30])])
def room.B12 : List Nat := [0,1,3,7,15,31,63,127,255,127,127,1151,3711,8191,16383,32767,65535,131071,65535,65535,65535,1835007,4194303,8388607,16777215,33554431,67108863,67108863,268435455,536870911,1073741823,2147483647]
theorem room.tab12 : rtab .any (opsOf Try.f5 12) = room.T12 := by kernel_rfl
theorem room.bits12 : waitsOk room.T12.2 room.B12 = true := by kernel_rfl
def room.T14 : Bool × List (List Nat × List Nat) := (true,[([],[]),([],[]),([0,1],[0,1]),([],[]),([3],[3]),([],[]),([5],[5]),([4,6],[4,6]),([2,7],[2,7]),([8],[8]),([9],[9]),([10,9,9],[9,10]),([11,9],[9,11]),([9],[9]),([13,9],[9,13]),([14,9],[9,14]),([12,15,9],[9,12,15]),([9],[9]),([17,9],[9,17]),([16,18,9],[9,16,18]),([9,19],[9,19]),([20,11],[20]),([21,21],[21]),([21,22],[21,22]),([23,22,0,1,2,3,4,5,6,7,8,9,10,11,12,13,14,15,16,17,18,19,20,21,22,23],[23])])
def room.B14 : List Nat := [0,0,3,0,8,0,32,120,255,511,1023,2047,4095,1023,9215,25599,65535,1023,132095,524287,1048575,2097151,4194303,8388607,16777215]
theorem room.tab14 : rtab .any (opsOf Try.f5 14) = room.T14 := by kernel_rfl
theorem room.bits14 : waitsOk room.T14.2 room.B14 = true := by kernel_rfl
set_option maxHeartbeats 8000000 in
set_option maxRecDepth 100000 in
theorem TableRoom_walk0 (g s : Int) (Ao : Option Addr) (co : Nat) (o0 : List Int) (Al : Option Addr) (cl : Nat) (l0 : List Int) (Af : Option Addr) (cf : Nat) (f0 : List Int) (seg first : Int) (w : World) (hT : TC w Ao co o0 Al cl l0 Af cf f0) :
  Calls Try.prog 5 #[.agg #[.int .i64 g,.int .i64 s,.slice Ao o0.length co,.slice Al l0.length cl,.slice Af f0.length cf],.int .i64 seg,.int .u64 first] w fun e w' => e = .returned (.bool true) ∧ Below w.heap.size w w' := by
 obtain ⟨o,ho⟩ : ∃ z,z = o0.take 20 := ⟨_,rfl⟩
 obtain ⟨l,hl⟩ : ∃ z,z = l0.take 20 := ⟨_,rfl⟩
 obtain ⟨f,hf⟩ : ∃ z,z = f0.take 20 := ⟨_,rfl⟩
 have HT0 := Aside0.mk hT
 have hT2 := TC_cut hT
 rw [← ho,← hl,← hf] at hT2
 have HT := Aside0.mk hT2
 have HEQ := Aside0.mk (And.intro ho (And.intro hl hf))
 have HLN : Aside0 (o.length ≤ 20 ∧ l.length ≤ 20 ∧ f.length ≤ 20) := ⟨by rw [ho,hl,hf,List.length_take,List.length_take,List.length_take]; omega⟩
 clear hT hT2 ho hl hf
 have HB := Aside0.mk (Below.refl w.heap.size w)
 go_enter Try.func5,Try.ntmps5
 go_upto_region 1 with fail
 obtain ⟨W1,hW1⟩ : ∃ W1,W1 = w.alloc (.cells #[.int .i64 g,.int .i64 s,.slice Ao o0.length co,.slice Al l0.length cl,.slice Af f0.length cf] 28) := ⟨_,rfl⟩
 rw [← hW1]
 obtain ⟨g3,hg3⟩ : ∃ g,g = w.heap.size := ⟨_,rfl⟩
 have hb : Below w.heap.size w W1 := by rw [hW1]; exact below_alloc (Below.refl _ _) _
 have HX3 : Aside0 (W1.heap[g3]? = some (.cells #[.int .i64 g,.int .i64 s,.slice Ao o0.length co,.slice Al l0.length cl,.slice Af f0.length cf] 28 (0,0))) := ⟨by rw [hW1,hg3]; exact blk_new _ _⟩
 have HG3 : Aside0 (w.heap.size ≤ g3) := ⟨Nat.le_of_eq hg3.symm⟩
 rw [← hg3]
 have HT1 := Aside0.mk (TC_below HT0.out hb)
 replace HB := Aside0.mk (hb)
 clear hb hW1 hg3
 have s_0 : W1.cell? ⟨g3,0,none⟩ = some (.int .i64 g) := (blk_cell HX3.out 0).trans rfl
 have s_1 : W1.cell? ⟨g3,1,none⟩ = some (.int .i64 s) := (blk_cell HX3.out 1).trans rfl
 have s_2 : W1.cell? ⟨g3,2,none⟩ = some (.slice Ao o0.length co) := (blk_cell HX3.out 2).trans rfl
 have s_3 : W1.cell? ⟨g3,3,none⟩ = some (.slice Al l0.length cl) := (blk_cell HX3.out 3).trans rfl
 have s_4 : W1.cell? ⟨g3,4,none⟩ = some (.slice Af f0.length cf) := (blk_cell HX3.out 4).trans rfl
 go_wp2_with fail
 clear s_0 s_1 s_2 s_3 s_4
 refine (cut_calls g s Ao co o0 Al cl l0 Af cf f0 _ HT1.out).mono ?_
 rintro e_ w2 ⟨rfl,hb⟩
 rw [← HEQ.out.1,← HEQ.out.2.1,← HEQ.out.2.2]
 replace HX3 := Aside0.mk (blk_below HX3.out hb)
 replace HB := Aside0.mk (below_step HB.out hb)
 clear hb HT1 HT0 HEQ
 have n_0 : w2.cell? ⟨g3,0,none⟩ = some (.int .i64 g) := (blk_cell HX3.out 0).trans rfl
 have n_1 : w2.cell? ⟨g3,1,none⟩ = some (.int .i64 s) := (blk_cell HX3.out 1).trans rfl
 have n_2 : w2.cell? ⟨g3,2,none⟩ = some (.slice Ao o0.length co) := (blk_cell HX3.out 2).trans rfl
 have n_3 : w2.cell? ⟨g3,3,none⟩ = some (.slice Al l0.length cl) := (blk_cell HX3.out 3).trans rfl
 have n_4 : w2.cell? ⟨g3,4,none⟩ = some (.slice Af f0.length cf) := (blk_cell HX3.out 4).trans rfl
 have nf_0 := blk_frozen HX3.out 0
 have nf_1 := blk_frozen HX3.out 1
 have nf_2 := blk_frozen HX3.out 2
 have nf_3 := blk_frozen HX3.out 3
 have nf_4 := blk_frozen HX3.out 4
 go_upto_region 2 with fail
 clear n_0 n_1 n_2 n_3 n_4 nf_0 nf_1 nf_2 nf_3 nf_4
 obtain ⟨w3,hW⟩ : ∃ W_,W_ = (((((w2.setCell ⟨g3,0,none⟩ (.int .i64 g)).setCell ⟨g3,1,none⟩ (.int .i64 s)).setCell ⟨g3,2,none⟩ (.slice Ao o.length co)).setCell ⟨g3,3,none⟩ (.slice Al l.length cl)).setCell ⟨g3,4,none⟩ (.slice Af f.length cf)) := ⟨_,rfl⟩
 rw [← hW]
 replace HB := Aside0.mk (below5 hW HB.out HG3.out)
 replace HX3 := Aside0.mk (set5 hW HX3.out)
 clear hW
 have s_0 : w3.cell? ⟨g3,0,none⟩ = some (.int .i64 g) := (blk_cell HX3.out 0).trans rfl
 have s_1 : w3.cell? ⟨g3,1,none⟩ = some (.int .i64 s) := (blk_cell HX3.out 1).trans rfl
 have s_2 : w3.cell? ⟨g3,2,none⟩ = some (.slice Ao o.length co) := (blk_cell HX3.out 2).trans rfl
 have s_3 : w3.cell? ⟨g3,3,none⟩ = some (.slice Al l.length cl) := (blk_cell HX3.out 3).trans rfl
 have s_4 : w3.cell? ⟨g3,4,none⟩ = some (.slice Af f.length cf) := (blk_cell HX3.out 4).trans rfl
 go_wp2_with fail
 clear s_0 s_1 s_2 s_3 s_4
 refine (ref_calls g s Ao co o Al cl l Af cf f _).mono ?_
 rintro e_ w4 ⟨rfl,hb⟩
 replace HX3 := Aside0.mk (blk_below HX3.out hb)
 replace HB := Aside0.mk (below_step HB.out hb)
 clear hb
 go_wp2_with fail
 refine (rright_calls g s Ao co o Al cl l Af cf f _ (TC_below HT.out HB.out) (by have := HLN.out; omega)).mono ?_
 rintro e_ w5 ⟨rfl,hb⟩
 replace HX3 := Aside0.mk (blk_below HX3.out hb)
 replace HB := Aside0.mk (below_step HB.out hb)
 clear hb
 by_cases hR : rtT g s o l f = false
 ·rw [hR]
  have s_0 : w5.cell? ⟨g3,0,none⟩ = some (.int .i64 g) := (blk_cell HX3.out 0).trans rfl
  have s_1 : w5.cell? ⟨g3,1,none⟩ = some (.int .i64 s) := (blk_cell HX3.out 1).trans rfl
  have s_2 : w5.cell? ⟨g3,2,none⟩ = some (.slice Ao o.length co) := (blk_cell HX3.out 2).trans rfl
  have s_3 : w5.cell? ⟨g3,3,none⟩ = some (.slice Al l.length cl) := (blk_cell HX3.out 3).trans rfl
  have s_4 : w5.cell? ⟨g3,4,none⟩ = some (.slice Af f.length cf) := (blk_cell HX3.out 4).trans rfl
  go_wp2_with fail
  clear s_0 s_1 s_2 s_3 s_4
  refine (right_calls g s Ao co o Al cl l Af cf f _ (TC_below HT.out HB.out) (by have := HLN.out; omega)).mono ?_
  rintro e_ w6 ⟨rfl,hb⟩
  replace HX3 := Aside0.mk (blk_below HX3.out hb)
  replace HB := Aside0.mk (below_step HB.out hb)
  clear hb
  rw [hR]
  go_wp2_with fail
  refine (fixed_calls _).mono ?_
  rintro e_ w7 ⟨rfl,hb⟩
  replace HB := Aside0.mk (below_step HB.out hb)
  clear hb
  go_wp2_with fail
  go_ret
  exact ⟨rfl,HB.out⟩
 ·have hR2 : rtT g s o l f = true := by simpa using hR
  rw [hR2]
  have HRT := Aside0.mk (rt_iff.1 hR2)
  clear hR hR2
  obtain ⟨z,hz⟩ : ∃ z,z = Lst l := ⟨_,rfl⟩
  have HZ := Aside0.mk hz
  obtain ⟨p,hp⟩ : ∃ p,p = s - z := ⟨_,rfl⟩
  obtain ⟨q,hq⟩ : ∃ q,q = s * (g - (o.length : Int)) := ⟨_,rfl⟩
  obtain ⟨u,hu⟩ : ∃ u,u = l.sum := ⟨_,rfl⟩
  have HP := Aside0.mk hp
  have HQ := Aside0.mk hq
  have HU := Aside0.mk hu
  have HFT : Aside0 ((0 ≤ z ∧ z ≤ s) ∧ (0 ≤ q ∧ q ≤ 480) ∧ (0 ≤ u ∧ u ≤ 480) ∧ (4 ≤ g ∧ g ≤ 16 ∧ 1 ≤ s ∧ s ≤ 30) ∧ (1 ≤ o.length ∧ o.length ≤ 16 ∧ (o.length : Int) ≤ g) ∧ l.length = o.length ∧ f.length = o.length) := ⟨by have hm := HRT.out.may; have hn := HRT.out.len; refine ⟨by rw [hz]; exact HRT.out.lst,by rw [hq]; exact mul_fit (by omega) (by omega),?_,hm,⟨HRT.out.n1,by omega,hn⟩,HRT.out.hl,HRT.out.hf⟩; have h1 := sum_fit HRT.out.rl; rw [← hu,HRT.out.hl] at h1; have h2 := mul_fit (s := s) (by omega) (q := (o.length : Int)) (by omega); omega⟩
  have HRM : Aside0 (table_Room.f g s o l f = some (p + q)) := ⟨by rw [HRT.out.room,hp,hq,hz]⟩
  have HUS : Aside0 (table_Used.f 21 g s o l f = some u) := ⟨by rw [HRT.out.used,hu]⟩
  obtain ⟨al,ea,hy⟩ := Kd.at_int HT.out.2.1.1 ((l.length : Int) - 1) (by have := HFT.out; omega) (by omega)
  have hy1 : rd l ((l.length : Int) - 1) = z := by rw [hz]; show l.getD ((l.length : Int) - 1).toNat 0 = l.getD (l.length - 1) 0; congr 1; omega
  rw [hy1] at hy
  cases ea
  obtain ⟨i,hi⟩ : ∃ i,i = (l.length : Int) - 1 := ⟨_,rfl⟩
  rw [← hi] at hy
  have HYC := Aside0.mk hy
  have hi2 := hi.symm
  have hi0 : (0 ≤ i) = True := eq_true (by have := HFT.out; omega)
  have hi1 : (i < (l.length : Int)) = True := eq_true (by omega)
  have hi3 : IntKind.i64.wrap ((l.length : Int) - 1) = i := by rw [i64_w]; unfold wrap64; have := HLN.out; have := HFT.out; omega
  have hp2 : IntKind.i64.wrap (s - z) = p := by rw [i64_w]; unfold wrap64; have := HFT.out; omega
  have hp3 := hp.symm
  have hi4 : wrap64 i = i := by unfold wrap64; have := HLN.out; have := HFT.out; omega
  have hp4 : wrap64 p = p := by unfold wrap64; have := HFT.out; omega
  clear hz hp hq hu hy hy1 hi
  go_upto_region 4 with fail
  refine start_ (n := 18) (S := fun w' => w'.cell? ⟨g3,0,none⟩ = some (.int .i64 g) ∧ w'.cell? ⟨g3,1,none⟩ = some (.int .i64 s) ∧ w'.cell? ⟨g3,2,none⟩ = some (.slice Ao o.length co) ∧ w'.cell? ⟨g3,3,none⟩ = some (.slice (some al) l.length cl) ∧ w'.cell? ⟨g3,4,none⟩ = some (.slice Af f.length cf) ∧ w'.cell? (al.add i.toNat) = some (.int .i64 z)) (ds := []) zo0 (by kernel_rfl) rfl rfl ⟨((blk_cell (blk_drew HX3.out) 0).trans rfl),((blk_cell (blk_drew HX3.out) 1).trans rfl),((blk_cell (blk_drew HX3.out) 2).trans rfl),((blk_cell (blk_drew HX3.out) 3).trans rfl),((blk_cell (blk_drew HX3.out) 4).trans rfl),(pw_cell_below (below_drew HB.out) HYC.out)⟩ (fun hHeld => ?_)
  refine with_tabW room.tab4 room.bits4 (fun HT_ HW_ => ?_)
  replace HX3 := Aside0.mk (blk_drew HX3.out)
  replace HB := Aside0.mk (below_drew HB.out)
  generalize w5.drew = wd4 at *
  refine pure_ (i := 4) (N := some 32) (v := ?_) (a' := ?_) zo1 rfl rfl (any_of HT_.out (by kernel_rfl)) (fun _ _ _ h => h) (Or.inl ⟨by rfl,?_⟩) ?_ ?_
  rotate_left
  ·intro w'
   go_simp
   with_reducible rfl
  rotate_left
  ·simp only [Act.put,zoI,zos0,zos1,i64_w,i32_w]
   rfl
  refine pure_ (i := 6) (N := some 34) (v := ?_) (a' := ?_) zo2 rfl rfl (any_of HT_.out (by kernel_rfl)) (fun _ _ _ h => h) (Or.inl ⟨by rfl,?_⟩) ?_ ?_
  rotate_left
  ·intro w'
   go_simp
   with_reducible rfl
  rotate_left
  ·simp only [Act.put,zoI,zos0,zos1,i64_w,i32_w]
   rfl
  refine pure_ (i := 8) (N := some 36) (v := ?_) (a' := ?_) zo3 rfl rfl (any_of HT_.out (by kernel_rfl)) (fun _ _ _ h => h) (Or.inl ⟨by rfl,?_⟩) ?_ ?_
  rotate_left
  ·intro w'
   go_simp
   with_reducible rfl
  rotate_left
  ·simp only [Act.put,zoI,zos0,zos1,i64_w,i32_w]
   rfl
  refine take_ (i := 0) (N := some 28) (v := ?_) (a' := ?_) zo4 rfl rfl (take_ofW HT_.out HW_.out (by kernel_rfl)) (fun _ _ _ h => h) (Or.inl ⟨by rfl,?_⟩) hHeld ?_ ?_
  rotate_left
  ·rintro w' ⟨s0,s1,s2,s3,s4,s5⟩
   go_simp
   with_reducible rfl
  rotate_left
  ·simp only [Act.put,zoI,zos0,zos1,i64_w,i32_w]
   rfl
  refine take_ (i := 2) (N := some 30) (v := ?_) (a' := ?_) zo5 rfl rfl (take_ofW HT_.out HW_.out (by kernel_rfl)) (fun _ _ _ h => h) (Or.inl ⟨by rfl,?_⟩) hHeld ?_ ?_
  rotate_left
  ·rintro w' ⟨s0,s1,s2,s3,s4,s5⟩
   go_simp
   with_reducible rfl
  rotate_left
  ·simp only [Act.put,zoI,zos0,zos1,i64_w,i32_w]
   rfl
  refine take_ (i := 5) (N := some 33) (v := ?_) (a' := ?_) zo6 rfl rfl (take_ofW HT_.out HW_.out (by kernel_rfl)) (fun _ _ _ h => h) (Or.inl ⟨by rfl,?_⟩) hHeld ?_ ?_
  rotate_left
  ·rintro w' ⟨s0,s1,s2,s3,s4,s5⟩
   go_simp
   with_reducible rfl
  rotate_left
  ·simp only [Act.put,zoI,zos0,zos1,i64_w,i32_w]
   rfl
  refine take_ (i := 7) (N := some 35) (v := ?_) (a' := ?_) zo7 rfl rfl (take_ofW HT_.out HW_.out (by kernel_rfl)) (fun _ _ _ h => h) (Or.inl ⟨by rfl,?_⟩) hHeld ?_ ?_
  rotate_left
  ·rintro w' ⟨s0,s1,s2,s3,s4,s5⟩
   go_simp
   with_reducible rfl
  rotate_left
  ·simp only [Act.put,zoI,zos0,zos1,i64_w,i32_w]
   rfl
  refine take_ (i := 9) (N := some 37) (v := ?_) (a' := ?_) zo8 rfl rfl (take_ofW HT_.out HW_.out (by kernel_rfl)) (fun _ _ _ h => h) (Or.inl ⟨by rfl,?_⟩) hHeld ?_ ?_
  rotate_left
  ·rintro w' ⟨s0,s1,s2,s3,s4,s5⟩
   go_simp
   with_reducible rfl
  rotate_left
  ·simp only [Act.put,zoI,zos0,zos1,i64_w,i32_w]
   rfl
  refine pure_ (i := 10) (N := some 38) (v := ?_) (a' := ?_) zo9 rfl rfl (any_of HT_.out (by kernel_rfl)) (fun _ _ _ h => h) (Or.inl ⟨by rfl,?_⟩) ?_ ?_
  rotate_left
  ·intro w'
   go_simp
   with_reducible rfl
  rotate_left
  ·simp only [Act.put,zoI,zos0,zos1,i64_w,i32_w]
   rfl
  refine pure_ (i := 11) (N := some 39) (v := ?_) (a' := ?_) zo10 rfl rfl (any_of HT_.out (by kernel_rfl)) (fun _ _ _ h => h) (Or.inl ⟨by rfl,?_⟩) ?_ ?_
  rotate_left
  ·intro w'
   go_simp
   with_reducible rfl
  rotate_left
  ·simp only [Act.put,zoI,zos0,zos1,i64_w,i32_w]
   rfl
  refine pure_ (i := 12) (N := some 40) (v := ?_) (a' := ?_) zo11 rfl rfl (any_of HT_.out (by kernel_rfl)) (fun _ _ _ h => h) (Or.inl ⟨by rfl,?_⟩) ?_ ?_
  rotate_left
  ·intro w'
   go_simp
   with_reducible rfl
  rotate_left
  ·simp only [Act.put,zoI,zos0,zos1,i64_w,i32_w]
   rfl
  refine take_ (i := 13) (N := some 41) (v := ?_) (a' := ?_) zo12 rfl rfl (take_ofW HT_.out HW_.out (by kernel_rfl)) (fun _ _ _ h => h) (Or.inl ⟨by rfl,?_⟩) hHeld ?_ ?_
  rotate_left
  ·rintro w' ⟨s0,s1,s2,s3,s4,s5⟩
   go_simp
   with_reducible rfl
  rotate_left
  ·simp only [Act.put,zoI,zos0,zos1,i64_w,i32_w]
   rfl
  refine pure_ (i := 14) (N := some 42) (v := ?_) (a' := ?_) zo13 rfl rfl (any_of HT_.out (by kernel_rfl)) (fun _ _ _ h => h) (Or.inl ⟨by rfl,?_⟩) ?_ ?_
  rotate_left
  ·intro w'
   go_simp
   with_reducible rfl
  rotate_left
  ·simp only [Act.put,zoI,zos0,zos1,i64_w,i32_w]
   rfl
  refine one_ (i := 1) (N := some 29) zo14 rfl rfl (one_of HT_.out (by kernel_rfl)) (by decide) (fun K hK => ?_)
  refine goes_ Try.func19 (by kernel_rfl) rfl #[.agg #[.int .i64 g,.int .i64 s,.slice Ao o.length co,.slice (some al) l.length cl,.slice Af f.length cf]] (by rfl) rfl rfl (by simp only [List.map_toArray,List.map_cons,List.map_nil]; rfl) ?_
  with_reducible refine (room_calls g s _ _ o _ _ l _ _ f _ (TC_below HT.out HB.out) _ HRM.out).mono ?_
  rintro e_ w6 ⟨rfl,hb⟩
  refine ⟨_,rfl,?_⟩
  replace HX3 := Aside0.mk (blk_below HX3.out hb)
  replace HB := Aside0.mk (below_step HB.out hb)
  clear hb
  refine hK.out _ _ ⟨((blk_cell HX3.out 0).trans rfl),((blk_cell HX3.out 1).trans rfl),((blk_cell HX3.out 2).trans rfl),((blk_cell HX3.out 3).trans rfl),((blk_cell HX3.out 4).trans rfl),(pw_cell_below HB.out HYC.out)⟩ (fun hHeld => ?_)
  clear hK K
  refine norm_ (a' := ?_) ?_ ?_
  rotate_left
  ·show Act.put _ (some 29) _ = _
   simp only [Act.put,zoI,zos0,zos1,i64_w,i32_w]
   rfl
  refine one_ (i := 3) (N := some 31) zo15 rfl rfl (one_of HT_.out (by kernel_rfl)) (by decide) (fun K hK => ?_)
  refine goes_ Try.func21 (by kernel_rfl) rfl #[.agg #[.int .i64 g,.int .i64 s,.slice Ao o.length co,.slice (some al) l.length cl,.slice Af f.length cf]] (by rfl) rfl rfl (by simp only [List.map_toArray,List.map_cons,List.map_nil]; rfl) ?_
  with_reducible refine (used_calls 21 g s _ _ o _ _ l _ _ f _ (TC_below HT.out HB.out) _ HUS.out).mono ?_
  rintro e_ w7 ⟨rfl,hb⟩
  refine ⟨_,rfl,?_⟩
  replace HX3 := Aside0.mk (blk_below HX3.out hb)
  replace HB := Aside0.mk (below_step HB.out hb)
  clear hb
  refine hK.out _ _ ⟨((blk_cell HX3.out 0).trans rfl),((blk_cell HX3.out 1).trans rfl),((blk_cell HX3.out 2).trans rfl),((blk_cell HX3.out 3).trans rfl),((blk_cell HX3.out 4).trans rfl),(pw_cell_below HB.out HYC.out)⟩ (fun hHeld => ?_)
  clear hK K
  refine norm_ (a' := ?_) ?_ ?_
  rotate_left
  ·show Act.put _ (some 31) _ = _
   simp only [Act.put,zoI,zos0,zos1,i64_w,i32_w]
   rfl
  refine pure_ (i := 15) (N := some 7) (v := ?_) (a' := ?_) zo16 rfl rfl (any_of HT_.out (by kernel_rfl)) (fun _ _ _ h => h) (Or.inl ⟨by rfl,?_⟩) ?_ ?_
  rotate_left
  ·intro w'
   go_simp
   with_reducible rfl
  rotate_left
  ·simp only [Act.put,zoI,zos0,zos1,i64_w,i32_w]
   rfl
  refine pure_ (i := 16) (N := some 8) (v := ?_) (a' := ?_) zo17 rfl rfl (any_of HT_.out (by kernel_rfl)) (fun _ _ _ h => h) (Or.inl ⟨by rfl,?_⟩) ?_ ?_
  rotate_left
  ·intro w'
   go_simp
   with_reducible rfl
  rotate_left
  ·simp only [Act.put,zoI,zos0,zos1,i64_w,i32_w]
   rfl
  refine pure_ (i := 17) (N := some 9) (v := ?_) (a' := ?_) zo18 rfl rfl (any_of HT_.out (by kernel_rfl)) (fun _ _ _ h => h) (Or.inl ⟨by rfl,?_⟩) ?_ ?_
  rotate_left
  ·intro w'
   go_simp
   with_reducible rfl
  rotate_left
  ·simp only [Act.put,zoI,zos0,zos1,i64_w,i32_w]
   rfl
  refine done_ (done_of HT_.out (by kernel_rfl)) ?_
  clear HT_ HW_ hHeld
  clear hi0 hi1 hi2 hi3 hi4 hp2 hp3 hp4
  as_aux_lemma =>
   go_upto_region 5 with fail
   rename World => wA
   have HRL : Aside0 (rd l ((o.length : Int) - 1) = z) := ⟨by rw [HZ.out]; show l.getD ((o.length : Int) - 1).toNat 0 = l.getD (l.length - 1) 0; congr 1; have := HFT.out; omega⟩
   go_cut [10,11] from 16 (fun v10 v11 wx => ∃ (gx : Nat) (er : Int) (B1 : Option Addr) (d1 : Nat) (B2 : Option Addr) (d2 : Nat) (B3 : Option Addr) (d3 : Nat) (o2 l2 f2 : List Int),v10 = .pointer (some ⟨gx,0,none⟩) ∧ v11 = .int .i64 er ∧ Aside0 (Below wA.heap.size wA wx) ∧ Aside0 ((er = 10 ∧ ¬ z < s) ∨ (er = 0 ∧ (z < s) ∧ RT g s o2 l2 f2 ∧ TC wx B1 d1 o2 B2 d2 l2 B3 d3 f2 ∧ (wx.heap[gx]? = some (.cells #[.int .i64 g,.int .i64 s,.slice B1 o2.length d1,.slice B2 l2.length d2,.slice B3 f2.length d3] 28 (0,0))) ∧ table_Room.f g s o2 l2 f2 = some (p + q - 1) ∧ table_Used.f 21 g s o2 l2 f2 = some (u + 1))))
   case first =>
    as_aux_lemma =>
     have s_0 : wA.cell? ⟨g3,0,none⟩ = some (.int .i64 g) := (blk_cell HX3.out 0).trans rfl
     have s_1 : wA.cell? ⟨g3,1,none⟩ = some (.int .i64 s) := (blk_cell HX3.out 1).trans rfl
     have s_2 : wA.cell? ⟨g3,2,none⟩ = some (.slice Ao o.length co) := (blk_cell HX3.out 2).trans rfl
     have s_3 : wA.cell? ⟨g3,3,none⟩ = some (.slice (some al) l.length cl) := (blk_cell HX3.out 3).trans rfl
     have s_4 : wA.cell? ⟨g3,4,none⟩ = some (.slice Af f.length cf) := (blk_cell HX3.out 4).trans rfl
     go_wp2_with fail
     clear s_0 s_1 s_2 s_3 s_4
     by_cases hc : z < s
     ·refine (count_yes g s _ _ o _ _ l _ _ f _ (TC_below HT.out HB.out) ⟨by have := HFT.out; omega,by have := HFT.out; omega⟩ HFT.out.2.2.2.2.1.1 HFT.out.2.2.2.2.2.1 ((o.length : Int) - 1) rfl (by rw [HRL.out]; exact hc) (by rw [HRL.out]; have := HFT.out; omega)).mono ?_
      rintro e_ w6 ⟨A1,d1,A2,d2,A3,d3,rfl,hr,hb⟩
      rw [HRL.out,show ((o.length : Int) - 1).toNat = l.length - 1 by have := HFT.out; omega] at hr ⊢
      obtain ⟨l2,hl2⟩ : ∃ y_,y_ = l.set (l.length - 1) (z + 1) := ⟨_,rfl⟩
      rw [← hl2] at hr ⊢
      have HR2 : Aside0 (RT g s o l2 f) := ⟨by rw [hl2,HZ.out]; exact HRT.out.count (by rw [← HZ.out]; exact hc)⟩
      have hq1 : Lst l2 = z + 1 := by rw [hl2]; exact lst_set _ _ (by have := HFT.out; omega)
      have hq2 : l2.sum = u + 1 := by rw [hl2,sum_set _ _ _ (by have := HFT.out; omega),← HU.out]; have : l.getD (l.length - 1) 0 = z := HZ.out.symm; omega
      have HN2 : Aside0 (table_Room.f g s o l2 f = some (p + q - 1) ∧ table_Used.f 21 g s o l2 f = some (u + 1)) := ⟨by rw [HR2.out.room,HR2.out.used,hq1,hq2,← HQ.out,HP.out]; exact ⟨congrArg some (by omega),rfl⟩⟩
      have HT2 := Aside0.mk (TR_TC hr)
      replace HX3 := Aside0.mk (blk_below HX3.out hb)
      replace HB := Aside0.mk (below_step HB.out hb)
      have hcb0 := Aside0.mk hb
      clear hr hb hl2 hq1 hq2
      go_wp2_with ((with_reducible refine gate_dst (N := 10) rfl ?_); refine box_event ?hg (N := 10) ?hd (cs := #[.int .i64 0,.int .i64 0,.slice none 0 0,.slice none 0 0,.slice none 0 0]) (t := 28) ?hr ?_; (case hd => rfl); (case hg => rfl); (case hr => first | (go_simp; done) | (go_simp; rfl)); intro gx hgo w7 hbox hbb; have HBO := Aside0.mk hbox; have HBB := Aside0.mk hbb; have HGO := Aside0.mk hgo; have y0 : w7.cell? ⟨gx,0,none⟩ = some (.int .i64 0) := (blk_cell hbox 0).trans rfl; have y1 : w7.cell? ⟨gx,1,none⟩ = some (.int .i64 0) := (blk_cell hbox 1).trans rfl; have y2 : w7.cell? ⟨gx,2,none⟩ = some (.slice none 0 0) := (blk_cell hbox 2).trans rfl; have y3 : w7.cell? ⟨gx,3,none⟩ = some (.slice none 0 0) := (blk_cell hbox 3).trans rfl; have y4 : w7.cell? ⟨gx,4,none⟩ = some (.slice none 0 0) := (blk_cell hbox 4).trans rfl; have yf0 := blk_frozen hbox 0; have yf1 := blk_frozen hbox 1; have yf2 := blk_frozen hbox 2; have yf3 := blk_frozen hbox 3; have yf4 := blk_frozen hbox 4; clear hbox hbb hgo)
      clear y0 y1 y2 y3 y4 yf0 yf1 yf2 yf3 yf4
      obtain ⟨w8,hW⟩ : ∃ W_,W_ = (((((w7.setCell ⟨gx,0,none⟩ (.int .i64 g)).setCell ⟨gx,1,none⟩ (.int .i64 s)).setCell ⟨gx,2,none⟩ (.slice A1 o.length d1)).setCell ⟨gx,3,none⟩ (.slice A2 l2.length d2)).setCell ⟨gx,4,none⟩ (.slice A3 f.length d3)) := ⟨_,rfl⟩
      rw [← hW]
      have h_ : Below w6.heap.size w6 w8 := below5 hW HBB.out (Nat.le_of_eq HGO.out.symm)
      have HXgx := Aside0.mk (set5 hW HBO.out)
      clear hW HBO HBB HGO
      replace HX3 := Aside0.mk (blk_below HX3.out h_)
      replace HB := Aside0.mk (below_step HB.out h_)
      replace hcb0 := Aside0.mk (below_step hcb0.out h_)
      replace HT2 := Aside0.mk (TC_below HT2.out h_)
      clear h_
      go_meet
      case rel => exact ⟨gx,0,A1,d1,A2,d2,A3,d3,o,l2,f,rfl,rfl,hcb0,⟨.inr ⟨rfl,hc,HR2.out,HT2.out,HXgx.out,HN2.out⟩⟩⟩
     ·refine (count_no g s _ _ o _ _ l _ _ f _ (TC_below HT.out HB.out) ⟨by have := HFT.out; omega,by have := HFT.out; omega⟩ HFT.out.2.2.2.2.1.1 HFT.out.2.2.2.2.2.1 ((o.length : Int) - 1) rfl (by rw [HRL.out]; omega)).mono ?_
      rintro e_ w6 ⟨rfl,hb⟩
      replace HX3 := Aside0.mk (blk_below HX3.out hb)
      replace HB := Aside0.mk (below_step HB.out hb)
      have hcb0 := Aside0.mk hb
      clear hb
      go_wp2_with ((with_reducible refine gate_dst (N := 10) rfl ?_); refine box_event ?hg (N := 10) ?hd (cs := #[.int .i64 0,.int .i64 0,.slice none 0 0,.slice none 0 0,.slice none 0 0]) (t := 28) ?hr ?_; (case hd => rfl); (case hg => rfl); (case hr => first | (go_simp; done) | (go_simp; rfl)); intro gx hgo w7 hbox hbb; have HBO := Aside0.mk hbox; have HBB := Aside0.mk hbb; have HGO := Aside0.mk hgo; have y0 : w7.cell? ⟨gx,0,none⟩ = some (.int .i64 0) := (blk_cell hbox 0).trans rfl; have y1 : w7.cell? ⟨gx,1,none⟩ = some (.int .i64 0) := (blk_cell hbox 1).trans rfl; have y2 : w7.cell? ⟨gx,2,none⟩ = some (.slice none 0 0) := (blk_cell hbox 2).trans rfl; have y3 : w7.cell? ⟨gx,3,none⟩ = some (.slice none 0 0) := (blk_cell hbox 3).trans rfl; have y4 : w7.cell? ⟨gx,4,none⟩ = some (.slice none 0 0) := (blk_cell hbox 4).trans rfl; have yf0 := blk_frozen hbox 0; have yf1 := blk_frozen hbox 1; have yf2 := blk_frozen hbox 2; have yf3 := blk_frozen hbox 3; have yf4 := blk_frozen hbox 4; clear hbox hbb hgo)
      clear y0 y1 y2 y3 y4 yf0 yf1 yf2 yf3 yf4
      obtain ⟨w8,hW⟩ : ∃ W_,W_ = (((((w7.setCell ⟨gx,0,none⟩ (.int .i64 0)).setCell ⟨gx,1,none⟩ (.int .i64 0)).setCell ⟨gx,2,none⟩ (.slice none 0 0)).setCell ⟨gx,3,none⟩ (.slice none 0 0)).setCell ⟨gx,4,none⟩ (.slice none 0 0)) := ⟨_,rfl⟩
      rw [← hW]
      have h_ : Below w6.heap.size w6 w8 := below5 hW HBB.out (Nat.le_of_eq HGO.out.symm)
      have HXgx := Aside0.mk (set5 hW HBO.out)
      clear hW HBO HBB HGO
      replace HX3 := Aside0.mk (blk_below HX3.out h_)
      replace HB := Aside0.mk (below_step HB.out h_)
      replace hcb0 := Aside0.mk (below_step hcb0.out h_)
      clear h_
      go_meet
      case rel => exact ⟨gx,10,none,0,none,0,none,0,[],[],[],rfl,rfl,hcb0,⟨.inl ⟨rfl,hc⟩⟩⟩
   case rest =>
    obtain ⟨gx,er,B1,d1,B2,d2,B3,d3,o2,l2,f2,rfl,rfl,hcb,hdis⟩ := hcut
    replace HX3 := Aside0.mk (blk_below HX3.out hcb.out)
    replace HB := Aside0.mk (below_step HB.out hcb.out)
    clear hcb
    rename World => wB
    go_upto_region 6 with fail
    go_cut [75] from 16 (fun v75 wx => v75 = .bool false ∧ Aside0 (Below wB.heap.size wB wx))
    case first =>
     as_aux_lemma =>
      rcases hdis.out with ⟨rfl,hc⟩ | ⟨rfl,hc,hrt,htc,hxg,hrm,hus⟩
      ·have t1 : decide (0 < p) = false := decide_eq_false (by have := HP.out; omega)
       clear hdis
       go_wp2_with fail
       go_meet
       case rel => exact ⟨rfl,⟨Below.refl _ _⟩⟩
      ·have HRX := Aside0.mk hrt
       have HTX := Aside0.mk htc
       have HXg := Aside0.mk hxg
       have HRMX := Aside0.mk hrm
       have HUSX := Aside0.mk hus
       have HCB := Aside0.mk (Below.refl wB.heap.size wB)
       have t1 : decide (0 < p) = true := decide_eq_true (by have := HP.out; omega)
       have hwa0 : p + q - 1 ≤ 9223372036854775807 := by have := HFT.out; have := HP.out; omega
       have hwb0 : -9223372036854775808 ≤ p + q - 1 := by have := HFT.out; have := HP.out; omega
       have hwc0 : IntKind.i64.wrap (p + q - 1) = p + q - 1 := by rw [i64_w]; unfold wrap64; omega
       have hwa1 : u + 1 ≤ 9223372036854775807 := by have := HFT.out; have := HP.out; omega
       have hwb1 : -9223372036854775808 ≤ u + 1 := by have := HFT.out; have := HP.out; omega
       have hwc1 : IntKind.i64.wrap (u + 1) = u + 1 := by rw [i64_w]; unfold wrap64; omega
       clear hdis hrt htc hxg hrm hus
       have x_0 : wB.cell? ⟨gx,0,none⟩ = some (.int .i64 g) := (blk_cell HXg.out 0).trans rfl
       have x_1 : wB.cell? ⟨gx,1,none⟩ = some (.int .i64 s) := (blk_cell HXg.out 1).trans rfl
       have x_2 : wB.cell? ⟨gx,2,none⟩ = some (.slice B1 o2.length d1) := (blk_cell HXg.out 2).trans rfl
       have x_3 : wB.cell? ⟨gx,3,none⟩ = some (.slice B2 l2.length d2) := (blk_cell HXg.out 3).trans rfl
       have x_4 : wB.cell? ⟨gx,4,none⟩ = some (.slice B3 f2.length d3) := (blk_cell HXg.out 4).trans rfl
       go_wp2_with fail
       clear x_0 x_1 x_2 x_3 x_4
       refine (right_calls g s B1 d1 o2 B2 d2 l2 B3 d3 f2 _ HTX.out (by have := HRX.out.len; have := HRX.out.may; omega)).mono ?_
       rintro e_ w6 ⟨he,hb⟩
       have he2 : e_ = .returned (.bool true) := he.trans (congrArg (fun b_ => Ending.returned (.bool b_)) (rt_iff.2 HRX.out))
       subst he2
       clear he
       replace HX3 := Aside0.mk (blk_below HX3.out hb)
       replace HB := Aside0.mk (below_step HB.out hb)
       replace HXg := Aside0.mk (blk_below HXg.out hb)
       replace HTX := Aside0.mk (TC_below HTX.out hb)
       replace HCB := Aside0.mk (below_step HCB.out hb)
       clear hb
       have x_0 : w6.cell? ⟨gx,0,none⟩ = some (.int .i64 g) := (blk_cell HXg.out 0).trans rfl
       have x_1 : w6.cell? ⟨gx,1,none⟩ = some (.int .i64 s) := (blk_cell HXg.out 1).trans rfl
       have x_2 : w6.cell? ⟨gx,2,none⟩ = some (.slice B1 o2.length d1) := (blk_cell HXg.out 2).trans rfl
       have x_3 : w6.cell? ⟨gx,3,none⟩ = some (.slice B2 l2.length d2) := (blk_cell HXg.out 3).trans rfl
       have x_4 : w6.cell? ⟨gx,4,none⟩ = some (.slice B3 f2.length d3) := (blk_cell HXg.out 4).trans rfl
       go_wp2_with fail
       clear x_0 x_1 x_2 x_3 x_4
       refine (room_calls g s B1 d1 o2 B2 d2 l2 B3 d3 f2 _ HTX.out _ HRMX.out).mono ?_
       rintro e_ w7 ⟨rfl,hb⟩
       replace HX3 := Aside0.mk (blk_below HX3.out hb)
       replace HB := Aside0.mk (below_step HB.out hb)
       replace HXg := Aside0.mk (blk_below HXg.out hb)
       replace HTX := Aside0.mk (TC_below HTX.out hb)
       replace HCB := Aside0.mk (below_step HCB.out hb)
       clear hb
       have x_0 : w7.cell? ⟨gx,0,none⟩ = some (.int .i64 g) := (blk_cell HXg.out 0).trans rfl
       have x_1 : w7.cell? ⟨gx,1,none⟩ = some (.int .i64 s) := (blk_cell HXg.out 1).trans rfl
       have x_2 : w7.cell? ⟨gx,2,none⟩ = some (.slice B1 o2.length d1) := (blk_cell HXg.out 2).trans rfl
       have x_3 : w7.cell? ⟨gx,3,none⟩ = some (.slice B2 l2.length d2) := (blk_cell HXg.out 3).trans rfl
       have x_4 : w7.cell? ⟨gx,4,none⟩ = some (.slice B3 f2.length d3) := (blk_cell HXg.out 4).trans rfl
       go_wp2_with fail
       clear x_0 x_1 x_2 x_3 x_4
       refine (used_calls 21 g s B1 d1 o2 B2 d2 l2 B3 d3 f2 _ HTX.out _ HUSX.out).mono ?_
       rintro e_ w8 ⟨rfl,hb⟩
       replace HX3 := Aside0.mk (blk_below HX3.out hb)
       replace HB := Aside0.mk (below_step HB.out hb)
       replace HXg := Aside0.mk (blk_below HXg.out hb)
       replace HTX := Aside0.mk (TC_below HTX.out hb)
       replace HCB := Aside0.mk (below_step HCB.out hb)
       clear hb
       go_wp2_with fail
       go_meet
       case rel => exact ⟨rfl,HCB⟩
    case rest =>
     obtain ⟨rfl,hcb⟩ := hcut
     replace HX3 := Aside0.mk (blk_below HX3.out hcb.out)
     replace HB := Aside0.mk (below_step HB.out hcb.out)
     clear hcb hdis
     rename World => wC
     go_upto_region 8 with fail
     as_aux_lemma =>
      go_cut [12,13] from 16 (fun v12 v13 wx => ∃ (gx : Nat) (er : Int) (B1 : Option Addr) (d1 : Nat) (B2 : Option Addr) (d2 : Nat) (B3 : Option Addr) (d3 : Nat) (o2 l2 f2 : List Int),v12 = .pointer (some ⟨gx,0,none⟩) ∧ v13 = .int .i64 er ∧ Aside0 (Below wC.heap.size wC wx) ∧ Aside0 ((er = 10 ∧ ¬ ((o.length : Int) < g)) ∨ (er = 0 ∧ ((o.length : Int) < g) ∧ RT g s o2 l2 f2 ∧ TC wx B1 d1 o2 B2 d2 l2 B3 d3 f2 ∧ (wx.heap[gx]? = some (.cells #[.int .i64 g,.int .i64 s,.slice B1 o2.length d1,.slice B2 l2.length d2,.slice B3 f2.length d3] 28 (0,0))) ∧ table_Room.f g s o2 l2 f2 = some q ∧ table_Used.f 21 g s o2 l2 f2 = some u)))
      case first =>
       as_aux_lemma =>
        have s_0 : wC.cell? ⟨g3,0,none⟩ = some (.int .i64 g) := (blk_cell HX3.out 0).trans rfl
        have s_1 : wC.cell? ⟨g3,1,none⟩ = some (.int .i64 s) := (blk_cell HX3.out 1).trans rfl
        have s_2 : wC.cell? ⟨g3,2,none⟩ = some (.slice Ao o.length co) := (blk_cell HX3.out 2).trans rfl
        have s_3 : wC.cell? ⟨g3,3,none⟩ = some (.slice (some al) l.length cl) := (blk_cell HX3.out 3).trans rfl
        have s_4 : wC.cell? ⟨g3,4,none⟩ = some (.slice Af f.length cf) := (blk_cell HX3.out 4).trans rfl
        go_wp2_with fail
        clear s_0 s_1 s_2 s_3 s_4
        by_cases hc : (o.length : Int) < g
        ·obtain ⟨x,rest_,hx⟩ : ∃ x rest_,frk g.toNat o = x :: rest_ := by
          have h1 := HRT.out.free
          cases h2 : frk g.toNat o with
          | nil => rw [h2] at h1; simp at h1; have := HFT.out; omega
          | cons x r => exact ⟨x,r,rfl⟩
         refine (roll_yes g s _ _ o _ _ l _ _ f first _ (TC_below HT.out HB.out) ⟨by have := HFT.out; omega,by have := HFT.out; omega,by have := HFT.out; omega⟩ ⟨by have := HFT.out; omega,by have := HFT.out; omega⟩ x rest_ hx).mono ?_
         rintro e_ w6 ⟨A1,d1,A2,d2,A3,d3,rfl,hr,hb⟩
         obtain ⟨o2,ho2⟩ : ∃ y_,y_ = o ++ [x] := ⟨_,rfl⟩
         rw [← ho2] at hr ⊢
         obtain ⟨l2,hl2⟩ : ∃ y_,y_ = l ++ [0] := ⟨_,rfl⟩
         rw [← hl2] at hr ⊢
         obtain ⟨f2,hf2⟩ : ∃ y_,y_ = f ++ [first] := ⟨_,rfl⟩
         rw [← hf2] at hr ⊢
         have HR2 : Aside0 (RT g s o2 l2 f2) := ⟨by rw [ho2,hl2,hf2]; exact HRT.out.roll (by rw [hx]; exact List.mem_cons_self ..) first⟩
         have hq1 : Lst l2 = 0 := by rw [hl2]; exact lst_app _ _
         have hq2 : l2.sum = u := by rw [hl2,List.sum_append,← HU.out]; simp
         have hq3 : (o2.length : Int) = o.length + 1 := by rw [ho2,List.length_append]; simp
         have HN2 : Aside0 (table_Room.f g s o2 l2 f2 = some q ∧ table_Used.f 21 g s o2 l2 f2 = some u) := ⟨by
          rw [HR2.out.room,HR2.out.used,hq1,hq2,hq3]
          have e1 : s * (g - (o.length : Int)) = s * (g - ((o.length : Int) + 1)) + s := by rw [show g - (o.length : Int) = (g - ((o.length : Int) + 1)) + 1 by omega,Int.mul_add,Int.mul_one]
          have e2 := HQ.out
          exact ⟨congrArg some (by omega),rfl⟩⟩
         have HT2 := Aside0.mk (TR_TC hr)
         replace HX3 := Aside0.mk (blk_below HX3.out hb)
         replace HB := Aside0.mk (below_step HB.out hb)
         have hcb0 := Aside0.mk hb
         clear hr hb ho2 hl2 hf2 hq1 hq2 hq3 hx
         go_wp2_with ((with_reducible refine gate_dst (N := 12) rfl ?_); refine box_event ?hg (N := 12) ?hd (cs := #[.int .i64 0,.int .i64 0,.slice none 0 0,.slice none 0 0,.slice none 0 0]) (t := 28) ?hr ?_; (case hd => rfl); (case hg => rfl); (case hr => first | (go_simp; done) | (go_simp; rfl)); intro gx hgo w7 hbox hbb; have HBO := Aside0.mk hbox; have HBB := Aside0.mk hbb; have HGO := Aside0.mk hgo; have y0 : w7.cell? ⟨gx,0,none⟩ = some (.int .i64 0) := (blk_cell hbox 0).trans rfl; have y1 : w7.cell? ⟨gx,1,none⟩ = some (.int .i64 0) := (blk_cell hbox 1).trans rfl; have y2 : w7.cell? ⟨gx,2,none⟩ = some (.slice none 0 0) := (blk_cell hbox 2).trans rfl; have y3 : w7.cell? ⟨gx,3,none⟩ = some (.slice none 0 0) := (blk_cell hbox 3).trans rfl; have y4 : w7.cell? ⟨gx,4,none⟩ = some (.slice none 0 0) := (blk_cell hbox 4).trans rfl; have yf0 := blk_frozen hbox 0; have yf1 := blk_frozen hbox 1; have yf2 := blk_frozen hbox 2; have yf3 := blk_frozen hbox 3; have yf4 := blk_frozen hbox 4; clear hbox hbb hgo)
         clear y0 y1 y2 y3 y4 yf0 yf1 yf2 yf3 yf4
         obtain ⟨w8,hW⟩ : ∃ W_,W_ = (((((w7.setCell ⟨gx,0,none⟩ (.int .i64 g)).setCell ⟨gx,1,none⟩ (.int .i64 s)).setCell ⟨gx,2,none⟩ (.slice A1 o2.length d1)).setCell ⟨gx,3,none⟩ (.slice A2 l2.length d2)).setCell ⟨gx,4,none⟩ (.slice A3 f2.length d3)) := ⟨_,rfl⟩
         rw [← hW]
         have h_ : Below w6.heap.size w6 w8 := below5 hW HBB.out (Nat.le_of_eq HGO.out.symm)
         have HXgx := Aside0.mk (set5 hW HBO.out)
         clear hW HBO HBB HGO
         replace HX3 := Aside0.mk (blk_below HX3.out h_)
         replace HB := Aside0.mk (below_step HB.out h_)
         replace hcb0 := Aside0.mk (below_step hcb0.out h_)
         replace HT2 := Aside0.mk (TC_below HT2.out h_)
         clear h_
         go_meet
         case rel => exact ⟨gx,0,A1,d1,A2,d2,A3,d3,o2,l2,f2,rfl,rfl,hcb0,⟨.inr ⟨rfl,hc,HR2.out,HT2.out,HXgx.out,HN2.out⟩⟩⟩
        ·have hx : frk g.toNat o = [] := List.length_eq_zero_iff.1 (by have := HRT.out.free; have := HFT.out; omega)
         refine (roll_no g s _ _ o _ _ l _ _ f first _ (TC_below HT.out HB.out) ⟨by have := HFT.out; omega,by have := HFT.out; omega,by have := HFT.out; omega⟩ ⟨by have := HFT.out; omega,by have := HFT.out; omega⟩ hx).mono ?_
         rintro e_ w6 ⟨rfl,hb⟩
         replace HX3 := Aside0.mk (blk_below HX3.out hb)
         replace HB := Aside0.mk (below_step HB.out hb)
         have hcb0 := Aside0.mk hb
         clear hb hx
         go_wp2_with ((with_reducible refine gate_dst (N := 12) rfl ?_); refine box_event ?hg (N := 12) ?hd (cs := #[.int .i64 0,.int .i64 0,.slice none 0 0,.slice none 0 0,.slice none 0 0]) (t := 28) ?hr ?_; (case hd => rfl); (case hg => rfl); (case hr => first | (go_simp; done) | (go_simp; rfl)); intro gx hgo w7 hbox hbb; have HBO := Aside0.mk hbox; have HBB := Aside0.mk hbb; have HGO := Aside0.mk hgo; have y0 : w7.cell? ⟨gx,0,none⟩ = some (.int .i64 0) := (blk_cell hbox 0).trans rfl; have y1 : w7.cell? ⟨gx,1,none⟩ = some (.int .i64 0) := (blk_cell hbox 1).trans rfl; have y2 : w7.cell? ⟨gx,2,none⟩ = some (.slice none 0 0) := (blk_cell hbox 2).trans rfl; have y3 : w7.cell? ⟨gx,3,none⟩ = some (.slice none 0 0) := (blk_cell hbox 3).trans rfl; have y4 : w7.cell? ⟨gx,4,none⟩ = some (.slice none 0 0) := (blk_cell hbox 4).trans rfl; have yf0 := blk_frozen hbox 0; have yf1 := blk_frozen hbox 1; have yf2 := blk_frozen hbox 2; have yf3 := blk_frozen hbox 3; have yf4 := blk_frozen hbox 4; clear hbox hbb hgo)
         clear y0 y1 y2 y3 y4 yf0 yf1 yf2 yf3 yf4
         obtain ⟨w8,hW⟩ : ∃ W_,W_ = (((((w7.setCell ⟨gx,0,none⟩ (.int .i64 0)).setCell ⟨gx,1,none⟩ (.int .i64 0)).setCell ⟨gx,2,none⟩ (.slice none 0 0)).setCell ⟨gx,3,none⟩ (.slice none 0 0)).setCell ⟨gx,4,none⟩ (.slice none 0 0)) := ⟨_,rfl⟩
         rw [← hW]
         have h_ : Below w6.heap.size w6 w8 := below5 hW HBB.out (Nat.le_of_eq HGO.out.symm)
         have HXgx := Aside0.mk (set5 hW HBO.out)
         clear hW HBO HBB HGO
         replace HX3 := Aside0.mk (blk_below HX3.out h_)
         replace HB := Aside0.mk (below_step HB.out h_)
         replace hcb0 := Aside0.mk (below_step hcb0.out h_)
         clear h_
         go_meet
         case rel => exact ⟨gx,10,none,0,none,0,none,0,[],[],[],rfl,rfl,hcb0,⟨.inl ⟨rfl,hc⟩⟩⟩
      case rest =>
       obtain ⟨gx,er,B1,d1,B2,d2,B3,d3,o2,l2,f2,rfl,rfl,hcb,hdis⟩ := hcut
       replace HX3 := Aside0.mk (blk_below HX3.out hcb.out)
       replace HB := Aside0.mk (below_step HB.out hcb.out)
       clear hcb
       rename World => wD
       go_upto_region 9 with fail
       go_cut [113] from 16 (fun v113 wx => v113 = .bool false ∧ Aside0 (Below wD.heap.size wD wx))
       case first =>
        as_aux_lemma =>
         rcases hdis.out with ⟨rfl,hc⟩ | ⟨rfl,hc,hrt,htc,hxg,hrm,hus⟩
         ·have t1 : decide ((o.length : Int) < g) = false := decide_eq_false hc
          clear hdis
          have s_0 : wD.cell? ⟨g3,0,none⟩ = some (.int .i64 g) := (blk_cell HX3.out 0).trans rfl
          have s_1 : wD.cell? ⟨g3,1,none⟩ = some (.int .i64 s) := (blk_cell HX3.out 1).trans rfl
          have s_2 : wD.cell? ⟨g3,2,none⟩ = some (.slice Ao o.length co) := (blk_cell HX3.out 2).trans rfl
          have s_3 : wD.cell? ⟨g3,3,none⟩ = some (.slice (some al) l.length cl) := (blk_cell HX3.out 3).trans rfl
          have s_4 : wD.cell? ⟨g3,4,none⟩ = some (.slice Af f.length cf) := (blk_cell HX3.out 4).trans rfl
          go_wp2_with fail
          go_meet
          case rel => exact ⟨rfl,⟨Below.refl _ _⟩⟩
         ·have HRX := Aside0.mk hrt
          have HTX := Aside0.mk htc
          have HXg := Aside0.mk hxg
          have HRMX := Aside0.mk hrm
          have HUSX := Aside0.mk hus
          have HCB := Aside0.mk (Below.refl wD.heap.size wD)
          have t1 : decide ((o.length : Int) < g) = true := decide_eq_true hc
          have t2 : (q != p + q - p) = false := bne_eq_false_iff_eq.2 (by omega)
          have hwa0 : p + q - p ≤ 9223372036854775807 := by have := HFT.out; have := HP.out; omega
          have hwb0 : -9223372036854775808 ≤ p + q - p := by have := HFT.out; have := HP.out; omega
          have hwc0 : IntKind.i64.wrap (p + q - p) = p + q - p := by rw [i64_w]; unfold wrap64; omega
          clear hdis hrt htc hxg hrm hus hc
          have x_0 : wD.cell? ⟨gx,0,none⟩ = some (.int .i64 g) := (blk_cell HXg.out 0).trans rfl
          have x_1 : wD.cell? ⟨gx,1,none⟩ = some (.int .i64 s) := (blk_cell HXg.out 1).trans rfl
          have x_2 : wD.cell? ⟨gx,2,none⟩ = some (.slice B1 o2.length d1) := (blk_cell HXg.out 2).trans rfl
          have x_3 : wD.cell? ⟨gx,3,none⟩ = some (.slice B2 l2.length d2) := (blk_cell HXg.out 3).trans rfl
          have x_4 : wD.cell? ⟨gx,4,none⟩ = some (.slice B3 f2.length d3) := (blk_cell HXg.out 4).trans rfl
          go_wp2_with fail
          clear x_0 x_1 x_2 x_3 x_4
          refine (right_calls g s B1 d1 o2 B2 d2 l2 B3 d3 f2 _ HTX.out (by have := HRX.out.len; have := HRX.out.may; omega)).mono ?_
          rintro e_ w6 ⟨he,hb⟩
          have he2 : e_ = .returned (.bool true) := he.trans (congrArg (fun b_ => Ending.returned (.bool b_)) (rt_iff.2 HRX.out))
          subst he2
          clear he
          replace HX3 := Aside0.mk (blk_below HX3.out hb)
          replace HB := Aside0.mk (below_step HB.out hb)
          replace HXg := Aside0.mk (blk_below HXg.out hb)
          replace HTX := Aside0.mk (TC_below HTX.out hb)
          replace HCB := Aside0.mk (below_step HCB.out hb)
          clear hb
          have x_0 : w6.cell? ⟨gx,0,none⟩ = some (.int .i64 g) := (blk_cell HXg.out 0).trans rfl
          have x_1 : w6.cell? ⟨gx,1,none⟩ = some (.int .i64 s) := (blk_cell HXg.out 1).trans rfl
          have x_2 : w6.cell? ⟨gx,2,none⟩ = some (.slice B1 o2.length d1) := (blk_cell HXg.out 2).trans rfl
          have x_3 : w6.cell? ⟨gx,3,none⟩ = some (.slice B2 l2.length d2) := (blk_cell HXg.out 3).trans rfl
          have x_4 : w6.cell? ⟨gx,4,none⟩ = some (.slice B3 f2.length d3) := (blk_cell HXg.out 4).trans rfl
          go_wp2_with fail
          clear x_0 x_1 x_2 x_3 x_4
          refine (room_calls g s B1 d1 o2 B2 d2 l2 B3 d3 f2 _ HTX.out _ HRMX.out).mono ?_
          rintro e_ w7 ⟨rfl,hb⟩
          replace HX3 := Aside0.mk (blk_below HX3.out hb)
          replace HB := Aside0.mk (below_step HB.out hb)
          replace HXg := Aside0.mk (blk_below HXg.out hb)
          replace HTX := Aside0.mk (TC_below HTX.out hb)
          replace HCB := Aside0.mk (below_step HCB.out hb)
          clear hb
          have x_0 : w7.cell? ⟨gx,0,none⟩ = some (.int .i64 g) := (blk_cell HXg.out 0).trans rfl
          have x_1 : w7.cell? ⟨gx,1,none⟩ = some (.int .i64 s) := (blk_cell HXg.out 1).trans rfl
          have x_2 : w7.cell? ⟨gx,2,none⟩ = some (.slice B1 o2.length d1) := (blk_cell HXg.out 2).trans rfl
          have x_3 : w7.cell? ⟨gx,3,none⟩ = some (.slice B2 l2.length d2) := (blk_cell HXg.out 3).trans rfl
          have x_4 : w7.cell? ⟨gx,4,none⟩ = some (.slice B3 f2.length d3) := (blk_cell HXg.out 4).trans rfl
          go_wp2_with fail
          clear x_0 x_1 x_2 x_3 x_4
          refine (used_calls 21 g s B1 d1 o2 B2 d2 l2 B3 d3 f2 _ HTX.out _ HUSX.out).mono ?_
          rintro e_ w8 ⟨rfl,hb⟩
          replace HX3 := Aside0.mk (blk_below HX3.out hb)
          replace HB := Aside0.mk (below_step HB.out hb)
          replace HXg := Aside0.mk (blk_below HXg.out hb)
          replace HTX := Aside0.mk (TC_below HTX.out hb)
          replace HCB := Aside0.mk (below_step HCB.out hb)
          clear hb
          have s_0 : w8.cell? ⟨g3,0,none⟩ = some (.int .i64 g) := (blk_cell HX3.out 0).trans rfl
          have s_1 : w8.cell? ⟨g3,1,none⟩ = some (.int .i64 s) := (blk_cell HX3.out 1).trans rfl
          have s_2 : w8.cell? ⟨g3,2,none⟩ = some (.slice Ao o.length co) := (blk_cell HX3.out 2).trans rfl
          have s_3 : w8.cell? ⟨g3,3,none⟩ = some (.slice (some al) l.length cl) := (blk_cell HX3.out 3).trans rfl
          have s_4 : w8.cell? ⟨g3,4,none⟩ = some (.slice Af f.length cf) := (blk_cell HX3.out 4).trans rfl
          go_wp2_with fail
          go_meet
          case rel => exact ⟨rfl,HCB⟩
       case rest =>
        obtain ⟨rfl,hcb⟩ := hcut
        replace HX3 := Aside0.mk (blk_below HX3.out hcb.out)
        replace HB := Aside0.mk (below_step HB.out hcb.out)
        clear hcb hdis
        rename World => wE
        go_upto_region 11 with fail
        as_aux_lemma =>
         go_cut [14,15] from 16 (fun v14 v15 wx => ∃ (gx : Nat) (er : Int) (B1 : Option Addr) (d1 : Nat) (B2 : Option Addr) (d2 : Nat) (B3 : Option Addr) (d3 : Nat) (o2 l2 f2 : List Int),v14 = .pointer (some ⟨gx,0,none⟩) ∧ v15 = .int .i64 er ∧ Aside0 (Below wE.heap.size wE wx) ∧ Aside0 ((er = 1 ∧ ¬ (0 ≤ pl o seg ∧ pl o seg < (o.length : Int) - 1)) ∨ (er = 0 ∧ ((0 ≤ pl o seg ∧ pl o seg < (o.length : Int) - 1)) ∧ RT g s o2 l2 f2 ∧ TC wx B1 d1 o2 B2 d2 l2 B3 d3 f2 ∧ (wx.heap[gx]? = some (.cells #[.int .i64 g,.int .i64 s,.slice B1 o2.length d1,.slice B2 l2.length d2,.slice B3 f2.length d3] 28 (0,0))) ∧ table_Room.f g s o2 l2 f2 = some (p + q + s) ∧ table_Used.f 21 g s o2 l2 f2 = some (u - l.getD (pl o seg).toNat 0) ∧ table_Len.f 21 g s o2 l2 f2 seg = some 0)))
         case first =>
          as_aux_lemma =>
           have s_0 : wE.cell? ⟨g3,0,none⟩ = some (.int .i64 g) := (blk_cell HX3.out 0).trans rfl
           have s_1 : wE.cell? ⟨g3,1,none⟩ = some (.int .i64 s) := (blk_cell HX3.out 1).trans rfl
           have s_2 : wE.cell? ⟨g3,2,none⟩ = some (.slice Ao o.length co) := (blk_cell HX3.out 2).trans rfl
           have s_3 : wE.cell? ⟨g3,3,none⟩ = some (.slice (some al) l.length cl) := (blk_cell HX3.out 3).trans rfl
           have s_4 : wE.cell? ⟨g3,4,none⟩ = some (.slice Af f.length cf) := (blk_cell HX3.out 4).trans rfl
           go_wp2_with fail
           clear s_0 s_1 s_2 s_3 s_4
           by_cases hc : (0 ≤ pl o seg ∧ pl o seg < (o.length : Int) - 1)
           ·refine (drop_yes g s _ _ o _ _ l _ _ f seg _ (TC_below HT.out HB.out) ⟨by have := HFT.out; omega,by have := HFT.out; omega⟩ HFT.out.2.2.2.2.1.1 HFT.out.2.2.2.2.2.1 HFT.out.2.2.2.2.2.2 hc).mono ?_
            rintro e_ w6 ⟨A1,d1,A2,d2,A3,d3,rfl,hr,hb⟩
            have hpt : (pl o seg).toNat + 1 < o.length := by omega
            obtain ⟨o2,ho2⟩ : ∃ y_,y_ = o.eraseIdx (pl o seg).toNat := ⟨_,rfl⟩
            rw [← ho2] at hr ⊢
            obtain ⟨l2,hl2⟩ : ∃ y_,y_ = l.eraseIdx (pl o seg).toNat := ⟨_,rfl⟩
            rw [← hl2] at hr ⊢
            obtain ⟨f2,hf2⟩ : ∃ y_,y_ = f.eraseIdx (pl o seg).toNat := ⟨_,rfl⟩
            rw [← hf2] at hr ⊢
            have HR2 : Aside0 (RT g s o2 l2 f2) := ⟨by rw [ho2,hl2,hf2]; exact HRT.out.drop hpt⟩
            have hll := HFT.out.2.2.2.2.2.1
            have hq1 : Lst l2 = z := by rw [hl2,HZ.out]; exact lst_erase _ _ (by omega)
            have hq2 : l2.sum = u - l.getD (pl o seg).toNat 0 := by rw [hl2,sum_erase _ _ (by omega),← HU.out]
            have hq3 : (o2.length : Int) = o.length - 1 := by rw [ho2,List.length_eraseIdx,if_pos (by omega)]; omega
            have HN2 : Aside0 (table_Room.f g s o2 l2 f2 = some (p + q + s) ∧ table_Used.f 21 g s o2 l2 f2 = some (u - l.getD (pl o seg).toNat 0) ∧ table_Len.f 21 g s o2 l2 f2 seg = some 0) := ⟨by
             refine ⟨?_,by rw [HR2.out.used,hq2],HR2.out.len_out (by rw [ho2]; exact HRT.out.gone hc.1)⟩
             rw [HR2.out.room,hq1,hq3]
             have e1 : s * (g - ((o.length : Int) - 1)) = s * (g - (o.length : Int)) + s := by rw [show g - ((o.length : Int) - 1) = (g - (o.length : Int)) + 1 by omega,Int.mul_add,Int.mul_one]
             have e2 := HQ.out
             have e3 := HP.out
             exact congrArg some (by omega)⟩
            have HT2 := Aside0.mk (TR_TC hr)
            replace HX3 := Aside0.mk (blk_below HX3.out hb)
            replace HB := Aside0.mk (below_step HB.out hb)
            have hcb0 := Aside0.mk hb
            clear hr hb ho2 hl2 hf2 hq1 hq2 hq3 hpt hll
            go_wp2_with ((with_reducible refine gate_dst (N := 14) rfl ?_); refine box_event ?hg (N := 14) ?hd (cs := #[.int .i64 0,.int .i64 0,.slice none 0 0,.slice none 0 0,.slice none 0 0]) (t := 28) ?hr ?_; (case hd => rfl); (case hg => rfl); (case hr => first | (go_simp; done) | (go_simp; rfl)); intro gx hgo w7 hbox hbb; have HBO := Aside0.mk hbox; have HBB := Aside0.mk hbb; have HGO := Aside0.mk hgo; have y0 : w7.cell? ⟨gx,0,none⟩ = some (.int .i64 0) := (blk_cell hbox 0).trans rfl; have y1 : w7.cell? ⟨gx,1,none⟩ = some (.int .i64 0) := (blk_cell hbox 1).trans rfl; have y2 : w7.cell? ⟨gx,2,none⟩ = some (.slice none 0 0) := (blk_cell hbox 2).trans rfl; have y3 : w7.cell? ⟨gx,3,none⟩ = some (.slice none 0 0) := (blk_cell hbox 3).trans rfl; have y4 : w7.cell? ⟨gx,4,none⟩ = some (.slice none 0 0) := (blk_cell hbox 4).trans rfl; have yf0 := blk_frozen hbox 0; have yf1 := blk_frozen hbox 1; have yf2 := blk_frozen hbox 2; have yf3 := blk_frozen hbox 3; have yf4 := blk_frozen hbox 4; clear hbox hbb hgo)
            clear y0 y1 y2 y3 y4 yf0 yf1 yf2 yf3 yf4
            obtain ⟨w8,hW⟩ : ∃ W_,W_ = (((((w7.setCell ⟨gx,0,none⟩ (.int .i64 g)).setCell ⟨gx,1,none⟩ (.int .i64 s)).setCell ⟨gx,2,none⟩ (.slice A1 o2.length d1)).setCell ⟨gx,3,none⟩ (.slice A2 l2.length d2)).setCell ⟨gx,4,none⟩ (.slice A3 f2.length d3)) := ⟨_,rfl⟩
            rw [← hW]
            have h_ : Below w6.heap.size w6 w8 := below5 hW HBB.out (Nat.le_of_eq HGO.out.symm)
            have HXgx := Aside0.mk (set5 hW HBO.out)
            clear hW HBO HBB HGO
            replace HX3 := Aside0.mk (blk_below HX3.out h_)
            replace HB := Aside0.mk (below_step HB.out h_)
            replace hcb0 := Aside0.mk (below_step hcb0.out h_)
            replace HT2 := Aside0.mk (TC_below HT2.out h_)
            clear h_
            go_meet
            case rel => exact ⟨gx,0,A1,d1,A2,d2,A3,d3,o2,l2,f2,rfl,rfl,hcb0,⟨.inr ⟨rfl,hc,HR2.out,HT2.out,HXgx.out,HN2.out⟩⟩⟩
           ·have hpl := pl_lo o seg
            have hw : Calls Try.prog 31 #[.agg #[.int .i64 g,.int .i64 s,.slice Ao o.length co,.slice (some al) l.length cl,.slice Af f.length cf],.int .i64 seg] wE fun e w' => e = .returned (.tuple #[.agg #[.int .i64 0,.int .i64 0,.slice none 0 0,.slice none 0 0,.slice none 0 0],.int .i64 1]) ∧ Below wE.heap.size wE w' := by
             by_cases h1 : pl o seg < 0
             ·exact drop_neg g s _ _ o _ _ l _ _ f seg _ (TC_below HT.out HB.out) ⟨by have := HFT.out; omega,by have := HFT.out; omega⟩ HFT.out.2.2.2.2.1.1 HFT.out.2.2.2.2.2.1 HFT.out.2.2.2.2.2.2 h1
             ·exact drop_last g s _ _ o _ _ l _ _ f seg _ (TC_below HT.out HB.out) ⟨by have := HFT.out; omega,by have := HFT.out; omega⟩ HFT.out.2.2.2.2.1.1 HFT.out.2.2.2.2.2.1 HFT.out.2.2.2.2.2.2 (by omega)
            refine hw.mono ?_
            rintro e_ w6 ⟨rfl,hb⟩
            replace HX3 := Aside0.mk (blk_below HX3.out hb)
            replace HB := Aside0.mk (below_step HB.out hb)
            have hcb0 := Aside0.mk hb
            clear hb hw hpl
            go_wp2_with ((with_reducible refine gate_dst (N := 14) rfl ?_); refine box_event ?hg (N := 14) ?hd (cs := #[.int .i64 0,.int .i64 0,.slice none 0 0,.slice none 0 0,.slice none 0 0]) (t := 28) ?hr ?_; (case hd => rfl); (case hg => rfl); (case hr => first | (go_simp; done) | (go_simp; rfl)); intro gx hgo w7 hbox hbb; have HBO := Aside0.mk hbox; have HBB := Aside0.mk hbb; have HGO := Aside0.mk hgo; have y0 : w7.cell? ⟨gx,0,none⟩ = some (.int .i64 0) := (blk_cell hbox 0).trans rfl; have y1 : w7.cell? ⟨gx,1,none⟩ = some (.int .i64 0) := (blk_cell hbox 1).trans rfl; have y2 : w7.cell? ⟨gx,2,none⟩ = some (.slice none 0 0) := (blk_cell hbox 2).trans rfl; have y3 : w7.cell? ⟨gx,3,none⟩ = some (.slice none 0 0) := (blk_cell hbox 3).trans rfl; have y4 : w7.cell? ⟨gx,4,none⟩ = some (.slice none 0 0) := (blk_cell hbox 4).trans rfl; have yf0 := blk_frozen hbox 0; have yf1 := blk_frozen hbox 1; have yf2 := blk_frozen hbox 2; have yf3 := blk_frozen hbox 3; have yf4 := blk_frozen hbox 4; clear hbox hbb hgo)
            clear y0 y1 y2 y3 y4 yf0 yf1 yf2 yf3 yf4
            obtain ⟨w8,hW⟩ : ∃ W_,W_ = (((((w7.setCell ⟨gx,0,none⟩ (.int .i64 0)).setCell ⟨gx,1,none⟩ (.int .i64 0)).setCell ⟨gx,2,none⟩ (.slice none 0 0)).setCell ⟨gx,3,none⟩ (.slice none 0 0)).setCell ⟨gx,4,none⟩ (.slice none 0 0)) := ⟨_,rfl⟩
            rw [← hW]
            have h_ : Below w6.heap.size w6 w8 := below5 hW HBB.out (Nat.le_of_eq HGO.out.symm)
            have HXgx := Aside0.mk (set5 hW HBO.out)
            clear hW HBO HBB HGO
            replace HX3 := Aside0.mk (blk_below HX3.out h_)
            replace HB := Aside0.mk (below_step HB.out h_)
            replace hcb0 := Aside0.mk (below_step hcb0.out h_)
            clear h_
            go_meet
            case rel => exact ⟨gx,1,none,0,none,0,none,0,[],[],[],rfl,rfl,hcb0,⟨.inl ⟨rfl,hc⟩⟩⟩
         case rest =>
          obtain ⟨gx,er,B1,d1,B2,d2,B3,d3,o2,l2,f2,rfl,rfl,hcb,hdis⟩ := hcut
          replace HX3 := Aside0.mk (blk_below HX3.out hcb.out)
          replace HB := Aside0.mk (below_step HB.out hcb.out)
          clear hcb
          rename World => wF
          go_upto_region 12 with fail
          go_cut [151] from 16 (fun v151 wx => v151 = .bool false ∧ Aside0 (Below wF.heap.size wF wx))
          case first =>
           as_aux_lemma =>
            rcases hdis.out with ⟨rfl,hc⟩ | ⟨rfl,hc,hrt,htc,hxg,hrm,hus,hln⟩
            ·clear hdis
             have HCB := Aside0.mk (Below.refl wF.heap.size wF)
             refine start_ (n := 32) (S := fun w' => True) (ds := []) zo19 (by kernel_rfl) rfl rfl trivial (fun hHeld => ?_)
             refine with_tabW room.tab12 room.bits12 (fun HT_ HW_ => ?_)
             replace HCB := Aside0.mk (below_drew HCB.out)
             generalize wF.drew = wd9 at *
             refine pure_ (i := 0) (N := some 120) (v := ?_) (a' := ?_) zo20 rfl rfl (any_of HT_.out (by kernel_rfl)) (fun _ _ _ h => h) (Or.inl ⟨by rfl,?_⟩) ?_ ?_
             rotate_left
             ·intro w'
              go_simp
              with_reducible rfl
             rotate_left
             ·simp only [Act.put,zoI,zos0,zos1,i64_w,i32_w]
              rfl
             refine pure_ (i := 1) (N := some 121) (v := ?_) (a' := ?_) zo21 rfl rfl (any_of HT_.out (by kernel_rfl)) (fun _ _ _ h => h) (Or.inl ⟨by rfl,?_⟩) ?_ ?_
             rotate_left
             ·intro w'
              go_simp
              with_reducible rfl
             rotate_left
             ·simp only [Act.put,zoI,zos0,zos1,i64_w,i32_w]
              rfl
             refine pure_ (i := 2) (N := some 122) (v := ?_) (a' := ?_) zo22 rfl rfl (any_of HT_.out (by kernel_rfl)) (fun _ _ _ h => h) (Or.inl ⟨by rfl,?_⟩) ?_ ?_
             rotate_left
             ·intro w'
              go_simp
              with_reducible rfl
             rotate_left
             ·simp only [Act.put,zoI,zos0,zos1,i64_w,i32_w]
              rfl
             refine pure_ (i := 3) (N := some 123) (v := undef) (a' := ?_) zo23 rfl rfl (any_of HT_.out (by kernel_rfl)) (fun _ _ _ h => h) (Or.inr ⟨by rfl,rfl⟩) ?_ ?_
             rotate_left
             ·simp only [Act.put,zoI,zos0,zos1,i64_w,i32_w]
              rfl
             refine pure_ (i := 4) (N := some 124) (v := undef) (a' := ?_) zo24 rfl rfl (any_of HT_.out (by kernel_rfl)) (fun _ _ _ h => h) (Or.inr ⟨by rfl,rfl⟩) ?_ ?_
             rotate_left
             ·simp only [Act.put,zoI,zos0,zos1,i64_w,i32_w]
              rfl
             refine pure_ (i := 5) (N := some 125) (v := undef) (a' := ?_) zo25 rfl rfl (any_of HT_.out (by kernel_rfl)) (fun _ _ _ h => h) (Or.inr ⟨by rfl,rfl⟩) ?_ ?_
             rotate_left
             ·simp only [Act.put,zoI,zos0,zos1,i64_w,i32_w]
              rfl
             refine pure_ (i := 6) (N := some 126) (v := undef) (a' := ?_) zo26 rfl rfl (any_of HT_.out (by kernel_rfl)) (fun _ _ _ h => h) (Or.inr ⟨by rfl,rfl⟩) ?_ ?_
             rotate_left
             ·simp only [Act.put,zoI,zos0,zos1,i64_w,i32_w]
              rfl
             refine pure_ (i := 7) (N := some 127) (v := undef) (a' := ?_) zo27 rfl rfl (any_of HT_.out (by kernel_rfl)) (fun _ _ _ h => h) (Or.inr ⟨by rfl,rfl⟩) ?_ ?_
             rotate_left
             ·simp only [Act.put,zoI,zos0,zos1,i64_w,i32_w]
              rfl
             refine pure_ (i := 8) (N := some 128) (v := undef) (a' := ?_) zo28 rfl rfl (any_of HT_.out (by kernel_rfl)) (fun _ _ _ h => h) (Or.inr ⟨by rfl,rfl⟩) ?_ ?_
             rotate_left
             ·simp only [Act.put,zoI,zos0,zos1,i64_w,i32_w]
              rfl
             refine pure_ (i := 9) (N := some 129) (v := undef) (a' := ?_) zo29 rfl rfl (any_of HT_.out (by kernel_rfl)) (fun _ _ _ h => h) (Or.inr ⟨by rfl,rfl⟩) ?_ ?_
             rotate_left
             ·simp only [Act.put,zoI,zos0,zos1,i64_w,i32_w]
              rfl
             refine pure_ (i := 10) (N := some 130) (v := undef) (a' := ?_) zo30 rfl rfl (any_of HT_.out (by kernel_rfl)) (fun _ _ _ h => h) (Or.inr ⟨by rfl,rfl⟩) ?_ ?_
             rotate_left
             ·simp only [Act.put,zoI,zos0,zos1,i64_w,i32_w]
              rfl
             refine pure_ (i := 11) (N := some 131) (v := undef) (a' := ?_) zo31 rfl rfl (any_of HT_.out (by kernel_rfl)) (fun _ _ _ h => h) (Or.inr ⟨by rfl,rfl⟩) ?_ ?_
             rotate_left
             ·simp only [Act.put,zoI,zos0,zos1,i64_w,i32_w]
              rfl
             refine pure_ (i := 12) (N := some 132) (v := undef) (a' := ?_) zo32 rfl rfl (any_of HT_.out (by kernel_rfl)) (fun _ _ _ h => h) (Or.inr ⟨by rfl,rfl⟩) ?_ ?_
             rotate_left
             ·simp only [Act.put,zoI,zos0,zos1,i64_w,i32_w]
              rfl
             refine pure_ (i := 13) (N := some 133) (v := undef) (a' := ?_) zo33 rfl rfl (any_of HT_.out (by kernel_rfl)) (fun _ _ _ h => h) (Or.inr ⟨by rfl,rfl⟩) ?_ ?_
             rotate_left
             ·simp only [Act.put,zoI,zos0,zos1,i64_w,i32_w]
              rfl
             refine pure_ (i := 14) (N := some 134) (v := undef) (a' := ?_) zo34 rfl rfl (any_of HT_.out (by kernel_rfl)) (fun _ _ _ h => h) (Or.inr ⟨by rfl,rfl⟩) ?_ ?_
             rotate_left
             ·simp only [Act.put,zoI,zos0,zos1,i64_w,i32_w]
              rfl
             refine pure_ (i := 15) (N := some 135) (v := undef) (a' := ?_) zo35 rfl rfl (any_of HT_.out (by kernel_rfl)) (fun _ _ _ h => h) (Or.inr ⟨by rfl,rfl⟩) ?_ ?_
             rotate_left
             ·simp only [Act.put,zoI,zos0,zos1,i64_w,i32_w]
              rfl
             refine pure_ (i := 16) (N := some 136) (v := undef) (a' := ?_) zo36 rfl rfl (any_of HT_.out (by kernel_rfl)) (fun _ _ _ h => h) (Or.inr ⟨by rfl,rfl⟩) ?_ ?_
             rotate_left
             ·simp only [Act.put,zoI,zos0,zos1,i64_w,i32_w]
              rfl
             refine pure_ (i := 17) (N := some 137) (v := undef) (a' := ?_) zo37 rfl rfl (any_of HT_.out (by kernel_rfl)) (fun _ _ _ h => h) (Or.inr ⟨by rfl,rfl⟩) ?_ ?_
             rotate_left
             ·simp only [Act.put,zoI,zos0,zos1,i64_w,i32_w]
              rfl
             refine pure_ (i := 18) (N := some 138) (v := undef) (a' := ?_) zo38 rfl rfl (any_of HT_.out (by kernel_rfl)) (fun _ _ _ h => h) (Or.inr ⟨by rfl,rfl⟩) ?_ ?_
             rotate_left
             ·simp only [Act.put,zoI,zos0,zos1,i64_w,i32_w]
              rfl
             refine pure_ (i := 19) (N := some 139) (v := undef) (a' := ?_) zo39 rfl rfl (any_of HT_.out (by kernel_rfl)) (fun _ _ _ h => h) (Or.inr ⟨by rfl,rfl⟩) ?_ ?_
             rotate_left
             ·simp only [Act.put,zoI,zos0,zos1,i64_w,i32_w]
              rfl
             refine pure_ (i := 20) (N := some 140) (v := undef) (a' := ?_) zo40 rfl rfl (any_of HT_.out (by kernel_rfl)) (fun _ _ _ h => h) (Or.inr ⟨by rfl,rfl⟩) ?_ ?_
             rotate_left
             ·simp only [Act.put,zoI,zos0,zos1,i64_w,i32_w]
              rfl
             refine pure_ (i := 21) (N := some 141) (v := undef) (a' := ?_) zo41 rfl rfl (any_of HT_.out (by kernel_rfl)) (fun _ _ _ h => h) (Or.inr ⟨by rfl,rfl⟩) ?_ ?_
             rotate_left
             ·simp only [Act.put,zoI,zos0,zos1,i64_w,i32_w]
              rfl
             refine pure_ (i := 22) (N := some 142) (v := undef) (a' := ?_) zo42 rfl rfl (any_of HT_.out (by kernel_rfl)) (fun _ _ _ h => h) (Or.inr ⟨by rfl,rfl⟩) ?_ ?_
             rotate_left
             ·simp only [Act.put,zoI,zos0,zos1,i64_w,i32_w]
              rfl
             refine pure_ (i := 23) (N := some 143) (v := undef) (a' := ?_) zo43 rfl rfl (any_of HT_.out (by kernel_rfl)) (fun _ _ _ h => h) (Or.inr ⟨by rfl,rfl⟩) ?_ ?_
             rotate_left
             ·simp only [Act.put,zoI,zos0,zos1,i64_w,i32_w]
              rfl
             refine pure_ (i := 24) (N := some 144) (v := undef) (a' := ?_) zo44 rfl rfl (any_of HT_.out (by kernel_rfl)) (fun _ _ _ h => h) (Or.inr ⟨by rfl,rfl⟩) ?_ ?_
             rotate_left
             ·simp only [Act.put,zoI,zos0,zos1,i64_w,i32_w]
              rfl
             refine pure_ (i := 25) (N := some 145) (v := undef) (a' := ?_) zo45 rfl rfl (any_of HT_.out (by kernel_rfl)) (fun _ _ _ h => h) (Or.inr ⟨by rfl,rfl⟩) ?_ ?_
             rotate_left
             ·simp only [Act.put,zoI,zos0,zos1,i64_w,i32_w]
              rfl
             refine pure_ (i := 26) (N := some 146) (v := undef) (a' := ?_) zo46 rfl rfl (any_of HT_.out (by kernel_rfl)) (fun _ _ _ h => h) (Or.inr ⟨by rfl,rfl⟩) ?_ ?_
             rotate_left
             ·simp only [Act.put,zoI,zos0,zos1,i64_w,i32_w]
              rfl
             refine pure_ (i := 27) (N := some 147) (v := undef) (a' := ?_) zo47 rfl rfl (any_of HT_.out (by kernel_rfl)) (fun _ _ _ h => h) (Or.inr ⟨by rfl,rfl⟩) ?_ ?_
             rotate_left
             ·simp only [Act.put,zoI,zos0,zos1,i64_w,i32_w]
              rfl
             refine pure_ (i := 28) (N := some 148) (v := undef) (a' := ?_) zo48 rfl rfl (any_of HT_.out (by kernel_rfl)) (fun _ _ _ h => h) (Or.inr ⟨by rfl,rfl⟩) ?_ ?_
             rotate_left
             ·simp only [Act.put,zoI,zos0,zos1,i64_w,i32_w]
              rfl
             refine pure_ (i := 29) (N := some 149) (v := undef) (a' := ?_) zo49 rfl rfl (any_of HT_.out (by kernel_rfl)) (fun _ _ _ h => h) (Or.inr ⟨by rfl,rfl⟩) ?_ ?_
             rotate_left
             ·simp only [Act.put,zoI,zos0,zos1,i64_w,i32_w]
              rfl
             refine pure_ (i := 30) (N := some 150) (v := undef) (a' := ?_) zo50 rfl rfl (any_of HT_.out (by kernel_rfl)) (fun _ _ _ h => h) (Or.inr ⟨by rfl,rfl⟩) ?_ ?_
             rotate_left
             ·simp only [Act.put,zoI,zos0,zos1,i64_w,i32_w]
              rfl
             refine pure_ (i := 31) (N := some 151) (v := ?_) (a' := ?_) zo51 rfl rfl (any_of HT_.out (by kernel_rfl)) (fun _ _ _ h => h) (Or.inl ⟨by rfl,?_⟩) ?_ ?_
             rotate_left
             ·intro w'
              go_simp
              with_reducible rfl
             rotate_left
             ·simp only [Act.put,zoI,zos0,zos1,i64_w,i32_w]
              rfl
             refine done_ (done_of HT_.out (by kernel_rfl)) ?_
             clear HT_ HW_ hHeld
             go_wp2_with fail
             go_meet
             case rel => exact ⟨rfl,HCB⟩
            ·have HRX := Aside0.mk hrt
             have HTX := Aside0.mk htc
             have HXg := Aside0.mk hxg
             have HRMX := Aside0.mk hrm
             have HUSX := Aside0.mk hus
             have HLNX := Aside0.mk hln
             have HCB := Aside0.mk (Below.refl wF.heap.size wF)
             obtain ⟨y,hy⟩ : ∃ y,y = l.getD (pl o seg).toNat 0 := ⟨_,rfl⟩
             have HLT : Aside0 (table_Len.f 21 g s o l f seg = some y) := ⟨by rw [hy]; exact HRT.out.len_in hc.1⟩
             rw [← hy] at HUSX
             have hyb : 0 ≤ y ∧ y ≤ s := by rw [hy]; exact HRT.out.rl _ (getD_mem (by have := HFT.out; omega))
             have hwa0 : p + q + s ≤ 9223372036854775807 := by have := HFT.out; have := HP.out; omega
             have hwb0 : -9223372036854775808 ≤ p + q + s := by have := HFT.out; have := HP.out; omega
             have hwc0 : IntKind.i64.wrap (p + q + s) = p + q + s := by rw [i64_w]; unfold wrap64; omega
             have hwa1 : u - y ≤ 9223372036854775807 := by have := HFT.out; have := HP.out; omega
             have hwb1 : -9223372036854775808 ≤ u - y := by have := HFT.out; have := HP.out; omega
             have hwc1 : IntKind.i64.wrap (u - y) = u - y := by rw [i64_w]; unfold wrap64; omega
             clear hdis hrt htc hxg hrm hus hln hy hyb hc
             refine start_ (n := 32) (S := fun w' => w'.cell? ⟨gx,0,none⟩ = some (.int .i64 g) ∧ w'.cell? ⟨gx,1,none⟩ = some (.int .i64 s) ∧ w'.cell? ⟨gx,2,none⟩ = some (.slice B1 o2.length d1) ∧ w'.cell? ⟨gx,3,none⟩ = some (.slice B2 l2.length d2) ∧ w'.cell? ⟨gx,4,none⟩ = some (.slice B3 f2.length d3) ∧ w'.cell? ⟨g3,0,none⟩ = some (.int .i64 g) ∧ w'.cell? ⟨g3,1,none⟩ = some (.int .i64 s) ∧ w'.cell? ⟨g3,2,none⟩ = some (.slice Ao o.length co) ∧ w'.cell? ⟨g3,3,none⟩ = some (.slice (some al) l.length cl) ∧ w'.cell? ⟨g3,4,none⟩ = some (.slice Af f.length cf)) (ds := []) zo19 (by kernel_rfl) rfl rfl ⟨((blk_cell (blk_drew HXg.out) 0).trans rfl),((blk_cell (blk_drew HXg.out) 1).trans rfl),((blk_cell (blk_drew HXg.out) 2).trans rfl),((blk_cell (blk_drew HXg.out) 3).trans rfl),((blk_cell (blk_drew HXg.out) 4).trans rfl),((blk_cell (blk_drew HX3.out) 0).trans rfl),((blk_cell (blk_drew HX3.out) 1).trans rfl),((blk_cell (blk_drew HX3.out) 2).trans rfl),((blk_cell (blk_drew HX3.out) 3).trans rfl),((blk_cell (blk_drew HX3.out) 4).trans rfl)⟩ (fun hHeld => ?_)
             refine with_tabW room.tab12 room.bits12 (fun HT_ HW_ => ?_)
             replace HXg := Aside0.mk (blk_drew HXg.out)
             replace HX3 := Aside0.mk (blk_drew HX3.out)
             replace HTX := Aside0.mk (TC_below HTX.out (below_drew (Below.refl _ _)))
             replace HB := Aside0.mk (below_drew HB.out)
             replace HCB := Aside0.mk (below_drew HCB.out)
             generalize wF.drew = wd9 at *
             refine pure_ (i := 0) (N := some 120) (v := ?_) (a' := ?_) zo20 rfl rfl (any_of HT_.out (by kernel_rfl)) (fun _ _ _ h => h) (Or.inl ⟨by rfl,?_⟩) ?_ ?_
             rotate_left
             ·intro w'
              go_simp
              with_reducible rfl
             rotate_left
             ·simp only [Act.put,zoI,zos0,zos1,i64_w,i32_w]
              rfl
             refine pure_ (i := 1) (N := some 121) (v := ?_) (a' := ?_) zo21 rfl rfl (any_of HT_.out (by kernel_rfl)) (fun _ _ _ h => h) (Or.inl ⟨by rfl,?_⟩) ?_ ?_
             rotate_left
             ·intro w'
              go_simp
              with_reducible rfl
             rotate_left
             ·simp only [Act.put,zoI,zos0,zos1,i64_w,i32_w]
              rfl
             refine pure_ (i := 2) (N := some 122) (v := ?_) (a' := ?_) zo22 rfl rfl (any_of HT_.out (by kernel_rfl)) (fun _ _ _ h => h) (Or.inl ⟨by rfl,?_⟩) ?_ ?_
             rotate_left
             ·intro w'
              go_simp
              with_reducible rfl
             rotate_left
             ·simp only [Act.put,zoI,zos0,zos1,i64_w,i32_w]
              rfl
             refine take_ (i := 3) (N := some 123) (v := ?_) (a' := ?_) zo23 rfl rfl (take_ofW HT_.out HW_.out (by kernel_rfl)) (fun _ _ _ h => h) (Or.inl ⟨by rfl,?_⟩) hHeld ?_ ?_
             rotate_left
             ·rintro w' ⟨s0,s1,s2,s3,s4,s5,s6,s7,s8,s9⟩
              go_simp
              with_reducible rfl
             rotate_left
             ·simp only [Act.put,zoI,zos0,zos1,i64_w,i32_w]
              rfl
             refine one_ (i := 4) (N := some 124) zo24 rfl rfl (one_of HT_.out (by kernel_rfl)) (by decide) (fun K hK => ?_)
             refine goes_ Try.func13 (by kernel_rfl) rfl #[.agg #[.int .i64 g,.int .i64 s,.slice B1 o2.length d1,.slice B2 l2.length d2,.slice B3 f2.length d3]] (by rfl) rfl rfl (by simp only [List.map_toArray,List.map_cons,List.map_nil]; rfl) ?_
             with_reducible refine (right_calls g s B1 d1 o2 B2 d2 l2 B3 d3 f2 _ HTX.out (by have := HRX.out.len; have := HRX.out.may; omega)).mono ?_
             rintro e_ w6 ⟨he,hb⟩
             have he2 : e_ = .returned (.bool true) := he.trans (congrArg (fun b_ => Ending.returned (.bool b_)) (rt_iff.2 HRX.out))
             subst he2
             clear he
             refine ⟨_,rfl,?_⟩
             replace HX3 := Aside0.mk (blk_below HX3.out hb)
             replace HB := Aside0.mk (below_step HB.out hb)
             replace HXg := Aside0.mk (blk_below HXg.out hb)
             replace HTX := Aside0.mk (TC_below HTX.out hb)
             replace HCB := Aside0.mk (below_step HCB.out hb)
             clear hb
             refine hK.out _ _ ⟨((blk_cell HXg.out 0).trans rfl),((blk_cell HXg.out 1).trans rfl),((blk_cell HXg.out 2).trans rfl),((blk_cell HXg.out 3).trans rfl),((blk_cell HXg.out 4).trans rfl),((blk_cell HX3.out 0).trans rfl),((blk_cell HX3.out 1).trans rfl),((blk_cell HX3.out 2).trans rfl),((blk_cell HX3.out 3).trans rfl),((blk_cell HX3.out 4).trans rfl)⟩ (fun hHeld => ?_)
             clear hK K
             refine norm_ (a' := ?_) ?_ ?_
             rotate_left
             ·show Act.put _ (some 124) _ = _
              simp only [Act.put,zoI,zos0,zos1,i64_w,i32_w]
              rfl
             refine pure_ (i := 5) (N := some 125) (v := ?_) (a' := ?_) zo25 rfl rfl (any_of HT_.out (by kernel_rfl)) (fun _ _ _ h => h) (Or.inl ⟨by rfl,?_⟩) ?_ ?_
             rotate_left
             ·intro w'
              go_simp
              with_reducible rfl
             rotate_left
             ·simp only [Act.put,zoI,zos0,zos1,i64_w,i32_w]
              rfl
             refine pure_ (i := 6) (N := some 126) (v := ?_) (a' := ?_) zo26 rfl rfl (any_of HT_.out (by kernel_rfl)) (fun _ _ _ h => h) (Or.inl ⟨by rfl,?_⟩) ?_ ?_
             rotate_left
             ·intro w'
              go_simp
              with_reducible rfl
             rotate_left
             ·simp only [Act.put,zoI,zos0,zos1,i64_w,i32_w]
              rfl
             refine pure_ (i := 9) (N := some 129) (v := ?_) (a' := ?_) zo52 rfl rfl (any_of HT_.out (by kernel_rfl)) (fun _ _ _ h => h) (Or.inl ⟨by rfl,?_⟩) ?_ ?_
             rotate_left
             ·intro w'
              go_simp
              with_reducible rfl
             rotate_left
             ·simp only [Act.put,zoI,zos0,zos1,i64_w,i32_w]
              rfl
             refine pure_ (i := 10) (N := some 130) (v := ?_) (a' := ?_) zo53 rfl rfl (any_of HT_.out (by kernel_rfl)) (fun _ _ _ h => h) (Or.inl ⟨by rfl,?_⟩) ?_ ?_
             rotate_left
             ·intro w'
              go_simp
              with_reducible rfl
             rotate_left
             ·simp only [Act.put,zoI,zos0,zos1,i64_w,i32_w]
              rfl
             refine take_ (i := 7) (N := some 127) (v := ?_) (a' := ?_) zo54 rfl rfl (take_ofW HT_.out HW_.out (by kernel_rfl)) (fun _ _ _ h => h) (Or.inl ⟨by rfl,?_⟩) hHeld ?_ ?_
             rotate_left
             ·rintro w' ⟨s0,s1,s2,s3,s4,s5,s6,s7,s8,s9⟩
              go_simp
              with_reducible rfl
             rotate_left
             ·simp only [Act.put,zoI,zos0,zos1,i64_w,i32_w]
              rfl
             refine take_ (i := 11) (N := some 131) (v := ?_) (a' := ?_) zo55 rfl rfl (take_ofW HT_.out HW_.out (by kernel_rfl)) (fun _ _ _ h => h) (Or.inl ⟨by rfl,?_⟩) hHeld ?_ ?_
             rotate_left
             ·rintro w' ⟨s0,s1,s2,s3,s4,s5,s6,s7,s8,s9⟩
              go_simp
              with_reducible rfl
             rotate_left
             ·simp only [Act.put,zoI,zos0,zos1,i64_w,i32_w]
              rfl
             refine pure_ (i := 12) (N := some 132) (v := ?_) (a' := ?_) zo56 rfl rfl (any_of HT_.out (by kernel_rfl)) (fun _ _ _ h => h) (Or.inl ⟨by rfl,?_⟩) ?_ ?_
             rotate_left
             ·intro w'
              go_simp
              with_reducible rfl
             rotate_left
             ·simp only [Act.put,zoI,zos0,zos1,i64_w,i32_w]
              rfl
             refine one_ (i := 8) (N := some 128) zo32 rfl rfl (one_of HT_.out (by kernel_rfl)) (by decide) (fun K hK => ?_)
             refine goes_ Try.func19 (by kernel_rfl) rfl #[.agg #[.int .i64 g,.int .i64 s,.slice B1 o2.length d1,.slice B2 l2.length d2,.slice B3 f2.length d3]] (by rfl) rfl rfl (by simp only [List.map_toArray,List.map_cons,List.map_nil]; rfl) ?_
             with_reducible refine (room_calls g s B1 d1 o2 B2 d2 l2 B3 d3 f2 _ HTX.out _ HRMX.out).mono ?_
             rintro e_ w7 ⟨rfl,hb⟩
             refine ⟨_,rfl,?_⟩
             replace HX3 := Aside0.mk (blk_below HX3.out hb)
             replace HB := Aside0.mk (below_step HB.out hb)
             replace HXg := Aside0.mk (blk_below HXg.out hb)
             replace HTX := Aside0.mk (TC_below HTX.out hb)
             replace HCB := Aside0.mk (below_step HCB.out hb)
             clear hb
             refine hK.out _ _ ⟨((blk_cell HXg.out 0).trans rfl),((blk_cell HXg.out 1).trans rfl),((blk_cell HXg.out 2).trans rfl),((blk_cell HXg.out 3).trans rfl),((blk_cell HXg.out 4).trans rfl),((blk_cell HX3.out 0).trans rfl),((blk_cell HX3.out 1).trans rfl),((blk_cell HX3.out 2).trans rfl),((blk_cell HX3.out 3).trans rfl),((blk_cell HX3.out 4).trans rfl)⟩ (fun hHeld => ?_)
             clear hK K
             refine norm_ (a' := ?_) ?_ ?_
             rotate_left
             ·show Act.put _ (some 128) _ = _
              simp only [Act.put,zoI,zos0,zos1,i64_w,i32_w]
              rfl
             refine pure_ (i := 13) (N := some 133) (v := ?_) (a' := ?_) zo33 rfl rfl (any_of HT_.out (by kernel_rfl)) (fun _ _ _ h => h) (Or.inl ⟨by rfl,?_⟩) ?_ ?_
             rotate_left
             ·intro w'
              go_simp
              with_reducible rfl
             rotate_left
             ·simp only [Act.put,zoI,zos0,zos1,i64_w,i32_w]
              rfl
             refine pure_ (i := 14) (N := some 134) (v := ?_) (a' := ?_) zo34 rfl rfl (any_of HT_.out (by kernel_rfl)) (fun _ _ _ h => h) (Or.inl ⟨by rfl,?_⟩) ?_ ?_
             rotate_left
             ·intro w'
              go_simp
              with_reducible rfl
             rotate_left
             ·simp only [Act.put,zoI,zos0,zos1,i64_w,i32_w]
              rfl
             refine pure_ (i := 15) (N := some 135) (v := ?_) (a' := ?_) zo35 rfl rfl (any_of HT_.out (by kernel_rfl)) (fun _ _ _ h => h) (Or.inl ⟨by rfl,?_⟩) ?_ ?_
             rotate_left
             ·intro w'
              go_simp
              with_reducible rfl
             rotate_left
             ·simp only [Act.put,zoI,zos0,zos1,i64_w,i32_w]
              rfl
             refine pure_ (i := 18) (N := some 138) (v := ?_) (a' := ?_) zo57 rfl rfl (any_of HT_.out (by kernel_rfl)) (fun _ _ _ h => h) (Or.inl ⟨by rfl,?_⟩) ?_ ?_
             rotate_left
             ·intro w'
              go_simp
              with_reducible rfl
             rotate_left
             ·simp only [Act.put,zoI,zos0,zos1,i64_w,i32_w]
              rfl
             refine pure_ (i := 20) (N := some 140) (v := ?_) (a' := ?_) zo58 rfl rfl (any_of HT_.out (by kernel_rfl)) (fun _ _ _ h => h) (Or.inl ⟨by rfl,?_⟩) ?_ ?_
             rotate_left
             ·intro w'
              go_simp
              with_reducible rfl
             rotate_left
             ·simp only [Act.put,zoI,zos0,zos1,i64_w,i32_w]
              rfl
             refine take_ (i := 16) (N := some 136) (v := ?_) (a' := ?_) zo59 rfl rfl (take_ofW HT_.out HW_.out (by kernel_rfl)) (fun _ _ _ h => h) (Or.inl ⟨by rfl,?_⟩) hHeld ?_ ?_
             rotate_left
             ·rintro w' ⟨s0,s1,s2,s3,s4,s5,s6,s7,s8,s9⟩
              go_simp
              with_reducible rfl
             rotate_left
             ·simp only [Act.put,zoI,zos0,zos1,i64_w,i32_w]
              rfl
             refine take_ (i := 19) (N := some 139) (v := ?_) (a' := ?_) zo60 rfl rfl (take_ofW HT_.out HW_.out (by kernel_rfl)) (fun _ _ _ h => h) (Or.inl ⟨by rfl,?_⟩) hHeld ?_ ?_
             rotate_left
             ·rintro w' ⟨s0,s1,s2,s3,s4,s5,s6,s7,s8,s9⟩
              go_simp
              with_reducible rfl
             rotate_left
             ·simp only [Act.put,zoI,zos0,zos1,i64_w,i32_w]
              rfl
             refine one_ (i := 17) (N := some 137) zo40 rfl rfl (one_of HT_.out (by kernel_rfl)) (by decide) (fun K hK => ?_)
             refine goes_ Try.func21 (by kernel_rfl) rfl #[.agg #[.int .i64 g,.int .i64 s,.slice B1 o2.length d1,.slice B2 l2.length d2,.slice B3 f2.length d3]] (by rfl) rfl rfl (by simp only [List.map_toArray,List.map_cons,List.map_nil]; rfl) ?_
             with_reducible refine (used_calls 21 g s B1 d1 o2 B2 d2 l2 B3 d3 f2 _ HTX.out _ HUSX.out).mono ?_
             rintro e_ w8 ⟨rfl,hb⟩
             refine ⟨_,rfl,?_⟩
             replace HX3 := Aside0.mk (blk_below HX3.out hb)
             replace HB := Aside0.mk (below_step HB.out hb)
             replace HXg := Aside0.mk (blk_below HXg.out hb)
             replace HTX := Aside0.mk (TC_below HTX.out hb)
             replace HCB := Aside0.mk (below_step HCB.out hb)
             clear hb
             refine hK.out _ _ ⟨((blk_cell HXg.out 0).trans rfl),((blk_cell HXg.out 1).trans rfl),((blk_cell HXg.out 2).trans rfl),((blk_cell HXg.out 3).trans rfl),((blk_cell HXg.out 4).trans rfl),((blk_cell HX3.out 0).trans rfl),((blk_cell HX3.out 1).trans rfl),((blk_cell HX3.out 2).trans rfl),((blk_cell HX3.out 3).trans rfl),((blk_cell HX3.out 4).trans rfl)⟩ (fun hHeld => ?_)
             clear hK K
             refine norm_ (a' := ?_) ?_ ?_
             rotate_left
             ·show Act.put _ (some 137) _ = _
              simp only [Act.put,zoI,zos0,zos1,i64_w,i32_w]
              rfl
             refine one_ (i := 21) (N := some 141) zo41 rfl rfl (one_of HT_.out (by kernel_rfl)) (by decide) (fun K hK => ?_)
             refine goes_ Try.func23 (by kernel_rfl) rfl #[.agg #[.int .i64 g,.int .i64 s,.slice Ao o.length co,.slice (some al) l.length cl,.slice Af f.length cf],.int .i64 seg] (by rfl) rfl rfl (by simp only [List.map_toArray,List.map_cons,List.map_nil]; rfl) ?_
             with_reducible refine (len_calls 21 g s _ _ o _ _ l _ _ f seg _ (TC_below HT.out HB.out) _ HLT.out).mono ?_
             rintro e_ w9 ⟨rfl,hb⟩
             refine ⟨_,rfl,?_⟩
             replace HX3 := Aside0.mk (blk_below HX3.out hb)
             replace HB := Aside0.mk (below_step HB.out hb)
             replace HXg := Aside0.mk (blk_below HXg.out hb)
             replace HTX := Aside0.mk (TC_below HTX.out hb)
             replace HCB := Aside0.mk (below_step HCB.out hb)
             clear hb
             refine hK.out _ _ ⟨((blk_cell HXg.out 0).trans rfl),((blk_cell HXg.out 1).trans rfl),((blk_cell HXg.out 2).trans rfl),((blk_cell HXg.out 3).trans rfl),((blk_cell HXg.out 4).trans rfl),((blk_cell HX3.out 0).trans rfl),((blk_cell HX3.out 1).trans rfl),((blk_cell HX3.out 2).trans rfl),((blk_cell HX3.out 3).trans rfl),((blk_cell HX3.out 4).trans rfl)⟩ (fun hHeld => ?_)
             clear hK K
             refine norm_ (a' := ?_) ?_ ?_
             rotate_left
             ·show Act.put _ (some 141) _ = _
              simp only [Act.put,zoI,zos0,zos1,i64_w,i32_w]
              rfl
             refine pure_ (i := 22) (N := some 142) (v := ?_) (a' := ?_) zo42 rfl rfl (any_of HT_.out (by kernel_rfl)) (fun _ _ _ h => h) (Or.inl ⟨by rfl,?_⟩) ?_ ?_
             rotate_left
             ·intro w'
              go_simp
              with_reducible rfl
             rotate_left
             ·simp only [Act.put,zoI,zos0,zos1,i64_w,i32_w]
              rfl
             refine pure_ (i := 23) (N := some 143) (v := ?_) (a' := ?_) zo43 rfl rfl (any_of HT_.out (by kernel_rfl)) (fun _ _ _ h => h) (Or.inl ⟨by rfl,?_⟩) ?_ ?_
             rotate_left
             ·intro w'
              go_simp
              with_reducible rfl
             rotate_left
             ·simp only [Act.put,zoI,zos0,zos1,i64_w,i32_w]
              rfl
             refine pure_ (i := 24) (N := some 144) (v := ?_) (a' := ?_) zo44 rfl rfl (any_of HT_.out (by kernel_rfl)) (fun _ _ _ h => h) (Or.inl ⟨by rfl,?_⟩) ?_ ?_
             rotate_left
             ·intro w'
              go_simp
              with_reducible rfl
             rotate_left
             ·simp only [Act.put,zoI,zos0,zos1,i64_w,i32_w]
              rfl
             refine pure_ (i := 25) (N := some 145) (v := ?_) (a' := ?_) zo45 rfl rfl (any_of HT_.out (by kernel_rfl)) (fun _ _ _ h => h) (Or.inl ⟨by rfl,?_⟩) ?_ ?_
             rotate_left
             ·intro w'
              go_simp
              with_reducible rfl
             rotate_left
             ·simp only [Act.put,zoI,zos0,zos1,i64_w,i32_w]
              rfl
             refine pure_ (i := 27) (N := some 147) (v := ?_) (a' := ?_) zo61 rfl rfl (any_of HT_.out (by kernel_rfl)) (fun _ _ _ h => h) (Or.inl ⟨by rfl,?_⟩) ?_ ?_
             rotate_left
             ·intro w'
              go_simp
              with_reducible rfl
             rotate_left
             ·simp only [Act.put,zoI,zos0,zos1,i64_w,i32_w]
              rfl
             refine take_ (i := 26) (N := some 146) (v := ?_) (a' := ?_) zo47 rfl rfl (take_ofW HT_.out HW_.out (by kernel_rfl)) (fun _ _ _ h => h) (Or.inl ⟨by rfl,?_⟩) hHeld ?_ ?_
             rotate_left
             ·rintro w' ⟨s0,s1,s2,s3,s4,s5,s6,s7,s8,s9⟩
              go_simp
              with_reducible rfl
             rotate_left
             ·simp only [Act.put,zoI,zos0,zos1,i64_w,i32_w]
              rfl
             refine one_ (i := 28) (N := some 148) zo48 rfl rfl (one_of HT_.out (by kernel_rfl)) (by decide) (fun K hK => ?_)
             refine goes_ Try.func23 (by kernel_rfl) rfl #[.agg #[.int .i64 g,.int .i64 s,.slice B1 o2.length d1,.slice B2 l2.length d2,.slice B3 f2.length d3],.int .i64 seg] (by rfl) rfl rfl (by simp only [List.map_toArray,List.map_cons,List.map_nil]; rfl) ?_
             with_reducible refine (len_calls 21 g s B1 d1 o2 B2 d2 l2 B3 d3 f2 seg _ HTX.out _ HLNX.out).mono ?_
             rintro e_ wt ⟨rfl,hb⟩
             refine ⟨_,rfl,?_⟩
             replace HX3 := Aside0.mk (blk_below HX3.out hb)
             replace HB := Aside0.mk (below_step HB.out hb)
             replace HXg := Aside0.mk (blk_below HXg.out hb)
             replace HTX := Aside0.mk (TC_below HTX.out hb)
             replace HCB := Aside0.mk (below_step HCB.out hb)
             clear hb
             refine hK.out _ _ ⟨((blk_cell HXg.out 0).trans rfl),((blk_cell HXg.out 1).trans rfl),((blk_cell HXg.out 2).trans rfl),((blk_cell HXg.out 3).trans rfl),((blk_cell HXg.out 4).trans rfl),((blk_cell HX3.out 0).trans rfl),((blk_cell HX3.out 1).trans rfl),((blk_cell HX3.out 2).trans rfl),((blk_cell HX3.out 3).trans rfl),((blk_cell HX3.out 4).trans rfl)⟩ (fun hHeld => ?_)
             clear hK K
             refine norm_ (a' := ?_) ?_ ?_
             rotate_left
             ·show Act.put _ (some 148) _ = _
              simp only [Act.put,zoI,zos0,zos1,i64_w,i32_w]
              rfl
             refine pure_ (i := 29) (N := some 149) (v := ?_) (a' := ?_) zo49 rfl rfl (any_of HT_.out (by kernel_rfl)) (fun _ _ _ h => h) (Or.inl ⟨by rfl,?_⟩) ?_ ?_
             rotate_left
             ·intro w'
              go_simp
              with_reducible rfl
             rotate_left
             ·simp only [Act.put,zoI,zos0,zos1,i64_w,i32_w]
              rfl
             refine pure_ (i := 30) (N := some 150) (v := ?_) (a' := ?_) zo50 rfl rfl (any_of HT_.out (by kernel_rfl)) (fun _ _ _ h => h) (Or.inl ⟨by rfl,?_⟩) ?_ ?_
             rotate_left
             ·intro w'
              go_simp
              with_reducible rfl
             rotate_left
             ·simp only [Act.put,zoI,zos0,zos1,i64_w,i32_w]
              rfl
             refine pure_ (i := 31) (N := some 151) (v := ?_) (a' := ?_) zo51 rfl rfl (any_of HT_.out (by kernel_rfl)) (fun _ _ _ h => h) (Or.inl ⟨by rfl,?_⟩) ?_ ?_
             rotate_left
             ·intro w'
              go_simp
              with_reducible rfl
             rotate_left
             ·simp only [Act.put,zoI,zos0,zos1,i64_w,i32_w]
              rfl
             refine done_ (done_of HT_.out (by kernel_rfl)) ?_
             clear HT_ HW_ hHeld
             go_wp2_with fail
             go_meet
             case rel => exact ⟨rfl,HCB⟩
          case rest =>
           obtain ⟨rfl,hcb⟩ := hcut
           replace HX3 := Aside0.mk (blk_below HX3.out hcb.out)
           replace HB := Aside0.mk (below_step HB.out hcb.out)
           clear hcb hdis
           rename World => wG
           go_upto_region 14 with fail
           obtain ⟨gg,hgg⟩ : ∃ y_,g * s = y_ := ⟨_,rfl⟩
           have hgb : 0 ≤ gg ∧ gg ≤ 480 := by rw [← hgg,Int.mul_comm]; exact mul_fit (by have := HFT.out; omega) (by have := HFT.out; omega)
           have hg1 : IntKind.i64.wrap gg = gg := by rw [i64_w]; unfold wrap64; omega
           have hg2 : IntKind.i64.wrap (p + q + u) = p + q + u := by rw [i64_w]; unfold wrap64; have := HFT.out; have := HP.out; omega
           have hg3 : decide (p + q + u ≤ gg) = true := decide_eq_true (by have h := HRT.out.all; rw [← HZ.out,← HQ.out,← HU.out,← HP.out,hgg] at h; exact h)
           obtain ⟨fr,hfr⟩ : ∃ y_,y_ = frk g.toNat o := ⟨_,rfl⟩
           have HFR := Aside0.mk hfr
           have hfl : (fr.length : Int) + (o.length : Int) = g := by rw [hfr]; have := HRT.out.free; have := HFT.out; omega
           have hfl2 : IntKind.i64.wrap g = g := by rw [i64_w]; unfold wrap64; have := HFT.out; omega
           clear hgb hfr
           refine start_ (n := 25) (S := fun w' => w'.cell? ⟨g3,0,none⟩ = some (.int .i64 g) ∧ w'.cell? ⟨g3,1,none⟩ = some (.int .i64 s) ∧ w'.cell? ⟨g3,2,none⟩ = some (.slice Ao o.length co) ∧ w'.cell? ⟨g3,3,none⟩ = some (.slice (some al) l.length cl) ∧ w'.cell? ⟨g3,4,none⟩ = some (.slice Af f.length cf)) (ds := []) zo62 (by kernel_rfl) rfl rfl ⟨((blk_cell (blk_drew HX3.out) 0).trans rfl),((blk_cell (blk_drew HX3.out) 1).trans rfl),((blk_cell (blk_drew HX3.out) 2).trans rfl),((blk_cell (blk_drew HX3.out) 3).trans rfl),((blk_cell (blk_drew HX3.out) 4).trans rfl)⟩ (fun hHeld => ?_)
           refine with_tabW room.tab14 room.bits14 (fun HT_ HW_ => ?_)
           replace HX3 := Aside0.mk (blk_drew HX3.out)
           replace HB := Aside0.mk (below_drew HB.out)
           generalize wG.drew = wd14 at *
           refine pure_ (i := 0) (N := some 152) (v := ?_) (a' := ?_) zo63 rfl rfl (any_of HT_.out (by kernel_rfl)) (fun _ _ _ h => h) (Or.inl ⟨by rfl,?_⟩) ?_ ?_
           rotate_left
           ·intro w'
            go_simp
            with_reducible rfl
           rotate_left
           ·simp only [Act.put,zoI,zos0,zos1,i64_w,i32_w]
            rfl
           refine pure_ (i := 1) (N := some 153) (v := ?_) (a' := ?_) zo64 rfl rfl (any_of HT_.out (by kernel_rfl)) (fun _ _ _ h => h) (Or.inl ⟨by rfl,?_⟩) ?_ ?_
           rotate_left
           ·intro w'
            go_simp
            with_reducible rfl
           rotate_left
           ·simp only [Act.put,zoI,zos0,zos1,i64_w,i32_w]
            rfl
           refine pure_ (i := 2) (N := some 154) (v := ?_) (a' := ?_) zo65 rfl rfl (any_of HT_.out (by kernel_rfl)) (fun _ _ _ h => h) (Or.inl ⟨by rfl,?_⟩) ?_ ?_
           rotate_left
           ·intro w'
            go_simp
            with_reducible rfl
           rotate_left
           ·simp only [Act.put,zoI,zos0,zos1,i64_w,i32_w]
            rfl
           refine pure_ (i := 3) (N := some 155) (v := ?_) (a' := ?_) zo66 rfl rfl (any_of HT_.out (by kernel_rfl)) (fun _ _ _ h => h) (Or.inl ⟨by rfl,?_⟩) ?_ ?_
           rotate_left
           ·intro w'
            go_simp
            with_reducible rfl
           rotate_left
           ·simp only [Act.put,zoI,zos0,zos1,i64_w,i32_w]
            rfl
           refine pure_ (i := 5) (N := some 157) (v := ?_) (a' := ?_) zo67 rfl rfl (any_of HT_.out (by kernel_rfl)) (fun _ _ _ h => h) (Or.inl ⟨by rfl,?_⟩) ?_ ?_
           rotate_left
           ·intro w'
            go_simp
            with_reducible rfl
           rotate_left
           ·simp only [Act.put,zoI,zos0,zos1,i64_w,i32_w]
            rfl
           refine take_ (i := 4) (N := some 156) (v := ?_) (a' := ?_) zo68 rfl rfl (take_ofW HT_.out HW_.out (by kernel_rfl)) (fun _ _ _ h => h) (Or.inl ⟨by rfl,?_⟩) hHeld ?_ ?_
           rotate_left
           ·rintro w' ⟨s0,s1,s2,s3,s4⟩
            go_simp
            with_reducible rfl
           rotate_left
           ·simp only [Act.put,zoI,zos0,zos1,i64_w,i32_w]
            rfl
           refine take_ (i := 6) (N := some 158) (v := ?_) (a' := ?_) zo69 rfl rfl (take_ofW HT_.out HW_.out (by kernel_rfl)) (fun _ _ _ h => h) (Or.inl ⟨by rfl,?_⟩) hHeld ?_ ?_
           rotate_left
           ·rintro w' ⟨s0,s1,s2,s3,s4⟩
            go_simp
            with_reducible rfl
           rotate_left
           ·simp only [Act.put,zoI,zos0,zos1,i64_w,i32_w]
            rfl
           refine pure_ (i := 7) (N := some 159) (v := ?_) (a' := ?_) zo70 rfl rfl (any_of HT_.out (by kernel_rfl)) (fun _ _ _ h => h) (Or.inl ⟨by rfl,?_⟩) ?_ ?_
           rotate_left
           ·intro w'
            go_simp
            with_reducible rfl
           rotate_left
           ·simp only [Act.put,zoI,zos0,zos1,i64_w,i32_w]
            rfl
           refine pure_ (i := 8) (N := some 160) (v := ?_) (a' := ?_) zo71 rfl rfl (any_of HT_.out (by kernel_rfl)) (fun _ _ _ h => h) (Or.inl ⟨by rfl,?_⟩) ?_ ?_
           rotate_left
           ·intro w'
            go_simp
            with_reducible rfl
           rotate_left
           ·simp only [Act.put,zoI,zos0,zos1,i64_w,i32_w]
            rfl
           refine pure_ (i := 9) (N := some 161) (v := ?_) (a' := ?_) zo72 rfl rfl (any_of HT_.out (by kernel_rfl)) (fun _ _ _ h => h) (Or.inl ⟨by rfl,?_⟩) ?_ ?_
           rotate_left
           ·intro w'
            go_simp
            with_reducible rfl
           rotate_left
           ·simp only [Act.put,zoI,zos0,zos1,i64_w,i32_w]
            rfl
           refine pure_ (i := 13) (N := some 165) (v := ?_) (a' := ?_) zo73 rfl rfl (any_of HT_.out (by kernel_rfl)) (fun _ _ _ h => h) (Or.inl ⟨by rfl,?_⟩) ?_ ?_
           rotate_left
           ·intro w'
            go_simp
            with_reducible rfl
           rotate_left
           ·simp only [Act.put,zoI,zos0,zos1,i64_w,i32_w]
            rfl
           refine pure_ (i := 17) (N := some 169) (v := ?_) (a' := ?_) zo74 rfl rfl (any_of HT_.out (by kernel_rfl)) (fun _ _ _ h => h) (Or.inl ⟨by rfl,?_⟩) ?_ ?_
           rotate_left
           ·intro w'
            go_simp
            with_reducible rfl
           rotate_left
           ·simp only [Act.put,zoI,zos0,zos1,i64_w,i32_w]
            rfl
           refine take_ (i := 10) (N := some 162) (v := ?_) (a' := ?_) zo75 rfl rfl (take_ofW HT_.out HW_.out (by kernel_rfl)) (fun _ _ _ h => h) (Or.inl ⟨by rfl,?_⟩) hHeld ?_ ?_
           rotate_left
           ·rintro w' ⟨s0,s1,s2,s3,s4⟩
            go_simp
            with_reducible rfl
           rotate_left
           ·simp only [Act.put,zoI,zos0,zos1,i64_w,i32_w]
            rfl
           refine take_ (i := 14) (N := some 166) (v := ?_) (a' := ?_) zo76 rfl rfl (take_ofW HT_.out HW_.out (by kernel_rfl)) (fun _ _ _ h => h) (Or.inl ⟨by rfl,?_⟩) hHeld ?_ ?_
           rotate_left
           ·rintro w' ⟨s0,s1,s2,s3,s4⟩
            go_simp
            with_reducible rfl
           rotate_left
           ·simp only [Act.put,zoI,zos0,zos1,i64_w,i32_w]
            rfl
           refine pure_ (i := 15) (N := some 167) (v := ?_) (a' := ?_) zo77 rfl rfl (any_of HT_.out (by kernel_rfl)) (fun _ _ _ h => h) (Or.inl ⟨by rfl,?_⟩) ?_ ?_
           rotate_left
           ·intro w'
            go_simp
            with_reducible rfl
           rotate_left
           ·simp only [Act.put,zoI,zos0,zos1,i64_w,i32_w]
            rfl
           refine take_ (i := 18) (N := some 170) (v := ?_) (a' := ?_) zo78 rfl rfl (take_ofW HT_.out HW_.out (by kernel_rfl)) (fun _ _ _ h => h) (Or.inl ⟨by rfl,?_⟩) hHeld ?_ ?_
           rotate_left
           ·rintro w' ⟨s0,s1,s2,s3,s4⟩
            go_simp
            with_reducible rfl
           rotate_left
           ·simp only [Act.put,zoI,zos0,zos1,i64_w,i32_w]
            rfl
           refine one_ (i := 11) (N := some 163) zo79 rfl rfl (one_of HT_.out (by kernel_rfl)) (by decide) (fun K hK => ?_)
           refine goes_ Try.func17 (by kernel_rfl) rfl #[.agg #[.int .i64 g,.int .i64 s,.slice Ao o.length co,.slice (some al) l.length cl,.slice Af f.length cf]] (by rfl) rfl rfl (by simp only [List.map_toArray,List.map_cons,List.map_nil]; rfl) ?_
           with_reducible refine (Free_calls g s _ _ o _ _ _ (TC_o (TC_below HT.out HB.out)).1 (TC_o (TC_below HT.out HB.out)).2 (by have := HFT.out; omega) (by have := HFT.out; omega) (by have := HFT.out; omega)).mono ?_
           rintro e_ w6 ⟨v,rfl,hv,hb⟩
           refine ⟨_,rfl,?_⟩
           rw [← HFR.out] at hv
           obtain ⟨Av,cv,hv1⟩ := Kd.R_slice hv
           subst hv1
           replace HX3 := Aside0.mk (blk_below HX3.out hb)
           replace HB := Aside0.mk (below_step HB.out hb)
           clear hb hv
           refine hK.out _ _ ⟨((blk_cell HX3.out 0).trans rfl),((blk_cell HX3.out 1).trans rfl),((blk_cell HX3.out 2).trans rfl),((blk_cell HX3.out 3).trans rfl),((blk_cell HX3.out 4).trans rfl)⟩ (fun hHeld => ?_)
           clear hK K
           refine norm_ (a' := ?_) ?_ ?_
           rotate_left
           ·show Act.put _ (some 163) _ = _
            simp only [Act.put,zoI,zos0,zos1,i64_w,i32_w]
            rfl
           refine pure_ (i := 12) (N := some 164) (v := ?_) (a' := ?_) zo80 rfl rfl (any_of HT_.out (by kernel_rfl)) (fun _ _ _ h => h) (Or.inl ⟨by rfl,?_⟩) ?_ ?_
           rotate_left
           ·intro w'
            go_simp
            with_reducible rfl
           rotate_left
           ·simp only [Act.put,zoI,zos0,zos1,i64_w,i32_w]
            rfl
           refine pure_ (i := 16) (N := some 168) (v := ?_) (a' := ?_) zo81 rfl rfl (any_of HT_.out (by kernel_rfl)) (fun _ _ _ h => h) (Or.inl ⟨by rfl,?_⟩) ?_ ?_
           rotate_left
           ·intro w'
            go_simp
            with_reducible rfl
           rotate_left
           ·simp only [Act.put,zoI,zos0,zos1,i64_w,i32_w]
            rfl
           refine pure_ (i := 19) (N := some 171) (v := ?_) (a' := ?_) zo82 rfl rfl (any_of HT_.out (by kernel_rfl)) (fun _ _ _ h => h) (Or.inl ⟨by rfl,?_⟩) ?_ ?_
           rotate_left
           ·intro w'
            go_simp
            with_reducible rfl
           rotate_left
           ·simp only [Act.put,zoI,zos0,zos1,i64_w,i32_w]
            rfl
           refine pure_ (i := 20) (N := some 172) (v := ?_) (a' := ?_) zo83 rfl rfl (any_of HT_.out (by kernel_rfl)) (fun _ _ _ h => h) (Or.inl ⟨by rfl,?_⟩) ?_ ?_
           rotate_left
           ·intro w'
            go_simp
            with_reducible rfl
           rotate_left
           ·simp only [Act.put,zoI,zos0,zos1,i64_w,i32_w]
            rfl
           refine pure_ (i := 21) (N := some 173) (v := ?_) (a' := ?_) zo84 rfl rfl (any_of HT_.out (by kernel_rfl)) (fun _ _ _ h => h) (Or.inl ⟨by rfl,?_⟩) ?_ ?_
           rotate_left
           ·intro w'
            go_simp
            with_reducible rfl
           rotate_left
           ·simp only [Act.put,zoI,zos0,zos1,i64_w,i32_w]
            rfl
           refine one_ (i := 22) (N := some 174) zo85 rfl rfl (one_of HT_.out (by kernel_rfl)) (by decide) (fun K hK => ?_)
           refine goes_ Try.func25 (by kernel_rfl) rfl #[] (by rfl) rfl rfl (by simp only [List.map_toArray,List.map_cons,List.map_nil]) ?_
           with_reducible refine (fixed_calls _).mono ?_
           rintro e_ w7 ⟨rfl,hb⟩
           refine ⟨_,rfl,?_⟩
           replace HX3 := Aside0.mk (blk_below HX3.out hb)
           replace HB := Aside0.mk (below_step HB.out hb)
           clear hb
           refine hK.out _ _ ⟨((blk_cell HX3.out 0).trans rfl),((blk_cell HX3.out 1).trans rfl),((blk_cell HX3.out 2).trans rfl),((blk_cell HX3.out 3).trans rfl),((blk_cell HX3.out 4).trans rfl)⟩ (fun hHeld => ?_)
           clear hK K
           refine norm_ (a' := ?_) ?_ ?_
           rotate_left
           ·show Act.put _ (some 174) _ = _
            simp only [Act.put,zoI,zos0,zos1,i64_w,i32_w]
            rfl
           refine pure_ (i := 23) (N := some 175) (v := ?_) (a' := ?_) zo86 rfl rfl (any_of HT_.out (by kernel_rfl)) (fun _ _ _ h => h) (Or.inl ⟨by rfl,?_⟩) ?_ ?_
           rotate_left
           ·intro w'
            go_simp
            with_reducible rfl
           rotate_left
           ·simp only [Act.put,zoI,zos0,zos1,i64_w,i32_w]
            rfl
           refine pure_ (i := 24) (N := some 6) (v := ?_) (a' := ?_) zo87 rfl rfl (any_of HT_.out (by kernel_rfl)) (fun _ _ _ h => h) (Or.inl ⟨by rfl,?_⟩) ?_ ?_
           rotate_left
           ·intro w'
            go_simp
            with_reducible rfl
           rotate_left
           ·simp only [Act.put,zoI,zos0,zos1,i64_w,i32_w]
            rfl
           refine done_ (done_of HT_.out (by kernel_rfl)) ?_
           clear HT_ HW_ hHeld
           clear hg1 hg2 hg3 hgg hfl hfl2
           go_wp2_with fail
           go_ret
           exact ⟨rfl,HB.out⟩
end Go.Proofs.Ytbefoehjlgdcgaa.H
