/-
The walk of TableOnce.
-/
import Derived.Test.YtbefoehjlgdcgaaDo
import Derived.Test.YtbefoehjlgdcgaaCu
namespace Go.Proofs.Ytbefoehjlgdcgaa.H
open Go.RowKit Go.Proofs.YtbefoehjlgdcgaaW.PrintWords Go.Proofs.YtbefoehjlgdcgaaW.PrintLast Go.Proofs.YtbefoehjlgdcgaaW.PrintMore
attribute [local go_sem] min2_int min_two
set_option linter.unusedVariables false
set_option linter.unusedSimpArgs false
def yo0 : Array Bool := #[false,false,false,false,false,false,false,false,false,false,false,false,false,false,false,false,false,false,false]
def yo1 : Array Bool := #[true,false,false,false,false,false,false,false,false,false,false,false,false,false,false,false,false,false,false]
def yo2 : Array Bool := #[true,false,true,false,false,false,false,false,false,false,false,false,false,false,false,false,false,false,false]
def yo3 : Array Bool := #[true,true,true,false,false,false,false,false,false,false,false,false,false,false,false,false,false,false,false]
def yo4 : Array Bool := #[true,true,true,true,false,false,false,false,false,false,false,false,false,false,false,false,false,false,false]
def yo5 : Array Bool := #[true,true,true,true,true,false,false,false,false,false,false,false,false,false,false,false,false,false,false]
def yo6 : Array Bool := #[true,true,true,true,true,true,false,false,false,false,false,false,false,false,false,false,false,false,false]
def yo7 : Array Bool := #[true,true,true,true,true,true,true,false,false,false,false,false,false,false,false,false,false,false,false]
def yo8 : Array Bool := #[true,true,true,true,true,true,true,true,false,false,false,false,false,false,false,false,false,false,false]
def yo9 : Array Bool := #[true,true,true,true,true,true,true,true,false,true,false,false,false,false,false,false,false,false,false]
def yo10 : Array Bool := #[true,true,true,true,true,true,true,true,false,true,false,false,true,false,false,false,false,false,false]
def yo11 : Array Bool := #[true,true,true,true,true,true,true,true,false,true,false,false,true,false,true,false,false,false,false]
def yo12 : Array Bool := #[true,true,true,true,true,true,true,true,true,true,false,false,true,false,true,false,false,false,false]
def yo13 : Array Bool := #[true,true,true,true,true,true,true,true,true,true,true,false,true,false,true,false,false,false,false]
def yo14 : Array Bool := #[true,true,true,true,true,true,true,true,true,true,true,false,true,true,true,false,false,false,false]
def yo15 : Array Bool := #[true,true,true,true,true,true,true,true,true,true,true,false,true,true,true,true,false,false,false]
def yo16 : Array Bool := #[true,true,true,true,true,true,true,true,true,true,true,true,true,true,true,true,false,false,false]
def yo17 : Array Bool := #[true,true,true,true,true,true,true,true,true,true,true,true,true,true,true,true,true,false,false]
def yo18 : Array Bool := #[true,true,true,true,true,true,true,true,true,true,true,true,true,true,true,true,true,true,false]
def yo19 : Array Bool := #[true,true,true,true,true,true,true,true,true,true,true,true,true,true,true,true,true,true,true]
def yo20 : Array Bool := #[false,false,false,false,false,false,false,false,false,false,false,false,false,false]
def yo21 : Array Bool := #[true,false,false,false,false,false,false,false,false,false,false,false,false,false]
def yo22 : Array Bool := #[true,true,false,false,false,false,false,false,false,false,false,false,false,false]
def yo23 : Array Bool := #[true,true,false,true,false,false,false,false,false,false,false,false,false,false]
def yo24 : Array Bool := #[true,true,true,true,true,true,true,true,true,true,true,false,false,false]
def yo25 : Array Bool := #[true,true,true,true,false,false,false,false,false,false,false,false,false,false]
def yo26 : Array Bool := #[true,true,false,true,false,false,false,false,false,true,false,false,false,false]
def yo27 : Array Bool := #[true,true,false,true,false,false,false,false,false,false,true,false,false,false]
def yo28 : Array Bool := #[true,true,true,true,true,false,false,false,false,false,false,false,false,false]
def yo29 : Array Bool := #[true,true,true,true,false,false,false,false,false,true,false,false,false,false]
def yo30 : Array Bool := #[true,true,true,true,false,false,false,false,false,false,true,false,false,false]
def yo31 : Array Bool := #[true,true,true,true,true,true,false,false,false,false,false,false,false,false]
def yo32 : Array Bool := #[true,true,true,true,true,true,true,false,false,false,false,false,false,false]
def yo33 : Array Bool := #[true,true,true,true,true,true,true,true,false,false,false,false,false,false]
def yo34 : Array Bool := #[true,true,true,true,true,true,true,true,true,false,false,false,false,false]
def yo35 : Array Bool := #[true,true,true,true,true,true,true,true,true,true,false,false,false,false]
def yo36 : Array Bool := #[true,true,true,true,true,true,true,true,true,false,true,false,false,false]
def yo37 : Array Bool := #[true,true,true,true,true,false,false,false,false,true,false,false,false,false]
def yo38 : Array Bool := #[true,true,true,true,false,false,false,false,false,true,true,false,false,false]
def yo39 : Array Bool := #[true,true,true,true,true,true,false,false,false,true,false,false,false,false]
def yo40 : Array Bool := #[true,true,true,true,true,true,true,false,false,true,false,false,false,false]
def yo41 : Array Bool := #[true,true,true,true,true,true,true,true,false,true,false,false,false,false]
def yo42 : Array Bool := #[true,true,true,true,true,false,false,false,false,true,true,false,false,false]
def yo43 : Array Bool := #[true,true,true,true,true,true,false,false,false,true,true,false,false,false]
def yo44 : Array Bool := #[true,true,true,true,true,true,true,false,false,true,true,false,false,false]
def yo45 : Array Bool := #[true,true,true,true,true,true,true,true,false,true,true,false,false,false]
def yo46 : Array Bool := #[true,true,true,true,true,false,false,false,false,false,true,false,false,false]
def yo47 : Array Bool := #[true,true,true,true,true,true,false,false,false,false,true,false,false,false]
def yo48 : Array Bool := #[true,true,true,true,true,true,true,false,false,false,true,false,false,false]
def yo49 : Array Bool := #[true,true,true,true,true,true,true,true,false,false,true,false,false,false]
def yo50 : Array Bool := #[true,true,false,true,false,false,false,false,false,true,true,false,false,false]
def yo51 : Array Bool := #[true,true,true,true,true,true,true,true,true,true,true,true,false,false]
def yo52 : Array Bool := #[true,true,true,true,true,true,true,true,true,true,true,true,true,false]
def yo53 : Array Bool := #[true,true,true,true,true,true,true,true,true,true,true,true,true,true]
def yo54 : Array Bool := #[false,false,false,false,false,false,false,false,false,false,false,false,false,false,false,false,false,false,false,false,false,false,false,false,false,false,false,false,false,false,false,false,false,false,false,false,false,false,false,false,false]
def yo55 : Array Bool := #[true,false,false,false,false,false,false,false,false,false,false,false,false,false,false,false,false,false,false,false,false,false,false,false,false,false,false,false,false,false,false,false,false,false,false,false,false,false,false,false,false]
def yo56 : Array Bool := #[true,true,false,false,false,false,false,false,false,false,false,false,false,false,false,false,false,false,false,false,false,false,false,false,false,false,false,false,false,false,false,false,false,false,false,false,false,false,false,false,false]
def yo57 : Array Bool := #[true,true,true,false,false,false,false,false,false,false,false,false,false,false,false,false,false,false,false,false,false,false,false,false,false,false,false,false,false,false,false,false,false,false,false,false,false,false,false,false,false]
def yo58 : Array Bool := #[true,true,true,false,true,false,false,false,false,false,false,false,false,false,false,false,false,false,false,false,false,false,false,false,false,false,false,false,false,false,false,false,false,false,false,false,false,false,false,false,false]
def yo59 : Array Bool := #[true,true,true,true,true,false,false,false,false,false,false,false,false,false,false,false,false,false,false,false,false,false,false,false,false,false,false,false,false,false,false,false,false,false,false,false,false,false,false,false,false]
def yo60 : Array Bool := #[true,true,true,true,true,true,false,false,false,false,false,false,false,false,false,false,false,false,false,false,false,false,false,false,false,false,false,false,false,false,false,false,false,false,false,false,false,false,false,false,false]
def yo61 : Array Bool := #[true,true,true,true,true,true,true,false,false,false,false,false,false,false,false,false,false,false,false,false,false,false,false,false,false,false,false,false,false,false,false,false,false,false,false,false,false,false,false,false,false]
def yo62 : Array Bool := #[true,true,true,true,true,true,true,true,false,false,false,false,false,false,false,false,false,false,false,false,false,false,false,false,false,false,false,false,false,false,false,false,false,false,false,false,false,false,false,false,false]
def yo63 : Array Bool := #[true,true,true,true,true,true,true,true,true,false,false,false,false,false,false,false,false,false,false,false,false,false,false,false,false,false,false,false,false,false,false,false,false,false,false,false,false,false,false,false,false]
def yo64 : Array Bool := #[true,true,true,true,true,true,true,true,true,true,false,false,false,false,false,false,false,false,false,false,false,false,false,false,false,false,false,false,false,false,false,false,false,false,false,false,false,false,false,false,false]
def yo65 : Array Bool := #[true,true,true,true,true,true,true,true,true,true,true,false,false,false,false,false,false,false,false,false,false,false,false,false,false,false,false,false,false,false,false,false,false,false,false,false,false,false,false,false,false]
def yo66 : Array Bool := #[true,true,true,true,true,true,true,true,true,true,true,false,true,false,false,false,false,false,false,false,false,false,false,false,false,false,false,false,false,false,false,false,false,false,false,false,false,false,false,false,false]
def yo67 : Array Bool := #[true,true,true,true,true,true,true,true,true,true,true,true,true,false,false,false,false,false,false,false,false,false,false,false,false,false,false,false,false,false,false,false,false,false,false,false,false,false,false,false,false]
def yo68 : Array Bool := #[true,true,true,true,true,true,true,true,true,true,true,true,true,true,false,false,false,false,false,false,false,false,false,false,false,false,false,false,false,false,false,false,false,false,false,false,false,false,false,false,false]
def yo69 : Array Bool := #[true,true,true,true,true,true,true,true,true,true,true,true,true,true,true,false,false,false,false,false,false,false,false,false,false,false,false,false,false,false,false,false,false,false,false,false,false,false,false,false,false]
def yo70 : Array Bool := #[true,true,true,true,true,true,true,true,true,true,true,true,true,true,true,true,false,false,false,false,false,false,false,false,false,false,false,false,false,false,false,false,false,false,false,false,false,false,false,false,false]
def yo71 : Array Bool := #[true,true,true,true,true,true,true,true,true,true,true,true,true,true,true,true,true,false,false,false,false,false,false,false,false,false,false,false,false,false,false,false,false,false,false,false,false,false,false,false,false]
def yo72 : Array Bool := #[true,true,true,true,true,true,true,true,true,true,true,true,true,true,true,true,true,true,false,false,false,false,false,false,false,false,false,false,false,false,false,false,false,false,false,false,false,false,false,false,false]
def yo73 : Array Bool := #[true,true,true,true,true,true,true,true,true,true,true,true,true,true,true,true,true,true,true,false,false,false,false,false,false,false,false,false,false,false,false,false,false,false,false,false,false,false,false,false,false]
def yo74 : Array Bool := #[true,true,true,true,true,true,true,true,true,true,true,true,true,true,true,true,true,true,true,false,true,false,false,false,false,false,false,false,false,false,false,false,false,false,false,false,false,false,false,false,false]
def yo75 : Array Bool := #[true,true,true,true,true,true,true,true,true,true,true,true,true,true,true,true,true,true,true,true,true,false,false,false,false,false,false,false,false,false,false,false,false,false,false,false,false,false,false,false,false]
def yo76 : Array Bool := #[true,true,true,true,true,true,true,true,true,true,true,true,true,true,true,true,true,true,true,true,true,true,false,false,false,false,false,false,false,false,false,false,false,false,false,false,false,false,false,false,false]
def yo77 : Array Bool := #[true,true,true,true,true,true,true,true,true,true,true,true,true,true,true,true,true,true,true,true,true,true,true,false,false,false,false,false,false,false,false,false,false,false,false,false,false,false,false,false,false]
def yo78 : Array Bool := #[true,true,true,true,true,true,true,true,true,true,true,true,true,true,true,true,true,true,true,true,true,true,true,true,false,false,false,false,false,false,false,false,false,false,false,false,false,false,false,false,false]
def yo79 : Array Bool := #[true,true,true,true,true,true,true,true,true,true,true,true,true,true,true,true,true,true,true,true,true,true,true,true,true,false,false,false,false,false,false,false,false,false,false,false,false,false,false,false,false]
def yo80 : Array Bool := #[true,true,true,true,true,true,true,true,true,true,true,true,true,true,true,true,true,true,true,true,true,true,true,true,true,true,false,false,false,false,false,false,false,false,false,false,false,false,false,false,false]
def yo81 : Array Bool := #[true,true,true,true,true,true,true,true,true,true,true,true,true,true,true,true,true,true,true,true,true,true,true,true,true,true,false,true,false,false,false,false,false,false,false,false,false,false,false,false,false]
def yo82 : Array Bool := #[true,true,true,true,true,true,true,true,true,true,true,true,true,true,true,true,true,true,true,true,true,true,true,true,true,true,false,true,false,false,false,false,true,false,false,false,false,false,false,false,false]
def yo83 : Array Bool := #[true,true,true,true,true,true,true,true,true,true,true,true,true,true,true,true,true,true,true,true,true,true,true,true,true,true,true,true,false,false,false,false,true,false,false,false,false,false,false,false,false]
def yo84 : Array Bool := #[true,true,true,true,true,true,true,true,true,true,true,true,true,true,true,true,true,true,true,true,true,true,true,true,true,true,true,true,true,false,false,false,true,false,false,false,false,false,false,false,false]
def yo85 : Array Bool := #[true,true,true,true,true,true,true,true,true,true,true,true,true,true,true,true,true,true,true,true,true,true,true,true,true,true,true,true,true,false,true,false,true,false,false,false,false,false,false,false,false]
def yo86 : Array Bool := #[true,true,true,true,true,true,true,true,true,true,true,true,true,true,true,true,true,true,true,true,true,true,true,true,true,true,true,true,true,false,true,false,true,true,false,false,false,false,false,false,false]
def yo87 : Array Bool := #[true,true,true,true,true,true,true,true,true,true,true,true,true,true,true,true,true,true,true,true,true,true,true,true,true,true,true,true,true,true,true,false,true,true,false,false,false,false,false,false,false]
def yo88 : Array Bool := #[true,true,true,true,true,true,true,true,true,true,true,true,true,true,true,true,true,true,true,true,true,true,true,true,true,true,true,true,true,true,true,true,true,true,false,false,false,false,false,false,false]
def yo89 : Array Bool := #[true,true,true,true,true,true,true,true,true,true,true,true,true,true,true,true,true,true,true,true,true,true,true,true,true,true,true,true,true,true,true,true,true,true,true,false,false,false,false,false,false]
def yo90 : Array Bool := #[true,true,true,true,true,true,true,true,true,true,true,true,true,true,true,true,true,true,true,true,true,true,true,true,true,true,true,true,true,true,true,true,true,true,true,true,false,false,false,false,false]
def yo91 : Array Bool := #[true,true,true,true,true,true,true,true,true,true,true,true,true,true,true,true,true,true,true,true,true,true,true,true,true,true,true,true,true,true,true,true,true,true,true,true,true,false,false,false,false]
def yo92 : Array Bool := #[true,true,true,true,true,true,true,true,true,true,true,true,true,true,true,true,true,true,true,true,true,true,true,true,true,true,true,true,true,true,true,true,true,true,true,true,true,true,false,false,false]
def yo93 : Array Bool := #[true,true,true,true,true,true,true,true,true,true,true,true,true,true,true,true,true,true,true,true,true,true,true,true,true,true,true,true,true,true,true,true,true,true,true,true,true,true,true,false,false]
def yo94 : Array Bool := #[true,true,true,true,true,true,true,true,true,true,true,true,true,true,true,true,true,true,true,true,true,true,true,true,true,true,true,true,true,true,true,true,true,true,true,true,true,true,true,true,false]
def yo95 : Array Bool := #[true,true,true,true,true,true,true,true,true,true,true,true,true,true,true,true,true,true,true,true,true,true,true,true,true,true,true,true,true,true,true,true,true,true,true,true,true,true,true,true,true]
theorem yoI {α : Type} (l : List α) (i : Nat) (a : α) : l.toArray.setIfInBounds i a = (l.set i a).toArray := List.setIfInBounds_toArray l i a
theorem yos0 {α : Type} (x : α) (l : List α) (a : α) : (x :: l).set 0 a = a :: l := rfl
theorem yos1 {α : Type} (x : α) (l : List α) (i : Nat) (a : α) : (x :: l).set (i + 1) a = x :: l.set i a := rfl
theorem sector_both (a b c : Int) : ∃ r : Int,table_Sector.f a b c = some r ∧ lodgerref08_Sector.f a b c = some r := by
 have h : lodgerref08_Sector.f a b c = table_Sector.f a b c := by
  unfold lodgerref08_Sector.f table_Sector.f
  have e : (b > 15) = (b ≥ 16) := propext ⟨fun h => by omega,fun h => by omega⟩
  simp only [e]
 rw [h]
 unfold table_Sector.f
 repeat' first
  | exact ⟨_,rfl,rfl⟩
  | split
theorem do_flat {w : World} {g s : Int} {Ao : Option Addr} {co : Nat} {o : List Int} {Al : Option Addr} {cl : Nat} {l : List Int} {Af : Option Addr} {cf : Nat} {f : List Int} (kind seg first : Int) (hT : TC w Ao co o Al cl l Af cf f) (hR : RT g s o l f) :
  Calls Try.prog 15 #[.agg #[.int .i64 g,.int .i64 s,.slice Ao o.length co,.slice Al l.length cl,.slice Af f.length cf],.agg #[.int .i64 g,.int .i64 s,.slice Ao o.length co,.slice Al l.length cl,.slice Af f.length cf],.agg #[.int .i64 kind,.int .i64 seg,.int .u64 first]] w fun e w' => (∃ (cn0 : Int) (cn1 : Int) (cP1 : Option Addr) (cm1 : Nat) (ck1 : Nat) (cP2 : Option Addr) (cm2 : Nat) (ck2 : Nat) (cP3 : Option Addr) (cm3 : Nat) (ck3 : Nat) (dn0 : Int) (dn1 : Int) (dP1 : Option Addr) (dm1 : Nat) (dk1 : Nat) (dP2 : Option Addr) (dm2 : Nat) (dk2 : Nat) (dP3 : Option Addr) (dm3 : Nat) (dk3 : Nat),e = .returned (.tuple #[.agg #[.int .i64 cn0,.int .i64 cn1,.slice cP1 cm1 ck1,.slice cP2 cm2 ck2,.slice cP3 cm3 ck3],.agg #[.int .i64 dn0,.int .i64 dn1,.slice dP1 dm1 dk1,.slice dP2 dm2 dk2,.slice dP3 dm3 dk3],.bool true])) ∧ Below w.heap.size w w' := by
 refine (do_calls g s Ao co o Al cl l Af cf f Ao co Al cl Af cf kind seg first w hT hT hR).mono ?_
 rintro e w' ⟨⟨o2,l2,f2,A1,d1,A2,d2,A3,d3,B1,e1,B2,e2,B3,e3,rfl,_⟩,hb⟩
 exact ⟨⟨_,_,_,_,_,_,_,_,_,_,_,_,_,_,_,_,_,_,_,_,_,_,rfl⟩,hb⟩
theorem bne_self_false (b : Bool) : (b != b) = false := by cases b <;> rfl
theorem int_self (x : Int) : (x == x) = true := beq_self_eq_true x
theorem int_bne (x : Int) : (x != x) = false := by simp
theorem TR1_mk {W : World} {k : IntKind} {e base : Nat} {ok : Nat → Prop} {A : Option Addr} {c : Nat} {xs : List Int} (h : Kd.R (Kd.int k) e W base ok (.slice A xs.length c) xs) : Kd.C (Kd.int k) W A xs.length xs := (Kd.R_reads' h).2.2
def once8.T2 : Bool × List (List Nat × List Nat) := (true,[([],[]),([0],[0]),([],[]),([2,1],[2]),([3,3],[3]),([1,4],[1,4]),([5,4],[5]),([6],[6]),([7,6],[6,7]),([6],[6]),([9,6],[6,9]),([8,10,6,6],[6,8,10]),([6],[6]),([12,6],[6,12]),([6],[6]),([14,6],[6,14]),([13,15,11,6],[6,13,15]),([11,16,6],[6,11,16]),([6,17],[6,17])])
def once8.B2 : List Nat := [0,1,0,7,15,31,63,127,255,127,639,2047,127,4223,127,16511,65535,131071,262143]
theorem once8.tab2 : rtab .any (opsOf Try.f4 2) = once8.T2 := by kernel_rfl
theorem once8.bits2 : waitsOk once8.T2.2 once8.B2 = true := by kernel_rfl
def once8.T6 : Bool × List (List Nat × List Nat) := (true,[([],[]),([],[]),([1],[1]),([],[]),([0,2,3,2],[0,2,3]),([4],[4]),([5],[5]),([5],[5]),([5],[5]),([],[]),([],[]),([9,6,4,0,1,2,3,4,5,6,9,10],[6,9]),([10,7,11,0,1,2,3,4,5,6,7,9,10,11],[7,10]),([8,12,0,1,2,3,4,5,6,7,8,9,10,11,12],[8])])
def once8.B6 : List Nat := [0,0,2,0,15,31,63,63,63,0,0,1663,3839,8191]
theorem once8.tab6 : rtab .any (opsOf Try.f4 6) = once8.T6 := by kernel_rfl
theorem once8.bits6 : waitsOk once8.T6.2 once8.B6 = true := by kernel_rfl
def once8.T7 : Bool × List (List Nat × List Nat) := (true,[([],[]),([0],[0]),([1],[1]),([2,1,1],[1,2]),([1],[1]),([4,3,1],[1,4]),([5,5,1],[1,5]),([3,6,6,1],[1,3,6]),([1,7],[1,7]),([8,7],[8]),([9],[9]),([10,9,9],[9,10]),([9],[9]),([12,11,9],[9,12]),([13,13,9],[9,13]),([11,14,9],[9,11,14]),([9,15],[9,15]),([16,14],[16]),([17],[17]),([18,17,17],[17,18]),([17],[17]),([20,19,17],[17,20]),([21,21,17],[17,21]),([19,22,17],[17,19,22]),([17,23],[17,23]),([24,22],[24]),([25],[25]),([25],[25]),([27,25],[25,27]),([26,28,25,25],[25,26,28]),([25],[25]),([30,29,25],[25,30]),([25],[25]),([32,25],[25,32]),([31,33,31,25],[25,31,33]),([29,34,25],[25,29,34]),([25,35],[25,35]),([36,34],[36]),([37,37],[37]),([37,38],[37,38]),([39,38,0,1,2,3,4,5,6,7,8,9,10,11,12,13,14,15,16,17,18,19,20,21,22,23,24,25,26,27,28,29,30,31,32,33,34,35,36,37,38,39],[39])])
def once8.B7 : List Nat := [0,1,3,7,3,31,63,127,255,511,1023,2047,1023,8191,16383,32767,65535,131071,262143,524287,262143,2097151,4194303,8388607,16777215,33554431,67108863,67108863,201326591,536870911,67108863,2147483647,67108863,4362076159,17179869183,34359738367,68719476735,137438953471,274877906943,549755813887,1099511627775]
theorem once8.tab7 : rtab .any (opsOf Try.f4 7) = once8.T7 := by kernel_rfl
theorem once8.bits7 : waitsOk once8.T7.2 once8.B7 = true := by kernel_rfl
set_option maxHeartbeats 8000000 in
set_option maxRecDepth 100000 in
theorem TableOnce_walk0 (g s : Int) (Ao : Option Addr) (co : Nat) (o0 : List Int) (Al : Option Addr) (cl : Nat) (l0 : List Int) (Af : Option Addr) (cf : Nat) (f0 : List Int) (kind seg first sl ls lt : Int) (w : World) (hT : TC w Ao co o0 Al cl l0 Af cf f0) :
  Calls Try.prog 4 #[.agg #[.int .i64 g,.int .i64 s,.slice Ao o0.length co,.slice Al l0.length cl,.slice Af f0.length cf],.agg #[.int .i64 kind,.int .i64 seg,.int .u64 first],.agg #[.int .i64 sl,.int .i64 ls,.int .i64 lt]] w fun e w' => e = .returned (.bool true) ∧ Below w.heap.size w w' := by
 obtain ⟨o,ho⟩ : ∃ z,z = o0.take 20 := ⟨_,rfl⟩
 obtain ⟨l,hl⟩ : ∃ z,z = l0.take 20 := ⟨_,rfl⟩
 obtain ⟨f,hf⟩ : ∃ z,z = f0.take 20 := ⟨_,rfl⟩
 have HT0 := Aside0.mk hT
 have hT2 := TC_cut hT
 rw [← ho,← hl,← hf] at hT2
 have HT := Aside0.mk hT2
 have HEQ := Aside0.mk (And.intro ho (And.intro hl hf))
 have HLN : Aside0 (o.length ≤ 20 ∧ l.length ≤ 20 ∧ f.length ≤ 20) := ⟨by rw [ho,hl,hf,List.length_take,List.length_take,List.length_take]; omega⟩
 clear hT hT2 ho hl hf
 go_enter Try.func4,Try.ntmps4
 go_upto_region 1 with fail
 obtain ⟨W1,hW1⟩ : ∃ W1,W1 = ((w.alloc (.cells #[.int .i64 g,.int .i64 s,.slice Ao o0.length co,.slice Al l0.length cl,.slice Af f0.length cf] 28)).alloc (.cells #[.int .i64 kind,.int .i64 seg,.int .u64 first] 42)).alloc (.cells #[.int .i64 sl,.int .i64 ls,.int .i64 lt] 55) := ⟨_,rfl⟩
 rw [← hW1]
 obtain ⟨g5,hg5⟩ : ∃ g,g = w.heap.size + 2 := ⟨_,rfl⟩
 obtain ⟨g4,hg4⟩ : ∃ g,g = w.heap.size + 1 := ⟨_,rfl⟩
 obtain ⟨g3,hg3⟩ : ∃ g,g = w.heap.size := ⟨_,rfl⟩
 have HX3 : Aside0 (W1.heap[g3]? = some (.cells #[.int .i64 g,.int .i64 s,.slice Ao o0.length co,.slice Al l0.length cl,.slice Af f0.length cf] 28 (0,0))) := ⟨by rw [hW1,hg3]; exact blk_alloc (blk_alloc (blk_at rfl) _) _⟩
 have HX4 : Aside0 (W1.heap[g4]? = some (.cells #[.int .i64 kind,.int .i64 seg,.int .u64 first] 42 (0,0))) := ⟨by rw [hW1,hg4]; exact blk_alloc (blk_at (by simp)) _⟩
 have HX5 : Aside0 (W1.heap[g5]? = some (.cells #[.int .i64 sl,.int .i64 ls,.int .i64 lt] 55 (0,0))) := ⟨by rw [hW1,hg5]; exact blk_at (by simp)⟩
 have HB : Aside0 (Below w.heap.size w W1) := ⟨by rw [hW1]; exact below_alloc (below_alloc (below_alloc (Below.refl _ _) _) _) _⟩
 have HG3 : Aside0 (w.heap.size ≤ g3) := ⟨by omega⟩
 have N43 : Aside0 (g4 ≠ g3) := ⟨by omega⟩
 have N53 : Aside0 (g5 ≠ g3) := ⟨by omega⟩
 rw [← hg5,← hg4,← hg3]
 clear hW1 hg3 hg4 hg5
 have s_0 : W1.cell? ⟨g3,0,none⟩ = some (.int .i64 g) := cL HX3 0 rfl
 have s_1 : W1.cell? ⟨g3,1,none⟩ = some (.int .i64 s) := cL HX3 1 rfl
 have s_2 : W1.cell? ⟨g3,2,none⟩ = some (.slice Ao o0.length co) := cL HX3 2 rfl
 have s_3 : W1.cell? ⟨g3,3,none⟩ = some (.slice Al l0.length cl) := cL HX3 3 rfl
 have s_4 : W1.cell? ⟨g3,4,none⟩ = some (.slice Af f0.length cf) := cL HX3 4 rfl
 go_wp2_with fail
 clear s_0 s_1 s_2 s_3 s_4
 refine (cut_calls g s Ao co o0 Al cl l0 Af cf f0 _ (TC_below HT0.out HB.out)).mono ?_
 rintro e_ w2 ⟨rfl,hb⟩
 rw [← HEQ.out.1,← HEQ.out.2.1,← HEQ.out.2.2]
 replace HX3 := mB HX3 hb
 replace HX4 := mB HX4 hb
 replace HX5 := mB HX5 hb
 replace HB := mS HB hb
 clear hb HT0 HEQ
 have n_0 : w2.cell? ⟨g3,0,none⟩ = some (.int .i64 g) := cL HX3 0 rfl
 have n_1 : w2.cell? ⟨g3,1,none⟩ = some (.int .i64 s) := cL HX3 1 rfl
 have n_2 : w2.cell? ⟨g3,2,none⟩ = some (.slice Ao o0.length co) := cL HX3 2 rfl
 have n_3 : w2.cell? ⟨g3,3,none⟩ = some (.slice Al l0.length cl) := cL HX3 3 rfl
 have n_4 : w2.cell? ⟨g3,4,none⟩ = some (.slice Af f0.length cf) := cL HX3 4 rfl
 have nf_0 := blk_frozen HX3.out 0
 have nf_1 := blk_frozen HX3.out 1
 have nf_2 := blk_frozen HX3.out 2
 have nf_3 := blk_frozen HX3.out 3
 have nf_4 := blk_frozen HX3.out 4
 go_upto_region 2 with fail
 clear n_0 n_1 n_2 n_3 n_4 nf_0 nf_1 nf_2 nf_3 nf_4
 obtain ⟨w3,hW⟩ : ∃ W_,W_ = (((((w2.setCell ⟨g3,0,none⟩ (.int .i64 g)).setCell ⟨g3,1,none⟩ (.int .i64 s)).setCell ⟨g3,2,none⟩ (.slice Ao o.length co)).setCell ⟨g3,3,none⟩ (.slice Al l.length cl)).setCell ⟨g3,4,none⟩ (.slice Af f.length cf)) := ⟨_,rfl⟩
 rw [← hW]
 replace HB := Aside0.mk (below5 hW HB.out HG3.out)
 replace HX4 := Aside0.mk (far5 hW HX4.out N43.out)
 replace HX5 := Aside0.mk (far5 hW HX5.out N53.out)
 replace HX3 := Aside0.mk (set5 hW HX3.out)
 clear hW
 obtain ⟨b,hb⟩ : ∃ b,b = rtT g s o l f := ⟨_,rfl⟩
 have HRB := Aside0.mk hb
 clear hb
 obtain ⟨r,hr1,hr2⟩ := sector_both sl ls lt
 have HR1 := Aside0.mk hr1
 have HR2 := Aside0.mk hr2
 have t1 := bne_self_false b
 have t2 := int_bne r
 clear hr1 hr2
 go_wp2_with fail
 refine start_ (n := 19) (S := fun w' => w'.cell? ⟨g3,0,none⟩ = some (.int .i64 g) ∧ w'.cell? ⟨g3,1,none⟩ = some (.int .i64 s) ∧ w'.cell? ⟨g3,2,none⟩ = some (.slice Ao o.length co) ∧ w'.cell? ⟨g3,3,none⟩ = some (.slice Al l.length cl) ∧ w'.cell? ⟨g3,4,none⟩ = some (.slice Af f.length cf) ∧ w'.cell? ⟨g5,0,none⟩ = some (.int .i64 sl) ∧ w'.cell? ⟨g5,1,none⟩ = some (.int .i64 ls) ∧ w'.cell? ⟨g5,2,none⟩ = some (.int .i64 lt)) (ds := []) yo0 (by kernel_rfl) rfl rfl ⟨((blk_cell (blk_drew HX3.out) 0).trans rfl),((blk_cell (blk_drew HX3.out) 1).trans rfl),((blk_cell (blk_drew HX3.out) 2).trans rfl),((blk_cell (blk_drew HX3.out) 3).trans rfl),((blk_cell (blk_drew HX3.out) 4).trans rfl),((blk_cell (blk_drew HX5.out) 0).trans rfl),((blk_cell (blk_drew HX5.out) 1).trans rfl),((blk_cell (blk_drew HX5.out) 2).trans rfl)⟩ (fun hHeld => ?_)
 refine with_tabW once8.tab2 once8.bits2 (fun HT_ HW_ => ?_)
 replace HX3 := Aside0.mk (blk_drew HX3.out)
 replace HX4 := Aside0.mk (blk_drew HX4.out)
 replace HX5 := Aside0.mk (blk_drew HX5.out)
 replace HB := Aside0.mk (below_drew HB.out)
 generalize w3.drew = wd3 at *
 refine take_ (i := 0) (N := some 12) (v := ?_) (a' := ?_) yo1 rfl rfl (take_ofW HT_.out HW_.out (by kernel_rfl)) (fun _ _ _ h => h) (Or.inl ⟨by rfl,?_⟩) hHeld ?_ ?_
 rotate_left
 ·rintro w' ⟨s0,s1,s2,s3,s4,s5,s6,s7⟩
  go_simp
  with_reducible rfl
 rotate_left
 ·simp only [Act.put,yoI,yos0,yos1,i64_w,i32_w]
  rfl
 refine take_ (i := 2) (N := some 14) (v := ?_) (a' := ?_) yo2 rfl rfl (take_ofW HT_.out HW_.out (by kernel_rfl)) (fun _ _ _ h => h) (Or.inl ⟨by rfl,?_⟩) hHeld ?_ ?_
 rotate_left
 ·rintro w' ⟨s0,s1,s2,s3,s4,s5,s6,s7⟩
  go_simp
  with_reducible rfl
 rotate_left
 ·simp only [Act.put,yoI,yos0,yos1,i64_w,i32_w]
  rfl
 refine one_ (i := 1) (N := some 13) yo3 rfl rfl (one_of HT_.out (by kernel_rfl)) (by decide) (fun K hK => ?_)
 refine goes_ Try.func13 (by kernel_rfl) rfl #[.agg #[.int .i64 g,.int .i64 s,.slice Ao o.length co,.slice Al l.length cl,.slice Af f.length cf]] (by rfl) rfl rfl (by simp only [List.map_toArray,List.map_cons,List.map_nil]; rfl) ?_
 with_reducible refine (right_calls g s _ _ o _ _ l _ _ f _ (TC_below HT.out HB.out) (by have := HLN.out; omega)).mono ?_
 rintro e_ wa ⟨he,hb⟩
 have he2 : e_ = .returned (.bool b) := he.trans (congrArg (fun b_ => Ending.returned (.bool b_)) HRB.out.symm)
 subst he2
 clear he
 refine ⟨_,rfl,?_⟩
 replace HX3 := mB HX3 hb
 replace HX4 := mB HX4 hb
 replace HX5 := mB HX5 hb
 replace HB := mS HB hb
 clear hb
 refine hK.out _ _ ⟨(cL HX3 0 rfl),(cL HX3 1 rfl),(cL HX3 2 rfl),(cL HX3 3 rfl),(cL HX3 4 rfl),(cL HX5 0 rfl),(cL HX5 1 rfl),(cL HX5 2 rfl)⟩ (fun hHeld => ?_)
 clear hK K
 refine norm_ (a' := ?_) ?_ ?_
 rotate_left
 ·show Act.put _ (some 13) _ = _
  simp only [Act.put,yoI,yos0,yos1,i64_w,i32_w]
  rfl
 refine one_ (i := 3) (N := some 15) yo4 rfl rfl (one_of HT_.out (by kernel_rfl)) (by decide) (fun K hK => ?_)
 refine goes_ Try.func12 (by kernel_rfl) rfl #[.agg #[.int .i64 g,.int .i64 s,.slice Ao o.length co,.slice Al l.length cl,.slice Af f.length cf]] (by rfl) rfl rfl (by simp only [List.map_toArray,List.map_cons,List.map_nil]; rfl) ?_
 with_reducible refine (ref_calls g s _ _ o _ _ l _ _ f _).mono ?_
 rintro e_ wb ⟨rfl,hb⟩
 refine ⟨_,rfl,?_⟩
 replace HX3 := mB HX3 hb
 replace HX4 := mB HX4 hb
 replace HX5 := mB HX5 hb
 replace HB := mS HB hb
 clear hb
 refine hK.out _ _ ⟨(cL HX3 0 rfl),(cL HX3 1 rfl),(cL HX3 2 rfl),(cL HX3 3 rfl),(cL HX3 4 rfl),(cL HX5 0 rfl),(cL HX5 1 rfl),(cL HX5 2 rfl)⟩ (fun hHeld => ?_)
 clear hK K
 refine norm_ (a' := ?_) ?_ ?_
 rotate_left
 ·show Act.put _ (some 15) _ = _
  simp only [Act.put,yoI,yos0,yos1,i64_w,i32_w]
  rfl
 refine one_ (i := 4) (N := some 16) yo5 rfl rfl (one_of HT_.out (by kernel_rfl)) (by decide) (fun K hK => ?_)
 refine goes_ Try.func14 (by kernel_rfl) rfl #[.agg #[.int .i64 g,.int .i64 s,.slice Ao o.length co,.slice Al l.length cl,.slice Af f.length cf]] (by rfl) rfl rfl (by simp only [List.map_toArray,List.map_cons,List.map_nil]; rfl) ?_
 with_reducible refine (rright_calls g s _ _ o _ _ l _ _ f _ (TC_below HT.out HB.out) (by have := HLN.out; omega)).mono ?_
 rintro e_ wc ⟨he,hb⟩
 have he2 : e_ = .returned (.bool b) := he.trans (congrArg (fun b_ => Ending.returned (.bool b_)) HRB.out.symm)
 subst he2
 clear he
 refine ⟨_,rfl,?_⟩
 replace HX3 := mB HX3 hb
 replace HX4 := mB HX4 hb
 replace HX5 := mB HX5 hb
 replace HB := mS HB hb
 clear hb
 refine hK.out _ _ ⟨(cL HX3 0 rfl),(cL HX3 1 rfl),(cL HX3 2 rfl),(cL HX3 3 rfl),(cL HX3 4 rfl),(cL HX5 0 rfl),(cL HX5 1 rfl),(cL HX5 2 rfl)⟩ (fun hHeld => ?_)
 clear hK K
 refine norm_ (a' := ?_) ?_ ?_
 rotate_left
 ·show Act.put _ (some 16) _ = _
  simp only [Act.put,yoI,yos0,yos1,i64_w,i32_w]
  rfl
 refine pure_ (i := 5) (N := some 17) (v := ?_) (a' := ?_) yo6 rfl rfl (any_of HT_.out (by kernel_rfl)) (fun _ _ _ h => h) (Or.inl ⟨by rfl,?_⟩) ?_ ?_
 rotate_left
 ·intro w'
  go_simp
  with_reducible rfl
 rotate_left
 ·simp only [Act.put,yoI,yos0,yos1,i64_w,i32_w]
  rfl
 refine pure_ (i := 6) (N := some 18) (v := ?_) (a' := ?_) yo7 rfl rfl (any_of HT_.out (by kernel_rfl)) (fun _ _ _ h => h) (Or.inl ⟨by rfl,?_⟩) ?_ ?_
 rotate_left
 ·intro w'
  go_simp
  with_reducible rfl
 rotate_left
 ·simp only [Act.put,yoI,yos0,yos1,i64_w,i32_w]
  rfl
 refine pure_ (i := 7) (N := some 19) (v := ?_) (a' := ?_) yo8 rfl rfl (any_of HT_.out (by kernel_rfl)) (fun _ _ _ h => h) (Or.inl ⟨by rfl,?_⟩) ?_ ?_
 rotate_left
 ·intro w'
  go_simp
  with_reducible rfl
 rotate_left
 ·simp only [Act.put,yoI,yos0,yos1,i64_w,i32_w]
  rfl
 refine pure_ (i := 9) (N := some 21) (v := ?_) (a' := ?_) yo9 rfl rfl (any_of HT_.out (by kernel_rfl)) (fun _ _ _ h => h) (Or.inl ⟨by rfl,?_⟩) ?_ ?_
 rotate_left
 ·intro w'
  go_simp
  with_reducible rfl
 rotate_left
 ·simp only [Act.put,yoI,yos0,yos1,i64_w,i32_w]
  rfl
 refine pure_ (i := 12) (N := some 24) (v := ?_) (a' := ?_) yo10 rfl rfl (any_of HT_.out (by kernel_rfl)) (fun _ _ _ h => h) (Or.inl ⟨by rfl,?_⟩) ?_ ?_
 rotate_left
 ·intro w'
  go_simp
  with_reducible rfl
 rotate_left
 ·simp only [Act.put,yoI,yos0,yos1,i64_w,i32_w]
  rfl
 refine pure_ (i := 14) (N := some 26) (v := ?_) (a' := ?_) yo11 rfl rfl (any_of HT_.out (by kernel_rfl)) (fun _ _ _ h => h) (Or.inl ⟨by rfl,?_⟩) ?_ ?_
 rotate_left
 ·intro w'
  go_simp
  with_reducible rfl
 rotate_left
 ·simp only [Act.put,yoI,yos0,yos1,i64_w,i32_w]
  rfl
 refine take_ (i := 8) (N := some 20) (v := ?_) (a' := ?_) yo12 rfl rfl (take_ofW HT_.out HW_.out (by kernel_rfl)) (fun _ _ _ h => h) (Or.inl ⟨by rfl,?_⟩) hHeld ?_ ?_
 rotate_left
 ·rintro w' ⟨s0,s1,s2,s3,s4,s5,s6,s7⟩
  go_simp
  with_reducible rfl
 rotate_left
 ·simp only [Act.put,yoI,yos0,yos1,i64_w,i32_w]
  rfl
 refine take_ (i := 10) (N := some 22) (v := ?_) (a' := ?_) yo13 rfl rfl (take_ofW HT_.out HW_.out (by kernel_rfl)) (fun _ _ _ h => h) (Or.inl ⟨by rfl,?_⟩) hHeld ?_ ?_
 rotate_left
 ·rintro w' ⟨s0,s1,s2,s3,s4,s5,s6,s7⟩
  go_simp
  with_reducible rfl
 rotate_left
 ·simp only [Act.put,yoI,yos0,yos1,i64_w,i32_w]
  rfl
 refine take_ (i := 13) (N := some 25) (v := ?_) (a' := ?_) yo14 rfl rfl (take_ofW HT_.out HW_.out (by kernel_rfl)) (fun _ _ _ h => h) (Or.inl ⟨by rfl,?_⟩) hHeld ?_ ?_
 rotate_left
 ·rintro w' ⟨s0,s1,s2,s3,s4,s5,s6,s7⟩
  go_simp
  with_reducible rfl
 rotate_left
 ·simp only [Act.put,yoI,yos0,yos1,i64_w,i32_w]
  rfl
 refine take_ (i := 15) (N := some 27) (v := ?_) (a' := ?_) yo15 rfl rfl (take_ofW HT_.out HW_.out (by kernel_rfl)) (fun _ _ _ h => h) (Or.inl ⟨by rfl,?_⟩) hHeld ?_ ?_
 rotate_left
 ·rintro w' ⟨s0,s1,s2,s3,s4,s5,s6,s7⟩
  go_simp
  with_reducible rfl
 rotate_left
 ·simp only [Act.put,yoI,yos0,yos1,i64_w,i32_w]
  rfl
 refine one_ (i := 11) (N := some 23) yo16 rfl rfl (one_of HT_.out (by kernel_rfl)) (by decide) (fun K hK => ?_)
 refine goes_ Try.func27 (by kernel_rfl) rfl #[.int .i64 sl,.agg #[.int .i64 ls,.int .i64 lt]] (by rfl) rfl rfl (by simp only [List.map_toArray,List.map_cons,List.map_nil]; rfl) ?_
 with_reducible refine (table_Sector.calls sl ls lt r _ HR1.out).mono ?_
 rintro e_ wf ⟨rfl,hb⟩
 refine ⟨_,rfl,?_⟩
 replace HX3 := mB HX3 hb
 replace HX4 := mB HX4 hb
 replace HX5 := mB HX5 hb
 replace HB := mS HB hb
 clear hb
 refine hK.out _ _ ⟨(cL HX3 0 rfl),(cL HX3 1 rfl),(cL HX3 2 rfl),(cL HX3 3 rfl),(cL HX3 4 rfl),(cL HX5 0 rfl),(cL HX5 1 rfl),(cL HX5 2 rfl)⟩ (fun hHeld => ?_)
 clear hK K
 refine norm_ (a' := ?_) ?_ ?_
 rotate_left
 ·show Act.put _ (some 23) _ = _
  simp only [Act.put,yoI,yos0,yos1,i64_w,i32_w]
  rfl
 refine one_ (i := 16) (N := some 28) yo17 rfl rfl (one_of HT_.out (by kernel_rfl)) (by decide) (fun K hK => ?_)
 refine goes_ Try.func28 (by kernel_rfl) rfl #[.int .i64 sl,.agg #[.int .i64 ls,.int .i64 lt]] (by rfl) rfl rfl (by simp only [List.map_toArray,List.map_cons,List.map_nil]; rfl) ?_
 with_reducible refine (lodgerref08_Sector.calls sl ls lt r _ HR2.out).mono ?_
 rintro e_ we ⟨rfl,hb⟩
 refine ⟨_,rfl,?_⟩
 replace HX3 := mB HX3 hb
 replace HX4 := mB HX4 hb
 replace HX5 := mB HX5 hb
 replace HB := mS HB hb
 clear hb
 refine hK.out _ _ ⟨(cL HX3 0 rfl),(cL HX3 1 rfl),(cL HX3 2 rfl),(cL HX3 3 rfl),(cL HX3 4 rfl),(cL HX5 0 rfl),(cL HX5 1 rfl),(cL HX5 2 rfl)⟩ (fun hHeld => ?_)
 clear hK K
 refine norm_ (a' := ?_) ?_ ?_
 rotate_left
 ·show Act.put _ (some 28) _ = _
  simp only [Act.put,yoI,yos0,yos1,i64_w,i32_w]
  rfl
 refine pure_ (i := 17) (N := some 29) (v := ?_) (a' := ?_) yo18 rfl rfl (any_of HT_.out (by kernel_rfl)) (fun _ _ _ h => h) (Or.inl ⟨by rfl,?_⟩) ?_ ?_
 rotate_left
 ·intro w'
  go_simp
  with_reducible rfl
 rotate_left
 ·simp only [Act.put,yoI,yos0,yos1,i64_w,i32_w]
  rfl
 refine pure_ (i := 18) (N := some 30) (v := ?_) (a' := ?_) yo19 rfl rfl (any_of HT_.out (by kernel_rfl)) (fun _ _ _ h => h) (Or.inl ⟨by rfl,?_⟩) ?_ ?_
 rotate_left
 ·intro w'
  go_simp
  with_reducible rfl
 rotate_left
 ·simp only [Act.put,yoI,yos0,yos1,i64_w,i32_w]
  rfl
 refine done_ (done_of HT_.out (by kernel_rfl)) ?_
 clear HT_ HW_ hHeld
 clear t1 t2 HR1 HR2
 have s_0 : we.cell? ⟨g3,0,none⟩ = some (.int .i64 g) := cL HX3 0 rfl
 have s_1 : we.cell? ⟨g3,1,none⟩ = some (.int .i64 s) := cL HX3 1 rfl
 have s_2 : we.cell? ⟨g3,2,none⟩ = some (.slice Ao o.length co) := cL HX3 2 rfl
 have s_3 : we.cell? ⟨g3,3,none⟩ = some (.slice Al l.length cl) := cL HX3 3 rfl
 have s_4 : we.cell? ⟨g3,4,none⟩ = some (.slice Af f.length cf) := cL HX3 4 rfl
 go_wp2_with fail
 clear s_0 s_1 s_2 s_3 s_4
 refine (ref_calls g s Ao co o Al cl l Af cf f _).mono ?_
 rintro e_ w4 ⟨rfl,hb⟩
 replace HX3 := mB HX3 hb
 replace HX4 := mB HX4 hb
 replace HX5 := mB HX5 hb
 replace HB := mS HB hb
 clear hb
 go_wp2_with fail
 refine (rright_calls g s Ao co o Al cl l Af cf f _ (TC_below HT.out HB.out) (by have := HLN.out; omega)).mono ?_
 rintro e_ w5 ⟨rfl,hb⟩
 replace HX3 := mB HX3 hb
 replace HX4 := mB HX4 hb
 replace HX5 := mB HX5 hb
 replace HB := mS HB hb
 clear hb
 rw [← HRB.out]
 cases b
 ·go_wp2_with fail
  refine (fixed_calls _).mono ?_
  rintro e_ w7 ⟨rfl,hb⟩
  go_wp2_with fail
  go_ret
  exact ⟨rfl,below_step HB.out hb⟩
 ·have HRT := Aside0.mk (rt_iff.1 HRB.out.symm)
  clear HRB HX5
  go_wp2_with fail
  refine start_ (n := 14) (S := fun w' => w'.cell? ⟨g3,0,none⟩ = some (.int .i64 g) ∧ w'.cell? ⟨g3,1,none⟩ = some (.int .i64 s) ∧ w'.cell? ⟨g3,2,none⟩ = some (.slice Ao o.length co) ∧ w'.cell? ⟨g3,3,none⟩ = some (.slice Al l.length cl) ∧ w'.cell? ⟨g3,4,none⟩ = some (.slice Af f.length cf) ∧ w'.cell? ⟨g4,0,none⟩ = some (.int .i64 kind) ∧ w'.cell? ⟨g4,1,none⟩ = some (.int .i64 seg) ∧ w'.cell? ⟨g4,2,none⟩ = some (.int .u64 first)) (ds := []) yo20 (by kernel_rfl) rfl rfl ⟨((blk_cell (blk_drew HX3.out) 0).trans rfl),((blk_cell (blk_drew HX3.out) 1).trans rfl),((blk_cell (blk_drew HX3.out) 2).trans rfl),((blk_cell (blk_drew HX3.out) 3).trans rfl),((blk_cell (blk_drew HX3.out) 4).trans rfl),((blk_cell (blk_drew HX4.out) 0).trans rfl),((blk_cell (blk_drew HX4.out) 1).trans rfl),((blk_cell (blk_drew HX4.out) 2).trans rfl)⟩ (fun hHeld => ?_)
  refine with_tabW once8.tab6 once8.bits6 (fun HT_ HW_ => ?_)
  replace HX3 := Aside0.mk (blk_drew HX3.out)
  replace HX4 := Aside0.mk (blk_drew HX4.out)
  replace HB := Aside0.mk (below_drew HB.out)
  generalize w5.drew = wd6 at *
  refine take_ (i := 0) (N := some 37) (v := ?_) (a' := ?_) yo21 rfl rfl (take_ofW HT_.out HW_.out (by kernel_rfl)) (fun _ _ _ h => h) (Or.inl ⟨by rfl,?_⟩) hHeld ?_ ?_
  rotate_left
  ·rintro w' ⟨s0,s1,s2,s3,s4,s5,s6,s7⟩
   go_simp
   with_reducible rfl
  rotate_left
  ·simp only [Act.put,yoI,yos0,yos1,i64_w,i32_w]
   rfl
  refine take_ (i := 1) (N := some 38) (v := ?_) (a' := ?_) yo22 rfl rfl (take_ofW HT_.out HW_.out (by kernel_rfl)) (fun _ _ _ h => h) (Or.inl ⟨by rfl,?_⟩) hHeld ?_ ?_
  rotate_left
  ·rintro w' ⟨s0,s1,s2,s3,s4,s5,s6,s7⟩
   go_simp
   with_reducible rfl
  rotate_left
  ·simp only [Act.put,yoI,yos0,yos1,i64_w,i32_w]
   rfl
  refine take_ (i := 3) (N := some 40) (v := ?_) (a' := ?_) yo23 rfl rfl (take_ofW HT_.out HW_.out (by kernel_rfl)) (fun _ _ _ h => h) (Or.inl ⟨by rfl,?_⟩) hHeld ?_ ?_
  rotate_left
  ·rintro w' ⟨s0,s1,s2,s3,s4,s5,s6,s7⟩
   go_simp
   with_reducible rfl
  rotate_left
  ·simp only [Act.put,yoI,yos0,yos1,i64_w,i32_w]
   rfl
  refine join_ (σ := Nat × Nat × Value × Value × Value) 3 yo24 (fun s_ => [(39,.agg #[.int .i64 g,.int .i64 s,.slice Ao o.length co,.slice Al l.length cl,.slice Af f.length cf]),(41,s_.2.2.1),(36,s_.2.2.1),(42,s_.2.2.2.1),(43,s_.2.2.2.2),(44,.bool true),(7,.pointer (some ⟨s_.1,0,none⟩)),(8,.pointer (some ⟨s_.2.1,0,none⟩))]) (fun s_ w' => w'.heap[s_.1]? = some (.cells #[.int .i64 0,.int .i64 0,.slice none 0 0,.slice none 0 0,.slice none 0 0] 28 (0,0)) ∧ w'.heap[s_.2.1]? = some (.cells #[.int .i64 0,.int .i64 0,.slice none 0 0,.slice none 0 0,.slice none 0 0] 32 (0,0)) ∧ w'.heap[g3]? = some (.cells #[.int .i64 g,.int .i64 s,.slice Ao o.length co,.slice Al l.length cl,.slice Af f.length cf] 28 (0,0)) ∧ w'.heap[g4]? = some (.cells #[.int .i64 kind,.int .i64 seg,.int .u64 first] 42 (0,0)) ∧ Below w.heap.size w w' ∧ w.heap.size ≤ s_.1 ∧ w.heap.size ≤ s_.2.1 ∧ g3 ≠ s_.1 ∧ g4 ≠ s_.1 ∧ g3 ≠ s_.2.1 ∧ g4 ≠ s_.2.1 ∧ s_.1 ≠ s_.2.1 ∧ (∃ (cn0 : Int) (cn1 : Int) (cP1 : Option Addr) (cm1 : Nat) (ck1 : Nat) (cP2 : Option Addr) (cm2 : Nat) (ck2 : Nat) (cP3 : Option Addr) (cm3 : Nat) (ck3 : Nat) (dn0 : Int) (dn1 : Int) (dP1 : Option Addr) (dm1 : Nat) (dk1 : Nat) (dP2 : Option Addr) (dm2 : Nat) (dk2 : Nat) (dP3 : Option Addr) (dm3 : Nat) (dk3 : Nat),s_.2.2.1 = .tuple #[.agg #[.int .i64 cn0,.int .i64 cn1,.slice cP1 cm1 ck1,.slice cP2 cm2 ck2,.slice cP3 cm3 ck3],.agg #[.int .i64 dn0,.int .i64 dn1,.slice dP1 dm1 dk1,.slice dP2 dm2 dk2,.slice dP3 dm3 dk3],.bool true] ∧ s_.2.2.2.1 = .agg #[.int .i64 cn0,.int .i64 cn1,.slice cP1 cm1 ck1,.slice cP2 cm2 ck2,.slice cP3 cm3 ck3] ∧ s_.2.2.2.2 = .agg #[.int .i64 dn0,.int .i64 dn1,.slice dP1 dm1 dk1,.slice dP2 dm2 dk2,.slice dP3 dm3 dk3])) ?_ ?_
  rotate_left
  ·intro hCont
   refine three_ (i := 2) (j := 9) (k := 10) (Ni := some 39) (Nj := some 7) (Nk := some 8) yo25 yo26 yo27 rfl rfl rfl rfl rfl rfl (three_of HT_.out (by kernel_rfl)) (by decide) (by decide) (by decide) (fun K hK => ?_) (fun K hK => ?_) (fun K hK => ?_)
   ·skip
    refine goes_ Try.func12 (by kernel_rfl) rfl #[.agg #[.int .i64 g,.int .i64 s,.slice Ao o.length co,.slice Al l.length cl,.slice Af f.length cf]] (by rfl) rfl rfl (by simp only [List.map_toArray,List.map_cons,List.map_nil]; rfl) ?_
    with_reducible refine (ref_calls g s _ _ o _ _ l _ _ f _).mono ?_
    rintro e_ wf1 ⟨rfl,hb⟩
    refine ⟨_,rfl,?_⟩
    replace HX3 := mB HX3 hb
    replace HX4 := mB HX4 hb
    replace HB := mS HB hb
    clear hb
    refine hK.out _ _ ⟨(cL HX3 0 rfl),(cL HX3 1 rfl),(cL HX3 2 rfl),(cL HX3 3 rfl),(cL HX3 4 rfl),(cL HX4 0 rfl),(cL HX4 1 rfl),(cL HX4 2 rfl)⟩ (fun hHeld => ?_)
    clear hK K
    refine norm_ (a' := ?_) ?_ ?_
    rotate_left
    ·show Act.put _ (some 39) _ = _
     simp only [Act.put,yoI,yos0,yos1,i64_w,i32_w]
     rfl
    refine three_ (i := 4) (j := 9) (k := 10) (Ni := some 41) (Nj := some 7) (Nk := some 8) yo28 yo29 yo30 rfl rfl rfl rfl rfl rfl (three_of HT_.out (by kernel_rfl)) (by decide) (by decide) (by decide) (fun K hK => ?_) (fun K hK => ?_) (fun K hK => ?_)
    ·skip
     refine goes_ Try.func15 (by kernel_rfl) rfl #[.agg #[.int .i64 g,.int .i64 s,.slice Ao o.length co,.slice Al l.length cl,.slice Af f.length cf],.agg #[.int .i64 g,.int .i64 s,.slice Ao o.length co,.slice Al l.length cl,.slice Af f.length cf],.agg #[.int .i64 kind,.int .i64 seg,.int .u64 first]] (by rfl) rfl rfl (by simp only [List.map_toArray,List.map_cons,List.map_nil]; rfl) ?_
     with_reducible refine (do_flat kind seg first (TC_below HT.out HB.out) HRT.out).mono ?_
     rintro e_ wf2 ⟨hV,hb⟩
     obtain ⟨cn0,cn1,cP1,cm1,ck1,cP2,cm2,ck2,cP3,cm3,ck3,dn0,dn1,dP1,dm1,dk1,dP2,dm2,dk2,dP3,dm3,dk3,rfl⟩ := hV
     refine ⟨_,rfl,?_⟩
     replace HX3 := mB HX3 hb
     replace HX4 := mB HX4 hb
     replace HB := mS HB hb
     clear hb
     refine hK.out _ _ ⟨(cL HX3 0 rfl),(cL HX3 1 rfl),(cL HX3 2 rfl),(cL HX3 3 rfl),(cL HX3 4 rfl),(cL HX4 0 rfl),(cL HX4 1 rfl),(cL HX4 2 rfl)⟩ (fun hHeld => ?_)
     clear hK K
     refine norm_ (a' := ?_) ?_ ?_
     rotate_left
     ·show Act.put _ (some 41) _ = _
      simp only [Act.put,yoI,yos0,yos1,i64_w,i32_w]
      rfl
     refine pure_ (i := 5) (N := some 36) (v := ?_) (a' := ?_) yo31 rfl rfl (any_of HT_.out (by kernel_rfl)) (fun _ _ _ h => h) (Or.inl ⟨by rfl,?_⟩) ?_ ?_
     rotate_left
     ·intro w'
      go_simp
      with_reducible rfl
     rotate_left
     ·simp only [Act.put,yoI,yos0,yos1,i64_w,i32_w]
      rfl
     refine pure_ (i := 6) (N := some 42) (v := ?_) (a' := ?_) yo32 rfl rfl (any_of HT_.out (by kernel_rfl)) (fun _ _ _ h => h) (Or.inl ⟨by rfl,?_⟩) ?_ ?_
     rotate_left
     ·intro w'
      go_simp
      with_reducible rfl
     rotate_left
     ·simp only [Act.put,yoI,yos0,yos1,i64_w,i32_w]
      rfl
     refine pure_ (i := 7) (N := some 43) (v := ?_) (a' := ?_) yo33 rfl rfl (any_of HT_.out (by kernel_rfl)) (fun _ _ _ h => h) (Or.inl ⟨by rfl,?_⟩) ?_ ?_
     rotate_left
     ·intro w'
      go_simp
      with_reducible rfl
     rotate_left
     ·simp only [Act.put,yoI,yos0,yos1,i64_w,i32_w]
      rfl
     refine pure_ (i := 8) (N := some 44) (v := ?_) (a' := ?_) yo34 rfl rfl (any_of HT_.out (by kernel_rfl)) (fun _ _ _ h => h) (Or.inl ⟨by rfl,?_⟩) ?_ ?_
     rotate_left
     ·intro w'
      go_simp
      with_reducible rfl
     rotate_left
     ·simp only [Act.put,yoI,yos0,yos1,i64_w,i32_w]
      rfl
     refine two_ (i := 9) (j := 10) (Ni := some 7) (Nj := some 8) yo35 yo36 rfl rfl rfl rfl (two_of HT_.out (by kernel_rfl)) (by decide) (by decide) (fun K hK => ?_) (fun K hK => ?_)
     ·skip
      refine value_ (w1 := ?_) (v := ?_) (by rfl) rfl ?_ ?_
      rotate_left 2
      ·go_simp
       constructor
       ·rfl
       ·rfl
      obtain ⟨wf3,hW⟩ : ∃ W_,W_ = wf2.alloc (.cells #[.int .i64 0,.int .i64 0,.slice none 0 0,.slice none 0 0,.slice none 0 0] 28) := ⟨_,rfl⟩
      obtain ⟨g7,hg⟩ : ∃ g_,g_ = wf2.heap.size := ⟨_,rfl⟩
      rw [← hW,← hg]
      have hb : Below wf2.heap.size wf2 wf3 := by rw [hW]; exact below_alloc (Below.refl _ _) _
      have hx_ : wf3.heap[g7]? = some (.cells #[.int .i64 0,.int .i64 0,.slice none 0 0,.slice none 0 0,.slice none 0 0] 28 (0,0)) := by rw [hW,hg]; exact blk_new _ _
      have HG7 : Aside0 (w.heap.size ≤ g7) := ⟨by rw [hg]; exact below_size HB.out⟩
      have N37 : Aside0 (g3 ≠ g7) := ⟨by rw [hg]; exact Nat.ne_of_lt (blk_lt HX3.out)⟩
      have N47 : Aside0 (g4 ≠ g7) := ⟨by rw [hg]; exact Nat.ne_of_lt (blk_lt HX4.out)⟩
      replace HX3 := mB HX3 hb
      replace HX4 := mB HX4 hb
      replace HB := mS HB hb
      have HX7 := Aside0.mk hx_
      clear hx_ hb hg hW
      refine hK.out _ _ ⟨(cL HX3 0 rfl),(cL HX3 1 rfl),(cL HX3 2 rfl),(cL HX3 3 rfl),(cL HX3 4 rfl),(cL HX4 0 rfl),(cL HX4 1 rfl),(cL HX4 2 rfl)⟩ (fun hHeld => ?_)
      clear hK K
      refine norm_ (a' := ?_) ?_ ?_
      rotate_left
      ·show Act.put _ (some 7) _ = _
       simp only [Act.put,yoI,yos0,yos1,i64_w,i32_w]
       rfl
      refine one_ (i := 10) (N := some 8) yo24 rfl rfl (one_of HT_.out (by kernel_rfl)) (by decide) (fun K hK => ?_)
      refine value_ (w1 := ?_) (v := ?_) (by rfl) rfl ?_ ?_
      rotate_left 2
      ·go_simp
       constructor
       ·rfl
       ·rfl
      obtain ⟨wf4,hW⟩ : ∃ W_,W_ = wf3.alloc (.cells #[.int .i64 0,.int .i64 0,.slice none 0 0,.slice none 0 0,.slice none 0 0] 32) := ⟨_,rfl⟩
      obtain ⟨g8,hg⟩ : ∃ g_,g_ = wf3.heap.size := ⟨_,rfl⟩
      rw [← hW,← hg]
      have hb : Below wf3.heap.size wf3 wf4 := by rw [hW]; exact below_alloc (Below.refl _ _) _
      have hx_ : wf4.heap[g8]? = some (.cells #[.int .i64 0,.int .i64 0,.slice none 0 0,.slice none 0 0,.slice none 0 0] 32 (0,0)) := by rw [hW,hg]; exact blk_new _ _
      have HG8 : Aside0 (w.heap.size ≤ g8) := ⟨by rw [hg]; exact below_size HB.out⟩
      have N38 : Aside0 (g3 ≠ g8) := ⟨by rw [hg]; exact Nat.ne_of_lt (blk_lt HX3.out)⟩
      have N48 : Aside0 (g4 ≠ g8) := ⟨by rw [hg]; exact Nat.ne_of_lt (blk_lt HX4.out)⟩
      have N78 : Aside0 (g7 ≠ g8) := ⟨by rw [hg]; exact Nat.ne_of_lt (blk_lt HX7.out)⟩
      replace HX3 := mB HX3 hb
      replace HX4 := mB HX4 hb
      replace HX7 := mB HX7 hb
      replace HB := mS HB hb
      have HX8 := Aside0.mk hx_
      clear hx_ hb hg hW
      refine hK.out _ _ ⟨(cL HX3 0 rfl),(cL HX3 1 rfl),(cL HX3 2 rfl),(cL HX3 3 rfl),(cL HX3 4 rfl),(cL HX4 0 rfl),(cL HX4 1 rfl),(cL HX4 2 rfl)⟩ (fun hHeld => ?_)
      clear hK K
      refine norm_ (a' := ?_) ?_ ?_
      rotate_left
      ·show Act.put _ (some 8) _ = _
       simp only [Act.put,yoI,yos0,yos1,i64_w,i32_w]
       rfl
      exact norm_ (by first | (simp only [putAll,Act.put,yoI,yos0,yos1]; done) | (simp only [putAll,Act.put,yoI,yos0,yos1]; rfl)) (hCont (g7,g8,.tuple #[.agg #[.int .i64 cn0,.int .i64 cn1,.slice cP1 cm1 ck1,.slice cP2 cm2 ck2,.slice cP3 cm3 ck3],.agg #[.int .i64 dn0,.int .i64 dn1,.slice dP1 dm1 dk1,.slice dP2 dm2 dk2,.slice dP3 dm3 dk3],.bool true],.agg #[.int .i64 cn0,.int .i64 cn1,.slice cP1 cm1 ck1,.slice cP2 cm2 ck2,.slice cP3 cm3 ck3],.agg #[.int .i64 dn0,.int .i64 dn1,.slice dP1 dm1 dk1,.slice dP2 dm2 dk2,.slice dP3 dm3 dk3]) _ ⟨HX7.out,HX8.out,HX3.out,HX4.out,HB.out,HG7.out,HG8.out,N37.out,N47.out,N38.out,N48.out,N78.out,cn0,cn1,cP1,cm1,ck1,cP2,cm2,ck2,cP3,cm3,ck3,dn0,dn1,dP1,dm1,dk1,dP2,dm2,dk2,dP3,dm3,dk3,rfl,rfl,rfl⟩)
     ·skip
      refine value_ (w1 := ?_) (v := ?_) (by rfl) rfl ?_ ?_
      rotate_left 2
      ·go_simp
       constructor
       ·rfl
       ·rfl
      obtain ⟨wf3,hW⟩ : ∃ W_,W_ = wf2.alloc (.cells #[.int .i64 0,.int .i64 0,.slice none 0 0,.slice none 0 0,.slice none 0 0] 32) := ⟨_,rfl⟩
      obtain ⟨g8,hg⟩ : ∃ g_,g_ = wf2.heap.size := ⟨_,rfl⟩
      rw [← hW,← hg]
      have hb : Below wf2.heap.size wf2 wf3 := by rw [hW]; exact below_alloc (Below.refl _ _) _
      have hx_ : wf3.heap[g8]? = some (.cells #[.int .i64 0,.int .i64 0,.slice none 0 0,.slice none 0 0,.slice none 0 0] 32 (0,0)) := by rw [hW,hg]; exact blk_new _ _
      have HG8 : Aside0 (w.heap.size ≤ g8) := ⟨by rw [hg]; exact below_size HB.out⟩
      have N38 : Aside0 (g3 ≠ g8) := ⟨by rw [hg]; exact Nat.ne_of_lt (blk_lt HX3.out)⟩
      have N48 : Aside0 (g4 ≠ g8) := ⟨by rw [hg]; exact Nat.ne_of_lt (blk_lt HX4.out)⟩
      replace HX3 := mB HX3 hb
      replace HX4 := mB HX4 hb
      replace HB := mS HB hb
      have HX8 := Aside0.mk hx_
      clear hx_ hb hg hW
      refine hK.out _ _ ⟨(cL HX3 0 rfl),(cL HX3 1 rfl),(cL HX3 2 rfl),(cL HX3 3 rfl),(cL HX3 4 rfl),(cL HX4 0 rfl),(cL HX4 1 rfl),(cL HX4 2 rfl)⟩ (fun hHeld => ?_)
      clear hK K
      refine norm_ (a' := ?_) ?_ ?_
      rotate_left
      ·show Act.put _ (some 8) _ = _
       simp only [Act.put,yoI,yos0,yos1,i64_w,i32_w]
       rfl
      refine one_ (i := 9) (N := some 7) yo24 rfl rfl (one_of HT_.out (by kernel_rfl)) (by decide) (fun K hK => ?_)
      refine value_ (w1 := ?_) (v := ?_) (by rfl) rfl ?_ ?_
      rotate_left 2
      ·go_simp
       constructor
       ·rfl
       ·rfl
      obtain ⟨wf4,hW⟩ : ∃ W_,W_ = wf3.alloc (.cells #[.int .i64 0,.int .i64 0,.slice none 0 0,.slice none 0 0,.slice none 0 0] 28) := ⟨_,rfl⟩
      obtain ⟨g7,hg⟩ : ∃ g_,g_ = wf3.heap.size := ⟨_,rfl⟩
      rw [← hW,← hg]
      have hb : Below wf3.heap.size wf3 wf4 := by rw [hW]; exact below_alloc (Below.refl _ _) _
      have hx_ : wf4.heap[g7]? = some (.cells #[.int .i64 0,.int .i64 0,.slice none 0 0,.slice none 0 0,.slice none 0 0] 28 (0,0)) := by rw [hW,hg]; exact blk_new _ _
      have HG7 : Aside0 (w.heap.size ≤ g7) := ⟨by rw [hg]; exact below_size HB.out⟩
      have N37 : Aside0 (g3 ≠ g7) := ⟨by rw [hg]; exact Nat.ne_of_lt (blk_lt HX3.out)⟩
      have N47 : Aside0 (g4 ≠ g7) := ⟨by rw [hg]; exact Nat.ne_of_lt (blk_lt HX4.out)⟩
      have N87 : Aside0 (g8 ≠ g7) := ⟨by rw [hg]; exact Nat.ne_of_lt (blk_lt HX8.out)⟩
      replace HX3 := mB HX3 hb
      replace HX4 := mB HX4 hb
      replace HX8 := mB HX8 hb
      replace HB := mS HB hb
      have HX7 := Aside0.mk hx_
      clear hx_ hb hg hW
      refine hK.out _ _ ⟨(cL HX3 0 rfl),(cL HX3 1 rfl),(cL HX3 2 rfl),(cL HX3 3 rfl),(cL HX3 4 rfl),(cL HX4 0 rfl),(cL HX4 1 rfl),(cL HX4 2 rfl)⟩ (fun hHeld => ?_)
      clear hK K
      refine norm_ (a' := ?_) ?_ ?_
      rotate_left
      ·show Act.put _ (some 7) _ = _
       simp only [Act.put,yoI,yos0,yos1,i64_w,i32_w]
       rfl
      exact norm_ (by first | (simp only [putAll,Act.put,yoI,yos0,yos1]; done) | (simp only [putAll,Act.put,yoI,yos0,yos1]; rfl)) (hCont (g7,g8,.tuple #[.agg #[.int .i64 cn0,.int .i64 cn1,.slice cP1 cm1 ck1,.slice cP2 cm2 ck2,.slice cP3 cm3 ck3],.agg #[.int .i64 dn0,.int .i64 dn1,.slice dP1 dm1 dk1,.slice dP2 dm2 dk2,.slice dP3 dm3 dk3],.bool true],.agg #[.int .i64 cn0,.int .i64 cn1,.slice cP1 cm1 ck1,.slice cP2 cm2 ck2,.slice cP3 cm3 ck3],.agg #[.int .i64 dn0,.int .i64 dn1,.slice dP1 dm1 dk1,.slice dP2 dm2 dk2,.slice dP3 dm3 dk3]) _ ⟨HX7.out,HX8.out,HX3.out,HX4.out,HB.out,HG7.out,HG8.out,N37.out,N47.out,N38.out,N48.out,(Ne.symm N87.out),cn0,cn1,cP1,cm1,ck1,cP2,cm2,ck2,cP3,cm3,ck3,dn0,dn1,dP1,dm1,dk1,dP2,dm2,dk2,dP3,dm3,dk3,rfl,rfl,rfl⟩)
    ·skip
     refine value_ (w1 := ?_) (v := ?_) (by rfl) rfl ?_ ?_
     rotate_left 2
     ·go_simp
      constructor
      ·rfl
      ·rfl
     obtain ⟨wf2,hW⟩ : ∃ W_,W_ = wf1.alloc (.cells #[.int .i64 0,.int .i64 0,.slice none 0 0,.slice none 0 0,.slice none 0 0] 28) := ⟨_,rfl⟩
     obtain ⟨g7,hg⟩ : ∃ g_,g_ = wf1.heap.size := ⟨_,rfl⟩
     rw [← hW,← hg]
     have hb : Below wf1.heap.size wf1 wf2 := by rw [hW]; exact below_alloc (Below.refl _ _) _
     have hx_ : wf2.heap[g7]? = some (.cells #[.int .i64 0,.int .i64 0,.slice none 0 0,.slice none 0 0,.slice none 0 0] 28 (0,0)) := by rw [hW,hg]; exact blk_new _ _
     have HG7 : Aside0 (w.heap.size ≤ g7) := ⟨by rw [hg]; exact below_size HB.out⟩
     have N37 : Aside0 (g3 ≠ g7) := ⟨by rw [hg]; exact Nat.ne_of_lt (blk_lt HX3.out)⟩
     have N47 : Aside0 (g4 ≠ g7) := ⟨by rw [hg]; exact Nat.ne_of_lt (blk_lt HX4.out)⟩
     replace HX3 := mB HX3 hb
     replace HX4 := mB HX4 hb
     replace HB := mS HB hb
     have HX7 := Aside0.mk hx_
     clear hx_ hb hg hW
     refine hK.out _ _ ⟨(cL HX3 0 rfl),(cL HX3 1 rfl),(cL HX3 2 rfl),(cL HX3 3 rfl),(cL HX3 4 rfl),(cL HX4 0 rfl),(cL HX4 1 rfl),(cL HX4 2 rfl)⟩ (fun hHeld => ?_)
     clear hK K
     refine norm_ (a' := ?_) ?_ ?_
     rotate_left
     ·show Act.put _ (some 7) _ = _
      simp only [Act.put,yoI,yos0,yos1,i64_w,i32_w]
      rfl
     refine two_ (i := 4) (j := 10) (Ni := some 41) (Nj := some 8) yo37 yo38 rfl rfl rfl rfl (two_of HT_.out (by kernel_rfl)) (by decide) (by decide) (fun K hK => ?_) (fun K hK => ?_)
     ·skip
      refine goes_ Try.func15 (by kernel_rfl) rfl #[.agg #[.int .i64 g,.int .i64 s,.slice Ao o.length co,.slice Al l.length cl,.slice Af f.length cf],.agg #[.int .i64 g,.int .i64 s,.slice Ao o.length co,.slice Al l.length cl,.slice Af f.length cf],.agg #[.int .i64 kind,.int .i64 seg,.int .u64 first]] (by rfl) rfl rfl (by simp only [List.map_toArray,List.map_cons,List.map_nil]; rfl) ?_
      with_reducible refine (do_flat kind seg first (TC_below HT.out HB.out) HRT.out).mono ?_
      rintro e_ wf3 ⟨hV,hb⟩
      obtain ⟨cn0,cn1,cP1,cm1,ck1,cP2,cm2,ck2,cP3,cm3,ck3,dn0,dn1,dP1,dm1,dk1,dP2,dm2,dk2,dP3,dm3,dk3,rfl⟩ := hV
      refine ⟨_,rfl,?_⟩
      replace HX3 := mB HX3 hb
      replace HX4 := mB HX4 hb
      replace HX7 := mB HX7 hb
      replace HB := mS HB hb
      clear hb
      refine hK.out _ _ ⟨(cL HX3 0 rfl),(cL HX3 1 rfl),(cL HX3 2 rfl),(cL HX3 3 rfl),(cL HX3 4 rfl),(cL HX4 0 rfl),(cL HX4 1 rfl),(cL HX4 2 rfl)⟩ (fun hHeld => ?_)
      clear hK K
      refine norm_ (a' := ?_) ?_ ?_
      rotate_left
      ·show Act.put _ (some 41) _ = _
       simp only [Act.put,yoI,yos0,yos1,i64_w,i32_w]
       rfl
      refine pure_ (i := 5) (N := some 36) (v := ?_) (a' := ?_) yo39 rfl rfl (any_of HT_.out (by kernel_rfl)) (fun _ _ _ h => h) (Or.inl ⟨by rfl,?_⟩) ?_ ?_
      rotate_left
      ·intro w'
       go_simp
       with_reducible rfl
      rotate_left
      ·simp only [Act.put,yoI,yos0,yos1,i64_w,i32_w]
       rfl
      refine pure_ (i := 6) (N := some 42) (v := ?_) (a' := ?_) yo40 rfl rfl (any_of HT_.out (by kernel_rfl)) (fun _ _ _ h => h) (Or.inl ⟨by rfl,?_⟩) ?_ ?_
      rotate_left
      ·intro w'
       go_simp
       with_reducible rfl
      rotate_left
      ·simp only [Act.put,yoI,yos0,yos1,i64_w,i32_w]
       rfl
      refine pure_ (i := 7) (N := some 43) (v := ?_) (a' := ?_) yo41 rfl rfl (any_of HT_.out (by kernel_rfl)) (fun _ _ _ h => h) (Or.inl ⟨by rfl,?_⟩) ?_ ?_
      rotate_left
      ·intro w'
       go_simp
       with_reducible rfl
      rotate_left
      ·simp only [Act.put,yoI,yos0,yos1,i64_w,i32_w]
       rfl
      refine pure_ (i := 8) (N := some 44) (v := ?_) (a' := ?_) yo35 rfl rfl (any_of HT_.out (by kernel_rfl)) (fun _ _ _ h => h) (Or.inl ⟨by rfl,?_⟩) ?_ ?_
      rotate_left
      ·intro w'
       go_simp
       with_reducible rfl
      rotate_left
      ·simp only [Act.put,yoI,yos0,yos1,i64_w,i32_w]
       rfl
      refine one_ (i := 10) (N := some 8) yo24 rfl rfl (one_of HT_.out (by kernel_rfl)) (by decide) (fun K hK => ?_)
      refine value_ (w1 := ?_) (v := ?_) (by rfl) rfl ?_ ?_
      rotate_left 2
      ·go_simp
       constructor
       ·rfl
       ·rfl
      obtain ⟨wf4,hW⟩ : ∃ W_,W_ = wf3.alloc (.cells #[.int .i64 0,.int .i64 0,.slice none 0 0,.slice none 0 0,.slice none 0 0] 32) := ⟨_,rfl⟩
      obtain ⟨g8,hg⟩ : ∃ g_,g_ = wf3.heap.size := ⟨_,rfl⟩
      rw [← hW,← hg]
      have hb : Below wf3.heap.size wf3 wf4 := by rw [hW]; exact below_alloc (Below.refl _ _) _
      have hx_ : wf4.heap[g8]? = some (.cells #[.int .i64 0,.int .i64 0,.slice none 0 0,.slice none 0 0,.slice none 0 0] 32 (0,0)) := by rw [hW,hg]; exact blk_new _ _
      have HG8 : Aside0 (w.heap.size ≤ g8) := ⟨by rw [hg]; exact below_size HB.out⟩
      have N38 : Aside0 (g3 ≠ g8) := ⟨by rw [hg]; exact Nat.ne_of_lt (blk_lt HX3.out)⟩
      have N48 : Aside0 (g4 ≠ g8) := ⟨by rw [hg]; exact Nat.ne_of_lt (blk_lt HX4.out)⟩
      have N78 : Aside0 (g7 ≠ g8) := ⟨by rw [hg]; exact Nat.ne_of_lt (blk_lt HX7.out)⟩
      replace HX3 := mB HX3 hb
      replace HX4 := mB HX4 hb
      replace HX7 := mB HX7 hb
      replace HB := mS HB hb
      have HX8 := Aside0.mk hx_
      clear hx_ hb hg hW
      refine hK.out _ _ ⟨(cL HX3 0 rfl),(cL HX3 1 rfl),(cL HX3 2 rfl),(cL HX3 3 rfl),(cL HX3 4 rfl),(cL HX4 0 rfl),(cL HX4 1 rfl),(cL HX4 2 rfl)⟩ (fun hHeld => ?_)
      clear hK K
      refine norm_ (a' := ?_) ?_ ?_
      rotate_left
      ·show Act.put _ (some 8) _ = _
       simp only [Act.put,yoI,yos0,yos1,i64_w,i32_w]
       rfl
      exact norm_ (by first | (simp only [putAll,Act.put,yoI,yos0,yos1]; done) | (simp only [putAll,Act.put,yoI,yos0,yos1]; rfl)) (hCont (g7,g8,.tuple #[.agg #[.int .i64 cn0,.int .i64 cn1,.slice cP1 cm1 ck1,.slice cP2 cm2 ck2,.slice cP3 cm3 ck3],.agg #[.int .i64 dn0,.int .i64 dn1,.slice dP1 dm1 dk1,.slice dP2 dm2 dk2,.slice dP3 dm3 dk3],.bool true],.agg #[.int .i64 cn0,.int .i64 cn1,.slice cP1 cm1 ck1,.slice cP2 cm2 ck2,.slice cP3 cm3 ck3],.agg #[.int .i64 dn0,.int .i64 dn1,.slice dP1 dm1 dk1,.slice dP2 dm2 dk2,.slice dP3 dm3 dk3]) _ ⟨HX7.out,HX8.out,HX3.out,HX4.out,HB.out,HG7.out,HG8.out,N37.out,N47.out,N38.out,N48.out,N78.out,cn0,cn1,cP1,cm1,ck1,cP2,cm2,ck2,cP3,cm3,ck3,dn0,dn1,dP1,dm1,dk1,dP2,dm2,dk2,dP3,dm3,dk3,rfl,rfl,rfl⟩)
     ·skip
      refine value_ (w1 := ?_) (v := ?_) (by rfl) rfl ?_ ?_
      rotate_left 2
      ·go_simp
       constructor
       ·rfl
       ·rfl
      obtain ⟨wf3,hW⟩ : ∃ W_,W_ = wf2.alloc (.cells #[.int .i64 0,.int .i64 0,.slice none 0 0,.slice none 0 0,.slice none 0 0] 32) := ⟨_,rfl⟩
      obtain ⟨g8,hg⟩ : ∃ g_,g_ = wf2.heap.size := ⟨_,rfl⟩
      rw [← hW,← hg]
      have hb : Below wf2.heap.size wf2 wf3 := by rw [hW]; exact below_alloc (Below.refl _ _) _
      have hx_ : wf3.heap[g8]? = some (.cells #[.int .i64 0,.int .i64 0,.slice none 0 0,.slice none 0 0,.slice none 0 0] 32 (0,0)) := by rw [hW,hg]; exact blk_new _ _
      have HG8 : Aside0 (w.heap.size ≤ g8) := ⟨by rw [hg]; exact below_size HB.out⟩
      have N38 : Aside0 (g3 ≠ g8) := ⟨by rw [hg]; exact Nat.ne_of_lt (blk_lt HX3.out)⟩
      have N48 : Aside0 (g4 ≠ g8) := ⟨by rw [hg]; exact Nat.ne_of_lt (blk_lt HX4.out)⟩
      have N78 : Aside0 (g7 ≠ g8) := ⟨by rw [hg]; exact Nat.ne_of_lt (blk_lt HX7.out)⟩
      replace HX3 := mB HX3 hb
      replace HX4 := mB HX4 hb
      replace HX7 := mB HX7 hb
      replace HB := mS HB hb
      have HX8 := Aside0.mk hx_
      clear hx_ hb hg hW
      refine hK.out _ _ ⟨(cL HX3 0 rfl),(cL HX3 1 rfl),(cL HX3 2 rfl),(cL HX3 3 rfl),(cL HX3 4 rfl),(cL HX4 0 rfl),(cL HX4 1 rfl),(cL HX4 2 rfl)⟩ (fun hHeld => ?_)
      clear hK K
      refine norm_ (a' := ?_) ?_ ?_
      rotate_left
      ·show Act.put _ (some 8) _ = _
       simp only [Act.put,yoI,yos0,yos1,i64_w,i32_w]
       rfl
      refine one_ (i := 4) (N := some 41) yo42 rfl rfl (one_of HT_.out (by kernel_rfl)) (by decide) (fun K hK => ?_)
      refine goes_ Try.func15 (by kernel_rfl) rfl #[.agg #[.int .i64 g,.int .i64 s,.slice Ao o.length co,.slice Al l.length cl,.slice Af f.length cf],.agg #[.int .i64 g,.int .i64 s,.slice Ao o.length co,.slice Al l.length cl,.slice Af f.length cf],.agg #[.int .i64 kind,.int .i64 seg,.int .u64 first]] (by rfl) rfl rfl (by simp only [List.map_toArray,List.map_cons,List.map_nil]; rfl) ?_
      with_reducible refine (do_flat kind seg first (TC_below HT.out HB.out) HRT.out).mono ?_
      rintro e_ wf4 ⟨hV,hb⟩
      obtain ⟨cn0,cn1,cP1,cm1,ck1,cP2,cm2,ck2,cP3,cm3,ck3,dn0,dn1,dP1,dm1,dk1,dP2,dm2,dk2,dP3,dm3,dk3,rfl⟩ := hV
      refine ⟨_,rfl,?_⟩
      replace HX3 := mB HX3 hb
      replace HX4 := mB HX4 hb
      replace HX7 := mB HX7 hb
      replace HX8 := mB HX8 hb
      replace HB := mS HB hb
      clear hb
      refine hK.out _ _ ⟨(cL HX3 0 rfl),(cL HX3 1 rfl),(cL HX3 2 rfl),(cL HX3 3 rfl),(cL HX3 4 rfl),(cL HX4 0 rfl),(cL HX4 1 rfl),(cL HX4 2 rfl)⟩ (fun hHeld => ?_)
      clear hK K
      refine norm_ (a' := ?_) ?_ ?_
      rotate_left
      ·show Act.put _ (some 41) _ = _
       simp only [Act.put,yoI,yos0,yos1,i64_w,i32_w]
       rfl
      refine pure_ (i := 5) (N := some 36) (v := ?_) (a' := ?_) yo43 rfl rfl (any_of HT_.out (by kernel_rfl)) (fun _ _ _ h => h) (Or.inl ⟨by rfl,?_⟩) ?_ ?_
      rotate_left
      ·intro w'
       go_simp
       with_reducible rfl
      rotate_left
      ·simp only [Act.put,yoI,yos0,yos1,i64_w,i32_w]
       rfl
      refine pure_ (i := 6) (N := some 42) (v := ?_) (a' := ?_) yo44 rfl rfl (any_of HT_.out (by kernel_rfl)) (fun _ _ _ h => h) (Or.inl ⟨by rfl,?_⟩) ?_ ?_
      rotate_left
      ·intro w'
       go_simp
       with_reducible rfl
      rotate_left
      ·simp only [Act.put,yoI,yos0,yos1,i64_w,i32_w]
       rfl
      refine pure_ (i := 7) (N := some 43) (v := ?_) (a' := ?_) yo45 rfl rfl (any_of HT_.out (by kernel_rfl)) (fun _ _ _ h => h) (Or.inl ⟨by rfl,?_⟩) ?_ ?_
      rotate_left
      ·intro w'
       go_simp
       with_reducible rfl
      rotate_left
      ·simp only [Act.put,yoI,yos0,yos1,i64_w,i32_w]
       rfl
      refine pure_ (i := 8) (N := some 44) (v := ?_) (a' := ?_) yo24 rfl rfl (any_of HT_.out (by kernel_rfl)) (fun _ _ _ h => h) (Or.inl ⟨by rfl,?_⟩) ?_ ?_
      rotate_left
      ·intro w'
       go_simp
       with_reducible rfl
      rotate_left
      ·simp only [Act.put,yoI,yos0,yos1,i64_w,i32_w]
       rfl
      exact norm_ (by first | (simp only [putAll,Act.put,yoI,yos0,yos1]; done) | (simp only [putAll,Act.put,yoI,yos0,yos1]; rfl)) (hCont (g7,g8,.tuple #[.agg #[.int .i64 cn0,.int .i64 cn1,.slice cP1 cm1 ck1,.slice cP2 cm2 ck2,.slice cP3 cm3 ck3],.agg #[.int .i64 dn0,.int .i64 dn1,.slice dP1 dm1 dk1,.slice dP2 dm2 dk2,.slice dP3 dm3 dk3],.bool true],.agg #[.int .i64 cn0,.int .i64 cn1,.slice cP1 cm1 ck1,.slice cP2 cm2 ck2,.slice cP3 cm3 ck3],.agg #[.int .i64 dn0,.int .i64 dn1,.slice dP1 dm1 dk1,.slice dP2 dm2 dk2,.slice dP3 dm3 dk3]) _ ⟨HX7.out,HX8.out,HX3.out,HX4.out,HB.out,HG7.out,HG8.out,N37.out,N47.out,N38.out,N48.out,N78.out,cn0,cn1,cP1,cm1,ck1,cP2,cm2,ck2,cP3,cm3,ck3,dn0,dn1,dP1,dm1,dk1,dP2,dm2,dk2,dP3,dm3,dk3,rfl,rfl,rfl⟩)
    ·skip
     refine value_ (w1 := ?_) (v := ?_) (by rfl) rfl ?_ ?_
     rotate_left 2
     ·go_simp
      constructor
      ·rfl
      ·rfl
     obtain ⟨wf2,hW⟩ : ∃ W_,W_ = wf1.alloc (.cells #[.int .i64 0,.int .i64 0,.slice none 0 0,.slice none 0 0,.slice none 0 0] 32) := ⟨_,rfl⟩
     obtain ⟨g8,hg⟩ : ∃ g_,g_ = wf1.heap.size := ⟨_,rfl⟩
     rw [← hW,← hg]
     have hb : Below wf1.heap.size wf1 wf2 := by rw [hW]; exact below_alloc (Below.refl _ _) _
     have hx_ : wf2.heap[g8]? = some (.cells #[.int .i64 0,.int .i64 0,.slice none 0 0,.slice none 0 0,.slice none 0 0] 32 (0,0)) := by rw [hW,hg]; exact blk_new _ _
     have HG8 : Aside0 (w.heap.size ≤ g8) := ⟨by rw [hg]; exact below_size HB.out⟩
     have N38 : Aside0 (g3 ≠ g8) := ⟨by rw [hg]; exact Nat.ne_of_lt (blk_lt HX3.out)⟩
     have N48 : Aside0 (g4 ≠ g8) := ⟨by rw [hg]; exact Nat.ne_of_lt (blk_lt HX4.out)⟩
     replace HX3 := mB HX3 hb
     replace HX4 := mB HX4 hb
     replace HB := mS HB hb
     have HX8 := Aside0.mk hx_
     clear hx_ hb hg hW
     refine hK.out _ _ ⟨(cL HX3 0 rfl),(cL HX3 1 rfl),(cL HX3 2 rfl),(cL HX3 3 rfl),(cL HX3 4 rfl),(cL HX4 0 rfl),(cL HX4 1 rfl),(cL HX4 2 rfl)⟩ (fun hHeld => ?_)
     clear hK K
     refine norm_ (a' := ?_) ?_ ?_
     rotate_left
     ·show Act.put _ (some 8) _ = _
      simp only [Act.put,yoI,yos0,yos1,i64_w,i32_w]
      rfl
     refine two_ (i := 4) (j := 9) (Ni := some 41) (Nj := some 7) yo46 yo38 rfl rfl rfl rfl (two_of HT_.out (by kernel_rfl)) (by decide) (by decide) (fun K hK => ?_) (fun K hK => ?_)
     ·skip
      refine goes_ Try.func15 (by kernel_rfl) rfl #[.agg #[.int .i64 g,.int .i64 s,.slice Ao o.length co,.slice Al l.length cl,.slice Af f.length cf],.agg #[.int .i64 g,.int .i64 s,.slice Ao o.length co,.slice Al l.length cl,.slice Af f.length cf],.agg #[.int .i64 kind,.int .i64 seg,.int .u64 first]] (by rfl) rfl rfl (by simp only [List.map_toArray,List.map_cons,List.map_nil]; rfl) ?_
      with_reducible refine (do_flat kind seg first (TC_below HT.out HB.out) HRT.out).mono ?_
      rintro e_ wf3 ⟨hV,hb⟩
      obtain ⟨cn0,cn1,cP1,cm1,ck1,cP2,cm2,ck2,cP3,cm3,ck3,dn0,dn1,dP1,dm1,dk1,dP2,dm2,dk2,dP3,dm3,dk3,rfl⟩ := hV
      refine ⟨_,rfl,?_⟩
      replace HX3 := mB HX3 hb
      replace HX4 := mB HX4 hb
      replace HX8 := mB HX8 hb
      replace HB := mS HB hb
      clear hb
      refine hK.out _ _ ⟨(cL HX3 0 rfl),(cL HX3 1 rfl),(cL HX3 2 rfl),(cL HX3 3 rfl),(cL HX3 4 rfl),(cL HX4 0 rfl),(cL HX4 1 rfl),(cL HX4 2 rfl)⟩ (fun hHeld => ?_)
      clear hK K
      refine norm_ (a' := ?_) ?_ ?_
      rotate_left
      ·show Act.put _ (some 41) _ = _
       simp only [Act.put,yoI,yos0,yos1,i64_w,i32_w]
       rfl
      refine pure_ (i := 5) (N := some 36) (v := ?_) (a' := ?_) yo47 rfl rfl (any_of HT_.out (by kernel_rfl)) (fun _ _ _ h => h) (Or.inl ⟨by rfl,?_⟩) ?_ ?_
      rotate_left
      ·intro w'
       go_simp
       with_reducible rfl
      rotate_left
      ·simp only [Act.put,yoI,yos0,yos1,i64_w,i32_w]
       rfl
      refine pure_ (i := 6) (N := some 42) (v := ?_) (a' := ?_) yo48 rfl rfl (any_of HT_.out (by kernel_rfl)) (fun _ _ _ h => h) (Or.inl ⟨by rfl,?_⟩) ?_ ?_
      rotate_left
      ·intro w'
       go_simp
       with_reducible rfl
      rotate_left
      ·simp only [Act.put,yoI,yos0,yos1,i64_w,i32_w]
       rfl
      refine pure_ (i := 7) (N := some 43) (v := ?_) (a' := ?_) yo49 rfl rfl (any_of HT_.out (by kernel_rfl)) (fun _ _ _ h => h) (Or.inl ⟨by rfl,?_⟩) ?_ ?_
      rotate_left
      ·intro w'
       go_simp
       with_reducible rfl
      rotate_left
      ·simp only [Act.put,yoI,yos0,yos1,i64_w,i32_w]
       rfl
      refine pure_ (i := 8) (N := some 44) (v := ?_) (a' := ?_) yo36 rfl rfl (any_of HT_.out (by kernel_rfl)) (fun _ _ _ h => h) (Or.inl ⟨by rfl,?_⟩) ?_ ?_
      rotate_left
      ·intro w'
       go_simp
       with_reducible rfl
      rotate_left
      ·simp only [Act.put,yoI,yos0,yos1,i64_w,i32_w]
       rfl
      refine one_ (i := 9) (N := some 7) yo24 rfl rfl (one_of HT_.out (by kernel_rfl)) (by decide) (fun K hK => ?_)
      refine value_ (w1 := ?_) (v := ?_) (by rfl) rfl ?_ ?_
      rotate_left 2
      ·go_simp
       constructor
       ·rfl
       ·rfl
      obtain ⟨wf4,hW⟩ : ∃ W_,W_ = wf3.alloc (.cells #[.int .i64 0,.int .i64 0,.slice none 0 0,.slice none 0 0,.slice none 0 0] 28) := ⟨_,rfl⟩
      obtain ⟨g7,hg⟩ : ∃ g_,g_ = wf3.heap.size := ⟨_,rfl⟩
      rw [← hW,← hg]
      have hb : Below wf3.heap.size wf3 wf4 := by rw [hW]; exact below_alloc (Below.refl _ _) _
      have hx_ : wf4.heap[g7]? = some (.cells #[.int .i64 0,.int .i64 0,.slice none 0 0,.slice none 0 0,.slice none 0 0] 28 (0,0)) := by rw [hW,hg]; exact blk_new _ _
      have HG7 : Aside0 (w.heap.size ≤ g7) := ⟨by rw [hg]; exact below_size HB.out⟩
      have N37 : Aside0 (g3 ≠ g7) := ⟨by rw [hg]; exact Nat.ne_of_lt (blk_lt HX3.out)⟩
      have N47 : Aside0 (g4 ≠ g7) := ⟨by rw [hg]; exact Nat.ne_of_lt (blk_lt HX4.out)⟩
      have N87 : Aside0 (g8 ≠ g7) := ⟨by rw [hg]; exact Nat.ne_of_lt (blk_lt HX8.out)⟩
      replace HX3 := mB HX3 hb
      replace HX4 := mB HX4 hb
      replace HX8 := mB HX8 hb
      replace HB := mS HB hb
      have HX7 := Aside0.mk hx_
      clear hx_ hb hg hW
      refine hK.out _ _ ⟨(cL HX3 0 rfl),(cL HX3 1 rfl),(cL HX3 2 rfl),(cL HX3 3 rfl),(cL HX3 4 rfl),(cL HX4 0 rfl),(cL HX4 1 rfl),(cL HX4 2 rfl)⟩ (fun hHeld => ?_)
      clear hK K
      refine norm_ (a' := ?_) ?_ ?_
      rotate_left
      ·show Act.put _ (some 7) _ = _
       simp only [Act.put,yoI,yos0,yos1,i64_w,i32_w]
       rfl
      exact norm_ (by first | (simp only [putAll,Act.put,yoI,yos0,yos1]; done) | (simp only [putAll,Act.put,yoI,yos0,yos1]; rfl)) (hCont (g7,g8,.tuple #[.agg #[.int .i64 cn0,.int .i64 cn1,.slice cP1 cm1 ck1,.slice cP2 cm2 ck2,.slice cP3 cm3 ck3],.agg #[.int .i64 dn0,.int .i64 dn1,.slice dP1 dm1 dk1,.slice dP2 dm2 dk2,.slice dP3 dm3 dk3],.bool true],.agg #[.int .i64 cn0,.int .i64 cn1,.slice cP1 cm1 ck1,.slice cP2 cm2 ck2,.slice cP3 cm3 ck3],.agg #[.int .i64 dn0,.int .i64 dn1,.slice dP1 dm1 dk1,.slice dP2 dm2 dk2,.slice dP3 dm3 dk3]) _ ⟨HX7.out,HX8.out,HX3.out,HX4.out,HB.out,HG7.out,HG8.out,N37.out,N47.out,N38.out,N48.out,(Ne.symm N87.out),cn0,cn1,cP1,cm1,ck1,cP2,cm2,ck2,cP3,cm3,ck3,dn0,dn1,dP1,dm1,dk1,dP2,dm2,dk2,dP3,dm3,dk3,rfl,rfl,rfl⟩)
     ·skip
      refine value_ (w1 := ?_) (v := ?_) (by rfl) rfl ?_ ?_
      rotate_left 2
      ·go_simp
       constructor
       ·rfl
       ·rfl
      obtain ⟨wf3,hW⟩ : ∃ W_,W_ = wf2.alloc (.cells #[.int .i64 0,.int .i64 0,.slice none 0 0,.slice none 0 0,.slice none 0 0] 28) := ⟨_,rfl⟩
      obtain ⟨g7,hg⟩ : ∃ g_,g_ = wf2.heap.size := ⟨_,rfl⟩
      rw [← hW,← hg]
      have hb : Below wf2.heap.size wf2 wf3 := by rw [hW]; exact below_alloc (Below.refl _ _) _
      have hx_ : wf3.heap[g7]? = some (.cells #[.int .i64 0,.int .i64 0,.slice none 0 0,.slice none 0 0,.slice none 0 0] 28 (0,0)) := by rw [hW,hg]; exact blk_new _ _
      have HG7 : Aside0 (w.heap.size ≤ g7) := ⟨by rw [hg]; exact below_size HB.out⟩
      have N37 : Aside0 (g3 ≠ g7) := ⟨by rw [hg]; exact Nat.ne_of_lt (blk_lt HX3.out)⟩
      have N47 : Aside0 (g4 ≠ g7) := ⟨by rw [hg]; exact Nat.ne_of_lt (blk_lt HX4.out)⟩
      have N87 : Aside0 (g8 ≠ g7) := ⟨by rw [hg]; exact Nat.ne_of_lt (blk_lt HX8.out)⟩
      replace HX3 := mB HX3 hb
      replace HX4 := mB HX4 hb
      replace HX8 := mB HX8 hb
      replace HB := mS HB hb
      have HX7 := Aside0.mk hx_
      clear hx_ hb hg hW
      refine hK.out _ _ ⟨(cL HX3 0 rfl),(cL HX3 1 rfl),(cL HX3 2 rfl),(cL HX3 3 rfl),(cL HX3 4 rfl),(cL HX4 0 rfl),(cL HX4 1 rfl),(cL HX4 2 rfl)⟩ (fun hHeld => ?_)
      clear hK K
      refine norm_ (a' := ?_) ?_ ?_
      rotate_left
      ·show Act.put _ (some 7) _ = _
       simp only [Act.put,yoI,yos0,yos1,i64_w,i32_w]
       rfl
      refine one_ (i := 4) (N := some 41) yo42 rfl rfl (one_of HT_.out (by kernel_rfl)) (by decide) (fun K hK => ?_)
      refine goes_ Try.func15 (by kernel_rfl) rfl #[.agg #[.int .i64 g,.int .i64 s,.slice Ao o.length co,.slice Al l.length cl,.slice Af f.length cf],.agg #[.int .i64 g,.int .i64 s,.slice Ao o.length co,.slice Al l.length cl,.slice Af f.length cf],.agg #[.int .i64 kind,.int .i64 seg,.int .u64 first]] (by rfl) rfl rfl (by simp only [List.map_toArray,List.map_cons,List.map_nil]; rfl) ?_
      with_reducible refine (do_flat kind seg first (TC_below HT.out HB.out) HRT.out).mono ?_
      rintro e_ wf4 ⟨hV,hb⟩
      obtain ⟨cn0,cn1,cP1,cm1,ck1,cP2,cm2,ck2,cP3,cm3,ck3,dn0,dn1,dP1,dm1,dk1,dP2,dm2,dk2,dP3,dm3,dk3,rfl⟩ := hV
      refine ⟨_,rfl,?_⟩
      replace HX3 := mB HX3 hb
      replace HX4 := mB HX4 hb
      replace HX7 := mB HX7 hb
      replace HX8 := mB HX8 hb
      replace HB := mS HB hb
      clear hb
      refine hK.out _ _ ⟨(cL HX3 0 rfl),(cL HX3 1 rfl),(cL HX3 2 rfl),(cL HX3 3 rfl),(cL HX3 4 rfl),(cL HX4 0 rfl),(cL HX4 1 rfl),(cL HX4 2 rfl)⟩ (fun hHeld => ?_)
      clear hK K
      refine norm_ (a' := ?_) ?_ ?_
      rotate_left
      ·show Act.put _ (some 41) _ = _
       simp only [Act.put,yoI,yos0,yos1,i64_w,i32_w]
       rfl
      refine pure_ (i := 5) (N := some 36) (v := ?_) (a' := ?_) yo43 rfl rfl (any_of HT_.out (by kernel_rfl)) (fun _ _ _ h => h) (Or.inl ⟨by rfl,?_⟩) ?_ ?_
      rotate_left
      ·intro w'
       go_simp
       with_reducible rfl
      rotate_left
      ·simp only [Act.put,yoI,yos0,yos1,i64_w,i32_w]
       rfl
      refine pure_ (i := 6) (N := some 42) (v := ?_) (a' := ?_) yo44 rfl rfl (any_of HT_.out (by kernel_rfl)) (fun _ _ _ h => h) (Or.inl ⟨by rfl,?_⟩) ?_ ?_
      rotate_left
      ·intro w'
       go_simp
       with_reducible rfl
      rotate_left
      ·simp only [Act.put,yoI,yos0,yos1,i64_w,i32_w]
       rfl
      refine pure_ (i := 7) (N := some 43) (v := ?_) (a' := ?_) yo45 rfl rfl (any_of HT_.out (by kernel_rfl)) (fun _ _ _ h => h) (Or.inl ⟨by rfl,?_⟩) ?_ ?_
      rotate_left
      ·intro w'
       go_simp
       with_reducible rfl
      rotate_left
      ·simp only [Act.put,yoI,yos0,yos1,i64_w,i32_w]
       rfl
      refine pure_ (i := 8) (N := some 44) (v := ?_) (a' := ?_) yo24 rfl rfl (any_of HT_.out (by kernel_rfl)) (fun _ _ _ h => h) (Or.inl ⟨by rfl,?_⟩) ?_ ?_
      rotate_left
      ·intro w'
       go_simp
       with_reducible rfl
      rotate_left
      ·simp only [Act.put,yoI,yos0,yos1,i64_w,i32_w]
       rfl
      exact norm_ (by first | (simp only [putAll,Act.put,yoI,yos0,yos1]; done) | (simp only [putAll,Act.put,yoI,yos0,yos1]; rfl)) (hCont (g7,g8,.tuple #[.agg #[.int .i64 cn0,.int .i64 cn1,.slice cP1 cm1 ck1,.slice cP2 cm2 ck2,.slice cP3 cm3 ck3],.agg #[.int .i64 dn0,.int .i64 dn1,.slice dP1 dm1 dk1,.slice dP2 dm2 dk2,.slice dP3 dm3 dk3],.bool true],.agg #[.int .i64 cn0,.int .i64 cn1,.slice cP1 cm1 ck1,.slice cP2 cm2 ck2,.slice cP3 cm3 ck3],.agg #[.int .i64 dn0,.int .i64 dn1,.slice dP1 dm1 dk1,.slice dP2 dm2 dk2,.slice dP3 dm3 dk3]) _ ⟨HX7.out,HX8.out,HX3.out,HX4.out,HB.out,HG7.out,HG8.out,N37.out,N47.out,N38.out,N48.out,(Ne.symm N87.out),cn0,cn1,cP1,cm1,ck1,cP2,cm2,ck2,cP3,cm3,ck3,dn0,dn1,dP1,dm1,dk1,dP2,dm2,dk2,dP3,dm3,dk3,rfl,rfl,rfl⟩)
   ·skip
    refine value_ (w1 := ?_) (v := ?_) (by rfl) rfl ?_ ?_
    rotate_left 2
    ·go_simp
     constructor
     ·rfl
     ·rfl
    obtain ⟨wf1,hW⟩ : ∃ W_,W_ = wd6.alloc (.cells #[.int .i64 0,.int .i64 0,.slice none 0 0,.slice none 0 0,.slice none 0 0] 28) := ⟨_,rfl⟩
    obtain ⟨g7,hg⟩ : ∃ g_,g_ = wd6.heap.size := ⟨_,rfl⟩
    rw [← hW,← hg]
    have hb : Below wd6.heap.size wd6 wf1 := by rw [hW]; exact below_alloc (Below.refl _ _) _
    have hx_ : wf1.heap[g7]? = some (.cells #[.int .i64 0,.int .i64 0,.slice none 0 0,.slice none 0 0,.slice none 0 0] 28 (0,0)) := by rw [hW,hg]; exact blk_new _ _
    have HG7 : Aside0 (w.heap.size ≤ g7) := ⟨by rw [hg]; exact below_size HB.out⟩
    have N37 : Aside0 (g3 ≠ g7) := ⟨by rw [hg]; exact Nat.ne_of_lt (blk_lt HX3.out)⟩
    have N47 : Aside0 (g4 ≠ g7) := ⟨by rw [hg]; exact Nat.ne_of_lt (blk_lt HX4.out)⟩
    replace HX3 := mB HX3 hb
    replace HX4 := mB HX4 hb
    replace HB := mS HB hb
    have HX7 := Aside0.mk hx_
    clear hx_ hb hg hW
    refine hK.out _ _ ⟨(cL HX3 0 rfl),(cL HX3 1 rfl),(cL HX3 2 rfl),(cL HX3 3 rfl),(cL HX3 4 rfl),(cL HX4 0 rfl),(cL HX4 1 rfl),(cL HX4 2 rfl)⟩ (fun hHeld => ?_)
    clear hK K
    refine norm_ (a' := ?_) ?_ ?_
    rotate_left
    ·show Act.put _ (some 7) _ = _
     simp only [Act.put,yoI,yos0,yos1,i64_w,i32_w]
     rfl
    refine two_ (i := 2) (j := 10) (Ni := some 39) (Nj := some 8) yo29 yo50 rfl rfl rfl rfl (two_of HT_.out (by kernel_rfl)) (by decide) (by decide) (fun K hK => ?_) (fun K hK => ?_)
    ·skip
     refine goes_ Try.func12 (by kernel_rfl) rfl #[.agg #[.int .i64 g,.int .i64 s,.slice Ao o.length co,.slice Al l.length cl,.slice Af f.length cf]] (by rfl) rfl rfl (by simp only [List.map_toArray,List.map_cons,List.map_nil]; rfl) ?_
     with_reducible refine (ref_calls g s _ _ o _ _ l _ _ f _).mono ?_
     rintro e_ wf2 ⟨rfl,hb⟩
     refine ⟨_,rfl,?_⟩
     replace HX3 := mB HX3 hb
     replace HX4 := mB HX4 hb
     replace HX7 := mB HX7 hb
     replace HB := mS HB hb
     clear hb
     refine hK.out _ _ ⟨(cL HX3 0 rfl),(cL HX3 1 rfl),(cL HX3 2 rfl),(cL HX3 3 rfl),(cL HX3 4 rfl),(cL HX4 0 rfl),(cL HX4 1 rfl),(cL HX4 2 rfl)⟩ (fun hHeld => ?_)
     clear hK K
     refine norm_ (a' := ?_) ?_ ?_
     rotate_left
     ·show Act.put _ (some 39) _ = _
      simp only [Act.put,yoI,yos0,yos1,i64_w,i32_w]
      rfl
     refine two_ (i := 4) (j := 10) (Ni := some 41) (Nj := some 8) yo37 yo38 rfl rfl rfl rfl (two_of HT_.out (by kernel_rfl)) (by decide) (by decide) (fun K hK => ?_) (fun K hK => ?_)
     ·skip
      refine goes_ Try.func15 (by kernel_rfl) rfl #[.agg #[.int .i64 g,.int .i64 s,.slice Ao o.length co,.slice Al l.length cl,.slice Af f.length cf],.agg #[.int .i64 g,.int .i64 s,.slice Ao o.length co,.slice Al l.length cl,.slice Af f.length cf],.agg #[.int .i64 kind,.int .i64 seg,.int .u64 first]] (by rfl) rfl rfl (by simp only [List.map_toArray,List.map_cons,List.map_nil]; rfl) ?_
      with_reducible refine (do_flat kind seg first (TC_below HT.out HB.out) HRT.out).mono ?_
      rintro e_ wf3 ⟨hV,hb⟩
      obtain ⟨cn0,cn1,cP1,cm1,ck1,cP2,cm2,ck2,cP3,cm3,ck3,dn0,dn1,dP1,dm1,dk1,dP2,dm2,dk2,dP3,dm3,dk3,rfl⟩ := hV
      refine ⟨_,rfl,?_⟩
      replace HX3 := mB HX3 hb
      replace HX4 := mB HX4 hb
      replace HX7 := mB HX7 hb
      replace HB := mS HB hb
      clear hb
      refine hK.out _ _ ⟨(cL HX3 0 rfl),(cL HX3 1 rfl),(cL HX3 2 rfl),(cL HX3 3 rfl),(cL HX3 4 rfl),(cL HX4 0 rfl),(cL HX4 1 rfl),(cL HX4 2 rfl)⟩ (fun hHeld => ?_)
      clear hK K
      refine norm_ (a' := ?_) ?_ ?_
      rotate_left
      ·show Act.put _ (some 41) _ = _
       simp only [Act.put,yoI,yos0,yos1,i64_w,i32_w]
       rfl
      refine pure_ (i := 5) (N := some 36) (v := ?_) (a' := ?_) yo39 rfl rfl (any_of HT_.out (by kernel_rfl)) (fun _ _ _ h => h) (Or.inl ⟨by rfl,?_⟩) ?_ ?_
      rotate_left
      ·intro w'
       go_simp
       with_reducible rfl
      rotate_left
      ·simp only [Act.put,yoI,yos0,yos1,i64_w,i32_w]
       rfl
      refine pure_ (i := 6) (N := some 42) (v := ?_) (a' := ?_) yo40 rfl rfl (any_of HT_.out (by kernel_rfl)) (fun _ _ _ h => h) (Or.inl ⟨by rfl,?_⟩) ?_ ?_
      rotate_left
      ·intro w'
       go_simp
       with_reducible rfl
      rotate_left
      ·simp only [Act.put,yoI,yos0,yos1,i64_w,i32_w]
       rfl
      refine pure_ (i := 7) (N := some 43) (v := ?_) (a' := ?_) yo41 rfl rfl (any_of HT_.out (by kernel_rfl)) (fun _ _ _ h => h) (Or.inl ⟨by rfl,?_⟩) ?_ ?_
      rotate_left
      ·intro w'
       go_simp
       with_reducible rfl
      rotate_left
      ·simp only [Act.put,yoI,yos0,yos1,i64_w,i32_w]
       rfl
      refine pure_ (i := 8) (N := some 44) (v := ?_) (a' := ?_) yo35 rfl rfl (any_of HT_.out (by kernel_rfl)) (fun _ _ _ h => h) (Or.inl ⟨by rfl,?_⟩) ?_ ?_
      rotate_left
      ·intro w'
       go_simp
       with_reducible rfl
      rotate_left
      ·simp only [Act.put,yoI,yos0,yos1,i64_w,i32_w]
       rfl
      refine one_ (i := 10) (N := some 8) yo24 rfl rfl (one_of HT_.out (by kernel_rfl)) (by decide) (fun K hK => ?_)
      refine value_ (w1 := ?_) (v := ?_) (by rfl) rfl ?_ ?_
      rotate_left 2
      ·go_simp
       constructor
       ·rfl
       ·rfl
      obtain ⟨wf4,hW⟩ : ∃ W_,W_ = wf3.alloc (.cells #[.int .i64 0,.int .i64 0,.slice none 0 0,.slice none 0 0,.slice none 0 0] 32) := ⟨_,rfl⟩
      obtain ⟨g8,hg⟩ : ∃ g_,g_ = wf3.heap.size := ⟨_,rfl⟩
      rw [← hW,← hg]
      have hb : Below wf3.heap.size wf3 wf4 := by rw [hW]; exact below_alloc (Below.refl _ _) _
      have hx_ : wf4.heap[g8]? = some (.cells #[.int .i64 0,.int .i64 0,.slice none 0 0,.slice none 0 0,.slice none 0 0] 32 (0,0)) := by rw [hW,hg]; exact blk_new _ _
      have HG8 : Aside0 (w.heap.size ≤ g8) := ⟨by rw [hg]; exact below_size HB.out⟩
      have N38 : Aside0 (g3 ≠ g8) := ⟨by rw [hg]; exact Nat.ne_of_lt (blk_lt HX3.out)⟩
      have N48 : Aside0 (g4 ≠ g8) := ⟨by rw [hg]; exact Nat.ne_of_lt (blk_lt HX4.out)⟩
      have N78 : Aside0 (g7 ≠ g8) := ⟨by rw [hg]; exact Nat.ne_of_lt (blk_lt HX7.out)⟩
      replace HX3 := mB HX3 hb
      replace HX4 := mB HX4 hb
      replace HX7 := mB HX7 hb
      replace HB := mS HB hb
      have HX8 := Aside0.mk hx_
      clear hx_ hb hg hW
      refine hK.out _ _ ⟨(cL HX3 0 rfl),(cL HX3 1 rfl),(cL HX3 2 rfl),(cL HX3 3 rfl),(cL HX3 4 rfl),(cL HX4 0 rfl),(cL HX4 1 rfl),(cL HX4 2 rfl)⟩ (fun hHeld => ?_)
      clear hK K
      refine norm_ (a' := ?_) ?_ ?_
      rotate_left
      ·show Act.put _ (some 8) _ = _
       simp only [Act.put,yoI,yos0,yos1,i64_w,i32_w]
       rfl
      exact norm_ (by first | (simp only [putAll,Act.put,yoI,yos0,yos1]; done) | (simp only [putAll,Act.put,yoI,yos0,yos1]; rfl)) (hCont (g7,g8,.tuple #[.agg #[.int .i64 cn0,.int .i64 cn1,.slice cP1 cm1 ck1,.slice cP2 cm2 ck2,.slice cP3 cm3 ck3],.agg #[.int .i64 dn0,.int .i64 dn1,.slice dP1 dm1 dk1,.slice dP2 dm2 dk2,.slice dP3 dm3 dk3],.bool true],.agg #[.int .i64 cn0,.int .i64 cn1,.slice cP1 cm1 ck1,.slice cP2 cm2 ck2,.slice cP3 cm3 ck3],.agg #[.int .i64 dn0,.int .i64 dn1,.slice dP1 dm1 dk1,.slice dP2 dm2 dk2,.slice dP3 dm3 dk3]) _ ⟨HX7.out,HX8.out,HX3.out,HX4.out,HB.out,HG7.out,HG8.out,N37.out,N47.out,N38.out,N48.out,N78.out,cn0,cn1,cP1,cm1,ck1,cP2,cm2,ck2,cP3,cm3,ck3,dn0,dn1,dP1,dm1,dk1,dP2,dm2,dk2,dP3,dm3,dk3,rfl,rfl,rfl⟩)
     ·skip
      refine value_ (w1 := ?_) (v := ?_) (by rfl) rfl ?_ ?_
      rotate_left 2
      ·go_simp
       constructor
       ·rfl
       ·rfl
      obtain ⟨wf3,hW⟩ : ∃ W_,W_ = wf2.alloc (.cells #[.int .i64 0,.int .i64 0,.slice none 0 0,.slice none 0 0,.slice none 0 0] 32) := ⟨_,rfl⟩
      obtain ⟨g8,hg⟩ : ∃ g_,g_ = wf2.heap.size := ⟨_,rfl⟩
      rw [← hW,← hg]
      have hb : Below wf2.heap.size wf2 wf3 := by rw [hW]; exact below_alloc (Below.refl _ _) _
      have hx_ : wf3.heap[g8]? = some (.cells #[.int .i64 0,.int .i64 0,.slice none 0 0,.slice none 0 0,.slice none 0 0] 32 (0,0)) := by rw [hW,hg]; exact blk_new _ _
      have HG8 : Aside0 (w.heap.size ≤ g8) := ⟨by rw [hg]; exact below_size HB.out⟩
      have N38 : Aside0 (g3 ≠ g8) := ⟨by rw [hg]; exact Nat.ne_of_lt (blk_lt HX3.out)⟩
      have N48 : Aside0 (g4 ≠ g8) := ⟨by rw [hg]; exact Nat.ne_of_lt (blk_lt HX4.out)⟩
      have N78 : Aside0 (g7 ≠ g8) := ⟨by rw [hg]; exact Nat.ne_of_lt (blk_lt HX7.out)⟩
      replace HX3 := mB HX3 hb
      replace HX4 := mB HX4 hb
      replace HX7 := mB HX7 hb
      replace HB := mS HB hb
      have HX8 := Aside0.mk hx_
      clear hx_ hb hg hW
      refine hK.out _ _ ⟨(cL HX3 0 rfl),(cL HX3 1 rfl),(cL HX3 2 rfl),(cL HX3 3 rfl),(cL HX3 4 rfl),(cL HX4 0 rfl),(cL HX4 1 rfl),(cL HX4 2 rfl)⟩ (fun hHeld => ?_)
      clear hK K
      refine norm_ (a' := ?_) ?_ ?_
      rotate_left
      ·show Act.put _ (some 8) _ = _
       simp only [Act.put,yoI,yos0,yos1,i64_w,i32_w]
       rfl
      refine one_ (i := 4) (N := some 41) yo42 rfl rfl (one_of HT_.out (by kernel_rfl)) (by decide) (fun K hK => ?_)
      refine goes_ Try.func15 (by kernel_rfl) rfl #[.agg #[.int .i64 g,.int .i64 s,.slice Ao o.length co,.slice Al l.length cl,.slice Af f.length cf],.agg #[.int .i64 g,.int .i64 s,.slice Ao o.length co,.slice Al l.length cl,.slice Af f.length cf],.agg #[.int .i64 kind,.int .i64 seg,.int .u64 first]] (by rfl) rfl rfl (by simp only [List.map_toArray,List.map_cons,List.map_nil]; rfl) ?_
      with_reducible refine (do_flat kind seg first (TC_below HT.out HB.out) HRT.out).mono ?_
      rintro e_ wf4 ⟨hV,hb⟩
      obtain ⟨cn0,cn1,cP1,cm1,ck1,cP2,cm2,ck2,cP3,cm3,ck3,dn0,dn1,dP1,dm1,dk1,dP2,dm2,dk2,dP3,dm3,dk3,rfl⟩ := hV
      refine ⟨_,rfl,?_⟩
      replace HX3 := mB HX3 hb
      replace HX4 := mB HX4 hb
      replace HX7 := mB HX7 hb
      replace HX8 := mB HX8 hb
      replace HB := mS HB hb
      clear hb
      refine hK.out _ _ ⟨(cL HX3 0 rfl),(cL HX3 1 rfl),(cL HX3 2 rfl),(cL HX3 3 rfl),(cL HX3 4 rfl),(cL HX4 0 rfl),(cL HX4 1 rfl),(cL HX4 2 rfl)⟩ (fun hHeld => ?_)
      clear hK K
      refine norm_ (a' := ?_) ?_ ?_
      rotate_left
      ·show Act.put _ (some 41) _ = _
       simp only [Act.put,yoI,yos0,yos1,i64_w,i32_w]
       rfl
      refine pure_ (i := 5) (N := some 36) (v := ?_) (a' := ?_) yo43 rfl rfl (any_of HT_.out (by kernel_rfl)) (fun _ _ _ h => h) (Or.inl ⟨by rfl,?_⟩) ?_ ?_
      rotate_left
      ·intro w'
       go_simp
       with_reducible rfl
      rotate_left
      ·simp only [Act.put,yoI,yos0,yos1,i64_w,i32_w]
       rfl
      refine pure_ (i := 6) (N := some 42) (v := ?_) (a' := ?_) yo44 rfl rfl (any_of HT_.out (by kernel_rfl)) (fun _ _ _ h => h) (Or.inl ⟨by rfl,?_⟩) ?_ ?_
      rotate_left
      ·intro w'
       go_simp
       with_reducible rfl
      rotate_left
      ·simp only [Act.put,yoI,yos0,yos1,i64_w,i32_w]
       rfl
      refine pure_ (i := 7) (N := some 43) (v := ?_) (a' := ?_) yo45 rfl rfl (any_of HT_.out (by kernel_rfl)) (fun _ _ _ h => h) (Or.inl ⟨by rfl,?_⟩) ?_ ?_
      rotate_left
      ·intro w'
       go_simp
       with_reducible rfl
      rotate_left
      ·simp only [Act.put,yoI,yos0,yos1,i64_w,i32_w]
       rfl
      refine pure_ (i := 8) (N := some 44) (v := ?_) (a' := ?_) yo24 rfl rfl (any_of HT_.out (by kernel_rfl)) (fun _ _ _ h => h) (Or.inl ⟨by rfl,?_⟩) ?_ ?_
      rotate_left
      ·intro w'
       go_simp
       with_reducible rfl
      rotate_left
      ·simp only [Act.put,yoI,yos0,yos1,i64_w,i32_w]
       rfl
      exact norm_ (by first | (simp only [putAll,Act.put,yoI,yos0,yos1]; done) | (simp only [putAll,Act.put,yoI,yos0,yos1]; rfl)) (hCont (g7,g8,.tuple #[.agg #[.int .i64 cn0,.int .i64 cn1,.slice cP1 cm1 ck1,.slice cP2 cm2 ck2,.slice cP3 cm3 ck3],.agg #[.int .i64 dn0,.int .i64 dn1,.slice dP1 dm1 dk1,.slice dP2 dm2 dk2,.slice dP3 dm3 dk3],.bool true],.agg #[.int .i64 cn0,.int .i64 cn1,.slice cP1 cm1 ck1,.slice cP2 cm2 ck2,.slice cP3 cm3 ck3],.agg #[.int .i64 dn0,.int .i64 dn1,.slice dP1 dm1 dk1,.slice dP2 dm2 dk2,.slice dP3 dm3 dk3]) _ ⟨HX7.out,HX8.out,HX3.out,HX4.out,HB.out,HG7.out,HG8.out,N37.out,N47.out,N38.out,N48.out,N78.out,cn0,cn1,cP1,cm1,ck1,cP2,cm2,ck2,cP3,cm3,ck3,dn0,dn1,dP1,dm1,dk1,dP2,dm2,dk2,dP3,dm3,dk3,rfl,rfl,rfl⟩)
    ·skip
     refine value_ (w1 := ?_) (v := ?_) (by rfl) rfl ?_ ?_
     rotate_left 2
     ·go_simp
      constructor
      ·rfl
      ·rfl
     obtain ⟨wf2,hW⟩ : ∃ W_,W_ = wf1.alloc (.cells #[.int .i64 0,.int .i64 0,.slice none 0 0,.slice none 0 0,.slice none 0 0] 32) := ⟨_,rfl⟩
     obtain ⟨g8,hg⟩ : ∃ g_,g_ = wf1.heap.size := ⟨_,rfl⟩
     rw [← hW,← hg]
     have hb : Below wf1.heap.size wf1 wf2 := by rw [hW]; exact below_alloc (Below.refl _ _) _
     have hx_ : wf2.heap[g8]? = some (.cells #[.int .i64 0,.int .i64 0,.slice none 0 0,.slice none 0 0,.slice none 0 0] 32 (0,0)) := by rw [hW,hg]; exact blk_new _ _
     have HG8 : Aside0 (w.heap.size ≤ g8) := ⟨by rw [hg]; exact below_size HB.out⟩
     have N38 : Aside0 (g3 ≠ g8) := ⟨by rw [hg]; exact Nat.ne_of_lt (blk_lt HX3.out)⟩
     have N48 : Aside0 (g4 ≠ g8) := ⟨by rw [hg]; exact Nat.ne_of_lt (blk_lt HX4.out)⟩
     have N78 : Aside0 (g7 ≠ g8) := ⟨by rw [hg]; exact Nat.ne_of_lt (blk_lt HX7.out)⟩
     replace HX3 := mB HX3 hb
     replace HX4 := mB HX4 hb
     replace HX7 := mB HX7 hb
     replace HB := mS HB hb
     have HX8 := Aside0.mk hx_
     clear hx_ hb hg hW
     refine hK.out _ _ ⟨(cL HX3 0 rfl),(cL HX3 1 rfl),(cL HX3 2 rfl),(cL HX3 3 rfl),(cL HX3 4 rfl),(cL HX4 0 rfl),(cL HX4 1 rfl),(cL HX4 2 rfl)⟩ (fun hHeld => ?_)
     clear hK K
     refine norm_ (a' := ?_) ?_ ?_
     rotate_left
     ·show Act.put _ (some 8) _ = _
      simp only [Act.put,yoI,yos0,yos1,i64_w,i32_w]
      rfl
     refine one_ (i := 2) (N := some 39) yo38 rfl rfl (one_of HT_.out (by kernel_rfl)) (by decide) (fun K hK => ?_)
     refine goes_ Try.func12 (by kernel_rfl) rfl #[.agg #[.int .i64 g,.int .i64 s,.slice Ao o.length co,.slice Al l.length cl,.slice Af f.length cf]] (by rfl) rfl rfl (by simp only [List.map_toArray,List.map_cons,List.map_nil]; rfl) ?_
     with_reducible refine (ref_calls g s _ _ o _ _ l _ _ f _).mono ?_
     rintro e_ wf3 ⟨rfl,hb⟩
     refine ⟨_,rfl,?_⟩
     replace HX3 := mB HX3 hb
     replace HX4 := mB HX4 hb
     replace HX7 := mB HX7 hb
     replace HX8 := mB HX8 hb
     replace HB := mS HB hb
     clear hb
     refine hK.out _ _ ⟨(cL HX3 0 rfl),(cL HX3 1 rfl),(cL HX3 2 rfl),(cL HX3 3 rfl),(cL HX3 4 rfl),(cL HX4 0 rfl),(cL HX4 1 rfl),(cL HX4 2 rfl)⟩ (fun hHeld => ?_)
     clear hK K
     refine norm_ (a' := ?_) ?_ ?_
     rotate_left
     ·show Act.put _ (some 39) _ = _
      simp only [Act.put,yoI,yos0,yos1,i64_w,i32_w]
      rfl
     refine one_ (i := 4) (N := some 41) yo42 rfl rfl (one_of HT_.out (by kernel_rfl)) (by decide) (fun K hK => ?_)
     refine goes_ Try.func15 (by kernel_rfl) rfl #[.agg #[.int .i64 g,.int .i64 s,.slice Ao o.length co,.slice Al l.length cl,.slice Af f.length cf],.agg #[.int .i64 g,.int .i64 s,.slice Ao o.length co,.slice Al l.length cl,.slice Af f.length cf],.agg #[.int .i64 kind,.int .i64 seg,.int .u64 first]] (by rfl) rfl rfl (by simp only [List.map_toArray,List.map_cons,List.map_nil]; rfl) ?_
     with_reducible refine (do_flat kind seg first (TC_below HT.out HB.out) HRT.out).mono ?_
     rintro e_ wf4 ⟨hV,hb⟩
     obtain ⟨cn0,cn1,cP1,cm1,ck1,cP2,cm2,ck2,cP3,cm3,ck3,dn0,dn1,dP1,dm1,dk1,dP2,dm2,dk2,dP3,dm3,dk3,rfl⟩ := hV
     refine ⟨_,rfl,?_⟩
     replace HX3 := mB HX3 hb
     replace HX4 := mB HX4 hb
     replace HX7 := mB HX7 hb
     replace HX8 := mB HX8 hb
     replace HB := mS HB hb
     clear hb
     refine hK.out _ _ ⟨(cL HX3 0 rfl),(cL HX3 1 rfl),(cL HX3 2 rfl),(cL HX3 3 rfl),(cL HX3 4 rfl),(cL HX4 0 rfl),(cL HX4 1 rfl),(cL HX4 2 rfl)⟩ (fun hHeld => ?_)
     clear hK K
     refine norm_ (a' := ?_) ?_ ?_
     rotate_left
     ·show Act.put _ (some 41) _ = _
      simp only [Act.put,yoI,yos0,yos1,i64_w,i32_w]
      rfl
     refine pure_ (i := 5) (N := some 36) (v := ?_) (a' := ?_) yo43 rfl rfl (any_of HT_.out (by kernel_rfl)) (fun _ _ _ h => h) (Or.inl ⟨by rfl,?_⟩) ?_ ?_
     rotate_left
     ·intro w'
      go_simp
      with_reducible rfl
     rotate_left
     ·simp only [Act.put,yoI,yos0,yos1,i64_w,i32_w]
      rfl
     refine pure_ (i := 6) (N := some 42) (v := ?_) (a' := ?_) yo44 rfl rfl (any_of HT_.out (by kernel_rfl)) (fun _ _ _ h => h) (Or.inl ⟨by rfl,?_⟩) ?_ ?_
     rotate_left
     ·intro w'
      go_simp
      with_reducible rfl
     rotate_left
     ·simp only [Act.put,yoI,yos0,yos1,i64_w,i32_w]
      rfl
     refine pure_ (i := 7) (N := some 43) (v := ?_) (a' := ?_) yo45 rfl rfl (any_of HT_.out (by kernel_rfl)) (fun _ _ _ h => h) (Or.inl ⟨by rfl,?_⟩) ?_ ?_
     rotate_left
     ·intro w'
      go_simp
      with_reducible rfl
     rotate_left
     ·simp only [Act.put,yoI,yos0,yos1,i64_w,i32_w]
      rfl
     refine pure_ (i := 8) (N := some 44) (v := ?_) (a' := ?_) yo24 rfl rfl (any_of HT_.out (by kernel_rfl)) (fun _ _ _ h => h) (Or.inl ⟨by rfl,?_⟩) ?_ ?_
     rotate_left
     ·intro w'
      go_simp
      with_reducible rfl
     rotate_left
     ·simp only [Act.put,yoI,yos0,yos1,i64_w,i32_w]
      rfl
     exact norm_ (by first | (simp only [putAll,Act.put,yoI,yos0,yos1]; done) | (simp only [putAll,Act.put,yoI,yos0,yos1]; rfl)) (hCont (g7,g8,.tuple #[.agg #[.int .i64 cn0,.int .i64 cn1,.slice cP1 cm1 ck1,.slice cP2 cm2 ck2,.slice cP3 cm3 ck3],.agg #[.int .i64 dn0,.int .i64 dn1,.slice dP1 dm1 dk1,.slice dP2 dm2 dk2,.slice dP3 dm3 dk3],.bool true],.agg #[.int .i64 cn0,.int .i64 cn1,.slice cP1 cm1 ck1,.slice cP2 cm2 ck2,.slice cP3 cm3 ck3],.agg #[.int .i64 dn0,.int .i64 dn1,.slice dP1 dm1 dk1,.slice dP2 dm2 dk2,.slice dP3 dm3 dk3]) _ ⟨HX7.out,HX8.out,HX3.out,HX4.out,HB.out,HG7.out,HG8.out,N37.out,N47.out,N38.out,N48.out,N78.out,cn0,cn1,cP1,cm1,ck1,cP2,cm2,ck2,cP3,cm3,ck3,dn0,dn1,dP1,dm1,dk1,dP2,dm2,dk2,dP3,dm3,dk3,rfl,rfl,rfl⟩)
   ·skip
    refine value_ (w1 := ?_) (v := ?_) (by rfl) rfl ?_ ?_
    rotate_left 2
    ·go_simp
     constructor
     ·rfl
     ·rfl
    obtain ⟨wf1,hW⟩ : ∃ W_,W_ = wd6.alloc (.cells #[.int .i64 0,.int .i64 0,.slice none 0 0,.slice none 0 0,.slice none 0 0] 32) := ⟨_,rfl⟩
    obtain ⟨g8,hg⟩ : ∃ g_,g_ = wd6.heap.size := ⟨_,rfl⟩
    rw [← hW,← hg]
    have hb : Below wd6.heap.size wd6 wf1 := by rw [hW]; exact below_alloc (Below.refl _ _) _
    have hx_ : wf1.heap[g8]? = some (.cells #[.int .i64 0,.int .i64 0,.slice none 0 0,.slice none 0 0,.slice none 0 0] 32 (0,0)) := by rw [hW,hg]; exact blk_new _ _
    have HG8 : Aside0 (w.heap.size ≤ g8) := ⟨by rw [hg]; exact below_size HB.out⟩
    have N38 : Aside0 (g3 ≠ g8) := ⟨by rw [hg]; exact Nat.ne_of_lt (blk_lt HX3.out)⟩
    have N48 : Aside0 (g4 ≠ g8) := ⟨by rw [hg]; exact Nat.ne_of_lt (blk_lt HX4.out)⟩
    replace HX3 := mB HX3 hb
    replace HX4 := mB HX4 hb
    replace HB := mS HB hb
    have HX8 := Aside0.mk hx_
    clear hx_ hb hg hW
    refine hK.out _ _ ⟨(cL HX3 0 rfl),(cL HX3 1 rfl),(cL HX3 2 rfl),(cL HX3 3 rfl),(cL HX3 4 rfl),(cL HX4 0 rfl),(cL HX4 1 rfl),(cL HX4 2 rfl)⟩ (fun hHeld => ?_)
    clear hK K
    refine norm_ (a' := ?_) ?_ ?_
    rotate_left
    ·show Act.put _ (some 8) _ = _
     simp only [Act.put,yoI,yos0,yos1,i64_w,i32_w]
     rfl
    refine two_ (i := 2) (j := 9) (Ni := some 39) (Nj := some 7) yo30 yo50 rfl rfl rfl rfl (two_of HT_.out (by kernel_rfl)) (by decide) (by decide) (fun K hK => ?_) (fun K hK => ?_)
    ·skip
     refine goes_ Try.func12 (by kernel_rfl) rfl #[.agg #[.int .i64 g,.int .i64 s,.slice Ao o.length co,.slice Al l.length cl,.slice Af f.length cf]] (by rfl) rfl rfl (by simp only [List.map_toArray,List.map_cons,List.map_nil]; rfl) ?_
     with_reducible refine (ref_calls g s _ _ o _ _ l _ _ f _).mono ?_
     rintro e_ wf2 ⟨rfl,hb⟩
     refine ⟨_,rfl,?_⟩
     replace HX3 := mB HX3 hb
     replace HX4 := mB HX4 hb
     replace HX8 := mB HX8 hb
     replace HB := mS HB hb
     clear hb
     refine hK.out _ _ ⟨(cL HX3 0 rfl),(cL HX3 1 rfl),(cL HX3 2 rfl),(cL HX3 3 rfl),(cL HX3 4 rfl),(cL HX4 0 rfl),(cL HX4 1 rfl),(cL HX4 2 rfl)⟩ (fun hHeld => ?_)
     clear hK K
     refine norm_ (a' := ?_) ?_ ?_
     rotate_left
     ·show Act.put _ (some 39) _ = _
      simp only [Act.put,yoI,yos0,yos1,i64_w,i32_w]
      rfl
     refine two_ (i := 4) (j := 9) (Ni := some 41) (Nj := some 7) yo46 yo38 rfl rfl rfl rfl (two_of HT_.out (by kernel_rfl)) (by decide) (by decide) (fun K hK => ?_) (fun K hK => ?_)
     ·skip
      refine goes_ Try.func15 (by kernel_rfl) rfl #[.agg #[.int .i64 g,.int .i64 s,.slice Ao o.length co,.slice Al l.length cl,.slice Af f.length cf],.agg #[.int .i64 g,.int .i64 s,.slice Ao o.length co,.slice Al l.length cl,.slice Af f.length cf],.agg #[.int .i64 kind,.int .i64 seg,.int .u64 first]] (by rfl) rfl rfl (by simp only [List.map_toArray,List.map_cons,List.map_nil]; rfl) ?_
      with_reducible refine (do_flat kind seg first (TC_below HT.out HB.out) HRT.out).mono ?_
      rintro e_ wf3 ⟨hV,hb⟩
      obtain ⟨cn0,cn1,cP1,cm1,ck1,cP2,cm2,ck2,cP3,cm3,ck3,dn0,dn1,dP1,dm1,dk1,dP2,dm2,dk2,dP3,dm3,dk3,rfl⟩ := hV
      refine ⟨_,rfl,?_⟩
      replace HX3 := mB HX3 hb
      replace HX4 := mB HX4 hb
      replace HX8 := mB HX8 hb
      replace HB := mS HB hb
      clear hb
      refine hK.out _ _ ⟨(cL HX3 0 rfl),(cL HX3 1 rfl),(cL HX3 2 rfl),(cL HX3 3 rfl),(cL HX3 4 rfl),(cL HX4 0 rfl),(cL HX4 1 rfl),(cL HX4 2 rfl)⟩ (fun hHeld => ?_)
      clear hK K
      refine norm_ (a' := ?_) ?_ ?_
      rotate_left
      ·show Act.put _ (some 41) _ = _
       simp only [Act.put,yoI,yos0,yos1,i64_w,i32_w]
       rfl
      refine pure_ (i := 5) (N := some 36) (v := ?_) (a' := ?_) yo47 rfl rfl (any_of HT_.out (by kernel_rfl)) (fun _ _ _ h => h) (Or.inl ⟨by rfl,?_⟩) ?_ ?_
      rotate_left
      ·intro w'
       go_simp
       with_reducible rfl
      rotate_left
      ·simp only [Act.put,yoI,yos0,yos1,i64_w,i32_w]
       rfl
      refine pure_ (i := 6) (N := some 42) (v := ?_) (a' := ?_) yo48 rfl rfl (any_of HT_.out (by kernel_rfl)) (fun _ _ _ h => h) (Or.inl ⟨by rfl,?_⟩) ?_ ?_
      rotate_left
      ·intro w'
       go_simp
       with_reducible rfl
      rotate_left
      ·simp only [Act.put,yoI,yos0,yos1,i64_w,i32_w]
       rfl
      refine pure_ (i := 7) (N := some 43) (v := ?_) (a' := ?_) yo49 rfl rfl (any_of HT_.out (by kernel_rfl)) (fun _ _ _ h => h) (Or.inl ⟨by rfl,?_⟩) ?_ ?_
      rotate_left
      ·intro w'
       go_simp
       with_reducible rfl
      rotate_left
      ·simp only [Act.put,yoI,yos0,yos1,i64_w,i32_w]
       rfl
      refine pure_ (i := 8) (N := some 44) (v := ?_) (a' := ?_) yo36 rfl rfl (any_of HT_.out (by kernel_rfl)) (fun _ _ _ h => h) (Or.inl ⟨by rfl,?_⟩) ?_ ?_
      rotate_left
      ·intro w'
       go_simp
       with_reducible rfl
      rotate_left
      ·simp only [Act.put,yoI,yos0,yos1,i64_w,i32_w]
       rfl
      refine one_ (i := 9) (N := some 7) yo24 rfl rfl (one_of HT_.out (by kernel_rfl)) (by decide) (fun K hK => ?_)
      refine value_ (w1 := ?_) (v := ?_) (by rfl) rfl ?_ ?_
      rotate_left 2
      ·go_simp
       constructor
       ·rfl
       ·rfl
      obtain ⟨wf4,hW⟩ : ∃ W_,W_ = wf3.alloc (.cells #[.int .i64 0,.int .i64 0,.slice none 0 0,.slice none 0 0,.slice none 0 0] 28) := ⟨_,rfl⟩
      obtain ⟨g7,hg⟩ : ∃ g_,g_ = wf3.heap.size := ⟨_,rfl⟩
      rw [← hW,← hg]
      have hb : Below wf3.heap.size wf3 wf4 := by rw [hW]; exact below_alloc (Below.refl _ _) _
      have hx_ : wf4.heap[g7]? = some (.cells #[.int .i64 0,.int .i64 0,.slice none 0 0,.slice none 0 0,.slice none 0 0] 28 (0,0)) := by rw [hW,hg]; exact blk_new _ _
      have HG7 : Aside0 (w.heap.size ≤ g7) := ⟨by rw [hg]; exact below_size HB.out⟩
      have N37 : Aside0 (g3 ≠ g7) := ⟨by rw [hg]; exact Nat.ne_of_lt (blk_lt HX3.out)⟩
      have N47 : Aside0 (g4 ≠ g7) := ⟨by rw [hg]; exact Nat.ne_of_lt (blk_lt HX4.out)⟩
      have N87 : Aside0 (g8 ≠ g7) := ⟨by rw [hg]; exact Nat.ne_of_lt (blk_lt HX8.out)⟩
      replace HX3 := mB HX3 hb
      replace HX4 := mB HX4 hb
      replace HX8 := mB HX8 hb
      replace HB := mS HB hb
      have HX7 := Aside0.mk hx_
      clear hx_ hb hg hW
      refine hK.out _ _ ⟨(cL HX3 0 rfl),(cL HX3 1 rfl),(cL HX3 2 rfl),(cL HX3 3 rfl),(cL HX3 4 rfl),(cL HX4 0 rfl),(cL HX4 1 rfl),(cL HX4 2 rfl)⟩ (fun hHeld => ?_)
      clear hK K
      refine norm_ (a' := ?_) ?_ ?_
      rotate_left
      ·show Act.put _ (some 7) _ = _
       simp only [Act.put,yoI,yos0,yos1,i64_w,i32_w]
       rfl
      exact norm_ (by first | (simp only [putAll,Act.put,yoI,yos0,yos1]; done) | (simp only [putAll,Act.put,yoI,yos0,yos1]; rfl)) (hCont (g7,g8,.tuple #[.agg #[.int .i64 cn0,.int .i64 cn1,.slice cP1 cm1 ck1,.slice cP2 cm2 ck2,.slice cP3 cm3 ck3],.agg #[.int .i64 dn0,.int .i64 dn1,.slice dP1 dm1 dk1,.slice dP2 dm2 dk2,.slice dP3 dm3 dk3],.bool true],.agg #[.int .i64 cn0,.int .i64 cn1,.slice cP1 cm1 ck1,.slice cP2 cm2 ck2,.slice cP3 cm3 ck3],.agg #[.int .i64 dn0,.int .i64 dn1,.slice dP1 dm1 dk1,.slice dP2 dm2 dk2,.slice dP3 dm3 dk3]) _ ⟨HX7.out,HX8.out,HX3.out,HX4.out,HB.out,HG7.out,HG8.out,N37.out,N47.out,N38.out,N48.out,(Ne.symm N87.out),cn0,cn1,cP1,cm1,ck1,cP2,cm2,ck2,cP3,cm3,ck3,dn0,dn1,dP1,dm1,dk1,dP2,dm2,dk2,dP3,dm3,dk3,rfl,rfl,rfl⟩)
     ·skip
      refine value_ (w1 := ?_) (v := ?_) (by rfl) rfl ?_ ?_
      rotate_left 2
      ·go_simp
       constructor
       ·rfl
       ·rfl
      obtain ⟨wf3,hW⟩ : ∃ W_,W_ = wf2.alloc (.cells #[.int .i64 0,.int .i64 0,.slice none 0 0,.slice none 0 0,.slice none 0 0] 28) := ⟨_,rfl⟩
      obtain ⟨g7,hg⟩ : ∃ g_,g_ = wf2.heap.size := ⟨_,rfl⟩
      rw [← hW,← hg]
      have hb : Below wf2.heap.size wf2 wf3 := by rw [hW]; exact below_alloc (Below.refl _ _) _
      have hx_ : wf3.heap[g7]? = some (.cells #[.int .i64 0,.int .i64 0,.slice none 0 0,.slice none 0 0,.slice none 0 0] 28 (0,0)) := by rw [hW,hg]; exact blk_new _ _
      have HG7 : Aside0 (w.heap.size ≤ g7) := ⟨by rw [hg]; exact below_size HB.out⟩
      have N37 : Aside0 (g3 ≠ g7) := ⟨by rw [hg]; exact Nat.ne_of_lt (blk_lt HX3.out)⟩
      have N47 : Aside0 (g4 ≠ g7) := ⟨by rw [hg]; exact Nat.ne_of_lt (blk_lt HX4.out)⟩
      have N87 : Aside0 (g8 ≠ g7) := ⟨by rw [hg]; exact Nat.ne_of_lt (blk_lt HX8.out)⟩
      replace HX3 := mB HX3 hb
      replace HX4 := mB HX4 hb
      replace HX8 := mB HX8 hb
      replace HB := mS HB hb
      have HX7 := Aside0.mk hx_
      clear hx_ hb hg hW
      refine hK.out _ _ ⟨(cL HX3 0 rfl),(cL HX3 1 rfl),(cL HX3 2 rfl),(cL HX3 3 rfl),(cL HX3 4 rfl),(cL HX4 0 rfl),(cL HX4 1 rfl),(cL HX4 2 rfl)⟩ (fun hHeld => ?_)
      clear hK K
      refine norm_ (a' := ?_) ?_ ?_
      rotate_left
      ·show Act.put _ (some 7) _ = _
       simp only [Act.put,yoI,yos0,yos1,i64_w,i32_w]
       rfl
      refine one_ (i := 4) (N := some 41) yo42 rfl rfl (one_of HT_.out (by kernel_rfl)) (by decide) (fun K hK => ?_)
      refine goes_ Try.func15 (by kernel_rfl) rfl #[.agg #[.int .i64 g,.int .i64 s,.slice Ao o.length co,.slice Al l.length cl,.slice Af f.length cf],.agg #[.int .i64 g,.int .i64 s,.slice Ao o.length co,.slice Al l.length cl,.slice Af f.length cf],.agg #[.int .i64 kind,.int .i64 seg,.int .u64 first]] (by rfl) rfl rfl (by simp only [List.map_toArray,List.map_cons,List.map_nil]; rfl) ?_
      with_reducible refine (do_flat kind seg first (TC_below HT.out HB.out) HRT.out).mono ?_
      rintro e_ wf4 ⟨hV,hb⟩
      obtain ⟨cn0,cn1,cP1,cm1,ck1,cP2,cm2,ck2,cP3,cm3,ck3,dn0,dn1,dP1,dm1,dk1,dP2,dm2,dk2,dP3,dm3,dk3,rfl⟩ := hV
      refine ⟨_,rfl,?_⟩
      replace HX3 := mB HX3 hb
      replace HX4 := mB HX4 hb
      replace HX7 := mB HX7 hb
      replace HX8 := mB HX8 hb
      replace HB := mS HB hb
      clear hb
      refine hK.out _ _ ⟨(cL HX3 0 rfl),(cL HX3 1 rfl),(cL HX3 2 rfl),(cL HX3 3 rfl),(cL HX3 4 rfl),(cL HX4 0 rfl),(cL HX4 1 rfl),(cL HX4 2 rfl)⟩ (fun hHeld => ?_)
      clear hK K
      refine norm_ (a' := ?_) ?_ ?_
      rotate_left
      ·show Act.put _ (some 41) _ = _
       simp only [Act.put,yoI,yos0,yos1,i64_w,i32_w]
       rfl
      refine pure_ (i := 5) (N := some 36) (v := ?_) (a' := ?_) yo43 rfl rfl (any_of HT_.out (by kernel_rfl)) (fun _ _ _ h => h) (Or.inl ⟨by rfl,?_⟩) ?_ ?_
      rotate_left
      ·intro w'
       go_simp
       with_reducible rfl
      rotate_left
      ·simp only [Act.put,yoI,yos0,yos1,i64_w,i32_w]
       rfl
      refine pure_ (i := 6) (N := some 42) (v := ?_) (a' := ?_) yo44 rfl rfl (any_of HT_.out (by kernel_rfl)) (fun _ _ _ h => h) (Or.inl ⟨by rfl,?_⟩) ?_ ?_
      rotate_left
      ·intro w'
       go_simp
       with_reducible rfl
      rotate_left
      ·simp only [Act.put,yoI,yos0,yos1,i64_w,i32_w]
       rfl
      refine pure_ (i := 7) (N := some 43) (v := ?_) (a' := ?_) yo45 rfl rfl (any_of HT_.out (by kernel_rfl)) (fun _ _ _ h => h) (Or.inl ⟨by rfl,?_⟩) ?_ ?_
      rotate_left
      ·intro w'
       go_simp
       with_reducible rfl
      rotate_left
      ·simp only [Act.put,yoI,yos0,yos1,i64_w,i32_w]
       rfl
      refine pure_ (i := 8) (N := some 44) (v := ?_) (a' := ?_) yo24 rfl rfl (any_of HT_.out (by kernel_rfl)) (fun _ _ _ h => h) (Or.inl ⟨by rfl,?_⟩) ?_ ?_
      rotate_left
      ·intro w'
       go_simp
       with_reducible rfl
      rotate_left
      ·simp only [Act.put,yoI,yos0,yos1,i64_w,i32_w]
       rfl
      exact norm_ (by first | (simp only [putAll,Act.put,yoI,yos0,yos1]; done) | (simp only [putAll,Act.put,yoI,yos0,yos1]; rfl)) (hCont (g7,g8,.tuple #[.agg #[.int .i64 cn0,.int .i64 cn1,.slice cP1 cm1 ck1,.slice cP2 cm2 ck2,.slice cP3 cm3 ck3],.agg #[.int .i64 dn0,.int .i64 dn1,.slice dP1 dm1 dk1,.slice dP2 dm2 dk2,.slice dP3 dm3 dk3],.bool true],.agg #[.int .i64 cn0,.int .i64 cn1,.slice cP1 cm1 ck1,.slice cP2 cm2 ck2,.slice cP3 cm3 ck3],.agg #[.int .i64 dn0,.int .i64 dn1,.slice dP1 dm1 dk1,.slice dP2 dm2 dk2,.slice dP3 dm3 dk3]) _ ⟨HX7.out,HX8.out,HX3.out,HX4.out,HB.out,HG7.out,HG8.out,N37.out,N47.out,N38.out,N48.out,(Ne.symm N87.out),cn0,cn1,cP1,cm1,ck1,cP2,cm2,ck2,cP3,cm3,ck3,dn0,dn1,dP1,dm1,dk1,dP2,dm2,dk2,dP3,dm3,dk3,rfl,rfl,rfl⟩)
    ·skip
     refine value_ (w1 := ?_) (v := ?_) (by rfl) rfl ?_ ?_
     rotate_left 2
     ·go_simp
      constructor
      ·rfl
      ·rfl
     obtain ⟨wf2,hW⟩ : ∃ W_,W_ = wf1.alloc (.cells #[.int .i64 0,.int .i64 0,.slice none 0 0,.slice none 0 0,.slice none 0 0] 28) := ⟨_,rfl⟩
     obtain ⟨g7,hg⟩ : ∃ g_,g_ = wf1.heap.size := ⟨_,rfl⟩
     rw [← hW,← hg]
     have hb : Below wf1.heap.size wf1 wf2 := by rw [hW]; exact below_alloc (Below.refl _ _) _
     have hx_ : wf2.heap[g7]? = some (.cells #[.int .i64 0,.int .i64 0,.slice none 0 0,.slice none 0 0,.slice none 0 0] 28 (0,0)) := by rw [hW,hg]; exact blk_new _ _
     have HG7 : Aside0 (w.heap.size ≤ g7) := ⟨by rw [hg]; exact below_size HB.out⟩
     have N37 : Aside0 (g3 ≠ g7) := ⟨by rw [hg]; exact Nat.ne_of_lt (blk_lt HX3.out)⟩
     have N47 : Aside0 (g4 ≠ g7) := ⟨by rw [hg]; exact Nat.ne_of_lt (blk_lt HX4.out)⟩
     have N87 : Aside0 (g8 ≠ g7) := ⟨by rw [hg]; exact Nat.ne_of_lt (blk_lt HX8.out)⟩
     replace HX3 := mB HX3 hb
     replace HX4 := mB HX4 hb
     replace HX8 := mB HX8 hb
     replace HB := mS HB hb
     have HX7 := Aside0.mk hx_
     clear hx_ hb hg hW
     refine hK.out _ _ ⟨(cL HX3 0 rfl),(cL HX3 1 rfl),(cL HX3 2 rfl),(cL HX3 3 rfl),(cL HX3 4 rfl),(cL HX4 0 rfl),(cL HX4 1 rfl),(cL HX4 2 rfl)⟩ (fun hHeld => ?_)
     clear hK K
     refine norm_ (a' := ?_) ?_ ?_
     rotate_left
     ·show Act.put _ (some 7) _ = _
      simp only [Act.put,yoI,yos0,yos1,i64_w,i32_w]
      rfl
     refine one_ (i := 2) (N := some 39) yo38 rfl rfl (one_of HT_.out (by kernel_rfl)) (by decide) (fun K hK => ?_)
     refine goes_ Try.func12 (by kernel_rfl) rfl #[.agg #[.int .i64 g,.int .i64 s,.slice Ao o.length co,.slice Al l.length cl,.slice Af f.length cf]] (by rfl) rfl rfl (by simp only [List.map_toArray,List.map_cons,List.map_nil]; rfl) ?_
     with_reducible refine (ref_calls g s _ _ o _ _ l _ _ f _).mono ?_
     rintro e_ wf3 ⟨rfl,hb⟩
     refine ⟨_,rfl,?_⟩
     replace HX3 := mB HX3 hb
     replace HX4 := mB HX4 hb
     replace HX7 := mB HX7 hb
     replace HX8 := mB HX8 hb
     replace HB := mS HB hb
     clear hb
     refine hK.out _ _ ⟨(cL HX3 0 rfl),(cL HX3 1 rfl),(cL HX3 2 rfl),(cL HX3 3 rfl),(cL HX3 4 rfl),(cL HX4 0 rfl),(cL HX4 1 rfl),(cL HX4 2 rfl)⟩ (fun hHeld => ?_)
     clear hK K
     refine norm_ (a' := ?_) ?_ ?_
     rotate_left
     ·show Act.put _ (some 39) _ = _
      simp only [Act.put,yoI,yos0,yos1,i64_w,i32_w]
      rfl
     refine one_ (i := 4) (N := some 41) yo42 rfl rfl (one_of HT_.out (by kernel_rfl)) (by decide) (fun K hK => ?_)
     refine goes_ Try.func15 (by kernel_rfl) rfl #[.agg #[.int .i64 g,.int .i64 s,.slice Ao o.length co,.slice Al l.length cl,.slice Af f.length cf],.agg #[.int .i64 g,.int .i64 s,.slice Ao o.length co,.slice Al l.length cl,.slice Af f.length cf],.agg #[.int .i64 kind,.int .i64 seg,.int .u64 first]] (by rfl) rfl rfl (by simp only [List.map_toArray,List.map_cons,List.map_nil]; rfl) ?_
     with_reducible refine (do_flat kind seg first (TC_below HT.out HB.out) HRT.out).mono ?_
     rintro e_ wf4 ⟨hV,hb⟩
     obtain ⟨cn0,cn1,cP1,cm1,ck1,cP2,cm2,ck2,cP3,cm3,ck3,dn0,dn1,dP1,dm1,dk1,dP2,dm2,dk2,dP3,dm3,dk3,rfl⟩ := hV
     refine ⟨_,rfl,?_⟩
     replace HX3 := mB HX3 hb
     replace HX4 := mB HX4 hb
     replace HX7 := mB HX7 hb
     replace HX8 := mB HX8 hb
     replace HB := mS HB hb
     clear hb
     refine hK.out _ _ ⟨(cL HX3 0 rfl),(cL HX3 1 rfl),(cL HX3 2 rfl),(cL HX3 3 rfl),(cL HX3 4 rfl),(cL HX4 0 rfl),(cL HX4 1 rfl),(cL HX4 2 rfl)⟩ (fun hHeld => ?_)
     clear hK K
     refine norm_ (a' := ?_) ?_ ?_
     rotate_left
     ·show Act.put _ (some 41) _ = _
      simp only [Act.put,yoI,yos0,yos1,i64_w,i32_w]
      rfl
     refine pure_ (i := 5) (N := some 36) (v := ?_) (a' := ?_) yo43 rfl rfl (any_of HT_.out (by kernel_rfl)) (fun _ _ _ h => h) (Or.inl ⟨by rfl,?_⟩) ?_ ?_
     rotate_left
     ·intro w'
      go_simp
      with_reducible rfl
     rotate_left
     ·simp only [Act.put,yoI,yos0,yos1,i64_w,i32_w]
      rfl
     refine pure_ (i := 6) (N := some 42) (v := ?_) (a' := ?_) yo44 rfl rfl (any_of HT_.out (by kernel_rfl)) (fun _ _ _ h => h) (Or.inl ⟨by rfl,?_⟩) ?_ ?_
     rotate_left
     ·intro w'
      go_simp
      with_reducible rfl
     rotate_left
     ·simp only [Act.put,yoI,yos0,yos1,i64_w,i32_w]
      rfl
     refine pure_ (i := 7) (N := some 43) (v := ?_) (a' := ?_) yo45 rfl rfl (any_of HT_.out (by kernel_rfl)) (fun _ _ _ h => h) (Or.inl ⟨by rfl,?_⟩) ?_ ?_
     rotate_left
     ·intro w'
      go_simp
      with_reducible rfl
     rotate_left
     ·simp only [Act.put,yoI,yos0,yos1,i64_w,i32_w]
      rfl
     refine pure_ (i := 8) (N := some 44) (v := ?_) (a' := ?_) yo24 rfl rfl (any_of HT_.out (by kernel_rfl)) (fun _ _ _ h => h) (Or.inl ⟨by rfl,?_⟩) ?_ ?_
     rotate_left
     ·intro w'
      go_simp
      with_reducible rfl
     rotate_left
     ·simp only [Act.put,yoI,yos0,yos1,i64_w,i32_w]
      rfl
     exact norm_ (by first | (simp only [putAll,Act.put,yoI,yos0,yos1]; done) | (simp only [putAll,Act.put,yoI,yos0,yos1]; rfl)) (hCont (g7,g8,.tuple #[.agg #[.int .i64 cn0,.int .i64 cn1,.slice cP1 cm1 ck1,.slice cP2 cm2 ck2,.slice cP3 cm3 ck3],.agg #[.int .i64 dn0,.int .i64 dn1,.slice dP1 dm1 dk1,.slice dP2 dm2 dk2,.slice dP3 dm3 dk3],.bool true],.agg #[.int .i64 cn0,.int .i64 cn1,.slice cP1 cm1 ck1,.slice cP2 cm2 ck2,.slice cP3 cm3 ck3],.agg #[.int .i64 dn0,.int .i64 dn1,.slice dP1 dm1 dk1,.slice dP2 dm2 dk2,.slice dP3 dm3 dk3]) _ ⟨HX7.out,HX8.out,HX3.out,HX4.out,HB.out,HG7.out,HG8.out,N37.out,N47.out,N38.out,N48.out,(Ne.symm N87.out),cn0,cn1,cP1,cm1,ck1,cP2,cm2,ck2,cP3,cm3,ck3,dn0,dn1,dP1,dm1,dk1,dP2,dm2,dk2,dP3,dm3,dk3,rfl,rfl,rfl⟩)
  rintro ⟨g7,g8,V,VX,VY⟩ w9 ⟨h7,h8,h3,h4,hb,hl7,hl8,n37,n47,n38,n48,n78,cn0,cn1,cP1,cm1,ck1,cP2,cm2,ck2,cP3,cm3,ck3,dn0,dn1,dP1,dm1,dk1,dP2,dm2,dk2,dP3,dm3,dk3,hV,hVX,hVY⟩
  dsimp only at h7 h8 hl7 hl8 n37 n47 n38 n48 n78 hV hVX hVY
  subst hV hVX hVY
  clear HX3 HX4 HB
  have HX7 := Aside0.mk h7
  have HX8 := Aside0.mk h8
  have HX3 := Aside0.mk h3
  have HX4 := Aside0.mk h4
  have HB := Aside0.mk hb
  have HG7 := Aside0.mk hl7
  have HG8 := Aside0.mk hl8
  have N37 := Aside0.mk n37
  have N47 := Aside0.mk n47
  have N38 := Aside0.mk n38
  have N48 := Aside0.mk n48
  have N78 := Aside0.mk n78
  have N87 := Aside0.mk (Ne.symm n78)
  clear h7 h8 h3 h4 hb hl7 hl8 n37 n47 n38 n48 n78
  have hHeld : (fun w' => w'.cell? ⟨g3,0,none⟩ = some (.int .i64 g) ∧ w'.cell? ⟨g3,1,none⟩ = some (.int .i64 s) ∧ w'.cell? ⟨g3,2,none⟩ = some (.slice Ao o.length co) ∧ w'.cell? ⟨g3,3,none⟩ = some (.slice Al l.length cl) ∧ w'.cell? ⟨g3,4,none⟩ = some (.slice Af f.length cf) ∧ w'.cell? ⟨g4,0,none⟩ = some (.int .i64 kind) ∧ w'.cell? ⟨g4,1,none⟩ = some (.int .i64 seg) ∧ w'.cell? ⟨g4,2,none⟩ = some (.int .u64 first)) w9 := ⟨(cL HX3 0 rfl),(cL HX3 1 rfl),(cL HX3 2 rfl),(cL HX3 3 rfl),(cL HX3 4 rfl),(cL HX4 0 rfl),(cL HX4 1 rfl),(cL HX4 2 rfl)⟩
  refine norm_ (a' := ?_) ?_ ?_
  rotate_left
  ·simp only [putAll,Act.put,yoI,yos0,yos1]
   rfl
  refine one_ (i := 11) (N := none) yo51 rfl rfl (one_of HT_.out (by kernel_rfl)) (by decide) (fun K hK => ?_)
  have z_0 : w9.cell? ⟨g7,0,none⟩ = some (.int .i64 0) := cL HX7 0 rfl
  have z_1 : w9.cell? ⟨g7,1,none⟩ = some (.int .i64 0) := cL HX7 1 rfl
  have z_2 : w9.cell? ⟨g7,2,none⟩ = some (.slice none 0 0) := cL HX7 2 rfl
  have z_3 : w9.cell? ⟨g7,3,none⟩ = some (.slice none 0 0) := cL HX7 3 rfl
  have z_4 : w9.cell? ⟨g7,4,none⟩ = some (.slice none 0 0) := cL HX7 4 rfl
  have zf_0 := blk_frozen HX7.out 0
  have zf_1 := blk_frozen HX7.out 1
  have zf_2 := blk_frozen HX7.out 2
  have zf_3 := blk_frozen HX7.out 3
  have zf_4 := blk_frozen HX7.out 4
  refine skip_ (w1 := ?_) (by rfl) rfl ?_ ?_
  rotate_left
  ·go_simp
   rfl
  clear z_0 z_1 z_2 z_3 z_4 zf_0 zf_1 zf_2 zf_3 zf_4
  obtain ⟨w10,hW⟩ : ∃ W_,W_ = (((((w9.setCell ⟨g7,0,none⟩ (.int .i64 cn0)).setCell ⟨g7,1,none⟩ (.int .i64 cn1)).setCell ⟨g7,2,none⟩ (.slice cP1 cm1 ck1)).setCell ⟨g7,3,none⟩ (.slice cP2 cm2 ck2)).setCell ⟨g7,4,none⟩ (.slice cP3 cm3 ck3)) := ⟨_,rfl⟩
  rw [← hW]
  replace HX3 := Aside0.mk (far5 hW HX3.out N37.out)
  replace HX4 := Aside0.mk (far5 hW HX4.out N47.out)
  replace HX8 := Aside0.mk (far5 hW HX8.out N87.out)
  replace HX7 := Aside0.mk (set5 hW HX7.out)
  replace HB := Aside0.mk (below5 hW HB.out HG7.out)
  clear hW
  refine hK.out _ _ ⟨(cL HX3 0 rfl),(cL HX3 1 rfl),(cL HX3 2 rfl),(cL HX3 3 rfl),(cL HX3 4 rfl),(cL HX4 0 rfl),(cL HX4 1 rfl),(cL HX4 2 rfl)⟩ (fun hHeld => ?_)
  clear hK K
  refine one_ (i := 12) (N := none) yo52 rfl rfl (one_of HT_.out (by kernel_rfl)) (by decide) (fun K hK => ?_)
  have z_0 : w10.cell? ⟨g8,0,none⟩ = some (.int .i64 0) := cL HX8 0 rfl
  have z_1 : w10.cell? ⟨g8,1,none⟩ = some (.int .i64 0) := cL HX8 1 rfl
  have z_2 : w10.cell? ⟨g8,2,none⟩ = some (.slice none 0 0) := cL HX8 2 rfl
  have z_3 : w10.cell? ⟨g8,3,none⟩ = some (.slice none 0 0) := cL HX8 3 rfl
  have z_4 : w10.cell? ⟨g8,4,none⟩ = some (.slice none 0 0) := cL HX8 4 rfl
  have zf_0 := blk_frozen HX8.out 0
  have zf_1 := blk_frozen HX8.out 1
  have zf_2 := blk_frozen HX8.out 2
  have zf_3 := blk_frozen HX8.out 3
  have zf_4 := blk_frozen HX8.out 4
  refine skip_ (w1 := ?_) (by rfl) rfl ?_ ?_
  rotate_left
  ·go_simp
   rfl
  clear z_0 z_1 z_2 z_3 z_4 zf_0 zf_1 zf_2 zf_3 zf_4
  obtain ⟨w11,hW⟩ : ∃ W_,W_ = (((((w10.setCell ⟨g8,0,none⟩ (.int .i64 dn0)).setCell ⟨g8,1,none⟩ (.int .i64 dn1)).setCell ⟨g8,2,none⟩ (.slice dP1 dm1 dk1)).setCell ⟨g8,3,none⟩ (.slice dP2 dm2 dk2)).setCell ⟨g8,4,none⟩ (.slice dP3 dm3 dk3)) := ⟨_,rfl⟩
  rw [← hW]
  replace HX3 := Aside0.mk (far5 hW HX3.out N38.out)
  replace HX4 := Aside0.mk (far5 hW HX4.out N48.out)
  replace HX7 := Aside0.mk (far5 hW HX7.out N78.out)
  replace HX8 := Aside0.mk (set5 hW HX8.out)
  replace HB := Aside0.mk (below5 hW HB.out HG8.out)
  clear hW
  refine hK.out _ _ ⟨(cL HX3 0 rfl),(cL HX3 1 rfl),(cL HX3 2 rfl),(cL HX3 3 rfl),(cL HX3 4 rfl),(cL HX4 0 rfl),(cL HX4 1 rfl),(cL HX4 2 rfl)⟩ (fun hHeld => ?_)
  clear hK K
  refine pure_ (i := 13) (N := some 9) (v := ?_) (a' := ?_) yo53 rfl rfl (any_of HT_.out (by kernel_rfl)) (fun _ _ _ h => h) (Or.inl ⟨by rfl,?_⟩) ?_ ?_
  rotate_left
  ·intro w'
   go_simp
   with_reducible rfl
  rotate_left
  ·simp only [Act.put,yoI,yos0,yos1,i64_w,i32_w]
   rfl
  refine done_ (done_of HT_.out (by kernel_rfl)) ?_
  clear HT_ HW_ hHeld
  clear HX7 HX8
  obtain ⟨rm,hrm⟩ : ∃ y : Int,y = s - Lst l + s * (g - o.length) := ⟨_,rfl⟩
  have HM1 : Aside0 (table_Room.f g s o l f = some rm) := ⟨by rw [hrm]; exact HRT.out.room⟩
  have HM2 : Aside0 (lodgerref08_Room.f 40 g s o l f = some rm) := ⟨by rw [hrm]; exact HRT.out.rroom⟩
  obtain ⟨us,hus⟩ : ∃ y : Int,y = l.sum := ⟨_,rfl⟩
  have HU1 : Aside0 (table_Used.f 21 g s o l f = some us) := ⟨by rw [hus]; exact HRT.out.used⟩
  have HU2 : Aside0 (lodgerref08_Used.f 40 g s o l f = some us) := ⟨by rw [hus]; exact HRT.out.rused⟩
  obtain ⟨ln,hl1,hl2⟩ := HRT.out.both seg
  have HL1 := Aside0.mk hl1
  have HL2 := Aside0.mk hl2
  obtain ⟨fr,hfr⟩ : ∃ y,y = frk g.toNat o := ⟨_,rfl⟩
  have HF1 := Aside0.mk hfr
  have HF2 : Aside0 (lodgerref08_Free.f 40 g s o l f = some fr) := ⟨by rw [hfr]; exact HRT.out.rfree⟩
  obtain ⟨kf,hK⟩ := ints_same fr (by rw [hfr]; have h1 := HRT.out.free; have h2 := HRT.out.may; omega)
  have HK := Aside0.mk hK
  have t1 := int_self rm
  have t2 := int_self us
  have t3 := int_self ln
  clear hrm hus hl1 hl2 hfr hK
  go_wp2_with fail
  refine start_ (n := 41) (S := fun w' => w'.cell? ⟨g3,0,none⟩ = some (.int .i64 g) ∧ w'.cell? ⟨g3,1,none⟩ = some (.int .i64 s) ∧ w'.cell? ⟨g3,2,none⟩ = some (.slice Ao o.length co) ∧ w'.cell? ⟨g3,3,none⟩ = some (.slice Al l.length cl) ∧ w'.cell? ⟨g3,4,none⟩ = some (.slice Af f.length cf) ∧ w'.cell? ⟨g4,0,none⟩ = some (.int .i64 kind) ∧ w'.cell? ⟨g4,1,none⟩ = some (.int .i64 seg) ∧ w'.cell? ⟨g4,2,none⟩ = some (.int .u64 first)) (ds := []) yo54 (by kernel_rfl) rfl rfl ⟨((blk_cell (blk_drew HX3.out) 0).trans rfl),((blk_cell (blk_drew HX3.out) 1).trans rfl),((blk_cell (blk_drew HX3.out) 2).trans rfl),((blk_cell (blk_drew HX3.out) 3).trans rfl),((blk_cell (blk_drew HX3.out) 4).trans rfl),((blk_cell (blk_drew HX4.out) 0).trans rfl),((blk_cell (blk_drew HX4.out) 1).trans rfl),((blk_cell (blk_drew HX4.out) 2).trans rfl)⟩ (fun hHeld => ?_)
  refine with_tabW once8.tab7 once8.bits7 (fun HT_ HW_ => ?_)
  replace HX3 := Aside0.mk (blk_drew HX3.out)
  replace HX4 := Aside0.mk (blk_drew HX4.out)
  replace HB := Aside0.mk (below_drew HB.out)
  generalize w11.drew = wd7 at *
  refine pure_ (i := 0) (N := some 45) (v := ?_) (a' := ?_) yo55 rfl rfl (any_of HT_.out (by kernel_rfl)) (fun _ _ _ h => h) (Or.inl ⟨by rfl,?_⟩) ?_ ?_
  rotate_left
  ·intro w'
   go_simp
   with_reducible rfl
  rotate_left
  ·simp only [Act.put,yoI,yos0,yos1,i64_w,i32_w]
   rfl
  refine pure_ (i := 1) (N := some 46) (v := ?_) (a' := ?_) yo56 rfl rfl (any_of HT_.out (by kernel_rfl)) (fun _ _ _ h => h) (Or.inl ⟨by rfl,?_⟩) ?_ ?_
  rotate_left
  ·intro w'
   go_simp
   with_reducible rfl
  rotate_left
  ·simp only [Act.put,yoI,yos0,yos1,i64_w,i32_w]
   rfl
  refine take_ (i := 2) (N := some 47) (v := ?_) (a' := ?_) yo57 rfl rfl (take_ofW HT_.out HW_.out (by kernel_rfl)) (fun _ _ _ h => h) (Or.inl ⟨by rfl,?_⟩) hHeld ?_ ?_
  rotate_left
  ·rintro w' ⟨s0,s1,s2,s3,s4,s5,s6,s7⟩
   go_simp
   with_reducible rfl
  rotate_left
  ·simp only [Act.put,yoI,yos0,yos1,i64_w,i32_w]
   rfl
  refine take_ (i := 4) (N := some 49) (v := ?_) (a' := ?_) yo58 rfl rfl (take_ofW HT_.out HW_.out (by kernel_rfl)) (fun _ _ _ h => h) (Or.inl ⟨by rfl,?_⟩) hHeld ?_ ?_
  rotate_left
  ·rintro w' ⟨s0,s1,s2,s3,s4,s5,s6,s7⟩
   go_simp
   with_reducible rfl
  rotate_left
  ·simp only [Act.put,yoI,yos0,yos1,i64_w,i32_w]
   rfl
  refine one_ (i := 3) (N := some 48) yo59 rfl rfl (one_of HT_.out (by kernel_rfl)) (by decide) (fun K hK => ?_)
  refine goes_ Try.func17 (by kernel_rfl) rfl #[.agg #[.int .i64 g,.int .i64 s,.slice Ao o.length co,.slice Al l.length cl,.slice Af f.length cf]] (by rfl) rfl rfl (by simp only [List.map_toArray,List.map_cons,List.map_nil]; rfl) ?_
  with_reducible refine (Free_calls g s _ _ o _ _ _ (TC_o (TC_below HT.out HB.out)).1 (TC_o (TC_below HT.out HB.out)).2 (by have := HRT.out.may; omega) (by have := HRT.out.may; omega) (by have := HLN.out; omega)).mono ?_
  rintro e_ wr1 ⟨v_,rfl,hv,hb⟩
  rw [← HF1.out] at hv
  obtain ⟨Av,cv_,hv1⟩ := Kd.R_slice hv
  subst hv1
  refine ⟨_,rfl,?_⟩
  have HVA := Aside0.mk (TR1_mk hv)
  have HVAc := Aside0.mk (Kd.R_reads' hv).2.1
  replace HX3 := mB HX3 hb
  replace HX4 := mB HX4 hb
  replace HB := mS HB hb
  clear hb hv
  refine hK.out _ _ ⟨(cL HX3 0 rfl),(cL HX3 1 rfl),(cL HX3 2 rfl),(cL HX3 3 rfl),(cL HX3 4 rfl),(cL HX4 0 rfl),(cL HX4 1 rfl),(cL HX4 2 rfl)⟩ (fun hHeld => ?_)
  clear hK K
  refine norm_ (a' := ?_) ?_ ?_
  rotate_left
  ·show Act.put _ (some 48) _ = _
   simp only [Act.put,yoI,yos0,yos1,i64_w,i32_w]
   rfl
  refine one_ (i := 5) (N := some 50) yo60 rfl rfl (one_of HT_.out (by kernel_rfl)) (by decide) (fun K hK => ?_)
  refine goes_ Try.func12 (by kernel_rfl) rfl #[.agg #[.int .i64 g,.int .i64 s,.slice Ao o.length co,.slice Al l.length cl,.slice Af f.length cf]] (by rfl) rfl rfl (by simp only [List.map_toArray,List.map_cons,List.map_nil]; rfl) ?_
  with_reducible refine (ref_calls g s _ _ o _ _ l _ _ f _).mono ?_
  rintro e_ wr2 ⟨rfl,hb⟩
  refine ⟨_,rfl,?_⟩
  replace HVA := Aside0.mk (Kd.C_below HVA.out hb)
  replace HX3 := mB HX3 hb
  replace HX4 := mB HX4 hb
  replace HB := mS HB hb
  clear hb
  refine hK.out _ _ ⟨(cL HX3 0 rfl),(cL HX3 1 rfl),(cL HX3 2 rfl),(cL HX3 3 rfl),(cL HX3 4 rfl),(cL HX4 0 rfl),(cL HX4 1 rfl),(cL HX4 2 rfl)⟩ (fun hHeld => ?_)
  clear hK K
  refine norm_ (a' := ?_) ?_ ?_
  rotate_left
  ·show Act.put _ (some 50) _ = _
   simp only [Act.put,yoI,yos0,yos1,i64_w,i32_w]
   rfl
  refine one_ (i := 6) (N := some 51) yo61 rfl rfl (one_of HT_.out (by kernel_rfl)) (by decide) (fun K hK => ?_)
  refine goes_ Try.func18 (by kernel_rfl) rfl #[.agg #[.int .i64 g,.int .i64 s,.slice Ao o.length co,.slice Al l.length cl,.slice Af f.length cf]] (by rfl) rfl rfl (by simp only [List.map_toArray,List.map_cons,List.map_nil]; rfl) ?_
  with_reducible refine (rfree_calls 40 g s _ _ o _ _ l _ _ f _ (TC_below HT.out HB.out) fr HF2.out).mono ?_
  rintro e_ wr3 ⟨v_,rfl,hv,hb⟩
  obtain ⟨Au,cu_,hv1⟩ := Kd.R_slice hv
  subst hv1
  refine ⟨_,rfl,?_⟩
  have HVB := Aside0.mk (TR1_mk hv)
  replace HVA := Aside0.mk (Kd.C_below HVA.out hb)
  have HVBc := Aside0.mk (Kd.R_reads' hv).2.1
  replace HX3 := mB HX3 hb
  replace HX4 := mB HX4 hb
  replace HB := mS HB hb
  clear hb hv
  refine hK.out _ _ ⟨(cL HX3 0 rfl),(cL HX3 1 rfl),(cL HX3 2 rfl),(cL HX3 3 rfl),(cL HX3 4 rfl),(cL HX4 0 rfl),(cL HX4 1 rfl),(cL HX4 2 rfl)⟩ (fun hHeld => ?_)
  clear hK K
  refine norm_ (a' := ?_) ?_ ?_
  rotate_left
  ·show Act.put _ (some 51) _ = _
   simp only [Act.put,yoI,yos0,yos1,i64_w,i32_w]
   rfl
  refine one_ (i := 7) (N := some 52) yo62 rfl rfl (one_of HT_.out (by kernel_rfl)) (by decide) (fun K hK => ?_)
  refine goes_ Try.func16 (by kernel_rfl) rfl #[.slice Av fr.length cv_,.slice Au fr.length cu_] (by rfl) rfl rfl (by simp only [List.map_toArray,List.map_cons,List.map_nil]; rfl) ?_
  with_reducible refine (lodgerref07_Ints.calls kf Av cv_ fr Au cu_ fr true _ HVA.out HVAc.out HVB.out HVBc.out HK.out).mono ?_
  rintro e_ wr4 ⟨rfl,hb⟩
  refine ⟨_,rfl,?_⟩
  replace hb := Drawn0.below hb
  replace HX3 := mB HX3 hb
  replace HX4 := mB HX4 hb
  replace HB := mS HB hb
  clear hb HVA HVB HVAc HVBc
  refine hK.out _ _ ⟨(cL HX3 0 rfl),(cL HX3 1 rfl),(cL HX3 2 rfl),(cL HX3 3 rfl),(cL HX3 4 rfl),(cL HX4 0 rfl),(cL HX4 1 rfl),(cL HX4 2 rfl)⟩ (fun hHeld => ?_)
  clear hK K
  refine norm_ (a' := ?_) ?_ ?_
  rotate_left
  ·show Act.put _ (some 52) _ = _
   simp only [Act.put,yoI,yos0,yos1,i64_w,i32_w]
   rfl
  refine pure_ (i := 8) (N := some 53) (v := ?_) (a' := ?_) yo63 rfl rfl (any_of HT_.out (by kernel_rfl)) (fun _ _ _ h => h) (Or.inl ⟨by rfl,?_⟩) ?_ ?_
  rotate_left
  ·intro w'
   go_simp
   with_reducible rfl
  rotate_left
  ·simp only [Act.put,yoI,yos0,yos1,i64_w,i32_w]
   rfl
  refine pure_ (i := 9) (N := some 54) (v := ?_) (a' := ?_) yo64 rfl rfl (any_of HT_.out (by kernel_rfl)) (fun _ _ _ h => h) (Or.inl ⟨by rfl,?_⟩) ?_ ?_
  rotate_left
  ·intro w'
   go_simp
   with_reducible rfl
  rotate_left
  ·simp only [Act.put,yoI,yos0,yos1,i64_w,i32_w]
   rfl
  refine take_ (i := 10) (N := some 55) (v := ?_) (a' := ?_) yo65 rfl rfl (take_ofW HT_.out HW_.out (by kernel_rfl)) (fun _ _ _ h => h) (Or.inl ⟨by rfl,?_⟩) hHeld ?_ ?_
  rotate_left
  ·rintro w' ⟨s0,s1,s2,s3,s4,s5,s6,s7⟩
   go_simp
   with_reducible rfl
  rotate_left
  ·simp only [Act.put,yoI,yos0,yos1,i64_w,i32_w]
   rfl
  refine take_ (i := 12) (N := some 57) (v := ?_) (a' := ?_) yo66 rfl rfl (take_ofW HT_.out HW_.out (by kernel_rfl)) (fun _ _ _ h => h) (Or.inl ⟨by rfl,?_⟩) hHeld ?_ ?_
  rotate_left
  ·rintro w' ⟨s0,s1,s2,s3,s4,s5,s6,s7⟩
   go_simp
   with_reducible rfl
  rotate_left
  ·simp only [Act.put,yoI,yos0,yos1,i64_w,i32_w]
   rfl
  refine one_ (i := 11) (N := some 56) yo67 rfl rfl (one_of HT_.out (by kernel_rfl)) (by decide) (fun K hK => ?_)
  refine goes_ Try.func19 (by kernel_rfl) rfl #[.agg #[.int .i64 g,.int .i64 s,.slice Ao o.length co,.slice Al l.length cl,.slice Af f.length cf]] (by rfl) rfl rfl (by simp only [List.map_toArray,List.map_cons,List.map_nil]; rfl) ?_
  with_reducible refine (room_calls g s _ _ o _ _ l _ _ f _ (TC_below HT.out HB.out) _ HM1.out).mono ?_
  rintro e_ wr5 ⟨rfl,hb⟩
  refine ⟨_,rfl,?_⟩
  replace HX3 := mB HX3 hb
  replace HX4 := mB HX4 hb
  replace HB := mS HB hb
  clear hb
  refine hK.out _ _ ⟨(cL HX3 0 rfl),(cL HX3 1 rfl),(cL HX3 2 rfl),(cL HX3 3 rfl),(cL HX3 4 rfl),(cL HX4 0 rfl),(cL HX4 1 rfl),(cL HX4 2 rfl)⟩ (fun hHeld => ?_)
  clear hK K
  refine norm_ (a' := ?_) ?_ ?_
  rotate_left
  ·show Act.put _ (some 56) _ = _
   simp only [Act.put,yoI,yos0,yos1,i64_w,i32_w]
   rfl
  refine one_ (i := 13) (N := some 58) yo68 rfl rfl (one_of HT_.out (by kernel_rfl)) (by decide) (fun K hK => ?_)
  refine goes_ Try.func12 (by kernel_rfl) rfl #[.agg #[.int .i64 g,.int .i64 s,.slice Ao o.length co,.slice Al l.length cl,.slice Af f.length cf]] (by rfl) rfl rfl (by simp only [List.map_toArray,List.map_cons,List.map_nil]; rfl) ?_
  with_reducible refine (ref_calls g s _ _ o _ _ l _ _ f _).mono ?_
  rintro e_ wr6 ⟨rfl,hb⟩
  refine ⟨_,rfl,?_⟩
  replace HX3 := mB HX3 hb
  replace HX4 := mB HX4 hb
  replace HB := mS HB hb
  clear hb
  refine hK.out _ _ ⟨(cL HX3 0 rfl),(cL HX3 1 rfl),(cL HX3 2 rfl),(cL HX3 3 rfl),(cL HX3 4 rfl),(cL HX4 0 rfl),(cL HX4 1 rfl),(cL HX4 2 rfl)⟩ (fun hHeld => ?_)
  clear hK K
  refine norm_ (a' := ?_) ?_ ?_
  rotate_left
  ·show Act.put _ (some 58) _ = _
   simp only [Act.put,yoI,yos0,yos1,i64_w,i32_w]
   rfl
  refine one_ (i := 14) (N := some 59) yo69 rfl rfl (one_of HT_.out (by kernel_rfl)) (by decide) (fun K hK => ?_)
  refine goes_ Try.func20 (by kernel_rfl) rfl #[.agg #[.int .i64 g,.int .i64 s,.slice Ao o.length co,.slice Al l.length cl,.slice Af f.length cf]] (by rfl) rfl rfl (by simp only [List.map_toArray,List.map_cons,List.map_nil]; rfl) ?_
  with_reducible refine (rroom_calls 40 g s _ _ o _ _ l _ _ f _ (TC_below HT.out HB.out) _ HM2.out).mono ?_
  rintro e_ wr7 ⟨rfl,hb⟩
  refine ⟨_,rfl,?_⟩
  replace HX3 := mB HX3 hb
  replace HX4 := mB HX4 hb
  replace HB := mS HB hb
  clear hb
  refine hK.out _ _ ⟨(cL HX3 0 rfl),(cL HX3 1 rfl),(cL HX3 2 rfl),(cL HX3 3 rfl),(cL HX3 4 rfl),(cL HX4 0 rfl),(cL HX4 1 rfl),(cL HX4 2 rfl)⟩ (fun hHeld => ?_)
  clear hK K
  refine norm_ (a' := ?_) ?_ ?_
  rotate_left
  ·show Act.put _ (some 59) _ = _
   simp only [Act.put,yoI,yos0,yos1,i64_w,i32_w]
   rfl
  refine pure_ (i := 15) (N := some 60) (v := ?_) (a' := ?_) yo70 rfl rfl (any_of HT_.out (by kernel_rfl)) (fun _ _ _ h => h) (Or.inl ⟨by rfl,?_⟩) ?_ ?_
  rotate_left
  ·intro w'
   go_simp
   with_reducible rfl
  rotate_left
  ·simp only [Act.put,yoI,yos0,yos1,i64_w,i32_w]
   rfl
  refine pure_ (i := 16) (N := some 61) (v := ?_) (a' := ?_) yo71 rfl rfl (any_of HT_.out (by kernel_rfl)) (fun _ _ _ h => h) (Or.inl ⟨by rfl,?_⟩) ?_ ?_
  rotate_left
  ·intro w'
   go_simp
   with_reducible rfl
  rotate_left
  ·simp only [Act.put,yoI,yos0,yos1,i64_w,i32_w]
   rfl
  refine pure_ (i := 17) (N := some 62) (v := ?_) (a' := ?_) yo72 rfl rfl (any_of HT_.out (by kernel_rfl)) (fun _ _ _ h => h) (Or.inl ⟨by rfl,?_⟩) ?_ ?_
  rotate_left
  ·intro w'
   go_simp
   with_reducible rfl
  rotate_left
  ·simp only [Act.put,yoI,yos0,yos1,i64_w,i32_w]
   rfl
  refine take_ (i := 18) (N := some 63) (v := ?_) (a' := ?_) yo73 rfl rfl (take_ofW HT_.out HW_.out (by kernel_rfl)) (fun _ _ _ h => h) (Or.inl ⟨by rfl,?_⟩) hHeld ?_ ?_
  rotate_left
  ·rintro w' ⟨s0,s1,s2,s3,s4,s5,s6,s7⟩
   go_simp
   with_reducible rfl
  rotate_left
  ·simp only [Act.put,yoI,yos0,yos1,i64_w,i32_w]
   rfl
  refine take_ (i := 20) (N := some 65) (v := ?_) (a' := ?_) yo74 rfl rfl (take_ofW HT_.out HW_.out (by kernel_rfl)) (fun _ _ _ h => h) (Or.inl ⟨by rfl,?_⟩) hHeld ?_ ?_
  rotate_left
  ·rintro w' ⟨s0,s1,s2,s3,s4,s5,s6,s7⟩
   go_simp
   with_reducible rfl
  rotate_left
  ·simp only [Act.put,yoI,yos0,yos1,i64_w,i32_w]
   rfl
  refine one_ (i := 19) (N := some 64) yo75 rfl rfl (one_of HT_.out (by kernel_rfl)) (by decide) (fun K hK => ?_)
  refine goes_ Try.func21 (by kernel_rfl) rfl #[.agg #[.int .i64 g,.int .i64 s,.slice Ao o.length co,.slice Al l.length cl,.slice Af f.length cf]] (by rfl) rfl rfl (by simp only [List.map_toArray,List.map_cons,List.map_nil]; rfl) ?_
  with_reducible refine (used_calls 21 g s _ _ o _ _ l _ _ f _ (TC_below HT.out HB.out) _ HU1.out).mono ?_
  rintro e_ wr8 ⟨rfl,hb⟩
  refine ⟨_,rfl,?_⟩
  replace HX3 := mB HX3 hb
  replace HX4 := mB HX4 hb
  replace HB := mS HB hb
  clear hb
  refine hK.out _ _ ⟨(cL HX3 0 rfl),(cL HX3 1 rfl),(cL HX3 2 rfl),(cL HX3 3 rfl),(cL HX3 4 rfl),(cL HX4 0 rfl),(cL HX4 1 rfl),(cL HX4 2 rfl)⟩ (fun hHeld => ?_)
  clear hK K
  refine norm_ (a' := ?_) ?_ ?_
  rotate_left
  ·show Act.put _ (some 64) _ = _
   simp only [Act.put,yoI,yos0,yos1,i64_w,i32_w]
   rfl
  refine one_ (i := 21) (N := some 66) yo76 rfl rfl (one_of HT_.out (by kernel_rfl)) (by decide) (fun K hK => ?_)
  refine goes_ Try.func12 (by kernel_rfl) rfl #[.agg #[.int .i64 g,.int .i64 s,.slice Ao o.length co,.slice Al l.length cl,.slice Af f.length cf]] (by rfl) rfl rfl (by simp only [List.map_toArray,List.map_cons,List.map_nil]; rfl) ?_
  with_reducible refine (ref_calls g s _ _ o _ _ l _ _ f _).mono ?_
  rintro e_ wr9 ⟨rfl,hb⟩
  refine ⟨_,rfl,?_⟩
  replace HX3 := mB HX3 hb
  replace HX4 := mB HX4 hb
  replace HB := mS HB hb
  clear hb
  refine hK.out _ _ ⟨(cL HX3 0 rfl),(cL HX3 1 rfl),(cL HX3 2 rfl),(cL HX3 3 rfl),(cL HX3 4 rfl),(cL HX4 0 rfl),(cL HX4 1 rfl),(cL HX4 2 rfl)⟩ (fun hHeld => ?_)
  clear hK K
  refine norm_ (a' := ?_) ?_ ?_
  rotate_left
  ·show Act.put _ (some 66) _ = _
   simp only [Act.put,yoI,yos0,yos1,i64_w,i32_w]
   rfl
  refine one_ (i := 22) (N := some 67) yo77 rfl rfl (one_of HT_.out (by kernel_rfl)) (by decide) (fun K hK => ?_)
  refine goes_ Try.func22 (by kernel_rfl) rfl #[.agg #[.int .i64 g,.int .i64 s,.slice Ao o.length co,.slice Al l.length cl,.slice Af f.length cf]] (by rfl) rfl rfl (by simp only [List.map_toArray,List.map_cons,List.map_nil]; rfl) ?_
  with_reducible refine (rused_calls 40 g s _ _ o _ _ l _ _ f _ (TC_below HT.out HB.out) _ HU2.out).mono ?_
  rintro e_ wr10 ⟨rfl,hb⟩
  refine ⟨_,rfl,?_⟩
  replace HX3 := mB HX3 hb
  replace HX4 := mB HX4 hb
  replace HB := mS HB hb
  clear hb
  refine hK.out _ _ ⟨(cL HX3 0 rfl),(cL HX3 1 rfl),(cL HX3 2 rfl),(cL HX3 3 rfl),(cL HX3 4 rfl),(cL HX4 0 rfl),(cL HX4 1 rfl),(cL HX4 2 rfl)⟩ (fun hHeld => ?_)
  clear hK K
  refine norm_ (a' := ?_) ?_ ?_
  rotate_left
  ·show Act.put _ (some 67) _ = _
   simp only [Act.put,yoI,yos0,yos1,i64_w,i32_w]
   rfl
  refine pure_ (i := 23) (N := some 68) (v := ?_) (a' := ?_) yo78 rfl rfl (any_of HT_.out (by kernel_rfl)) (fun _ _ _ h => h) (Or.inl ⟨by rfl,?_⟩) ?_ ?_
  rotate_left
  ·intro w'
   go_simp
   with_reducible rfl
  rotate_left
  ·simp only [Act.put,yoI,yos0,yos1,i64_w,i32_w]
   rfl
  refine pure_ (i := 24) (N := some 69) (v := ?_) (a' := ?_) yo79 rfl rfl (any_of HT_.out (by kernel_rfl)) (fun _ _ _ h => h) (Or.inl ⟨by rfl,?_⟩) ?_ ?_
  rotate_left
  ·intro w'
   go_simp
   with_reducible rfl
  rotate_left
  ·simp only [Act.put,yoI,yos0,yos1,i64_w,i32_w]
   rfl
  refine pure_ (i := 25) (N := some 70) (v := ?_) (a' := ?_) yo80 rfl rfl (any_of HT_.out (by kernel_rfl)) (fun _ _ _ h => h) (Or.inl ⟨by rfl,?_⟩) ?_ ?_
  rotate_left
  ·intro w'
   go_simp
   with_reducible rfl
  rotate_left
  ·simp only [Act.put,yoI,yos0,yos1,i64_w,i32_w]
   rfl
  refine pure_ (i := 27) (N := some 72) (v := ?_) (a' := ?_) yo81 rfl rfl (any_of HT_.out (by kernel_rfl)) (fun _ _ _ h => h) (Or.inl ⟨by rfl,?_⟩) ?_ ?_
  rotate_left
  ·intro w'
   go_simp
   with_reducible rfl
  rotate_left
  ·simp only [Act.put,yoI,yos0,yos1,i64_w,i32_w]
   rfl
  refine pure_ (i := 32) (N := some 77) (v := ?_) (a' := ?_) yo82 rfl rfl (any_of HT_.out (by kernel_rfl)) (fun _ _ _ h => h) (Or.inl ⟨by rfl,?_⟩) ?_ ?_
  rotate_left
  ·intro w'
   go_simp
   with_reducible rfl
  rotate_left
  ·simp only [Act.put,yoI,yos0,yos1,i64_w,i32_w]
   rfl
  refine take_ (i := 26) (N := some 71) (v := ?_) (a' := ?_) yo83 rfl rfl (take_ofW HT_.out HW_.out (by kernel_rfl)) (fun _ _ _ h => h) (Or.inl ⟨by rfl,?_⟩) hHeld ?_ ?_
  rotate_left
  ·rintro w' ⟨s0,s1,s2,s3,s4,s5,s6,s7⟩
   go_simp
   with_reducible rfl
  rotate_left
  ·simp only [Act.put,yoI,yos0,yos1,i64_w,i32_w]
   rfl
  refine take_ (i := 28) (N := some 73) (v := ?_) (a' := ?_) yo84 rfl rfl (take_ofW HT_.out HW_.out (by kernel_rfl)) (fun _ _ _ h => h) (Or.inl ⟨by rfl,?_⟩) hHeld ?_ ?_
  rotate_left
  ·rintro w' ⟨s0,s1,s2,s3,s4,s5,s6,s7⟩
   go_simp
   with_reducible rfl
  rotate_left
  ·simp only [Act.put,yoI,yos0,yos1,i64_w,i32_w]
   rfl
  refine take_ (i := 30) (N := some 75) (v := ?_) (a' := ?_) yo85 rfl rfl (take_ofW HT_.out HW_.out (by kernel_rfl)) (fun _ _ _ h => h) (Or.inl ⟨by rfl,?_⟩) hHeld ?_ ?_
  rotate_left
  ·rintro w' ⟨s0,s1,s2,s3,s4,s5,s6,s7⟩
   go_simp
   with_reducible rfl
  rotate_left
  ·simp only [Act.put,yoI,yos0,yos1,i64_w,i32_w]
   rfl
  refine take_ (i := 33) (N := some 78) (v := ?_) (a' := ?_) yo86 rfl rfl (take_ofW HT_.out HW_.out (by kernel_rfl)) (fun _ _ _ h => h) (Or.inl ⟨by rfl,?_⟩) hHeld ?_ ?_
  rotate_left
  ·rintro w' ⟨s0,s1,s2,s3,s4,s5,s6,s7⟩
   go_simp
   with_reducible rfl
  rotate_left
  ·simp only [Act.put,yoI,yos0,yos1,i64_w,i32_w]
   rfl
  refine one_ (i := 29) (N := some 74) yo87 rfl rfl (one_of HT_.out (by kernel_rfl)) (by decide) (fun K hK => ?_)
  refine goes_ Try.func23 (by kernel_rfl) rfl #[.agg #[.int .i64 g,.int .i64 s,.slice Ao o.length co,.slice Al l.length cl,.slice Af f.length cf],.int .i64 seg] (by rfl) rfl rfl (by simp only [List.map_toArray,List.map_cons,List.map_nil]; rfl) ?_
  with_reducible refine (len_calls 21 g s _ _ o _ _ l _ _ f seg _ (TC_below HT.out HB.out) _ HL1.out).mono ?_
  rintro e_ wr11 ⟨rfl,hb⟩
  refine ⟨_,rfl,?_⟩
  replace HX3 := mB HX3 hb
  replace HX4 := mB HX4 hb
  replace HB := mS HB hb
  clear hb
  refine hK.out _ _ ⟨(cL HX3 0 rfl),(cL HX3 1 rfl),(cL HX3 2 rfl),(cL HX3 3 rfl),(cL HX3 4 rfl),(cL HX4 0 rfl),(cL HX4 1 rfl),(cL HX4 2 rfl)⟩ (fun hHeld => ?_)
  clear hK K
  refine norm_ (a' := ?_) ?_ ?_
  rotate_left
  ·show Act.put _ (some 74) _ = _
   simp only [Act.put,yoI,yos0,yos1,i64_w,i32_w]
   rfl
  refine one_ (i := 31) (N := some 76) yo88 rfl rfl (one_of HT_.out (by kernel_rfl)) (by decide) (fun K hK => ?_)
  refine goes_ Try.func12 (by kernel_rfl) rfl #[.agg #[.int .i64 g,.int .i64 s,.slice Ao o.length co,.slice Al l.length cl,.slice Af f.length cf]] (by rfl) rfl rfl (by simp only [List.map_toArray,List.map_cons,List.map_nil]; rfl) ?_
  with_reducible refine (ref_calls g s _ _ o _ _ l _ _ f _).mono ?_
  rintro e_ wr12 ⟨rfl,hb⟩
  refine ⟨_,rfl,?_⟩
  replace HX3 := mB HX3 hb
  replace HX4 := mB HX4 hb
  replace HB := mS HB hb
  clear hb
  refine hK.out _ _ ⟨(cL HX3 0 rfl),(cL HX3 1 rfl),(cL HX3 2 rfl),(cL HX3 3 rfl),(cL HX3 4 rfl),(cL HX4 0 rfl),(cL HX4 1 rfl),(cL HX4 2 rfl)⟩ (fun hHeld => ?_)
  clear hK K
  refine norm_ (a' := ?_) ?_ ?_
  rotate_left
  ·show Act.put _ (some 76) _ = _
   simp only [Act.put,yoI,yos0,yos1,i64_w,i32_w]
   rfl
  refine one_ (i := 34) (N := some 79) yo89 rfl rfl (one_of HT_.out (by kernel_rfl)) (by decide) (fun K hK => ?_)
  refine goes_ Try.func24 (by kernel_rfl) rfl #[.agg #[.int .i64 g,.int .i64 s,.slice Ao o.length co,.slice Al l.length cl,.slice Af f.length cf],.int .i64 seg] (by rfl) rfl rfl (by simp only [List.map_toArray,List.map_cons,List.map_nil]; rfl) ?_
  with_reducible refine (rlen_calls 40 g s _ _ o _ _ l _ _ f seg _ (TC_below HT.out HB.out) _ HL2.out).mono ?_
  rintro e_ wr13 ⟨rfl,hb⟩
  refine ⟨_,rfl,?_⟩
  replace HX3 := mB HX3 hb
  replace HX4 := mB HX4 hb
  replace HB := mS HB hb
  clear hb
  refine hK.out _ _ ⟨(cL HX3 0 rfl),(cL HX3 1 rfl),(cL HX3 2 rfl),(cL HX3 3 rfl),(cL HX3 4 rfl),(cL HX4 0 rfl),(cL HX4 1 rfl),(cL HX4 2 rfl)⟩ (fun hHeld => ?_)
  clear hK K
  refine norm_ (a' := ?_) ?_ ?_
  rotate_left
  ·show Act.put _ (some 79) _ = _
   simp only [Act.put,yoI,yos0,yos1,i64_w,i32_w]
   rfl
  refine pure_ (i := 35) (N := some 80) (v := ?_) (a' := ?_) yo90 rfl rfl (any_of HT_.out (by kernel_rfl)) (fun _ _ _ h => h) (Or.inl ⟨by rfl,?_⟩) ?_ ?_
  rotate_left
  ·intro w'
   go_simp
   with_reducible rfl
  rotate_left
  ·simp only [Act.put,yoI,yos0,yos1,i64_w,i32_w]
   rfl
  refine pure_ (i := 36) (N := some 81) (v := ?_) (a' := ?_) yo91 rfl rfl (any_of HT_.out (by kernel_rfl)) (fun _ _ _ h => h) (Or.inl ⟨by rfl,?_⟩) ?_ ?_
  rotate_left
  ·intro w'
   go_simp
   with_reducible rfl
  rotate_left
  ·simp only [Act.put,yoI,yos0,yos1,i64_w,i32_w]
   rfl
  refine pure_ (i := 37) (N := some 82) (v := ?_) (a' := ?_) yo92 rfl rfl (any_of HT_.out (by kernel_rfl)) (fun _ _ _ h => h) (Or.inl ⟨by rfl,?_⟩) ?_ ?_
  rotate_left
  ·intro w'
   go_simp
   with_reducible rfl
  rotate_left
  ·simp only [Act.put,yoI,yos0,yos1,i64_w,i32_w]
   rfl
  refine one_ (i := 38) (N := some 83) yo93 rfl rfl (one_of HT_.out (by kernel_rfl)) (by decide) (fun K hK => ?_)
  refine goes_ Try.func25 (by kernel_rfl) rfl #[] (by rfl) rfl rfl (by simp only [List.map_toArray,List.map_cons,List.map_nil]) ?_
  with_reducible refine (fixed_calls _).mono ?_
  rintro e_ wr14 ⟨rfl,hb⟩
  refine ⟨_,rfl,?_⟩
  replace HX3 := mB HX3 hb
  replace HX4 := mB HX4 hb
  replace HB := mS HB hb
  clear hb
  refine hK.out _ _ ⟨(cL HX3 0 rfl),(cL HX3 1 rfl),(cL HX3 2 rfl),(cL HX3 3 rfl),(cL HX3 4 rfl),(cL HX4 0 rfl),(cL HX4 1 rfl),(cL HX4 2 rfl)⟩ (fun hHeld => ?_)
  clear hK K
  refine norm_ (a' := ?_) ?_ ?_
  rotate_left
  ·show Act.put _ (some 83) _ = _
   simp only [Act.put,yoI,yos0,yos1,i64_w,i32_w]
   rfl
  refine pure_ (i := 39) (N := some 84) (v := ?_) (a' := ?_) yo94 rfl rfl (any_of HT_.out (by kernel_rfl)) (fun _ _ _ h => h) (Or.inl ⟨by rfl,?_⟩) ?_ ?_
  rotate_left
  ·intro w'
   go_simp
   with_reducible rfl
  rotate_left
  ·simp only [Act.put,yoI,yos0,yos1,i64_w,i32_w]
   rfl
  refine pure_ (i := 40) (N := some 6) (v := ?_) (a' := ?_) yo95 rfl rfl (any_of HT_.out (by kernel_rfl)) (fun _ _ _ h => h) (Or.inl ⟨by rfl,?_⟩) ?_ ?_
  rotate_left
  ·intro w'
   go_simp
   with_reducible rfl
  rotate_left
  ·simp only [Act.put,yoI,yos0,yos1,i64_w,i32_w]
   rfl
  refine done_ (done_of HT_.out (by kernel_rfl)) ?_
  clear HT_ HW_ hHeld
  go_wp2_with fail
  go_ret
  exact ⟨rfl,HB.out⟩
end Go.Proofs.Ytbefoehjlgdcgaa.H
