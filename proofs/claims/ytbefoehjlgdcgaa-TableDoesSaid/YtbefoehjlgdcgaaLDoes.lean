/-
The walk of TableDoes.
-/
import Derived.Test.YtbefoehjlgdcgaaDo
import Derived.Test.YtbefoehjlgdcgaaCy
namespace Go.Proofs.Ytbefoehjlgdcgaa.H
open Go.RowKit Go.Proofs.YtbefoehjlgdcgaaW.PrintWords Go.Proofs.YtbefoehjlgdcgaaW.PrintLast Go.Proofs.YtbefoehjlgdcgaaW.PrintMore
attribute [local go_sem] min2_int min_two
set_option linter.unusedVariables false
set_option linter.unusedSimpArgs false
def yq0 : Array Bool := #[false,false,false,false,false,false,false,false,false,false,false,false,false,false,false,false,false]
def yq1 : Array Bool := #[true,false,false,false,false,false,false,false,false,false,false,false,false,false,false,false,false]
def yq2 : Array Bool := #[true,true,false,false,false,false,false,false,false,false,false,false,false,false,false,false,false]
def yq3 : Array Bool := #[true,true,true,false,false,false,false,false,false,false,false,false,false,false,false,false,false]
def yq4 : Array Bool := #[true,true,true,true,false,false,false,false,false,false,false,false,false,false,false,false,false]
def yq5 : Array Bool := #[true,true,true,true,true,false,false,false,false,false,false,false,false,false,false,false,false]
def yq6 : Array Bool := #[true,true,true,true,true,false,true,false,false,false,false,false,false,false,false,false,false]
def yq7 : Array Bool := #[true,true,true,true,true,true,true,false,false,false,false,false,false,false,false,false,false]
def yq8 : Array Bool := #[true,true,true,true,true,true,true,true,false,false,false,false,false,false,false,false,false]
def yq9 : Array Bool := #[true,true,true,true,true,true,true,true,true,false,false,false,false,false,false,false,false]
def yq10 : Array Bool := #[true,true,true,true,true,true,true,true,true,true,false,false,false,false,false,false,false]
def yq11 : Array Bool := #[true,true,true,true,true,true,true,true,true,true,true,false,false,false,false,false,false]
def yq12 : Array Bool := #[true,true,true,true,true,true,true,true,true,true,true,true,false,false,false,false,false]
def yq13 : Array Bool := #[true,true,true,true,true,true,true,true,true,true,true,true,false,true,false,false,false]
def yq14 : Array Bool := #[true,true,true,true,true,true,true,true,true,true,true,true,true,true,false,false,false]
def yq15 : Array Bool := #[true,true,true,true,true,true,true,true,true,true,true,true,true,true,true,false,false]
def yq16 : Array Bool := #[true,true,true,true,true,true,true,true,true,true,true,true,true,true,true,true,false]
def yq17 : Array Bool := #[true,true,true,true,true,true,true,true,true,true,true,true,true,true,true,true,true]
def yq18 : Array Bool := #[false,false,false,false,false,false,false,false,false,false,false,false,false,false,false,false]
def yq19 : Array Bool := #[false,false,true,false,false,false,false,false,false,false,false,false,false,false,false,false]
def yq20 : Array Bool := #[false,false,true,true,false,false,false,false,false,false,false,false,false,false,false,false]
def yq21 : Array Bool := #[false,false,true,true,true,false,false,false,false,false,false,false,false,false,false,false]
def yq22 : Array Bool := #[true,false,true,true,true,false,false,false,false,false,false,false,false,false,false,false]
def yq23 : Array Bool := #[true,true,true,true,true,false,false,false,false,false,false,false,false,false,false,false]
def yq24 : Array Bool := #[true,true,true,true,true,true,false,false,false,false,false,false,false,false,false,false]
def yq25 : Array Bool := #[true,true,true,true,true,true,true,true,true,true,true,true,true,false,false,false]
def yq26 : Array Bool := #[true,true,true,true,true,true,true,false,false,false,false,false,false,false,false,false]
def yq27 : Array Bool := #[true,true,true,true,true,true,false,false,false,false,false,true,false,false,false,false]
def yq28 : Array Bool := #[true,true,true,true,true,true,false,false,false,false,false,false,true,false,false,false]
def yq29 : Array Bool := #[true,true,true,true,true,true,true,true,false,false,false,false,false,false,false,false]
def yq30 : Array Bool := #[true,true,true,true,true,true,true,true,true,false,false,false,false,false,false,false]
def yq31 : Array Bool := #[true,true,true,true,true,true,true,true,true,true,false,false,false,false,false,false]
def yq32 : Array Bool := #[true,true,true,true,true,true,true,true,true,true,true,false,false,false,false,false]
def yq33 : Array Bool := #[true,true,true,true,true,true,true,true,true,true,true,true,false,false,false,false]
def yq34 : Array Bool := #[true,true,true,true,true,true,true,true,true,true,true,false,true,false,false,false]
def yq35 : Array Bool := #[true,true,true,true,true,true,true,false,false,false,false,true,false,false,false,false]
def yq36 : Array Bool := #[true,true,true,true,true,true,false,false,false,false,false,true,true,false,false,false]
def yq37 : Array Bool := #[true,true,true,true,true,true,true,true,false,false,false,true,false,false,false,false]
def yq38 : Array Bool := #[true,true,true,true,true,true,true,true,true,false,false,true,false,false,false,false]
def yq39 : Array Bool := #[true,true,true,true,true,true,true,true,true,true,false,true,false,false,false,false]
def yq40 : Array Bool := #[true,true,true,true,true,true,true,false,false,false,false,true,true,false,false,false]
def yq41 : Array Bool := #[true,true,true,true,true,true,true,true,false,false,false,true,true,false,false,false]
def yq42 : Array Bool := #[true,true,true,true,true,true,true,true,true,false,false,true,true,false,false,false]
def yq43 : Array Bool := #[true,true,true,true,true,true,true,true,true,true,false,true,true,false,false,false]
def yq44 : Array Bool := #[true,true,true,true,true,true,true,false,false,false,false,false,true,false,false,false]
def yq45 : Array Bool := #[true,true,true,true,true,true,true,true,false,false,false,false,true,false,false,false]
def yq46 : Array Bool := #[true,true,true,true,true,true,true,true,true,false,false,false,true,false,false,false]
def yq47 : Array Bool := #[true,true,true,true,true,true,true,true,true,true,false,false,true,false,false,false]
def yq48 : Array Bool := #[true,true,true,true,true,true,true,true,true,true,true,true,true,true,false,false]
def yq49 : Array Bool := #[true,true,true,true,true,true,true,true,true,true,true,true,true,true,true,false]
def yq50 : Array Bool := #[true,true,true,true,true,true,true,true,true,true,true,true,true,true,true,true]
def yq51 : Array Bool := #[false,false,false,false,false,false,false,false,false,false,false,false,false,false,false,false,false,false,false,false,false,false,false,false,false,false,false,false,false,false,false,false,false,false,false,false,false]
def yq52 : Array Bool := #[true,false,false,false,false,false,false,false,false,false,false,false,false,false,false,false,false,false,false,false,false,false,false,false,false,false,false,false,false,false,false,false,false,false,false,false,false]
def yq53 : Array Bool := #[true,false,true,false,false,false,false,false,false,false,false,false,false,false,false,false,false,false,false,false,false,false,false,false,false,false,false,false,false,false,false,false,false,false,false,false,false]
def yq54 : Array Bool := #[true,true,true,false,false,false,false,false,false,false,false,false,false,false,false,false,false,false,false,false,false,false,false,false,false,false,false,false,false,false,false,false,false,false,false,false,false]
def yq55 : Array Bool := #[true,true,true,true,false,false,false,false,false,false,false,false,false,false,false,false,false,false,false,false,false,false,false,false,false,false,false,false,false,false,false,false,false,false,false,false,false]
def yq56 : Array Bool := #[true,true,true,true,true,false,false,false,false,false,false,false,false,false,false,false,false,false,false,false,false,false,false,false,false,false,false,false,false,false,false,false,false,false,false,false,false]
def yq57 : Array Bool := #[true,true,true,true,true,true,false,false,false,false,false,false,false,false,false,false,false,false,false,false,false,false,false,false,false,false,false,false,false,false,false,false,false,false,false,false,false]
def yq58 : Array Bool := #[true,true,true,true,true,true,true,false,false,false,false,false,false,false,false,false,false,false,false,false,false,false,false,false,false,false,false,false,false,false,false,false,false,false,false,false,false]
def yq59 : Array Bool := #[true,true,true,true,true,true,true,true,false,false,false,false,false,false,false,false,false,false,false,false,false,false,false,false,false,false,false,false,false,false,false,false,false,false,false,false,false]
def yq60 : Array Bool := #[true,true,true,true,true,true,true,true,false,true,false,false,false,false,false,false,false,false,false,false,false,false,false,false,false,false,false,false,false,false,false,false,false,false,false,false,false]
def yq61 : Array Bool := #[true,true,true,true,true,true,true,true,true,true,false,false,false,false,false,false,false,false,false,false,false,false,false,false,false,false,false,false,false,false,false,false,false,false,false,false,false]
def yq62 : Array Bool := #[true,true,true,true,true,true,true,true,true,true,true,false,false,false,false,false,false,false,false,false,false,false,false,false,false,false,false,false,false,false,false,false,false,false,false,false,false]
def yq63 : Array Bool := #[true,true,true,true,true,true,true,true,true,true,true,true,false,false,false,false,false,false,false,false,false,false,false,false,false,false,false,false,false,false,false,false,false,false,false,false,false]
def yq64 : Array Bool := #[true,true,true,true,true,true,true,true,true,true,true,true,true,false,false,false,false,false,false,false,false,false,false,false,false,false,false,false,false,false,false,false,false,false,false,false,false]
def yq65 : Array Bool := #[true,true,true,true,true,true,true,true,true,true,true,true,true,true,false,false,false,false,false,false,false,false,false,false,false,false,false,false,false,false,false,false,false,false,false,false,false]
def yq66 : Array Bool := #[true,true,true,true,true,true,true,true,true,true,true,true,true,true,true,false,false,false,false,false,false,false,false,false,false,false,false,false,false,false,false,false,false,false,false,false,false]
def yq67 : Array Bool := #[true,true,true,true,true,true,true,true,true,true,true,true,true,true,true,false,true,false,false,false,false,false,false,false,false,false,false,false,false,false,false,false,false,false,false,false,false]
def yq68 : Array Bool := #[true,true,true,true,true,true,true,true,true,true,true,true,true,true,true,true,true,false,false,false,false,false,false,false,false,false,false,false,false,false,false,false,false,false,false,false,false]
def yq69 : Array Bool := #[true,true,true,true,true,true,true,true,true,true,true,true,true,true,true,true,true,true,false,false,false,false,false,false,false,false,false,false,false,false,false,false,false,false,false,false,false]
def yq70 : Array Bool := #[true,true,true,true,true,true,true,true,true,true,true,true,true,true,true,true,true,true,true,false,false,false,false,false,false,false,false,false,false,false,false,false,false,false,false,false,false]
def yq71 : Array Bool := #[true,true,true,true,true,true,true,true,true,true,true,true,true,true,true,true,true,true,true,true,false,false,false,false,false,false,false,false,false,false,false,false,false,false,false,false,false]
def yq72 : Array Bool := #[true,true,true,true,true,true,true,true,true,true,true,true,true,true,true,true,true,true,true,true,true,false,false,false,false,false,false,false,false,false,false,false,false,false,false,false,false]
def yq73 : Array Bool := #[true,true,true,true,true,true,true,true,true,true,true,true,true,true,true,true,true,true,true,true,true,false,true,false,false,false,false,false,false,false,false,false,false,false,false,false,false]
def yq74 : Array Bool := #[true,true,true,true,true,true,true,true,true,true,true,true,true,true,true,true,true,true,true,true,true,false,true,true,false,false,false,false,false,false,false,false,false,false,false,false,false]
def yq75 : Array Bool := #[true,true,true,true,true,true,true,true,true,true,true,true,true,true,true,true,true,true,true,true,true,false,true,true,true,false,false,false,false,false,false,false,false,false,false,false,false]
def yq76 : Array Bool := #[true,true,true,true,true,true,true,true,true,true,true,true,true,true,true,true,true,true,true,true,true,false,true,true,true,true,false,false,false,false,false,false,false,false,false,false,false]
def yq77 : Array Bool := #[true,true,true,true,true,true,true,true,true,true,true,true,true,true,true,true,true,true,true,true,true,false,true,true,true,true,false,false,false,true,false,false,false,false,false,false,false]
def yq78 : Array Bool := #[true,true,true,true,true,true,true,true,true,true,true,true,true,true,true,true,true,true,true,true,true,false,true,true,true,true,false,false,false,true,true,false,false,false,false,false,false]
def yq79 : Array Bool := #[true,true,true,true,true,true,true,true,true,true,true,true,true,true,true,true,true,true,true,true,true,false,true,true,true,true,false,false,false,true,true,true,false,false,false,false,false]
def yq80 : Array Bool := #[true,true,true,true,true,true,true,true,true,true,true,true,true,true,true,true,true,true,true,true,true,false,true,true,true,true,false,false,false,true,true,true,true,false,false,false,false]
def yq81 : Array Bool := #[true,true,true,true,true,true,true,true,true,true,true,true,true,true,true,true,true,true,true,true,true,true,true,true,true,true,false,false,false,true,true,true,true,false,false,false,false]
def yq82 : Array Bool := #[true,true,true,true,true,true,true,true,true,true,true,true,true,true,true,true,true,true,true,true,true,true,true,true,true,true,true,false,false,true,true,true,true,false,false,false,false]
def yq83 : Array Bool := #[true,true,true,true,true,true,true,true,true,true,true,true,true,true,true,true,true,true,true,true,true,true,true,true,true,true,true,false,true,true,true,true,true,false,false,false,false]
def yq84 : Array Bool := #[true,true,true,true,true,true,true,true,true,true,true,true,true,true,true,true,true,true,true,true,true,true,true,true,true,true,true,false,true,true,true,true,true,true,false,false,false]
def yq85 : Array Bool := #[true,true,true,true,true,true,true,true,true,true,true,true,true,true,true,true,true,true,true,true,true,true,true,true,true,true,true,true,true,true,true,true,true,true,false,false,false]
def yq86 : Array Bool := #[true,true,true,true,true,true,true,true,true,true,true,true,true,true,true,true,true,true,true,true,true,true,true,true,true,true,true,true,true,true,true,true,true,true,true,false,false]
def yq87 : Array Bool := #[true,true,true,true,true,true,true,true,true,true,true,true,true,true,true,true,true,true,true,true,true,true,true,true,true,true,true,true,true,true,true,true,true,true,true,true,false]
def yq88 : Array Bool := #[true,true,true,true,true,true,true,true,true,true,true,true,true,true,true,true,true,true,true,true,true,true,true,true,true,true,true,true,true,true,true,true,true,true,true,true,true]
theorem yqI {α : Type} (l : List α) (i : Nat) (a : α) : l.toArray.setIfInBounds i a = (l.set i a).toArray := List.setIfInBounds_toArray l i a
theorem yqs0 {α : Type} (x : α) (l : List α) (a : α) : (x :: l).set 0 a = a :: l := rfl
theorem yqs1 {α : Type} (x : α) (l : List α) (i : Nat) (a : α) : (x :: l).set (i + 1) a = x :: l.set i a := rfl
theorem right0_calls (w : World) : Calls Try.prog 13 #[.agg #[.int .i64 0,.int .i64 0,.slice none 0 0,.slice none 0 0,.slice none 0 0]] w fun e w' => e = .returned (.bool (rtT 0 0 [] [] [])) ∧ Below w.heap.size w w' := right_calls 0 0 none 0 [] none 0 [] none 0 [] w (TC_nil w) (by decide)
theorem rright0_calls (w : World) : Calls Try.prog 14 #[.agg #[.int .i64 0,.int .i64 0,.slice none 0 0,.slice none 0 0,.slice none 0 0]] w fun e w' => e = .returned (.bool (rtT 0 0 [] [] [])) ∧ Below w.heap.size w w' := rright_calls 0 0 none 0 [] none 0 [] none 0 [] w (TC_nil w) (by decide)
theorem bne_self_false (b : Bool) : (b != b) = false := by cases b <;> rfl
theorem int_bne (x : Int) : (x != x) = false := by simp
theorem TR1_mk {W : World} {k : IntKind} {e base : Nat} {ok : Nat → Prop} {A : Option Addr} {c : Nat} {xs : List Int} (h : Kd.R (Kd.int k) e W base ok (.slice A xs.length c) xs) : Kd.C (Kd.int k) W A xs.length xs := (Kd.R_reads' h).2.2
theorem rt_first {g s : Int} (h : mayT g s = true) (first : Int) : RT g s [0] [0] [first] := by
 have hm : 4 ≤ g ∧ g ≤ 16 ∧ 1 ≤ s ∧ s ≤ 30 := of_decide_eq_true h
 exact ⟨h,by decide,rfl,rfl,by decide,fun z hz => by rw [List.mem_singleton.1 hz]; omega,fun z hz => by rw [List.mem_singleton.1 hz]; omega⟩
theorem do_own (w0 : World) {g s : Int} {Ao : Option Addr} {co : Nat} {o : List Int} {Al : Option Addr} {cl : Nat} {l : List Int} {Af : Option Addr} {cf : Nat} {f : List Int} {Bo : Option Addr} {co2 : Nat} {Bl : Option Addr} {cl2 : Nat} {Bf : Option Addr} {cf2 : Nat} (kind seg first : Int) {w : World} (hB : Below w0.heap.size w0 w) (ha : TR w w0.heap.size Ao co o Al cl l Af cf f) (hb : TR w w0.heap.size Bo co2 o Bl cl2 l Bf cf2 f) (hR : RT g s o l f) :
  Calls Try.prog 15 #[.agg #[.int .i64 g,.int .i64 s,.slice Ao o.length co,.slice Al l.length cl,.slice Af f.length cf],.agg #[.int .i64 g,.int .i64 s,.slice Bo o.length co2,.slice Bl l.length cl2,.slice Bf f.length cf2],.agg #[.int .i64 kind,.int .i64 seg,.int .u64 first]] w fun e w' => (∃ (o2 l2 f2 : List Int) (C1 : Option Addr) (p1 : Nat) (C2 : Option Addr) (p2 : Nat) (C3 : Option Addr) (p3 : Nat) (D1 : Option Addr) (q1 : Nat) (D2 : Option Addr) (q2 : Nat) (D3 : Option Addr) (q3 : Nat),e = .returned (.tuple #[.agg #[.int .i64 g,.int .i64 s,.slice C1 o2.length p1,.slice C2 l2.length p2,.slice C3 f2.length p3],.agg #[.int .i64 g,.int .i64 s,.slice D1 o2.length q1,.slice D2 l2.length q2,.slice D3 f2.length q3],.bool true]) ∧ RT g s o2 l2 f2 ∧ TR w' w0.heap.size C1 p1 o2 C2 p2 l2 C3 p3 f2 ∧ TR w' w0.heap.size D1 q1 o2 D2 q2 l2 D3 q3 f2) ∧ Below w.heap.size w w' := by
 refine (do_calls g s Ao co o Al cl l Af cf f Bo co2 Bl cl2 Bf cf2 kind seg first w (TR_TC ha) (TR_TC hb) hR).mono ?_
 rintro e w' ⟨rfl | ⟨o2,l2,f2,A1,d1,A2,d2,A3,d3,B1,e1,B2,e2,B3,e3,rfl,hr,h1,h2⟩,hw⟩
 ·exact ⟨⟨o,l,f,Ao,co,Al,cl,Af,cf,Bo,co2,Bl,cl2,Bf,cf2,rfl,hR,TR_below ha hw,TR_below hb hw⟩,hw⟩
 ·exact ⟨⟨o2,l2,f2,A1,d1,A2,d2,A3,d3,B1,e1,B2,e2,B3,e3,rfl,hr,TR_lower h1 (below_size hB),TR_lower h2 (below_size hB)⟩,hw⟩
def does8.T3 : Bool × List (List Nat × List Nat) := (true,[([],[]),([],[]),([0,1],[0,1]),([2],[2]),([3],[3]),([4,3,3],[3,4]),([3],[3]),([5,6,5,3],[3,5,6]),([7,3],[3,7]),([3,8],[3,8]),([9,7],[9]),([10],[10]),([11,10,10],[10,11]),([10],[10]),([13,12,10],[10,13]),([12,14,10],[10,12,14]),([10,15],[10,15])])
def does8.B3 : List Nat := [0,0,3,7,15,31,15,127,255,511,1023,2047,4095,2047,16383,32767,65535]
theorem does8.tab3 : rtab .any (opsOf Try.f3 3) = does8.T3 := by kernel_rfl
theorem does8.bits3 : waitsOk does8.T3.2 does8.B3 = true := by kernel_rfl
def does8.T8 : Bool × List (List Nat × List Nat) := (true,[([],[]),([],[]),([],[]),([],[]),([2,3],[2,3]),([4],[4]),([0,1,5],[0,1,5]),([6],[6]),([7],[7]),([7],[7]),([7],[7]),([],[]),([],[]),([11,8,6,0,1,2,3,4,5,6,7,8,11,12],[8,11]),([12,9,13,0,1,2,3,4,5,6,7,8,9,11,12,13],[9,12]),([10,14,0,1,2,3,4,5,6,7,8,9,10,11,12,13,14],[10])])
def does8.B8 : List Nat := [0,0,0,0,12,28,63,127,255,255,255,0,0,6655,15359,32767]
theorem does8.tab8 : rtab .any (opsOf Try.f3 8) = does8.T8 := by kernel_rfl
theorem does8.bits8 : waitsOk does8.T8.2 does8.B8 = true := by kernel_rfl
def does8.T13 : Bool × List (List Nat × List Nat) := (true,[([],[]),([0],[0]),([],[]),([2,1],[2]),([1,3,3],[1,3]),([4],[4]),([5,4],[5]),([6],[6]),([7,6,6],[6,7]),([6],[6]),([9,8,6],[6,9]),([8,10,6],[6,8,10]),([6,11],[6,11]),([12,10],[12]),([13],[13]),([14,13,13],[13,14]),([13],[13]),([16,15,13],[13,16]),([15,17,13],[13,15,17]),([13,18],[13,18]),([19,17],[19]),([20],[20]),([20],[20]),([20],[20]),([22,23,20],[20,22,23]),([24,20],[20,24]),([25,20],[20,25]),([21,26,20,20],[20,21,26]),([20],[20]),([20],[20]),([20],[20]),([29,30,20],[20,29,30]),([31,20],[20,31]),([32,20],[20,32]),([28,33,27,20],[20,28,33]),([27,34,20],[20,27,34]),([20,35],[20,35])])
def does8.B13 : List Nat := [0,1,0,7,15,31,63,127,255,127,1023,2047,4095,8191,16383,32767,16383,131071,262143,524287,1048575,2097151,2097151,2097151,14680063,31457279,65011711,134217727,2097151,2097151,2097151,1612709887,3760193535,8055160831,17179869183,34359738367,68719476735]
theorem does8.tab13 : rtab .any (opsOf Try.f3 13) = does8.T13 := by kernel_rfl
theorem does8.bits13 : waitsOk does8.T13.2 does8.B13 = true := by kernel_rfl
set_option maxHeartbeats 8000000 in
set_option maxRecDepth 100000 in
theorem TableDoes_walk0 (n0 n1 first : Int) (Aq : Option Addr) (cq : Nat) (q : List S42) (w : World) (hC : Kd.C k42 w Aq q.length q) (hc : q.length ≤ cq) :
  Calls Try.prog 3 #[.agg #[.int .i64 n0,.int .i64 n1],.int .u64 first,.slice Aq q.length cq] w fun e w' => e = .returned (.bool true) ∧ Below w.heap.size w w' := by
 have HCQ := Aside0.mk hC
 have HcQ := Aside0.mk hc
 clear hC hc
 go_enter Try.func3,Try.ntmps3
 go_upto_region 1 with fail
 obtain ⟨W1,hW1⟩ : ∃ W1,W1 = w.alloc (.cells #[.int .i64 n0,.int .i64 n1] 22) := ⟨_,rfl⟩
 rw [← hW1]
 obtain ⟨g3,hg3⟩ : ∃ g,g = w.heap.size := ⟨_,rfl⟩
 have HX3 : Aside0 (W1.heap[g3]? = some (.cells #[.int .i64 n0,.int .i64 n1] 22 (0,0))) := ⟨by rw [hW1,hg3]; exact blk_new _ _⟩
 have HB : Aside0 (Below w.heap.size w W1) := ⟨by rw [hW1]; exact below_alloc (Below.refl _ _) _⟩
 rw [← hg3]
 clear hW1 hg3
 by_cases hm : mayT n0 n1 = true
 ·have HM := Aside0.mk hm
  clear hm
  obtain ⟨g,hg⟩ : ∃ g,g = n0 := ⟨_,rfl⟩
  obtain ⟨s,hs⟩ : ∃ s,s = n1 := ⟨_,rfl⟩
  subst hg hs
  have s_0 : W1.cell? ⟨g3,0,none⟩ = some (.int .i64 g) := cL HX3 0 rfl
  have s_1 : W1.cell? ⟨g3,1,none⟩ = some (.int .i64 s) := cL HX3 1 rfl
  go_wp2_with fail
  clear s_0 s_1
  refine (new_yes g s first _ ((may_is _ _).trans (congrArg some HM.out))).mono ?_
  rintro e_ w2 ⟨A1,c1,A2,c2,A3,c3,rfl,hr,hb⟩
  have HTa := Aside0.mk (TR_lower hr (below_size HB.out))
  replace HX3 := mB HX3 hb
  replace HB := mS HB hb
  clear hr hb
  go_upto_region 2 with ((with_reducible refine gate_dst (N := 7) rfl ?_); refine box_event ?hg (N := 7) ?hd (cs := #[.int .i64 0,.int .i64 0,.slice none 0 0,.slice none 0 0,.slice none 0 0]) (t := 28) ?hr ?_; (case hd => rfl); (case hg => rfl); (case hr => first | (go_simp; done) | (go_simp; rfl)); intro g7 hgo w3 hbox hbb; have HBO := Aside0.mk hbox; have HBB := Aside0.mk hbb; have HGO := Aside0.mk hgo; have y0 : w3.cell? ⟨g7,0,none⟩ = some (.int .i64 0) := (blk_cell hbox 0).trans rfl; have y1 : w3.cell? ⟨g7,1,none⟩ = some (.int .i64 0) := (blk_cell hbox 1).trans rfl; have y2 : w3.cell? ⟨g7,2,none⟩ = some (.slice none 0 0) := (blk_cell hbox 2).trans rfl; have y3 : w3.cell? ⟨g7,3,none⟩ = some (.slice none 0 0) := (blk_cell hbox 3).trans rfl; have y4 : w3.cell? ⟨g7,4,none⟩ = some (.slice none 0 0) := (blk_cell hbox 4).trans rfl; have yf0 := blk_frozen hbox 0; have yf1 := blk_frozen hbox 1; have yf2 := blk_frozen hbox 2; have yf3 := blk_frozen hbox 3; have yf4 := blk_frozen hbox 4; clear hbox hbb hgo)
  clear y0 y1 y2 y3 y4 yf0 yf1 yf2 yf3 yf4
  have N37 : Aside0 (g3 ≠ g7) := ⟨by rw [HGO.out]; exact Nat.ne_of_lt (blk_lt HX3.out)⟩
  have N73 : Aside0 (g7 ≠ g3) := ⟨Ne.symm N37.out⟩
  have HG7 : Aside0 (w.heap.size ≤ g7) := ⟨by rw [HGO.out]; exact below_size HB.out⟩
  replace HX3 := Aside0.mk (blk_below HX3.out HBB.out)
  replace HTa := Aside0.mk (TR_below HTa.out HBB.out)
  replace HB := Aside0.mk (below_step HB.out HBB.out)
  have HX7 := Aside0.mk HBO.out
  clear HBO HBB HGO
  obtain ⟨W4,hW⟩ : ∃ W_,W_ = (((((w3.setCell ⟨g7,0,none⟩ (.int .i64 g)).setCell ⟨g7,1,none⟩ (.int .i64 s)).setCell ⟨g7,2,none⟩ (.slice A1 1 c1)).setCell ⟨g7,3,none⟩ (.slice A2 1 c2)).setCell ⟨g7,4,none⟩ (.slice A3 1 c3)) := ⟨_,rfl⟩
  rw [← hW]
  replace HX3 := Aside0.mk (far5 hW HX3.out N37.out)
  replace HTa := Aside0.mk (tr5 hW HX7.out (by decide) (by decide) HTa.out)
  replace HX7 := Aside0.mk (set5 hW HX7.out)
  replace HB := Aside0.mk (below5 hW HB.out HG7.out)
  clear hW
  have s_0 : W4.cell? ⟨g3,0,none⟩ = some (.int .i64 g) := cL HX3 0 rfl
  have s_1 : W4.cell? ⟨g3,1,none⟩ = some (.int .i64 s) := cL HX3 1 rfl
  go_wp2_with fail
  clear s_0 s_1
  refine (rnew_yes g s first _ ((rmay_is _ _).trans (congrArg some HM.out))).mono ?_
  rintro e_ w5 ⟨B1,d1,B2,d2,B3,d3,rfl,hr,hb⟩
  have HTb := Aside0.mk (TR_lower hr (below_size HB.out))
  replace HX3 := mB HX3 hb
  replace HX7 := mB HX7 hb
  replace HTa := Aside0.mk (TR_below HTa.out hb)
  replace HB := mS HB hb
  clear hr hb
  go_upto_region 3 with ((with_reducible refine gate_dst (N := 9) rfl ?_); refine box_event ?hg (N := 9) ?hd (cs := #[.int .i64 0,.int .i64 0,.slice none 0 0,.slice none 0 0,.slice none 0 0]) (t := 32) ?hr ?_; (case hd => rfl); (case hg => rfl); (case hr => first | (go_simp; done) | (go_simp; rfl)); intro g9 hgo w6 hbox hbb; have HBO := Aside0.mk hbox; have HBB := Aside0.mk hbb; have HGO := Aside0.mk hgo; have y0 : w6.cell? ⟨g9,0,none⟩ = some (.int .i64 0) := (blk_cell hbox 0).trans rfl; have y1 : w6.cell? ⟨g9,1,none⟩ = some (.int .i64 0) := (blk_cell hbox 1).trans rfl; have y2 : w6.cell? ⟨g9,2,none⟩ = some (.slice none 0 0) := (blk_cell hbox 2).trans rfl; have y3 : w6.cell? ⟨g9,3,none⟩ = some (.slice none 0 0) := (blk_cell hbox 3).trans rfl; have y4 : w6.cell? ⟨g9,4,none⟩ = some (.slice none 0 0) := (blk_cell hbox 4).trans rfl; have yf0 := blk_frozen hbox 0; have yf1 := blk_frozen hbox 1; have yf2 := blk_frozen hbox 2; have yf3 := blk_frozen hbox 3; have yf4 := blk_frozen hbox 4; clear hbox hbb hgo)
  clear y0 y1 y2 y3 y4 yf0 yf1 yf2 yf3 yf4
  have N39 : Aside0 (g3 ≠ g9) := ⟨by rw [HGO.out]; exact Nat.ne_of_lt (blk_lt HX3.out)⟩
  have N93 : Aside0 (g9 ≠ g3) := ⟨Ne.symm N39.out⟩
  have N79 : Aside0 (g7 ≠ g9) := ⟨by rw [HGO.out]; exact Nat.ne_of_lt (blk_lt HX7.out)⟩
  have N97 : Aside0 (g9 ≠ g7) := ⟨Ne.symm N79.out⟩
  have HG9 : Aside0 (w.heap.size ≤ g9) := ⟨by rw [HGO.out]; exact below_size HB.out⟩
  replace HX3 := Aside0.mk (blk_below HX3.out HBB.out)
  replace HX7 := Aside0.mk (blk_below HX7.out HBB.out)
  replace HTa := Aside0.mk (TR_below HTa.out HBB.out)
  replace HTb := Aside0.mk (TR_below HTb.out HBB.out)
  replace HB := Aside0.mk (below_step HB.out HBB.out)
  have HX9 := Aside0.mk HBO.out
  clear HBO HBB HGO
  obtain ⟨W7,hW⟩ : ∃ W_,W_ = (((((w6.setCell ⟨g9,0,none⟩ (.int .i64 g)).setCell ⟨g9,1,none⟩ (.int .i64 s)).setCell ⟨g9,2,none⟩ (.slice B1 1 d1)).setCell ⟨g9,3,none⟩ (.slice B2 1 d2)).setCell ⟨g9,4,none⟩ (.slice B3 1 d3)) := ⟨_,rfl⟩
  rw [← hW]
  replace HX3 := Aside0.mk (far5 hW HX3.out N39.out)
  replace HX7 := Aside0.mk (far5 hW HX7.out N79.out)
  replace HTa := Aside0.mk (tr5 hW HX9.out (by decide) (by decide) HTa.out)
  replace HTb := Aside0.mk (tr5 hW HX9.out (by decide) (by decide) HTb.out)
  replace HX9 := Aside0.mk (set5 hW HX9.out)
  replace HB := Aside0.mk (below5 hW HB.out HG9.out)
  clear hW
  obtain ⟨o,ho⟩ : ∃ o : List Int,o = [0] := ⟨_,rfl⟩
  obtain ⟨l,hl⟩ : ∃ l : List Int,l = [0] := ⟨_,rfl⟩
  obtain ⟨f,hf⟩ : ∃ f : List Int,f = [first] := ⟨_,rfl⟩
  have HRT : Aside0 (RT g s o l f) := ⟨by rw [ho,hl,hf]; exact rt_first HM.out first⟩
  have h7 : W7.heap[g7]? = some (.cells #[.int .i64 g,.int .i64 s,.slice A1 o.length c1,.slice A2 l.length c2,.slice A3 f.length c3] 28 (0,0)) := by rw [ho,hl,hf]; exact HX7.out
  have h9 : W7.heap[g9]? = some (.cells #[.int .i64 g,.int .i64 s,.slice B1 o.length d1,.slice B2 l.length d2,.slice B3 f.length d3] 32 (0,0)) := by rw [ho,hl,hf]; exact HX9.out
  have ha := HTa.out
  have hb := HTb.out
  have ha2 : TR W7 w.heap.size A1 c1 o A2 c2 l A3 c3 f := by rw [ho,hl,hf]; exact ha
  have hb2 : TR W7 w.heap.size B1 d1 o B2 d2 l B3 d3 f := by rw [ho,hl,hf]; exact hb
  clear HX7 HX9 HTa HTb ha hb HM
  have HX7 := Aside0.mk h7
  have HX9 := Aside0.mk h9
  have HTa := Aside0.mk ha2
  have HTb := Aside0.mk hb2
  have e1 : o.length = 1 := by rw [ho]; rfl
  have e2 : l.length = 1 := by rw [hl]; rfl
  have e3 : f.length = 1 := by rw [hf]; rfl
  clear ho hl hf h7 h9 ha2 hb2
  clear e1 e2 e3
  have HLN : Aside0 (o.length ≤ 1000 ∧ l.length ≤ 1000 ∧ f.length ≤ 1000) := ⟨by have h1 := HRT.out.len; have h2 := HRT.out.may; have h3 := HRT.out.hl; have h4 := HRT.out.hf; omega⟩
  go_wp2_with fail
  refine start_ (n := 17) (S := fun w' => w'.cell? ⟨g7,0,none⟩ = some (.int .i64 g) ∧ w'.cell? ⟨g7,1,none⟩ = some (.int .i64 s) ∧ w'.cell? ⟨g7,2,none⟩ = some (.slice A1 o.length c1) ∧ w'.cell? ⟨g7,3,none⟩ = some (.slice A2 l.length c2) ∧ w'.cell? ⟨g7,4,none⟩ = some (.slice A3 f.length c3) ∧ w'.cell? ⟨g9,0,none⟩ = some (.int .i64 g) ∧ w'.cell? ⟨g9,1,none⟩ = some (.int .i64 s) ∧ w'.cell? ⟨g9,2,none⟩ = some (.slice B1 o.length d1) ∧ w'.cell? ⟨g9,3,none⟩ = some (.slice B2 l.length d2) ∧ w'.cell? ⟨g9,4,none⟩ = some (.slice B3 f.length d3)) (ds := []) yq0 (by kernel_rfl) rfl rfl ⟨((blk_cell (blk_drew HX7.out) 0).trans rfl),((blk_cell (blk_drew HX7.out) 1).trans rfl),((blk_cell (blk_drew HX7.out) 2).trans rfl),((blk_cell (blk_drew HX7.out) 3).trans rfl),((blk_cell (blk_drew HX7.out) 4).trans rfl),((blk_cell (blk_drew HX9.out) 0).trans rfl),((blk_cell (blk_drew HX9.out) 1).trans rfl),((blk_cell (blk_drew HX9.out) 2).trans rfl),((blk_cell (blk_drew HX9.out) 3).trans rfl),((blk_cell (blk_drew HX9.out) 4).trans rfl)⟩ (fun hHeld => ?_)
  refine with_tabW does8.tab3 does8.bits3 (fun HT_ HW_ => ?_)
  replace HX3 := Aside0.mk (blk_drew HX3.out)
  replace HX7 := Aside0.mk (blk_drew HX7.out)
  replace HX9 := Aside0.mk (blk_drew HX9.out)
  replace HTa := Aside0.mk (TR_below HTa.out (below_drew (Below.refl _ _)))
  replace HTb := Aside0.mk (TR_below HTb.out (below_drew (Below.refl _ _)))
  replace HB := Aside0.mk (below_drew HB.out)
  generalize W7.drew = wd3 at *
  refine pure_ (i := 0) (N := some 33) (v := ?_) (a' := ?_) yq1 rfl rfl (any_of HT_.out (by kernel_rfl)) (fun _ _ _ h => h) (Or.inl ⟨by rfl,?_⟩) ?_ ?_
  rotate_left
  ·intro w'
   go_simp
   with_reducible rfl
  rotate_left
  ·simp only [Act.put,yqI,yqs0,yqs1,i64_w,i32_w]
   rfl
  refine pure_ (i := 1) (N := some 34) (v := ?_) (a' := ?_) yq2 rfl rfl (any_of HT_.out (by kernel_rfl)) (fun _ _ _ h => h) (Or.inl ⟨by rfl,?_⟩) ?_ ?_
  rotate_left
  ·intro w'
   go_simp
   with_reducible rfl
  rotate_left
  ·simp only [Act.put,yqI,yqs0,yqs1,i64_w,i32_w]
   rfl
  refine pure_ (i := 2) (N := some 35) (v := ?_) (a' := ?_) yq3 rfl rfl (any_of HT_.out (by kernel_rfl)) (fun _ _ _ h => h) (Or.inl ⟨by rfl,?_⟩) ?_ ?_
  rotate_left
  ·intro w'
   go_simp
   with_reducible rfl
  rotate_left
  ·simp only [Act.put,yqI,yqs0,yqs1,i64_w,i32_w]
   rfl
  refine pure_ (i := 3) (N := some 36) (v := ?_) (a' := ?_) yq4 rfl rfl (any_of HT_.out (by kernel_rfl)) (fun _ _ _ h => h) (Or.inl ⟨by rfl,?_⟩) ?_ ?_
  rotate_left
  ·intro w'
   go_simp
   with_reducible rfl
  rotate_left
  ·simp only [Act.put,yqI,yqs0,yqs1,i64_w,i32_w]
   rfl
  refine take_ (i := 4) (N := some 37) (v := ?_) (a' := ?_) yq5 rfl rfl (take_ofW HT_.out HW_.out (by kernel_rfl)) (fun _ _ _ h => h) (Or.inl ⟨by rfl,?_⟩) hHeld ?_ ?_
  rotate_left
  ·rintro w' ⟨s0,s1,s2,s3,s4,s5,s6,s7,s8,s9⟩
   go_simp
   with_reducible rfl
  rotate_left
  ·simp only [Act.put,yqI,yqs0,yqs1,i64_w,i32_w]
   rfl
  refine take_ (i := 6) (N := some 39) (v := ?_) (a' := ?_) yq6 rfl rfl (take_ofW HT_.out HW_.out (by kernel_rfl)) (fun _ _ _ h => h) (Or.inl ⟨by rfl,?_⟩) hHeld ?_ ?_
  rotate_left
  ·rintro w' ⟨s0,s1,s2,s3,s4,s5,s6,s7,s8,s9⟩
   go_simp
   with_reducible rfl
  rotate_left
  ·simp only [Act.put,yqI,yqs0,yqs1,i64_w,i32_w]
   rfl
  refine one_ (i := 5) (N := some 38) yq7 rfl rfl (one_of HT_.out (by kernel_rfl)) (by decide) (fun K hK => ?_)
  refine goes_ Try.func12 (by kernel_rfl) rfl #[.agg #[.int .i64 g,.int .i64 s,.slice A1 o.length c1,.slice A2 l.length c2,.slice A3 f.length c3]] (by rfl) rfl rfl (by simp only [List.map_toArray,List.map_cons,List.map_nil]; rfl) ?_
  with_reducible refine (ref_calls g s _ _ o _ _ l _ _ f _).mono ?_
  rintro e_ wa ⟨rfl,hb⟩
  refine ⟨_,rfl,?_⟩
  replace HX3 := mB HX3 hb
  replace HX7 := mB HX7 hb
  replace HX9 := mB HX9 hb
  replace HTa := Aside0.mk (TR_below HTa.out hb)
  replace HTb := Aside0.mk (TR_below HTb.out hb)
  replace HB := mS HB hb
  clear hb
  refine hK.out _ _ ⟨(cL HX7 0 rfl),(cL HX7 1 rfl),(cL HX7 2 rfl),(cL HX7 3 rfl),(cL HX7 4 rfl),(cL HX9 0 rfl),(cL HX9 1 rfl),(cL HX9 2 rfl),(cL HX9 3 rfl),(cL HX9 4 rfl)⟩ (fun hHeld => ?_)
  clear hK K
  refine norm_ (a' := ?_) ?_ ?_
  rotate_left
  ·show Act.put _ (some 38) _ = _
   simp only [Act.put,yqI,yqs0,yqs1,i64_w,i32_w]
   rfl
  refine one_ (i := 7) (N := some 40) yq8 rfl rfl (one_of HT_.out (by kernel_rfl)) (by decide) (fun K hK => ?_)
  refine goes_ Try.func11 (by kernel_rfl) rfl #[.agg #[.int .i64 g,.int .i64 s,.slice A1 o.length c1,.slice A2 l.length c2,.slice A3 f.length c3],.agg #[.int .i64 g,.int .i64 s,.slice B1 o.length d1,.slice B2 l.length d2,.slice B3 f.length d3]] (by rfl) rfl rfl (by simp only [List.map_toArray,List.map_cons,List.map_nil]; rfl) ?_
  with_reducible refine (same_calls g s _ _ o _ _ l _ _ f _ _ _ _ _ _ _ (TR_TC HTa.out) (TR_TC HTb.out) HLN.out).mono ?_
  rintro e_ wb ⟨rfl,hb⟩
  refine ⟨_,rfl,?_⟩
  replace HX3 := mB HX3 hb
  replace HX7 := mB HX7 hb
  replace HX9 := mB HX9 hb
  replace HTa := Aside0.mk (TR_below HTa.out hb)
  replace HTb := Aside0.mk (TR_below HTb.out hb)
  replace HB := mS HB hb
  clear hb
  refine hK.out _ _ ⟨(cL HX7 0 rfl),(cL HX7 1 rfl),(cL HX7 2 rfl),(cL HX7 3 rfl),(cL HX7 4 rfl),(cL HX9 0 rfl),(cL HX9 1 rfl),(cL HX9 2 rfl),(cL HX9 3 rfl),(cL HX9 4 rfl)⟩ (fun hHeld => ?_)
  clear hK K
  refine norm_ (a' := ?_) ?_ ?_
  rotate_left
  ·show Act.put _ (some 40) _ = _
   simp only [Act.put,yqI,yqs0,yqs1,i64_w,i32_w]
   rfl
  refine pure_ (i := 8) (N := some 41) (v := ?_) (a' := ?_) yq9 rfl rfl (any_of HT_.out (by kernel_rfl)) (fun _ _ _ h => h) (Or.inl ⟨by rfl,?_⟩) ?_ ?_
  rotate_left
  ·intro w'
   go_simp
   with_reducible rfl
  rotate_left
  ·simp only [Act.put,yqI,yqs0,yqs1,i64_w,i32_w]
   rfl
  refine pure_ (i := 9) (N := some 42) (v := ?_) (a' := ?_) yq10 rfl rfl (any_of HT_.out (by kernel_rfl)) (fun _ _ _ h => h) (Or.inl ⟨by rfl,?_⟩) ?_ ?_
  rotate_left
  ·intro w'
   go_simp
   with_reducible rfl
  rotate_left
  ·simp only [Act.put,yqI,yqs0,yqs1,i64_w,i32_w]
   rfl
  refine pure_ (i := 10) (N := some 43) (v := ?_) (a' := ?_) yq11 rfl rfl (any_of HT_.out (by kernel_rfl)) (fun _ _ _ h => h) (Or.inl ⟨by rfl,?_⟩) ?_ ?_
  rotate_left
  ·intro w'
   go_simp
   with_reducible rfl
  rotate_left
  ·simp only [Act.put,yqI,yqs0,yqs1,i64_w,i32_w]
   rfl
  refine take_ (i := 11) (N := some 44) (v := ?_) (a' := ?_) yq12 rfl rfl (take_ofW HT_.out HW_.out (by kernel_rfl)) (fun _ _ _ h => h) (Or.inl ⟨by rfl,?_⟩) hHeld ?_ ?_
  rotate_left
  ·rintro w' ⟨s0,s1,s2,s3,s4,s5,s6,s7,s8,s9⟩
   go_simp
   with_reducible rfl
  rotate_left
  ·simp only [Act.put,yqI,yqs0,yqs1,i64_w,i32_w]
   rfl
  refine take_ (i := 13) (N := some 46) (v := ?_) (a' := ?_) yq13 rfl rfl (take_ofW HT_.out HW_.out (by kernel_rfl)) (fun _ _ _ h => h) (Or.inl ⟨by rfl,?_⟩) hHeld ?_ ?_
  rotate_left
  ·rintro w' ⟨s0,s1,s2,s3,s4,s5,s6,s7,s8,s9⟩
   go_simp
   with_reducible rfl
  rotate_left
  ·simp only [Act.put,yqI,yqs0,yqs1,i64_w,i32_w]
   rfl
  refine one_ (i := 12) (N := some 45) yq14 rfl rfl (one_of HT_.out (by kernel_rfl)) (by decide) (fun K hK => ?_)
  refine goes_ Try.func13 (by kernel_rfl) rfl #[.agg #[.int .i64 g,.int .i64 s,.slice A1 o.length c1,.slice A2 l.length c2,.slice A3 f.length c3]] (by rfl) rfl rfl (by simp only [List.map_toArray,List.map_cons,List.map_nil]; rfl) ?_
  with_reducible refine (right_calls g s _ _ o _ _ l _ _ f _ (TR_TC HTa.out) (by have h1 := HRT.out.len; have h2 := HRT.out.may; omega)).mono ?_
  rintro e_ wc ⟨he,hb⟩
  have he2 : e_ = .returned (.bool true) := he.trans (congrArg (fun b_ => Ending.returned (.bool b_)) (rt_iff.2 HRT.out))
  subst he2
  clear he
  refine ⟨_,rfl,?_⟩
  replace HX3 := mB HX3 hb
  replace HX7 := mB HX7 hb
  replace HX9 := mB HX9 hb
  replace HTa := Aside0.mk (TR_below HTa.out hb)
  replace HTb := Aside0.mk (TR_below HTb.out hb)
  replace HB := mS HB hb
  clear hb
  refine hK.out _ _ ⟨(cL HX7 0 rfl),(cL HX7 1 rfl),(cL HX7 2 rfl),(cL HX7 3 rfl),(cL HX7 4 rfl),(cL HX9 0 rfl),(cL HX9 1 rfl),(cL HX9 2 rfl),(cL HX9 3 rfl),(cL HX9 4 rfl)⟩ (fun hHeld => ?_)
  clear hK K
  refine norm_ (a' := ?_) ?_ ?_
  rotate_left
  ·show Act.put _ (some 45) _ = _
   simp only [Act.put,yqI,yqs0,yqs1,i64_w,i32_w]
   rfl
  refine one_ (i := 14) (N := some 47) yq15 rfl rfl (one_of HT_.out (by kernel_rfl)) (by decide) (fun K hK => ?_)
  refine goes_ Try.func14 (by kernel_rfl) rfl #[.agg #[.int .i64 g,.int .i64 s,.slice B1 o.length d1,.slice B2 l.length d2,.slice B3 f.length d3]] (by rfl) rfl rfl (by simp only [List.map_toArray,List.map_cons,List.map_nil]; rfl) ?_
  with_reducible refine (rright_calls g s _ _ o _ _ l _ _ f _ (TR_TC HTb.out) (by have h1 := HRT.out.len; have h2 := HRT.out.may; omega)).mono ?_
  rintro e_ we ⟨he,hb⟩
  have he2 : e_ = .returned (.bool true) := he.trans (congrArg (fun b_ => Ending.returned (.bool b_)) (rt_iff.2 HRT.out))
  subst he2
  clear he
  refine ⟨_,rfl,?_⟩
  replace HX3 := mB HX3 hb
  replace HX7 := mB HX7 hb
  replace HX9 := mB HX9 hb
  replace HTa := Aside0.mk (TR_below HTa.out hb)
  replace HTb := Aside0.mk (TR_below HTb.out hb)
  replace HB := mS HB hb
  clear hb
  refine hK.out _ _ ⟨(cL HX7 0 rfl),(cL HX7 1 rfl),(cL HX7 2 rfl),(cL HX7 3 rfl),(cL HX7 4 rfl),(cL HX9 0 rfl),(cL HX9 1 rfl),(cL HX9 2 rfl),(cL HX9 3 rfl),(cL HX9 4 rfl)⟩ (fun hHeld => ?_)
  clear hK K
  refine norm_ (a' := ?_) ?_ ?_
  rotate_left
  ·show Act.put _ (some 47) _ = _
   simp only [Act.put,yqI,yqs0,yqs1,i64_w,i32_w]
   rfl
  refine pure_ (i := 15) (N := some 48) (v := ?_) (a' := ?_) yq16 rfl rfl (any_of HT_.out (by kernel_rfl)) (fun _ _ _ h => h) (Or.inl ⟨by rfl,?_⟩) ?_ ?_
  rotate_left
  ·intro w'
   go_simp
   with_reducible rfl
  rotate_left
  ·simp only [Act.put,yqI,yqs0,yqs1,i64_w,i32_w]
   rfl
  refine pure_ (i := 16) (N := some 49) (v := ?_) (a' := ?_) yq17 rfl rfl (any_of HT_.out (by kernel_rfl)) (fun _ _ _ h => h) (Or.inl ⟨by rfl,?_⟩) ?_ ?_
  rotate_left
  ·intro w'
   go_simp
   with_reducible rfl
  rotate_left
  ·simp only [Act.put,yqI,yqs0,yqs1,i64_w,i32_w]
   rfl
  refine done_ (done_of HT_.out (by kernel_rfl)) ?_
  clear HT_ HW_ hHeld
  go_wp2_with fail
  clear HLN HX3 N37 N73 N39 N93
  go_loopw [11] (fun v w' => ∃ i : Int,Aside0 (0 ≤ i ∧ i ≤ q.length ∧ i ≤ 80) ∧ v = .int .i64 i ∧ ∃ (A1 : Option Addr) (c1 : Nat) (A2 : Option Addr) (c2 : Nat) (A3 : Option Addr) (c3 : Nat) (B1 : Option Addr) (d1 : Nat) (B2 : Option Addr) (d2 : Nat) (B3 : Option Addr) (d3 : Nat) (o l f : List Int),Aside0 (RT g s o l f) ∧ Aside0 (TR w' w.heap.size A1 c1 o A2 c2 l A3 c3 f) ∧ Aside0 (TR w' w.heap.size B1 d1 o B2 d2 l B3 d3 f) ∧ Aside0 (w'.heap[g7]? = some (.cells #[.int .i64 g,.int .i64 s,.slice A1 o.length c1,.slice A2 l.length c2,.slice A3 f.length c3] 28 (0,0))) ∧ Aside0 (w'.heap[g9]? = some (.cells #[.int .i64 g,.int .i64 s,.slice B1 o.length d1,.slice B2 l.length d2,.slice B3 f.length d3] 32 (0,0))) ∧ Aside0 (Below w.heap.size w w')) (fun v _ => 80 - (intOf v).toNat)
  case atStart => exact ⟨0,⟨by omega⟩,rfl,A1,c1,A2,c2,A3,c3,B1,d1,B2,d2,B3,d3,o,l,f,HRT,HTa,HTb,HX7,HX9,HB⟩
  case round =>
   clear HRT HTa HTb HX7 HX9 HB
   obtain ⟨i,hi,rfl,A1,c1,A2,c2,A3,c3,B1,d1,B2,d2,B3,d3,o,l,f,HRT,HTa,HTb,HX7,HX9,HB⟩ := hrel
   have hi64 : i + 1 ≤ 9223372036854775807 := by have := hi.out; omega
   have hi0 := hi.out.1
   by_cases hil : i < (q.length : Int)
   ·have HIL := Aside0.mk hil
    have t1 := decide_eq_true hil
    by_cases hi8 : i < 80
    ·have HI8 := Aside0.mk hi8
     have t2 := decide_eq_true hi8
     obtain ⟨ad,e1,hp0,hp1,hp2⟩ := at_T42 HCQ.out i hi0 hil
     cases e1
     replace hp0 := Aside0.mk hp0
     replace hp1 := Aside0.mk hp1
     replace hp2 := Aside0.mk hp2
     have hi0t := eq_true hi0
     have hilt := eq_true hil
     clear hi8 hil hi0
     go_upto_region 8 with fail
     clear t1 t2
     go_wp2_with fail
     refine start_ (n := 16) (S := fun w' => w'.cell? ⟨g7,0,none⟩ = some (.int .i64 g) ∧ w'.cell? ⟨g7,1,none⟩ = some (.int .i64 s) ∧ w'.cell? ⟨g7,2,none⟩ = some (.slice A1 o.length c1) ∧ w'.cell? ⟨g7,3,none⟩ = some (.slice A2 l.length c2) ∧ w'.cell? ⟨g7,4,none⟩ = some (.slice A3 f.length c3) ∧ w'.cell? ⟨g9,0,none⟩ = some (.int .i64 g) ∧ w'.cell? ⟨g9,1,none⟩ = some (.int .i64 s) ∧ w'.cell? ⟨g9,2,none⟩ = some (.slice B1 o.length d1) ∧ w'.cell? ⟨g9,3,none⟩ = some (.slice B2 l.length d2) ∧ w'.cell? ⟨g9,4,none⟩ = some (.slice B3 f.length d3) ∧ w'.cell? (ad.add (i.toNat * 3)) = some (.int .i64 (rd_T42 q i).f0) ∧ w'.cell? ⟨(ad.add (i.toNat * 3)).block,(ad.add (i.toNat * 3)).off + 1,none⟩ = some (.int .i64 (rd_T42 q i).f1) ∧ w'.cell? ⟨(ad.add (i.toNat * 3)).block,(ad.add (i.toNat * 3)).off + 2,none⟩ = some (.int .u64 (rd_T42 q i).f2)) (ds := []) yq18 (by kernel_rfl) rfl rfl ⟨((blk_cell (blk_drew HX7.out) 0).trans rfl),((blk_cell (blk_drew HX7.out) 1).trans rfl),((blk_cell (blk_drew HX7.out) 2).trans rfl),((blk_cell (blk_drew HX7.out) 3).trans rfl),((blk_cell (blk_drew HX7.out) 4).trans rfl),((blk_cell (blk_drew HX9.out) 0).trans rfl),((blk_cell (blk_drew HX9.out) 1).trans rfl),((blk_cell (blk_drew HX9.out) 2).trans rfl),((blk_cell (blk_drew HX9.out) 3).trans rfl),((blk_cell (blk_drew HX9.out) 4).trans rfl),(pw_cell_below (below_drew HB.out) hp0.out),(pw_cell_below (below_drew HB.out) hp1.out),(pw_cell_below (below_drew HB.out) hp2.out)⟩ (fun hHeld => ?_)
     refine with_tabW does8.tab8 does8.bits8 (fun HT_ HW_ => ?_)
     replace HX7 := Aside0.mk (blk_drew HX7.out)
     replace HX9 := Aside0.mk (blk_drew HX9.out)
     replace HTa := Aside0.mk (TR_below HTa.out (below_drew (Below.refl _ _)))
     replace HTb := Aside0.mk (TR_below HTb.out (below_drew (Below.refl _ _)))
     replace HB := Aside0.mk (below_drew HB.out)
     generalize wr.drew = wd8 at *
     refine pure_ (i := 2) (N := some 67) (v := ?_) (a' := ?_) yq19 rfl rfl (any_of HT_.out (by kernel_rfl)) (fun _ _ _ h => h) (Or.inl ⟨by rfl,?_⟩) ?_ ?_
     rotate_left
     ·intro w'
      go_simp
      with_reducible rfl
     rotate_left
     ·simp only [Act.put,yqI,yqs0,yqs1,i64_w,i32_w]
      rfl
     refine pure_ (i := 3) (N := some 68) (v := ?_) (a' := ?_) yq20 rfl rfl (any_of HT_.out (by kernel_rfl)) (fun _ _ _ h => h) (Or.inl ⟨by rfl,?_⟩) ?_ ?_
     rotate_left
     ·intro w'
      go_simp
      with_reducible rfl
     rotate_left
     ·simp only [Act.put,yqI,yqs0,yqs1,i64_w,i32_w]
      rfl
     refine pure_ (i := 4) (N := some 69) (v := ?_) (a' := ?_) yq21 rfl rfl (any_of HT_.out (by kernel_rfl)) (fun _ _ _ h => h) (Or.inl ⟨by rfl,?_⟩) ?_ ?_
     rotate_left
     ·intro w'
      go_simp
      with_reducible rfl
     rotate_left
     ·simp only [Act.put,yqI,yqs0,yqs1,i64_w,i32_w]
      rfl
     refine take_ (i := 0) (N := some 65) (v := ?_) (a' := ?_) yq22 rfl rfl (take_ofW HT_.out HW_.out (by kernel_rfl)) (fun _ _ _ h => h) (Or.inl ⟨by rfl,?_⟩) hHeld ?_ ?_
     rotate_left
     ·rintro w' ⟨s0,s1,s2,s3,s4,s5,s6,s7,s8,s9,s10,s11,s12⟩
      go_simp
      with_reducible rfl
     rotate_left
     ·simp only [Act.put,yqI,yqs0,yqs1,i64_w,i32_w]
      rfl
     refine take_ (i := 1) (N := some 66) (v := ?_) (a' := ?_) yq23 rfl rfl (take_ofW HT_.out HW_.out (by kernel_rfl)) (fun _ _ _ h => h) (Or.inl ⟨by rfl,?_⟩) hHeld ?_ ?_
     rotate_left
     ·rintro w' ⟨s0,s1,s2,s3,s4,s5,s6,s7,s8,s9,s10,s11,s12⟩
      go_simp
      with_reducible rfl
     rotate_left
     ·simp only [Act.put,yqI,yqs0,yqs1,i64_w,i32_w]
      rfl
     refine take_ (i := 5) (N := some 70) (v := ?_) (a' := ?_) yq24 rfl rfl (take_ofW HT_.out HW_.out (by kernel_rfl)) (fun _ _ _ h => h) (Or.inl ⟨by rfl,?_⟩) hHeld ?_ ?_
     rotate_left
     ·rintro w' ⟨s0,s1,s2,s3,s4,s5,s6,s7,s8,s9,s10,s11,s12⟩
      go_simp
      with_reducible rfl
     rotate_left
     ·simp only [Act.put,yqI,yqs0,yqs1,i64_w,i32_w]
      rfl
     refine join_ (σ := Nat × Nat × Value × Value × Value) 3 yq25 (fun s_ => [(71,s_.2.2.1),(64,s_.2.2.1),(72,s_.2.2.2.1),(73,s_.2.2.2.2),(74,.bool true),(12,.pointer (some ⟨s_.1,0,none⟩)),(13,.pointer (some ⟨s_.2.1,0,none⟩))]) (fun s_ w' => w'.heap[s_.1]? = some (.cells #[.int .i64 0,.int .i64 0,.slice none 0 0,.slice none 0 0,.slice none 0 0] 28 (0,0)) ∧ w'.heap[s_.2.1]? = some (.cells #[.int .i64 0,.int .i64 0,.slice none 0 0,.slice none 0 0,.slice none 0 0] 32 (0,0)) ∧ w'.heap[g7]? = some (.cells #[.int .i64 g,.int .i64 s,.slice A1 o.length c1,.slice A2 l.length c2,.slice A3 f.length c3] 28 (0,0)) ∧ w'.heap[g9]? = some (.cells #[.int .i64 g,.int .i64 s,.slice B1 o.length d1,.slice B2 l.length d2,.slice B3 f.length d3] 32 (0,0)) ∧ TR w' w.heap.size A1 c1 o A2 c2 l A3 c3 f ∧ TR w' w.heap.size B1 d1 o B2 d2 l B3 d3 f ∧ Below w.heap.size w w' ∧ w.heap.size ≤ s_.1 ∧ w.heap.size ≤ s_.2.1 ∧ g7 ≠ s_.1 ∧ g9 ≠ s_.1 ∧ g7 ≠ s_.2.1 ∧ g9 ≠ s_.2.1 ∧ s_.1 ≠ s_.2.1 ∧ (∃ (o2 l2 f2 : List Int) (C1 : Option Addr) (p1 : Nat) (C2 : Option Addr) (p2 : Nat) (C3 : Option Addr) (p3 : Nat) (D1 : Option Addr) (q1 : Nat) (D2 : Option Addr) (q2 : Nat) (D3 : Option Addr) (q3 : Nat),s_.2.2.1 = .tuple #[.agg #[.int .i64 g,.int .i64 s,.slice C1 o2.length p1,.slice C2 l2.length p2,.slice C3 f2.length p3],.agg #[.int .i64 g,.int .i64 s,.slice D1 o2.length q1,.slice D2 l2.length q2,.slice D3 f2.length q3],.bool true] ∧ s_.2.2.2.1 = .agg #[.int .i64 g,.int .i64 s,.slice C1 o2.length p1,.slice C2 l2.length p2,.slice C3 f2.length p3] ∧ s_.2.2.2.2 = .agg #[.int .i64 g,.int .i64 s,.slice D1 o2.length q1,.slice D2 l2.length q2,.slice D3 f2.length q3] ∧ RT g s o2 l2 f2 ∧ TR w' w.heap.size C1 p1 o2 C2 p2 l2 C3 p3 f2 ∧ TR w' w.heap.size D1 q1 o2 D2 q2 l2 D3 q3 f2)) ?_ ?_
     rotate_left
     ·intro hCont
      refine three_ (i := 6) (j := 11) (k := 12) (Ni := some 71) (Nj := some 12) (Nk := some 13) yq26 yq27 yq28 rfl rfl rfl rfl rfl rfl (three_of HT_.out (by kernel_rfl)) (by decide) (by decide) (by decide) (fun K hK => ?_) (fun K hK => ?_) (fun K hK => ?_)
      ·skip
       refine goes_ Try.func15 (by kernel_rfl) rfl #[.agg #[.int .i64 g,.int .i64 s,.slice A1 o.length c1,.slice A2 l.length c2,.slice A3 f.length c3],.agg #[.int .i64 g,.int .i64 s,.slice B1 o.length d1,.slice B2 l.length d2,.slice B3 f.length d3],.agg #[.int .i64 (rd_T42 q i).f0,.int .i64 (rd_T42 q i).f1,.int .u64 (rd_T42 q i).f2]] (by rfl) rfl rfl (by simp only [List.map_toArray,List.map_cons,List.map_nil]; rfl) ?_
       with_reducible refine (do_own w _ _ _ HB.out HTa.out HTb.out HRT.out).mono ?_
       rintro e_ wf1 ⟨hV,hb⟩
       obtain ⟨o2,l2,f2,C1,p1,C2,p2,C3,p3,D1,q1,D2,q2,D3,q3,rfl,hrt1,hr1,hr2⟩ := hV
       refine ⟨_,rfl,?_⟩
       replace HX7 := mB HX7 hb
       replace HX9 := mB HX9 hb
       replace HTa := Aside0.mk (TR_below HTa.out hb)
       replace HTb := Aside0.mk (TR_below HTb.out hb)
       replace HB := mS HB hb
       have HRT1 := Aside0.mk hrt1
       have HTc := Aside0.mk hr1
       have HTd := Aside0.mk hr2
       clear hb hrt1 hr1 hr2
       refine hK.out _ _ ⟨(cL HX7 0 rfl),(cL HX7 1 rfl),(cL HX7 2 rfl),(cL HX7 3 rfl),(cL HX7 4 rfl),(cL HX9 0 rfl),(cL HX9 1 rfl),(cL HX9 2 rfl),(cL HX9 3 rfl),(cL HX9 4 rfl),(pw_cell_below HB.out hp0.out),(pw_cell_below HB.out hp1.out),(pw_cell_below HB.out hp2.out)⟩ (fun hHeld => ?_)
       clear hK K
       refine norm_ (a' := ?_) ?_ ?_
       rotate_left
       ·show Act.put _ (some 71) _ = _
        simp only [Act.put,yqI,yqs0,yqs1,i64_w,i32_w]
        rfl
       refine pure_ (i := 7) (N := some 64) (v := ?_) (a' := ?_) yq29 rfl rfl (any_of HT_.out (by kernel_rfl)) (fun _ _ _ h => h) (Or.inl ⟨by rfl,?_⟩) ?_ ?_
       rotate_left
       ·intro w'
        go_simp
        with_reducible rfl
       rotate_left
       ·simp only [Act.put,yqI,yqs0,yqs1,i64_w,i32_w]
        rfl
       refine pure_ (i := 8) (N := some 72) (v := ?_) (a' := ?_) yq30 rfl rfl (any_of HT_.out (by kernel_rfl)) (fun _ _ _ h => h) (Or.inl ⟨by rfl,?_⟩) ?_ ?_
       rotate_left
       ·intro w'
        go_simp
        with_reducible rfl
       rotate_left
       ·simp only [Act.put,yqI,yqs0,yqs1,i64_w,i32_w]
        rfl
       refine pure_ (i := 9) (N := some 73) (v := ?_) (a' := ?_) yq31 rfl rfl (any_of HT_.out (by kernel_rfl)) (fun _ _ _ h => h) (Or.inl ⟨by rfl,?_⟩) ?_ ?_
       rotate_left
       ·intro w'
        go_simp
        with_reducible rfl
       rotate_left
       ·simp only [Act.put,yqI,yqs0,yqs1,i64_w,i32_w]
        rfl
       refine pure_ (i := 10) (N := some 74) (v := ?_) (a' := ?_) yq32 rfl rfl (any_of HT_.out (by kernel_rfl)) (fun _ _ _ h => h) (Or.inl ⟨by rfl,?_⟩) ?_ ?_
       rotate_left
       ·intro w'
        go_simp
        with_reducible rfl
       rotate_left
       ·simp only [Act.put,yqI,yqs0,yqs1,i64_w,i32_w]
        rfl
       refine two_ (i := 11) (j := 12) (Ni := some 12) (Nj := some 13) yq33 yq34 rfl rfl rfl rfl (two_of HT_.out (by kernel_rfl)) (by decide) (by decide) (fun K hK => ?_) (fun K hK => ?_)
       ·skip
        refine value_ (w1 := ?_) (v := ?_) (by rfl) rfl ?_ ?_
        rotate_left 2
        ·go_simp
         constructor
         ·rfl
         ·rfl
        obtain ⟨wf2,hW⟩ : ∃ W_,W_ = wf1.alloc (.cells #[.int .i64 0,.int .i64 0,.slice none 0 0,.slice none 0 0,.slice none 0 0] 28) := ⟨_,rfl⟩
        obtain ⟨gc,hg⟩ : ∃ g_,g_ = wf1.heap.size := ⟨_,rfl⟩
        rw [← hW,← hg]
        have hb : Below wf1.heap.size wf1 wf2 := by rw [hW]; exact below_alloc (Below.refl _ _) _
        have hx_ : wf2.heap[gc]? = some (.cells #[.int .i64 0,.int .i64 0,.slice none 0 0,.slice none 0 0,.slice none 0 0] 28 (0,0)) := by rw [hW,hg]; exact blk_new _ _
        have HGc : Aside0 (w.heap.size ≤ gc) := ⟨by rw [hg]; exact below_size HB.out⟩
        have N7c : Aside0 (g7 ≠ gc) := ⟨by rw [hg]; exact Nat.ne_of_lt (blk_lt HX7.out)⟩
        have N9c : Aside0 (g9 ≠ gc) := ⟨by rw [hg]; exact Nat.ne_of_lt (blk_lt HX9.out)⟩
        have Nc7 := Aside0.mk (Ne.symm N7c.out)
        have Nc9 := Aside0.mk (Ne.symm N9c.out)
        replace HX7 := mB HX7 hb
        replace HX9 := mB HX9 hb
        replace HTa := Aside0.mk (TR_below HTa.out hb)
        replace HTb := Aside0.mk (TR_below HTb.out hb)
        replace HTc := Aside0.mk (TR_below HTc.out hb)
        replace HTd := Aside0.mk (TR_below HTd.out hb)
        replace HB := mS HB hb
        have HXc := Aside0.mk hx_
        clear hx_ hb hg hW
        refine hK.out _ _ ⟨(cL HX7 0 rfl),(cL HX7 1 rfl),(cL HX7 2 rfl),(cL HX7 3 rfl),(cL HX7 4 rfl),(cL HX9 0 rfl),(cL HX9 1 rfl),(cL HX9 2 rfl),(cL HX9 3 rfl),(cL HX9 4 rfl),(pw_cell_below HB.out hp0.out),(pw_cell_below HB.out hp1.out),(pw_cell_below HB.out hp2.out)⟩ (fun hHeld => ?_)
        clear hK K
        refine norm_ (a' := ?_) ?_ ?_
        rotate_left
        ·show Act.put _ (some 12) _ = _
         simp only [Act.put,yqI,yqs0,yqs1,i64_w,i32_w]
         rfl
        refine one_ (i := 12) (N := some 13) yq25 rfl rfl (one_of HT_.out (by kernel_rfl)) (by decide) (fun K hK => ?_)
        refine value_ (w1 := ?_) (v := ?_) (by rfl) rfl ?_ ?_
        rotate_left 2
        ·go_simp
         constructor
         ·rfl
         ·rfl
        obtain ⟨wf3,hW⟩ : ∃ W_,W_ = wf2.alloc (.cells #[.int .i64 0,.int .i64 0,.slice none 0 0,.slice none 0 0,.slice none 0 0] 32) := ⟨_,rfl⟩
        obtain ⟨gd,hg⟩ : ∃ g_,g_ = wf2.heap.size := ⟨_,rfl⟩
        rw [← hW,← hg]
        have hb : Below wf2.heap.size wf2 wf3 := by rw [hW]; exact below_alloc (Below.refl _ _) _
        have hx_ : wf3.heap[gd]? = some (.cells #[.int .i64 0,.int .i64 0,.slice none 0 0,.slice none 0 0,.slice none 0 0] 32 (0,0)) := by rw [hW,hg]; exact blk_new _ _
        have HGd : Aside0 (w.heap.size ≤ gd) := ⟨by rw [hg]; exact below_size HB.out⟩
        have N7d : Aside0 (g7 ≠ gd) := ⟨by rw [hg]; exact Nat.ne_of_lt (blk_lt HX7.out)⟩
        have N9d : Aside0 (g9 ≠ gd) := ⟨by rw [hg]; exact Nat.ne_of_lt (blk_lt HX9.out)⟩
        have Ncd : Aside0 (gc ≠ gd) := ⟨by rw [hg]; exact Nat.ne_of_lt (blk_lt HXc.out)⟩
        have Nd7 := Aside0.mk (Ne.symm N7d.out)
        have Nd9 := Aside0.mk (Ne.symm N9d.out)
        have Ndc := Aside0.mk (Ne.symm Ncd.out)
        replace HX7 := mB HX7 hb
        replace HX9 := mB HX9 hb
        replace HXc := mB HXc hb
        replace HTa := Aside0.mk (TR_below HTa.out hb)
        replace HTb := Aside0.mk (TR_below HTb.out hb)
        replace HTc := Aside0.mk (TR_below HTc.out hb)
        replace HTd := Aside0.mk (TR_below HTd.out hb)
        replace HB := mS HB hb
        have HXd := Aside0.mk hx_
        clear hx_ hb hg hW
        refine hK.out _ _ ⟨(cL HX7 0 rfl),(cL HX7 1 rfl),(cL HX7 2 rfl),(cL HX7 3 rfl),(cL HX7 4 rfl),(cL HX9 0 rfl),(cL HX9 1 rfl),(cL HX9 2 rfl),(cL HX9 3 rfl),(cL HX9 4 rfl),(pw_cell_below HB.out hp0.out),(pw_cell_below HB.out hp1.out),(pw_cell_below HB.out hp2.out)⟩ (fun hHeld => ?_)
        clear hK K
        refine norm_ (a' := ?_) ?_ ?_
        rotate_left
        ·show Act.put _ (some 13) _ = _
         simp only [Act.put,yqI,yqs0,yqs1,i64_w,i32_w]
         rfl
        exact norm_ (by first | (simp only [putAll,Act.put,yqI,yqs0,yqs1]; done) | (simp only [putAll,Act.put,yqI,yqs0,yqs1]; rfl)) (hCont (gc,gd,.tuple #[.agg #[.int .i64 g,.int .i64 s,.slice C1 o2.length p1,.slice C2 l2.length p2,.slice C3 f2.length p3],.agg #[.int .i64 g,.int .i64 s,.slice D1 o2.length q1,.slice D2 l2.length q2,.slice D3 f2.length q3],.bool true],.agg #[.int .i64 g,.int .i64 s,.slice C1 o2.length p1,.slice C2 l2.length p2,.slice C3 f2.length p3],.agg #[.int .i64 g,.int .i64 s,.slice D1 o2.length q1,.slice D2 l2.length q2,.slice D3 f2.length q3]) _ ⟨HXc.out,HXd.out,HX7.out,HX9.out,HTa.out,HTb.out,HB.out,HGc.out,HGd.out,N7c.out,N9c.out,N7d.out,N9d.out,Ncd.out,o2,l2,f2,C1,p1,C2,p2,C3,p3,D1,q1,D2,q2,D3,q3,rfl,rfl,rfl,HRT1.out,HTc.out,HTd.out⟩)
       ·skip
        refine value_ (w1 := ?_) (v := ?_) (by rfl) rfl ?_ ?_
        rotate_left 2
        ·go_simp
         constructor
         ·rfl
         ·rfl
        obtain ⟨wf2,hW⟩ : ∃ W_,W_ = wf1.alloc (.cells #[.int .i64 0,.int .i64 0,.slice none 0 0,.slice none 0 0,.slice none 0 0] 32) := ⟨_,rfl⟩
        obtain ⟨gd,hg⟩ : ∃ g_,g_ = wf1.heap.size := ⟨_,rfl⟩
        rw [← hW,← hg]
        have hb : Below wf1.heap.size wf1 wf2 := by rw [hW]; exact below_alloc (Below.refl _ _) _
        have hx_ : wf2.heap[gd]? = some (.cells #[.int .i64 0,.int .i64 0,.slice none 0 0,.slice none 0 0,.slice none 0 0] 32 (0,0)) := by rw [hW,hg]; exact blk_new _ _
        have HGd : Aside0 (w.heap.size ≤ gd) := ⟨by rw [hg]; exact below_size HB.out⟩
        have N7d : Aside0 (g7 ≠ gd) := ⟨by rw [hg]; exact Nat.ne_of_lt (blk_lt HX7.out)⟩
        have N9d : Aside0 (g9 ≠ gd) := ⟨by rw [hg]; exact Nat.ne_of_lt (blk_lt HX9.out)⟩
        have Nd7 := Aside0.mk (Ne.symm N7d.out)
        have Nd9 := Aside0.mk (Ne.symm N9d.out)
        replace HX7 := mB HX7 hb
        replace HX9 := mB HX9 hb
        replace HTa := Aside0.mk (TR_below HTa.out hb)
        replace HTb := Aside0.mk (TR_below HTb.out hb)
        replace HTc := Aside0.mk (TR_below HTc.out hb)
        replace HTd := Aside0.mk (TR_below HTd.out hb)
        replace HB := mS HB hb
        have HXd := Aside0.mk hx_
        clear hx_ hb hg hW
        refine hK.out _ _ ⟨(cL HX7 0 rfl),(cL HX7 1 rfl),(cL HX7 2 rfl),(cL HX7 3 rfl),(cL HX7 4 rfl),(cL HX9 0 rfl),(cL HX9 1 rfl),(cL HX9 2 rfl),(cL HX9 3 rfl),(cL HX9 4 rfl),(pw_cell_below HB.out hp0.out),(pw_cell_below HB.out hp1.out),(pw_cell_below HB.out hp2.out)⟩ (fun hHeld => ?_)
        clear hK K
        refine norm_ (a' := ?_) ?_ ?_
        rotate_left
        ·show Act.put _ (some 13) _ = _
         simp only [Act.put,yqI,yqs0,yqs1,i64_w,i32_w]
         rfl
        refine one_ (i := 11) (N := some 12) yq25 rfl rfl (one_of HT_.out (by kernel_rfl)) (by decide) (fun K hK => ?_)
        refine value_ (w1 := ?_) (v := ?_) (by rfl) rfl ?_ ?_
        rotate_left 2
        ·go_simp
         constructor
         ·rfl
         ·rfl
        obtain ⟨wf3,hW⟩ : ∃ W_,W_ = wf2.alloc (.cells #[.int .i64 0,.int .i64 0,.slice none 0 0,.slice none 0 0,.slice none 0 0] 28) := ⟨_,rfl⟩
        obtain ⟨gc,hg⟩ : ∃ g_,g_ = wf2.heap.size := ⟨_,rfl⟩
        rw [← hW,← hg]
        have hb : Below wf2.heap.size wf2 wf3 := by rw [hW]; exact below_alloc (Below.refl _ _) _
        have hx_ : wf3.heap[gc]? = some (.cells #[.int .i64 0,.int .i64 0,.slice none 0 0,.slice none 0 0,.slice none 0 0] 28 (0,0)) := by rw [hW,hg]; exact blk_new _ _
        have HGc : Aside0 (w.heap.size ≤ gc) := ⟨by rw [hg]; exact below_size HB.out⟩
        have N7c : Aside0 (g7 ≠ gc) := ⟨by rw [hg]; exact Nat.ne_of_lt (blk_lt HX7.out)⟩
        have N9c : Aside0 (g9 ≠ gc) := ⟨by rw [hg]; exact Nat.ne_of_lt (blk_lt HX9.out)⟩
        have Ndc : Aside0 (gd ≠ gc) := ⟨by rw [hg]; exact Nat.ne_of_lt (blk_lt HXd.out)⟩
        have Nc7 := Aside0.mk (Ne.symm N7c.out)
        have Nc9 := Aside0.mk (Ne.symm N9c.out)
        have Ncd := Aside0.mk (Ne.symm Ndc.out)
        replace HX7 := mB HX7 hb
        replace HX9 := mB HX9 hb
        replace HXd := mB HXd hb
        replace HTa := Aside0.mk (TR_below HTa.out hb)
        replace HTb := Aside0.mk (TR_below HTb.out hb)
        replace HTc := Aside0.mk (TR_below HTc.out hb)
        replace HTd := Aside0.mk (TR_below HTd.out hb)
        replace HB := mS HB hb
        have HXc := Aside0.mk hx_
        clear hx_ hb hg hW
        refine hK.out _ _ ⟨(cL HX7 0 rfl),(cL HX7 1 rfl),(cL HX7 2 rfl),(cL HX7 3 rfl),(cL HX7 4 rfl),(cL HX9 0 rfl),(cL HX9 1 rfl),(cL HX9 2 rfl),(cL HX9 3 rfl),(cL HX9 4 rfl),(pw_cell_below HB.out hp0.out),(pw_cell_below HB.out hp1.out),(pw_cell_below HB.out hp2.out)⟩ (fun hHeld => ?_)
        clear hK K
        refine norm_ (a' := ?_) ?_ ?_
        rotate_left
        ·show Act.put _ (some 12) _ = _
         simp only [Act.put,yqI,yqs0,yqs1,i64_w,i32_w]
         rfl
        exact norm_ (by first | (simp only [putAll,Act.put,yqI,yqs0,yqs1]; done) | (simp only [putAll,Act.put,yqI,yqs0,yqs1]; rfl)) (hCont (gc,gd,.tuple #[.agg #[.int .i64 g,.int .i64 s,.slice C1 o2.length p1,.slice C2 l2.length p2,.slice C3 f2.length p3],.agg #[.int .i64 g,.int .i64 s,.slice D1 o2.length q1,.slice D2 l2.length q2,.slice D3 f2.length q3],.bool true],.agg #[.int .i64 g,.int .i64 s,.slice C1 o2.length p1,.slice C2 l2.length p2,.slice C3 f2.length p3],.agg #[.int .i64 g,.int .i64 s,.slice D1 o2.length q1,.slice D2 l2.length q2,.slice D3 f2.length q3]) _ ⟨HXc.out,HXd.out,HX7.out,HX9.out,HTa.out,HTb.out,HB.out,HGc.out,HGd.out,N7c.out,N9c.out,N7d.out,N9d.out,Ncd.out,o2,l2,f2,C1,p1,C2,p2,C3,p3,D1,q1,D2,q2,D3,q3,rfl,rfl,rfl,HRT1.out,HTc.out,HTd.out⟩)
      ·skip
       refine value_ (w1 := ?_) (v := ?_) (by rfl) rfl ?_ ?_
       rotate_left 2
       ·go_simp
        constructor
        ·rfl
        ·rfl
       obtain ⟨wf1,hW⟩ : ∃ W_,W_ = wd8.alloc (.cells #[.int .i64 0,.int .i64 0,.slice none 0 0,.slice none 0 0,.slice none 0 0] 28) := ⟨_,rfl⟩
       obtain ⟨gc,hg⟩ : ∃ g_,g_ = wd8.heap.size := ⟨_,rfl⟩
       rw [← hW,← hg]
       have hb : Below wd8.heap.size wd8 wf1 := by rw [hW]; exact below_alloc (Below.refl _ _) _
       have hx_ : wf1.heap[gc]? = some (.cells #[.int .i64 0,.int .i64 0,.slice none 0 0,.slice none 0 0,.slice none 0 0] 28 (0,0)) := by rw [hW,hg]; exact blk_new _ _
       have HGc : Aside0 (w.heap.size ≤ gc) := ⟨by rw [hg]; exact below_size HB.out⟩
       have N7c : Aside0 (g7 ≠ gc) := ⟨by rw [hg]; exact Nat.ne_of_lt (blk_lt HX7.out)⟩
       have N9c : Aside0 (g9 ≠ gc) := ⟨by rw [hg]; exact Nat.ne_of_lt (blk_lt HX9.out)⟩
       have Nc7 := Aside0.mk (Ne.symm N7c.out)
       have Nc9 := Aside0.mk (Ne.symm N9c.out)
       replace HX7 := mB HX7 hb
       replace HX9 := mB HX9 hb
       replace HTa := Aside0.mk (TR_below HTa.out hb)
       replace HTb := Aside0.mk (TR_below HTb.out hb)
       replace HB := mS HB hb
       have HXc := Aside0.mk hx_
       clear hx_ hb hg hW
       refine hK.out _ _ ⟨(cL HX7 0 rfl),(cL HX7 1 rfl),(cL HX7 2 rfl),(cL HX7 3 rfl),(cL HX7 4 rfl),(cL HX9 0 rfl),(cL HX9 1 rfl),(cL HX9 2 rfl),(cL HX9 3 rfl),(cL HX9 4 rfl),(pw_cell_below HB.out hp0.out),(pw_cell_below HB.out hp1.out),(pw_cell_below HB.out hp2.out)⟩ (fun hHeld => ?_)
       clear hK K
       refine norm_ (a' := ?_) ?_ ?_
       rotate_left
       ·show Act.put _ (some 12) _ = _
        simp only [Act.put,yqI,yqs0,yqs1,i64_w,i32_w]
        rfl
       refine two_ (i := 6) (j := 12) (Ni := some 71) (Nj := some 13) yq35 yq36 rfl rfl rfl rfl (two_of HT_.out (by kernel_rfl)) (by decide) (by decide) (fun K hK => ?_) (fun K hK => ?_)
       ·skip
        refine goes_ Try.func15 (by kernel_rfl) rfl #[.agg #[.int .i64 g,.int .i64 s,.slice A1 o.length c1,.slice A2 l.length c2,.slice A3 f.length c3],.agg #[.int .i64 g,.int .i64 s,.slice B1 o.length d1,.slice B2 l.length d2,.slice B3 f.length d3],.agg #[.int .i64 (rd_T42 q i).f0,.int .i64 (rd_T42 q i).f1,.int .u64 (rd_T42 q i).f2]] (by rfl) rfl rfl (by simp only [List.map_toArray,List.map_cons,List.map_nil]; rfl) ?_
        with_reducible refine (do_own w _ _ _ HB.out HTa.out HTb.out HRT.out).mono ?_
        rintro e_ wf2 ⟨hV,hb⟩
        obtain ⟨o2,l2,f2,C1,p1,C2,p2,C3,p3,D1,q1,D2,q2,D3,q3,rfl,hrt1,hr1,hr2⟩ := hV
        refine ⟨_,rfl,?_⟩
        replace HX7 := mB HX7 hb
        replace HX9 := mB HX9 hb
        replace HXc := mB HXc hb
        replace HTa := Aside0.mk (TR_below HTa.out hb)
        replace HTb := Aside0.mk (TR_below HTb.out hb)
        replace HB := mS HB hb
        have HRT1 := Aside0.mk hrt1
        have HTc := Aside0.mk hr1
        have HTd := Aside0.mk hr2
        clear hb hrt1 hr1 hr2
        refine hK.out _ _ ⟨(cL HX7 0 rfl),(cL HX7 1 rfl),(cL HX7 2 rfl),(cL HX7 3 rfl),(cL HX7 4 rfl),(cL HX9 0 rfl),(cL HX9 1 rfl),(cL HX9 2 rfl),(cL HX9 3 rfl),(cL HX9 4 rfl),(pw_cell_below HB.out hp0.out),(pw_cell_below HB.out hp1.out),(pw_cell_below HB.out hp2.out)⟩ (fun hHeld => ?_)
        clear hK K
        refine norm_ (a' := ?_) ?_ ?_
        rotate_left
        ·show Act.put _ (some 71) _ = _
         simp only [Act.put,yqI,yqs0,yqs1,i64_w,i32_w]
         rfl
        refine pure_ (i := 7) (N := some 64) (v := ?_) (a' := ?_) yq37 rfl rfl (any_of HT_.out (by kernel_rfl)) (fun _ _ _ h => h) (Or.inl ⟨by rfl,?_⟩) ?_ ?_
        rotate_left
        ·intro w'
         go_simp
         with_reducible rfl
        rotate_left
        ·simp only [Act.put,yqI,yqs0,yqs1,i64_w,i32_w]
         rfl
        refine pure_ (i := 8) (N := some 72) (v := ?_) (a' := ?_) yq38 rfl rfl (any_of HT_.out (by kernel_rfl)) (fun _ _ _ h => h) (Or.inl ⟨by rfl,?_⟩) ?_ ?_
        rotate_left
        ·intro w'
         go_simp
         with_reducible rfl
        rotate_left
        ·simp only [Act.put,yqI,yqs0,yqs1,i64_w,i32_w]
         rfl
        refine pure_ (i := 9) (N := some 73) (v := ?_) (a' := ?_) yq39 rfl rfl (any_of HT_.out (by kernel_rfl)) (fun _ _ _ h => h) (Or.inl ⟨by rfl,?_⟩) ?_ ?_
        rotate_left
        ·intro w'
         go_simp
         with_reducible rfl
        rotate_left
        ·simp only [Act.put,yqI,yqs0,yqs1,i64_w,i32_w]
         rfl
        refine pure_ (i := 10) (N := some 74) (v := ?_) (a' := ?_) yq33 rfl rfl (any_of HT_.out (by kernel_rfl)) (fun _ _ _ h => h) (Or.inl ⟨by rfl,?_⟩) ?_ ?_
        rotate_left
        ·intro w'
         go_simp
         with_reducible rfl
        rotate_left
        ·simp only [Act.put,yqI,yqs0,yqs1,i64_w,i32_w]
         rfl
        refine one_ (i := 12) (N := some 13) yq25 rfl rfl (one_of HT_.out (by kernel_rfl)) (by decide) (fun K hK => ?_)
        refine value_ (w1 := ?_) (v := ?_) (by rfl) rfl ?_ ?_
        rotate_left 2
        ·go_simp
         constructor
         ·rfl
         ·rfl
        obtain ⟨wf3,hW⟩ : ∃ W_,W_ = wf2.alloc (.cells #[.int .i64 0,.int .i64 0,.slice none 0 0,.slice none 0 0,.slice none 0 0] 32) := ⟨_,rfl⟩
        obtain ⟨gd,hg⟩ : ∃ g_,g_ = wf2.heap.size := ⟨_,rfl⟩
        rw [← hW,← hg]
        have hb : Below wf2.heap.size wf2 wf3 := by rw [hW]; exact below_alloc (Below.refl _ _) _
        have hx_ : wf3.heap[gd]? = some (.cells #[.int .i64 0,.int .i64 0,.slice none 0 0,.slice none 0 0,.slice none 0 0] 32 (0,0)) := by rw [hW,hg]; exact blk_new _ _
        have HGd : Aside0 (w.heap.size ≤ gd) := ⟨by rw [hg]; exact below_size HB.out⟩
        have N7d : Aside0 (g7 ≠ gd) := ⟨by rw [hg]; exact Nat.ne_of_lt (blk_lt HX7.out)⟩
        have N9d : Aside0 (g9 ≠ gd) := ⟨by rw [hg]; exact Nat.ne_of_lt (blk_lt HX9.out)⟩
        have Ncd : Aside0 (gc ≠ gd) := ⟨by rw [hg]; exact Nat.ne_of_lt (blk_lt HXc.out)⟩
        have Nd7 := Aside0.mk (Ne.symm N7d.out)
        have Nd9 := Aside0.mk (Ne.symm N9d.out)
        have Ndc := Aside0.mk (Ne.symm Ncd.out)
        replace HX7 := mB HX7 hb
        replace HX9 := mB HX9 hb
        replace HXc := mB HXc hb
        replace HTa := Aside0.mk (TR_below HTa.out hb)
        replace HTb := Aside0.mk (TR_below HTb.out hb)
        replace HTc := Aside0.mk (TR_below HTc.out hb)
        replace HTd := Aside0.mk (TR_below HTd.out hb)
        replace HB := mS HB hb
        have HXd := Aside0.mk hx_
        clear hx_ hb hg hW
        refine hK.out _ _ ⟨(cL HX7 0 rfl),(cL HX7 1 rfl),(cL HX7 2 rfl),(cL HX7 3 rfl),(cL HX7 4 rfl),(cL HX9 0 rfl),(cL HX9 1 rfl),(cL HX9 2 rfl),(cL HX9 3 rfl),(cL HX9 4 rfl),(pw_cell_below HB.out hp0.out),(pw_cell_below HB.out hp1.out),(pw_cell_below HB.out hp2.out)⟩ (fun hHeld => ?_)
        clear hK K
        refine norm_ (a' := ?_) ?_ ?_
        rotate_left
        ·show Act.put _ (some 13) _ = _
         simp only [Act.put,yqI,yqs0,yqs1,i64_w,i32_w]
         rfl
        exact norm_ (by first | (simp only [putAll,Act.put,yqI,yqs0,yqs1]; done) | (simp only [putAll,Act.put,yqI,yqs0,yqs1]; rfl)) (hCont (gc,gd,.tuple #[.agg #[.int .i64 g,.int .i64 s,.slice C1 o2.length p1,.slice C2 l2.length p2,.slice C3 f2.length p3],.agg #[.int .i64 g,.int .i64 s,.slice D1 o2.length q1,.slice D2 l2.length q2,.slice D3 f2.length q3],.bool true],.agg #[.int .i64 g,.int .i64 s,.slice C1 o2.length p1,.slice C2 l2.length p2,.slice C3 f2.length p3],.agg #[.int .i64 g,.int .i64 s,.slice D1 o2.length q1,.slice D2 l2.length q2,.slice D3 f2.length q3]) _ ⟨HXc.out,HXd.out,HX7.out,HX9.out,HTa.out,HTb.out,HB.out,HGc.out,HGd.out,N7c.out,N9c.out,N7d.out,N9d.out,Ncd.out,o2,l2,f2,C1,p1,C2,p2,C3,p3,D1,q1,D2,q2,D3,q3,rfl,rfl,rfl,HRT1.out,HTc.out,HTd.out⟩)
       ·skip
        refine value_ (w1 := ?_) (v := ?_) (by rfl) rfl ?_ ?_
        rotate_left 2
        ·go_simp
         constructor
         ·rfl
         ·rfl
        obtain ⟨wf2,hW⟩ : ∃ W_,W_ = wf1.alloc (.cells #[.int .i64 0,.int .i64 0,.slice none 0 0,.slice none 0 0,.slice none 0 0] 32) := ⟨_,rfl⟩
        obtain ⟨gd,hg⟩ : ∃ g_,g_ = wf1.heap.size := ⟨_,rfl⟩
        rw [← hW,← hg]
        have hb : Below wf1.heap.size wf1 wf2 := by rw [hW]; exact below_alloc (Below.refl _ _) _
        have hx_ : wf2.heap[gd]? = some (.cells #[.int .i64 0,.int .i64 0,.slice none 0 0,.slice none 0 0,.slice none 0 0] 32 (0,0)) := by rw [hW,hg]; exact blk_new _ _
        have HGd : Aside0 (w.heap.size ≤ gd) := ⟨by rw [hg]; exact below_size HB.out⟩
        have N7d : Aside0 (g7 ≠ gd) := ⟨by rw [hg]; exact Nat.ne_of_lt (blk_lt HX7.out)⟩
        have N9d : Aside0 (g9 ≠ gd) := ⟨by rw [hg]; exact Nat.ne_of_lt (blk_lt HX9.out)⟩
        have Ncd : Aside0 (gc ≠ gd) := ⟨by rw [hg]; exact Nat.ne_of_lt (blk_lt HXc.out)⟩
        have Nd7 := Aside0.mk (Ne.symm N7d.out)
        have Nd9 := Aside0.mk (Ne.symm N9d.out)
        have Ndc := Aside0.mk (Ne.symm Ncd.out)
        replace HX7 := mB HX7 hb
        replace HX9 := mB HX9 hb
        replace HXc := mB HXc hb
        replace HTa := Aside0.mk (TR_below HTa.out hb)
        replace HTb := Aside0.mk (TR_below HTb.out hb)
        replace HB := mS HB hb
        have HXd := Aside0.mk hx_
        clear hx_ hb hg hW
        refine hK.out _ _ ⟨(cL HX7 0 rfl),(cL HX7 1 rfl),(cL HX7 2 rfl),(cL HX7 3 rfl),(cL HX7 4 rfl),(cL HX9 0 rfl),(cL HX9 1 rfl),(cL HX9 2 rfl),(cL HX9 3 rfl),(cL HX9 4 rfl),(pw_cell_below HB.out hp0.out),(pw_cell_below HB.out hp1.out),(pw_cell_below HB.out hp2.out)⟩ (fun hHeld => ?_)
        clear hK K
        refine norm_ (a' := ?_) ?_ ?_
        rotate_left
        ·show Act.put _ (some 13) _ = _
         simp only [Act.put,yqI,yqs0,yqs1,i64_w,i32_w]
         rfl
        refine one_ (i := 6) (N := some 71) yq40 rfl rfl (one_of HT_.out (by kernel_rfl)) (by decide) (fun K hK => ?_)
        refine goes_ Try.func15 (by kernel_rfl) rfl #[.agg #[.int .i64 g,.int .i64 s,.slice A1 o.length c1,.slice A2 l.length c2,.slice A3 f.length c3],.agg #[.int .i64 g,.int .i64 s,.slice B1 o.length d1,.slice B2 l.length d2,.slice B3 f.length d3],.agg #[.int .i64 (rd_T42 q i).f0,.int .i64 (rd_T42 q i).f1,.int .u64 (rd_T42 q i).f2]] (by rfl) rfl rfl (by simp only [List.map_toArray,List.map_cons,List.map_nil]; rfl) ?_
        with_reducible refine (do_own w _ _ _ HB.out HTa.out HTb.out HRT.out).mono ?_
        rintro e_ wf3 ⟨hV,hb⟩
        obtain ⟨o2,l2,f2,C1,p1,C2,p2,C3,p3,D1,q1,D2,q2,D3,q3,rfl,hrt1,hr1,hr2⟩ := hV
        refine ⟨_,rfl,?_⟩
        replace HX7 := mB HX7 hb
        replace HX9 := mB HX9 hb
        replace HXc := mB HXc hb
        replace HXd := mB HXd hb
        replace HTa := Aside0.mk (TR_below HTa.out hb)
        replace HTb := Aside0.mk (TR_below HTb.out hb)
        replace HB := mS HB hb
        have HRT1 := Aside0.mk hrt1
        have HTc := Aside0.mk hr1
        have HTd := Aside0.mk hr2
        clear hb hrt1 hr1 hr2
        refine hK.out _ _ ⟨(cL HX7 0 rfl),(cL HX7 1 rfl),(cL HX7 2 rfl),(cL HX7 3 rfl),(cL HX7 4 rfl),(cL HX9 0 rfl),(cL HX9 1 rfl),(cL HX9 2 rfl),(cL HX9 3 rfl),(cL HX9 4 rfl),(pw_cell_below HB.out hp0.out),(pw_cell_below HB.out hp1.out),(pw_cell_below HB.out hp2.out)⟩ (fun hHeld => ?_)
        clear hK K
        refine norm_ (a' := ?_) ?_ ?_
        rotate_left
        ·show Act.put _ (some 71) _ = _
         simp only [Act.put,yqI,yqs0,yqs1,i64_w,i32_w]
         rfl
        refine pure_ (i := 7) (N := some 64) (v := ?_) (a' := ?_) yq41 rfl rfl (any_of HT_.out (by kernel_rfl)) (fun _ _ _ h => h) (Or.inl ⟨by rfl,?_⟩) ?_ ?_
        rotate_left
        ·intro w'
         go_simp
         with_reducible rfl
        rotate_left
        ·simp only [Act.put,yqI,yqs0,yqs1,i64_w,i32_w]
         rfl
        refine pure_ (i := 8) (N := some 72) (v := ?_) (a' := ?_) yq42 rfl rfl (any_of HT_.out (by kernel_rfl)) (fun _ _ _ h => h) (Or.inl ⟨by rfl,?_⟩) ?_ ?_
        rotate_left
        ·intro w'
         go_simp
         with_reducible rfl
        rotate_left
        ·simp only [Act.put,yqI,yqs0,yqs1,i64_w,i32_w]
         rfl
        refine pure_ (i := 9) (N := some 73) (v := ?_) (a' := ?_) yq43 rfl rfl (any_of HT_.out (by kernel_rfl)) (fun _ _ _ h => h) (Or.inl ⟨by rfl,?_⟩) ?_ ?_
        rotate_left
        ·intro w'
         go_simp
         with_reducible rfl
        rotate_left
        ·simp only [Act.put,yqI,yqs0,yqs1,i64_w,i32_w]
         rfl
        refine pure_ (i := 10) (N := some 74) (v := ?_) (a' := ?_) yq25 rfl rfl (any_of HT_.out (by kernel_rfl)) (fun _ _ _ h => h) (Or.inl ⟨by rfl,?_⟩) ?_ ?_
        rotate_left
        ·intro w'
         go_simp
         with_reducible rfl
        rotate_left
        ·simp only [Act.put,yqI,yqs0,yqs1,i64_w,i32_w]
         rfl
        exact norm_ (by first | (simp only [putAll,Act.put,yqI,yqs0,yqs1]; done) | (simp only [putAll,Act.put,yqI,yqs0,yqs1]; rfl)) (hCont (gc,gd,.tuple #[.agg #[.int .i64 g,.int .i64 s,.slice C1 o2.length p1,.slice C2 l2.length p2,.slice C3 f2.length p3],.agg #[.int .i64 g,.int .i64 s,.slice D1 o2.length q1,.slice D2 l2.length q2,.slice D3 f2.length q3],.bool true],.agg #[.int .i64 g,.int .i64 s,.slice C1 o2.length p1,.slice C2 l2.length p2,.slice C3 f2.length p3],.agg #[.int .i64 g,.int .i64 s,.slice D1 o2.length q1,.slice D2 l2.length q2,.slice D3 f2.length q3]) _ ⟨HXc.out,HXd.out,HX7.out,HX9.out,HTa.out,HTb.out,HB.out,HGc.out,HGd.out,N7c.out,N9c.out,N7d.out,N9d.out,Ncd.out,o2,l2,f2,C1,p1,C2,p2,C3,p3,D1,q1,D2,q2,D3,q3,rfl,rfl,rfl,HRT1.out,HTc.out,HTd.out⟩)
      ·skip
       refine value_ (w1 := ?_) (v := ?_) (by rfl) rfl ?_ ?_
       rotate_left 2
       ·go_simp
        constructor
        ·rfl
        ·rfl
       obtain ⟨wf1,hW⟩ : ∃ W_,W_ = wd8.alloc (.cells #[.int .i64 0,.int .i64 0,.slice none 0 0,.slice none 0 0,.slice none 0 0] 32) := ⟨_,rfl⟩
       obtain ⟨gd,hg⟩ : ∃ g_,g_ = wd8.heap.size := ⟨_,rfl⟩
       rw [← hW,← hg]
       have hb : Below wd8.heap.size wd8 wf1 := by rw [hW]; exact below_alloc (Below.refl _ _) _
       have hx_ : wf1.heap[gd]? = some (.cells #[.int .i64 0,.int .i64 0,.slice none 0 0,.slice none 0 0,.slice none 0 0] 32 (0,0)) := by rw [hW,hg]; exact blk_new _ _
       have HGd : Aside0 (w.heap.size ≤ gd) := ⟨by rw [hg]; exact below_size HB.out⟩
       have N7d : Aside0 (g7 ≠ gd) := ⟨by rw [hg]; exact Nat.ne_of_lt (blk_lt HX7.out)⟩
       have N9d : Aside0 (g9 ≠ gd) := ⟨by rw [hg]; exact Nat.ne_of_lt (blk_lt HX9.out)⟩
       have Nd7 := Aside0.mk (Ne.symm N7d.out)
       have Nd9 := Aside0.mk (Ne.symm N9d.out)
       replace HX7 := mB HX7 hb
       replace HX9 := mB HX9 hb
       replace HTa := Aside0.mk (TR_below HTa.out hb)
       replace HTb := Aside0.mk (TR_below HTb.out hb)
       replace HB := mS HB hb
       have HXd := Aside0.mk hx_
       clear hx_ hb hg hW
       refine hK.out _ _ ⟨(cL HX7 0 rfl),(cL HX7 1 rfl),(cL HX7 2 rfl),(cL HX7 3 rfl),(cL HX7 4 rfl),(cL HX9 0 rfl),(cL HX9 1 rfl),(cL HX9 2 rfl),(cL HX9 3 rfl),(cL HX9 4 rfl),(pw_cell_below HB.out hp0.out),(pw_cell_below HB.out hp1.out),(pw_cell_below HB.out hp2.out)⟩ (fun hHeld => ?_)
       clear hK K
       refine norm_ (a' := ?_) ?_ ?_
       rotate_left
       ·show Act.put _ (some 13) _ = _
        simp only [Act.put,yqI,yqs0,yqs1,i64_w,i32_w]
        rfl
       refine two_ (i := 6) (j := 11) (Ni := some 71) (Nj := some 12) yq44 yq36 rfl rfl rfl rfl (two_of HT_.out (by kernel_rfl)) (by decide) (by decide) (fun K hK => ?_) (fun K hK => ?_)
       ·skip
        refine goes_ Try.func15 (by kernel_rfl) rfl #[.agg #[.int .i64 g,.int .i64 s,.slice A1 o.length c1,.slice A2 l.length c2,.slice A3 f.length c3],.agg #[.int .i64 g,.int .i64 s,.slice B1 o.length d1,.slice B2 l.length d2,.slice B3 f.length d3],.agg #[.int .i64 (rd_T42 q i).f0,.int .i64 (rd_T42 q i).f1,.int .u64 (rd_T42 q i).f2]] (by rfl) rfl rfl (by simp only [List.map_toArray,List.map_cons,List.map_nil]; rfl) ?_
        with_reducible refine (do_own w _ _ _ HB.out HTa.out HTb.out HRT.out).mono ?_
        rintro e_ wf2 ⟨hV,hb⟩
        obtain ⟨o2,l2,f2,C1,p1,C2,p2,C3,p3,D1,q1,D2,q2,D3,q3,rfl,hrt1,hr1,hr2⟩ := hV
        refine ⟨_,rfl,?_⟩
        replace HX7 := mB HX7 hb
        replace HX9 := mB HX9 hb
        replace HXd := mB HXd hb
        replace HTa := Aside0.mk (TR_below HTa.out hb)
        replace HTb := Aside0.mk (TR_below HTb.out hb)
        replace HB := mS HB hb
        have HRT1 := Aside0.mk hrt1
        have HTc := Aside0.mk hr1
        have HTd := Aside0.mk hr2
        clear hb hrt1 hr1 hr2
        refine hK.out _ _ ⟨(cL HX7 0 rfl),(cL HX7 1 rfl),(cL HX7 2 rfl),(cL HX7 3 rfl),(cL HX7 4 rfl),(cL HX9 0 rfl),(cL HX9 1 rfl),(cL HX9 2 rfl),(cL HX9 3 rfl),(cL HX9 4 rfl),(pw_cell_below HB.out hp0.out),(pw_cell_below HB.out hp1.out),(pw_cell_below HB.out hp2.out)⟩ (fun hHeld => ?_)
        clear hK K
        refine norm_ (a' := ?_) ?_ ?_
        rotate_left
        ·show Act.put _ (some 71) _ = _
         simp only [Act.put,yqI,yqs0,yqs1,i64_w,i32_w]
         rfl
        refine pure_ (i := 7) (N := some 64) (v := ?_) (a' := ?_) yq45 rfl rfl (any_of HT_.out (by kernel_rfl)) (fun _ _ _ h => h) (Or.inl ⟨by rfl,?_⟩) ?_ ?_
        rotate_left
        ·intro w'
         go_simp
         with_reducible rfl
        rotate_left
        ·simp only [Act.put,yqI,yqs0,yqs1,i64_w,i32_w]
         rfl
        refine pure_ (i := 8) (N := some 72) (v := ?_) (a' := ?_) yq46 rfl rfl (any_of HT_.out (by kernel_rfl)) (fun _ _ _ h => h) (Or.inl ⟨by rfl,?_⟩) ?_ ?_
        rotate_left
        ·intro w'
         go_simp
         with_reducible rfl
        rotate_left
        ·simp only [Act.put,yqI,yqs0,yqs1,i64_w,i32_w]
         rfl
        refine pure_ (i := 9) (N := some 73) (v := ?_) (a' := ?_) yq47 rfl rfl (any_of HT_.out (by kernel_rfl)) (fun _ _ _ h => h) (Or.inl ⟨by rfl,?_⟩) ?_ ?_
        rotate_left
        ·intro w'
         go_simp
         with_reducible rfl
        rotate_left
        ·simp only [Act.put,yqI,yqs0,yqs1,i64_w,i32_w]
         rfl
        refine pure_ (i := 10) (N := some 74) (v := ?_) (a' := ?_) yq34 rfl rfl (any_of HT_.out (by kernel_rfl)) (fun _ _ _ h => h) (Or.inl ⟨by rfl,?_⟩) ?_ ?_
        rotate_left
        ·intro w'
         go_simp
         with_reducible rfl
        rotate_left
        ·simp only [Act.put,yqI,yqs0,yqs1,i64_w,i32_w]
         rfl
        refine one_ (i := 11) (N := some 12) yq25 rfl rfl (one_of HT_.out (by kernel_rfl)) (by decide) (fun K hK => ?_)
        refine value_ (w1 := ?_) (v := ?_) (by rfl) rfl ?_ ?_
        rotate_left 2
        ·go_simp
         constructor
         ·rfl
         ·rfl
        obtain ⟨wf3,hW⟩ : ∃ W_,W_ = wf2.alloc (.cells #[.int .i64 0,.int .i64 0,.slice none 0 0,.slice none 0 0,.slice none 0 0] 28) := ⟨_,rfl⟩
        obtain ⟨gc,hg⟩ : ∃ g_,g_ = wf2.heap.size := ⟨_,rfl⟩
        rw [← hW,← hg]
        have hb : Below wf2.heap.size wf2 wf3 := by rw [hW]; exact below_alloc (Below.refl _ _) _
        have hx_ : wf3.heap[gc]? = some (.cells #[.int .i64 0,.int .i64 0,.slice none 0 0,.slice none 0 0,.slice none 0 0] 28 (0,0)) := by rw [hW,hg]; exact blk_new _ _
        have HGc : Aside0 (w.heap.size ≤ gc) := ⟨by rw [hg]; exact below_size HB.out⟩
        have N7c : Aside0 (g7 ≠ gc) := ⟨by rw [hg]; exact Nat.ne_of_lt (blk_lt HX7.out)⟩
        have N9c : Aside0 (g9 ≠ gc) := ⟨by rw [hg]; exact Nat.ne_of_lt (blk_lt HX9.out)⟩
        have Ndc : Aside0 (gd ≠ gc) := ⟨by rw [hg]; exact Nat.ne_of_lt (blk_lt HXd.out)⟩
        have Nc7 := Aside0.mk (Ne.symm N7c.out)
        have Nc9 := Aside0.mk (Ne.symm N9c.out)
        have Ncd := Aside0.mk (Ne.symm Ndc.out)
        replace HX7 := mB HX7 hb
        replace HX9 := mB HX9 hb
        replace HXd := mB HXd hb
        replace HTa := Aside0.mk (TR_below HTa.out hb)
        replace HTb := Aside0.mk (TR_below HTb.out hb)
        replace HTc := Aside0.mk (TR_below HTc.out hb)
        replace HTd := Aside0.mk (TR_below HTd.out hb)
        replace HB := mS HB hb
        have HXc := Aside0.mk hx_
        clear hx_ hb hg hW
        refine hK.out _ _ ⟨(cL HX7 0 rfl),(cL HX7 1 rfl),(cL HX7 2 rfl),(cL HX7 3 rfl),(cL HX7 4 rfl),(cL HX9 0 rfl),(cL HX9 1 rfl),(cL HX9 2 rfl),(cL HX9 3 rfl),(cL HX9 4 rfl),(pw_cell_below HB.out hp0.out),(pw_cell_below HB.out hp1.out),(pw_cell_below HB.out hp2.out)⟩ (fun hHeld => ?_)
        clear hK K
        refine norm_ (a' := ?_) ?_ ?_
        rotate_left
        ·show Act.put _ (some 12) _ = _
         simp only [Act.put,yqI,yqs0,yqs1,i64_w,i32_w]
         rfl
        exact norm_ (by first | (simp only [putAll,Act.put,yqI,yqs0,yqs1]; done) | (simp only [putAll,Act.put,yqI,yqs0,yqs1]; rfl)) (hCont (gc,gd,.tuple #[.agg #[.int .i64 g,.int .i64 s,.slice C1 o2.length p1,.slice C2 l2.length p2,.slice C3 f2.length p3],.agg #[.int .i64 g,.int .i64 s,.slice D1 o2.length q1,.slice D2 l2.length q2,.slice D3 f2.length q3],.bool true],.agg #[.int .i64 g,.int .i64 s,.slice C1 o2.length p1,.slice C2 l2.length p2,.slice C3 f2.length p3],.agg #[.int .i64 g,.int .i64 s,.slice D1 o2.length q1,.slice D2 l2.length q2,.slice D3 f2.length q3]) _ ⟨HXc.out,HXd.out,HX7.out,HX9.out,HTa.out,HTb.out,HB.out,HGc.out,HGd.out,N7c.out,N9c.out,N7d.out,N9d.out,Ncd.out,o2,l2,f2,C1,p1,C2,p2,C3,p3,D1,q1,D2,q2,D3,q3,rfl,rfl,rfl,HRT1.out,HTc.out,HTd.out⟩)
       ·skip
        refine value_ (w1 := ?_) (v := ?_) (by rfl) rfl ?_ ?_
        rotate_left 2
        ·go_simp
         constructor
         ·rfl
         ·rfl
        obtain ⟨wf2,hW⟩ : ∃ W_,W_ = wf1.alloc (.cells #[.int .i64 0,.int .i64 0,.slice none 0 0,.slice none 0 0,.slice none 0 0] 28) := ⟨_,rfl⟩
        obtain ⟨gc,hg⟩ : ∃ g_,g_ = wf1.heap.size := ⟨_,rfl⟩
        rw [← hW,← hg]
        have hb : Below wf1.heap.size wf1 wf2 := by rw [hW]; exact below_alloc (Below.refl _ _) _
        have hx_ : wf2.heap[gc]? = some (.cells #[.int .i64 0,.int .i64 0,.slice none 0 0,.slice none 0 0,.slice none 0 0] 28 (0,0)) := by rw [hW,hg]; exact blk_new _ _
        have HGc : Aside0 (w.heap.size ≤ gc) := ⟨by rw [hg]; exact below_size HB.out⟩
        have N7c : Aside0 (g7 ≠ gc) := ⟨by rw [hg]; exact Nat.ne_of_lt (blk_lt HX7.out)⟩
        have N9c : Aside0 (g9 ≠ gc) := ⟨by rw [hg]; exact Nat.ne_of_lt (blk_lt HX9.out)⟩
        have Ndc : Aside0 (gd ≠ gc) := ⟨by rw [hg]; exact Nat.ne_of_lt (blk_lt HXd.out)⟩
        have Nc7 := Aside0.mk (Ne.symm N7c.out)
        have Nc9 := Aside0.mk (Ne.symm N9c.out)
        have Ncd := Aside0.mk (Ne.symm Ndc.out)
        replace HX7 := mB HX7 hb
        replace HX9 := mB HX9 hb
        replace HXd := mB HXd hb
        replace HTa := Aside0.mk (TR_below HTa.out hb)
        replace HTb := Aside0.mk (TR_below HTb.out hb)
        replace HB := mS HB hb
        have HXc := Aside0.mk hx_
        clear hx_ hb hg hW
        refine hK.out _ _ ⟨(cL HX7 0 rfl),(cL HX7 1 rfl),(cL HX7 2 rfl),(cL HX7 3 rfl),(cL HX7 4 rfl),(cL HX9 0 rfl),(cL HX9 1 rfl),(cL HX9 2 rfl),(cL HX9 3 rfl),(cL HX9 4 rfl),(pw_cell_below HB.out hp0.out),(pw_cell_below HB.out hp1.out),(pw_cell_below HB.out hp2.out)⟩ (fun hHeld => ?_)
        clear hK K
        refine norm_ (a' := ?_) ?_ ?_
        rotate_left
        ·show Act.put _ (some 12) _ = _
         simp only [Act.put,yqI,yqs0,yqs1,i64_w,i32_w]
         rfl
        refine one_ (i := 6) (N := some 71) yq40 rfl rfl (one_of HT_.out (by kernel_rfl)) (by decide) (fun K hK => ?_)
        refine goes_ Try.func15 (by kernel_rfl) rfl #[.agg #[.int .i64 g,.int .i64 s,.slice A1 o.length c1,.slice A2 l.length c2,.slice A3 f.length c3],.agg #[.int .i64 g,.int .i64 s,.slice B1 o.length d1,.slice B2 l.length d2,.slice B3 f.length d3],.agg #[.int .i64 (rd_T42 q i).f0,.int .i64 (rd_T42 q i).f1,.int .u64 (rd_T42 q i).f2]] (by rfl) rfl rfl (by simp only [List.map_toArray,List.map_cons,List.map_nil]; rfl) ?_
        with_reducible refine (do_own w _ _ _ HB.out HTa.out HTb.out HRT.out).mono ?_
        rintro e_ wf3 ⟨hV,hb⟩
        obtain ⟨o2,l2,f2,C1,p1,C2,p2,C3,p3,D1,q1,D2,q2,D3,q3,rfl,hrt1,hr1,hr2⟩ := hV
        refine ⟨_,rfl,?_⟩
        replace HX7 := mB HX7 hb
        replace HX9 := mB HX9 hb
        replace HXc := mB HXc hb
        replace HXd := mB HXd hb
        replace HTa := Aside0.mk (TR_below HTa.out hb)
        replace HTb := Aside0.mk (TR_below HTb.out hb)
        replace HB := mS HB hb
        have HRT1 := Aside0.mk hrt1
        have HTc := Aside0.mk hr1
        have HTd := Aside0.mk hr2
        clear hb hrt1 hr1 hr2
        refine hK.out _ _ ⟨(cL HX7 0 rfl),(cL HX7 1 rfl),(cL HX7 2 rfl),(cL HX7 3 rfl),(cL HX7 4 rfl),(cL HX9 0 rfl),(cL HX9 1 rfl),(cL HX9 2 rfl),(cL HX9 3 rfl),(cL HX9 4 rfl),(pw_cell_below HB.out hp0.out),(pw_cell_below HB.out hp1.out),(pw_cell_below HB.out hp2.out)⟩ (fun hHeld => ?_)
        clear hK K
        refine norm_ (a' := ?_) ?_ ?_
        rotate_left
        ·show Act.put _ (some 71) _ = _
         simp only [Act.put,yqI,yqs0,yqs1,i64_w,i32_w]
         rfl
        refine pure_ (i := 7) (N := some 64) (v := ?_) (a' := ?_) yq41 rfl rfl (any_of HT_.out (by kernel_rfl)) (fun _ _ _ h => h) (Or.inl ⟨by rfl,?_⟩) ?_ ?_
        rotate_left
        ·intro w'
         go_simp
         with_reducible rfl
        rotate_left
        ·simp only [Act.put,yqI,yqs0,yqs1,i64_w,i32_w]
         rfl
        refine pure_ (i := 8) (N := some 72) (v := ?_) (a' := ?_) yq42 rfl rfl (any_of HT_.out (by kernel_rfl)) (fun _ _ _ h => h) (Or.inl ⟨by rfl,?_⟩) ?_ ?_
        rotate_left
        ·intro w'
         go_simp
         with_reducible rfl
        rotate_left
        ·simp only [Act.put,yqI,yqs0,yqs1,i64_w,i32_w]
         rfl
        refine pure_ (i := 9) (N := some 73) (v := ?_) (a' := ?_) yq43 rfl rfl (any_of HT_.out (by kernel_rfl)) (fun _ _ _ h => h) (Or.inl ⟨by rfl,?_⟩) ?_ ?_
        rotate_left
        ·intro w'
         go_simp
         with_reducible rfl
        rotate_left
        ·simp only [Act.put,yqI,yqs0,yqs1,i64_w,i32_w]
         rfl
        refine pure_ (i := 10) (N := some 74) (v := ?_) (a' := ?_) yq25 rfl rfl (any_of HT_.out (by kernel_rfl)) (fun _ _ _ h => h) (Or.inl ⟨by rfl,?_⟩) ?_ ?_
        rotate_left
        ·intro w'
         go_simp
         with_reducible rfl
        rotate_left
        ·simp only [Act.put,yqI,yqs0,yqs1,i64_w,i32_w]
         rfl
        exact norm_ (by first | (simp only [putAll,Act.put,yqI,yqs0,yqs1]; done) | (simp only [putAll,Act.put,yqI,yqs0,yqs1]; rfl)) (hCont (gc,gd,.tuple #[.agg #[.int .i64 g,.int .i64 s,.slice C1 o2.length p1,.slice C2 l2.length p2,.slice C3 f2.length p3],.agg #[.int .i64 g,.int .i64 s,.slice D1 o2.length q1,.slice D2 l2.length q2,.slice D3 f2.length q3],.bool true],.agg #[.int .i64 g,.int .i64 s,.slice C1 o2.length p1,.slice C2 l2.length p2,.slice C3 f2.length p3],.agg #[.int .i64 g,.int .i64 s,.slice D1 o2.length q1,.slice D2 l2.length q2,.slice D3 f2.length q3]) _ ⟨HXc.out,HXd.out,HX7.out,HX9.out,HTa.out,HTb.out,HB.out,HGc.out,HGd.out,N7c.out,N9c.out,N7d.out,N9d.out,Ncd.out,o2,l2,f2,C1,p1,C2,p2,C3,p3,D1,q1,D2,q2,D3,q3,rfl,rfl,rfl,HRT1.out,HTc.out,HTd.out⟩)
     rintro ⟨gc,gd,V,VX,VY⟩ w9 ⟨hc_,hd_,h7,h9,ha,hb_,hb,hlc,hld,n7c,n9c,n7d,n9d,ncd,o2,l2,f2,C1,p1,C2,p2,C3,p3,D1,q1,D2,q2,D3,q3,hV,hVX,hVY,hrt1,hr1,hr2⟩
     dsimp only at hc_ hd_ hlc hld n7c n9c n7d n9d ncd hV hVX hVY
     subst hV hVX hVY
     clear HX7 HX9 HTa HTb HB
     have HXc := Aside0.mk hc_
     have HXd := Aside0.mk hd_
     have HX7 := Aside0.mk h7
     have HX9 := Aside0.mk h9
     have HTa := Aside0.mk ha
     have HTb := Aside0.mk hb_
     have HB := Aside0.mk hb
     have HGc := Aside0.mk hlc
     have HGd := Aside0.mk hld
     have HRT1 := Aside0.mk hrt1
     have HTc := Aside0.mk hr1
     have HTd := Aside0.mk hr2
     have N7c := Aside0.mk n7c
     have N9c := Aside0.mk n9c
     have N7d := Aside0.mk n7d
     have N9d := Aside0.mk n9d
     have Ncd := Aside0.mk ncd
     have Nc7 := Aside0.mk (Ne.symm n7c)
     have Nc9 := Aside0.mk (Ne.symm n9c)
     have Nd7 := Aside0.mk (Ne.symm n7d)
     have Nd9 := Aside0.mk (Ne.symm n9d)
     have Ndc := Aside0.mk (Ne.symm ncd)
     clear hc_ hd_ h7 h9 ha hb_ hb hlc hld hrt1 hr1 hr2 n7c n9c n7d n9d ncd
     have hHeld : (fun w' => w'.cell? ⟨g7,0,none⟩ = some (.int .i64 g) ∧ w'.cell? ⟨g7,1,none⟩ = some (.int .i64 s) ∧ w'.cell? ⟨g7,2,none⟩ = some (.slice A1 o.length c1) ∧ w'.cell? ⟨g7,3,none⟩ = some (.slice A2 l.length c2) ∧ w'.cell? ⟨g7,4,none⟩ = some (.slice A3 f.length c3) ∧ w'.cell? ⟨g9,0,none⟩ = some (.int .i64 g) ∧ w'.cell? ⟨g9,1,none⟩ = some (.int .i64 s) ∧ w'.cell? ⟨g9,2,none⟩ = some (.slice B1 o.length d1) ∧ w'.cell? ⟨g9,3,none⟩ = some (.slice B2 l.length d2) ∧ w'.cell? ⟨g9,4,none⟩ = some (.slice B3 f.length d3) ∧ w'.cell? (ad.add (i.toNat * 3)) = some (.int .i64 (rd_T42 q i).f0) ∧ w'.cell? ⟨(ad.add (i.toNat * 3)).block,(ad.add (i.toNat * 3)).off + 1,none⟩ = some (.int .i64 (rd_T42 q i).f1) ∧ w'.cell? ⟨(ad.add (i.toNat * 3)).block,(ad.add (i.toNat * 3)).off + 2,none⟩ = some (.int .u64 (rd_T42 q i).f2)) w9 := ⟨(cL HX7 0 rfl),(cL HX7 1 rfl),(cL HX7 2 rfl),(cL HX7 3 rfl),(cL HX7 4 rfl),(cL HX9 0 rfl),(cL HX9 1 rfl),(cL HX9 2 rfl),(cL HX9 3 rfl),(cL HX9 4 rfl),(pw_cell_below HB.out hp0.out),(pw_cell_below HB.out hp1.out),(pw_cell_below HB.out hp2.out)⟩
     refine norm_ (a' := ?_) ?_ ?_
     rotate_left
     ·simp only [putAll,Act.put,yqI,yqs0,yqs1]
      rfl
     refine one_ (i := 13) (N := none) yq48 rfl rfl (one_of HT_.out (by kernel_rfl)) (by decide) (fun K hK => ?_)
     clear HTa HTb
     have z_0 : w9.cell? ⟨gc,0,none⟩ = some (.int .i64 0) := cL HXc 0 rfl
     have z_1 : w9.cell? ⟨gc,1,none⟩ = some (.int .i64 0) := cL HXc 1 rfl
     have z_2 : w9.cell? ⟨gc,2,none⟩ = some (.slice none 0 0) := cL HXc 2 rfl
     have z_3 : w9.cell? ⟨gc,3,none⟩ = some (.slice none 0 0) := cL HXc 3 rfl
     have z_4 : w9.cell? ⟨gc,4,none⟩ = some (.slice none 0 0) := cL HXc 4 rfl
     have zf_0 := blk_frozen HXc.out 0
     have zf_1 := blk_frozen HXc.out 1
     have zf_2 := blk_frozen HXc.out 2
     have zf_3 := blk_frozen HXc.out 3
     have zf_4 := blk_frozen HXc.out 4
     refine skip_ (w1 := ?_) (by rfl) rfl ?_ ?_
     rotate_left
     ·go_simp
      rfl
     clear z_0 z_1 z_2 z_3 z_4 zf_0 zf_1 zf_2 zf_3 zf_4
     obtain ⟨w10,hW⟩ : ∃ W_,W_ = (((((w9.setCell ⟨gc,0,none⟩ (.int .i64 g)).setCell ⟨gc,1,none⟩ (.int .i64 s)).setCell ⟨gc,2,none⟩ (.slice C1 o2.length p1)).setCell ⟨gc,3,none⟩ (.slice C2 l2.length p2)).setCell ⟨gc,4,none⟩ (.slice C3 f2.length p3)) := ⟨_,rfl⟩
     rw [← hW]
     replace HX7 := Aside0.mk (far5 hW HX7.out N7c.out)
     replace HX9 := Aside0.mk (far5 hW HX9.out N9c.out)
     replace HXd := Aside0.mk (far5 hW HXd.out Ndc.out)
     replace HTc := Aside0.mk (tr5 hW HXc.out (by decide) (by decide) HTc.out)
     replace HTd := Aside0.mk (tr5 hW HXc.out (by decide) (by decide) HTd.out)
     replace HXc := Aside0.mk (set5 hW HXc.out)
     replace HB := Aside0.mk (below5 hW HB.out HGc.out)
     clear hW
     refine hK.out _ _ ⟨(cL HX7 0 rfl),(cL HX7 1 rfl),(cL HX7 2 rfl),(cL HX7 3 rfl),(cL HX7 4 rfl),(cL HX9 0 rfl),(cL HX9 1 rfl),(cL HX9 2 rfl),(cL HX9 3 rfl),(cL HX9 4 rfl),(pw_cell_below HB.out hp0.out),(pw_cell_below HB.out hp1.out),(pw_cell_below HB.out hp2.out)⟩ (fun hHeld => ?_)
     clear hK K
     refine one_ (i := 14) (N := none) yq49 rfl rfl (one_of HT_.out (by kernel_rfl)) (by decide) (fun K hK => ?_)
     have z_0 : w10.cell? ⟨gd,0,none⟩ = some (.int .i64 0) := cL HXd 0 rfl
     have z_1 : w10.cell? ⟨gd,1,none⟩ = some (.int .i64 0) := cL HXd 1 rfl
     have z_2 : w10.cell? ⟨gd,2,none⟩ = some (.slice none 0 0) := cL HXd 2 rfl
     have z_3 : w10.cell? ⟨gd,3,none⟩ = some (.slice none 0 0) := cL HXd 3 rfl
     have z_4 : w10.cell? ⟨gd,4,none⟩ = some (.slice none 0 0) := cL HXd 4 rfl
     have zf_0 := blk_frozen HXd.out 0
     have zf_1 := blk_frozen HXd.out 1
     have zf_2 := blk_frozen HXd.out 2
     have zf_3 := blk_frozen HXd.out 3
     have zf_4 := blk_frozen HXd.out 4
     refine skip_ (w1 := ?_) (by rfl) rfl ?_ ?_
     rotate_left
     ·go_simp
      rfl
     clear z_0 z_1 z_2 z_3 z_4 zf_0 zf_1 zf_2 zf_3 zf_4
     obtain ⟨w11,hW⟩ : ∃ W_,W_ = (((((w10.setCell ⟨gd,0,none⟩ (.int .i64 g)).setCell ⟨gd,1,none⟩ (.int .i64 s)).setCell ⟨gd,2,none⟩ (.slice D1 o2.length q1)).setCell ⟨gd,3,none⟩ (.slice D2 l2.length q2)).setCell ⟨gd,4,none⟩ (.slice D3 f2.length q3)) := ⟨_,rfl⟩
     rw [← hW]
     replace HX7 := Aside0.mk (far5 hW HX7.out N7d.out)
     replace HX9 := Aside0.mk (far5 hW HX9.out N9d.out)
     replace HXc := Aside0.mk (far5 hW HXc.out Ncd.out)
     replace HTc := Aside0.mk (tr5 hW HXd.out (by decide) (by decide) HTc.out)
     replace HTd := Aside0.mk (tr5 hW HXd.out (by decide) (by decide) HTd.out)
     replace HXd := Aside0.mk (set5 hW HXd.out)
     replace HB := Aside0.mk (below5 hW HB.out HGd.out)
     clear hW
     refine hK.out _ _ ⟨(cL HX7 0 rfl),(cL HX7 1 rfl),(cL HX7 2 rfl),(cL HX7 3 rfl),(cL HX7 4 rfl),(cL HX9 0 rfl),(cL HX9 1 rfl),(cL HX9 2 rfl),(cL HX9 3 rfl),(cL HX9 4 rfl),(pw_cell_below HB.out hp0.out),(pw_cell_below HB.out hp1.out),(pw_cell_below HB.out hp2.out)⟩ (fun hHeld => ?_)
     clear hK K
     refine pure_ (i := 15) (N := some 14) (v := ?_) (a' := ?_) yq50 rfl rfl (any_of HT_.out (by kernel_rfl)) (fun _ _ _ h => h) (Or.inl ⟨by rfl,?_⟩) ?_ ?_
     rotate_left
     ·intro w'
      go_simp
      with_reducible rfl
     rotate_left
     ·simp only [Act.put,yqI,yqs0,yqs1,i64_w,i32_w]
      rfl
     refine done_ (done_of HT_.out (by kernel_rfl)) ?_
     clear HT_ HW_ hHeld
     clear hi0t hilt
     have c_0 : w11.cell? ⟨gc,0,none⟩ = some (.int .i64 g) := cL HXc 0 rfl
     have c_1 : w11.cell? ⟨gc,1,none⟩ = some (.int .i64 s) := cL HXc 1 rfl
     have c_2 : w11.cell? ⟨gc,2,none⟩ = some (.slice C1 o2.length p1) := cL HXc 2 rfl
     have c_3 : w11.cell? ⟨gc,3,none⟩ = some (.slice C2 l2.length p2) := cL HXc 3 rfl
     have c_4 : w11.cell? ⟨gc,4,none⟩ = some (.slice C3 f2.length p3) := cL HXc 4 rfl
     go_wp2_with fail
     clear c_0 c_1 c_2 c_3 c_4
     refine (right_calls g s _ _ o2 _ _ l2 _ _ f2 _ (TR_TC HTc.out) (by have h1 := HRT1.out.len; have h2 := HRT1.out.may; omega)).mono ?_
     rintro e_ wh1 ⟨he,hb⟩
     have he2 : e_ = .returned (.bool true) := he.trans (congrArg (fun b_ => Ending.returned (.bool b_)) (rt_iff.2 HRT1.out))
     subst he2
     clear he
     replace HX7 := mB HX7 hb
     replace HX9 := mB HX9 hb
     replace HXc := mB HXc hb
     replace HXd := mB HXd hb
     replace HTc := Aside0.mk (TR_below HTc.out hb)
     replace HTd := Aside0.mk (TR_below HTd.out hb)
     replace HB := mS HB hb
     clear hb
     go_upto_region 11 with fail
     have c_0 : wh1.cell? ⟨gc,0,none⟩ = some (.int .i64 g) := cL HXc 0 rfl
     have c_1 : wh1.cell? ⟨gc,1,none⟩ = some (.int .i64 s) := cL HXc 1 rfl
     have c_2 : wh1.cell? ⟨gc,2,none⟩ = some (.slice C1 o2.length p1) := cL HXc 2 rfl
     have c_3 : wh1.cell? ⟨gc,3,none⟩ = some (.slice C2 l2.length p2) := cL HXc 3 rfl
     have c_4 : wh1.cell? ⟨gc,4,none⟩ = some (.slice C3 f2.length p3) := cL HXc 4 rfl
     have d_0 : wh1.cell? ⟨g7,0,none⟩ = some (.int .i64 g) := cL HX7 0 rfl
     have d_1 : wh1.cell? ⟨g7,1,none⟩ = some (.int .i64 s) := cL HX7 1 rfl
     have d_2 : wh1.cell? ⟨g7,2,none⟩ = some (.slice A1 o.length c1) := cL HX7 2 rfl
     have d_3 : wh1.cell? ⟨g7,3,none⟩ = some (.slice A2 l.length c2) := cL HX7 3 rfl
     have d_4 : wh1.cell? ⟨g7,4,none⟩ = some (.slice A3 f.length c3) := cL HX7 4 rfl
     have df_0 := blk_frozen HX7.out 0
     have df_1 := blk_frozen HX7.out 1
     have df_2 := blk_frozen HX7.out 2
     have df_3 := blk_frozen HX7.out 3
     have df_4 := blk_frozen HX7.out 4
     go_upto_region 12 with fail
     clear c_0 c_1 c_2 c_3 c_4 d_0 d_1 d_2 d_3 d_4 df_0 df_1 df_2 df_3 df_4
     obtain ⟨wh2,hW⟩ : ∃ W_,W_ = (((((wh1.setCell ⟨g7,0,none⟩ (.int .i64 g)).setCell ⟨g7,1,none⟩ (.int .i64 s)).setCell ⟨g7,2,none⟩ (.slice C1 o2.length p1)).setCell ⟨g7,3,none⟩ (.slice C2 l2.length p2)).setCell ⟨g7,4,none⟩ (.slice C3 f2.length p3)) := ⟨_,rfl⟩
     rw [← hW]
     replace HX9 := Aside0.mk (far5 hW HX9.out N97.out)
     replace HXc := Aside0.mk (far5 hW HXc.out Nc7.out)
     replace HXd := Aside0.mk (far5 hW HXd.out Nd7.out)
     replace HTc := Aside0.mk (tr5 hW HX7.out (by decide) (by decide) HTc.out)
     replace HTd := Aside0.mk (tr5 hW HX7.out (by decide) (by decide) HTd.out)
     replace HX7 := Aside0.mk (set5 hW HX7.out)
     replace HB := Aside0.mk (below5 hW HB.out HG7.out)
     clear hW
     have c_0 : wh2.cell? ⟨gd,0,none⟩ = some (.int .i64 g) := cL HXd 0 rfl
     have c_1 : wh2.cell? ⟨gd,1,none⟩ = some (.int .i64 s) := cL HXd 1 rfl
     have c_2 : wh2.cell? ⟨gd,2,none⟩ = some (.slice D1 o2.length q1) := cL HXd 2 rfl
     have c_3 : wh2.cell? ⟨gd,3,none⟩ = some (.slice D2 l2.length q2) := cL HXd 3 rfl
     have c_4 : wh2.cell? ⟨gd,4,none⟩ = some (.slice D3 f2.length q3) := cL HXd 4 rfl
     have d_0 : wh2.cell? ⟨g9,0,none⟩ = some (.int .i64 g) := cL HX9 0 rfl
     have d_1 : wh2.cell? ⟨g9,1,none⟩ = some (.int .i64 s) := cL HX9 1 rfl
     have d_2 : wh2.cell? ⟨g9,2,none⟩ = some (.slice B1 o.length d1) := cL HX9 2 rfl
     have d_3 : wh2.cell? ⟨g9,3,none⟩ = some (.slice B2 l.length d2) := cL HX9 3 rfl
     have d_4 : wh2.cell? ⟨g9,4,none⟩ = some (.slice B3 f.length d3) := cL HX9 4 rfl
     have df_0 := blk_frozen HX9.out 0
     have df_1 := blk_frozen HX9.out 1
     have df_2 := blk_frozen HX9.out 2
     have df_3 := blk_frozen HX9.out 3
     have df_4 := blk_frozen HX9.out 4
     go_upto_region 13 with fail
     clear c_0 c_1 c_2 c_3 c_4 d_0 d_1 d_2 d_3 d_4 df_0 df_1 df_2 df_3 df_4
     obtain ⟨wh3,hW⟩ : ∃ W_,W_ = (((((wh2.setCell ⟨g9,0,none⟩ (.int .i64 g)).setCell ⟨g9,1,none⟩ (.int .i64 s)).setCell ⟨g9,2,none⟩ (.slice D1 o2.length q1)).setCell ⟨g9,3,none⟩ (.slice D2 l2.length q2)).setCell ⟨g9,4,none⟩ (.slice D3 f2.length q3)) := ⟨_,rfl⟩
     rw [← hW]
     replace HX7 := Aside0.mk (far5 hW HX7.out N79.out)
     replace HXc := Aside0.mk (far5 hW HXc.out Nc9.out)
     replace HXd := Aside0.mk (far5 hW HXd.out Nd9.out)
     replace HTc := Aside0.mk (tr5 hW HX9.out (by decide) (by decide) HTc.out)
     replace HTd := Aside0.mk (tr5 hW HX9.out (by decide) (by decide) HTd.out)
     replace HX9 := Aside0.mk (set5 hW HX9.out)
     replace HB := Aside0.mk (below5 hW HB.out HG9.out)
     clear hW
     obtain ⟨rm,hrm⟩ : ∃ y : Int,y = s - Lst l2 + s * (g - o2.length) := ⟨_,rfl⟩
     have HM1 : Aside0 (table_Room.f g s o2 l2 f2 = some rm) := ⟨by rw [hrm]; exact HRT1.out.room⟩
     have HM2 : Aside0 (lodgerref08_Room.f 40 g s o2 l2 f2 = some rm) := ⟨by rw [hrm]; exact HRT1.out.rroom⟩
     obtain ⟨us,hus⟩ : ∃ y : Int,y = l2.sum := ⟨_,rfl⟩
     have HU1 : Aside0 (table_Used.f 21 g s o2 l2 f2 = some us) := ⟨by rw [hus]; exact HRT1.out.used⟩
     have HU2 : Aside0 (lodgerref08_Used.f 40 g s o2 l2 f2 = some us) := ⟨by rw [hus]; exact HRT1.out.rused⟩
     obtain ⟨ln,hl1,hl2⟩ := HRT1.out.both (rd_T42 q i).f1
     have HL1 := Aside0.mk hl1
     have HL2 := Aside0.mk hl2
     obtain ⟨fr,hfr⟩ : ∃ y,y = frk g.toNat o2 := ⟨_,rfl⟩
     have HF1 := Aside0.mk hfr
     have HF2 : Aside0 (lodgerref08_Free.f 40 g s o2 l2 f2 = some fr) := ⟨by rw [hfr]; exact HRT1.out.rfree⟩
     obtain ⟨kf,hK⟩ := ints_same fr (by rw [hfr]; have h1 := HRT1.out.free; have h2 := HRT1.out.may; omega)
     have HK := Aside0.mk hK
     have t1 := int_bne rm
     have t2 := int_bne us
     have t3 := int_bne ln
     have hi0t := eq_true hi.out.1
     have hilt := eq_true HIL.out
     clear hrm hus hl1 hl2 hfr hK
     go_wp2_with fail
     refine start_ (n := 37) (S := fun w' => w'.cell? ⟨g7,0,none⟩ = some (.int .i64 g) ∧ w'.cell? ⟨g7,1,none⟩ = some (.int .i64 s) ∧ w'.cell? ⟨g7,2,none⟩ = some (.slice C1 o2.length p1) ∧ w'.cell? ⟨g7,3,none⟩ = some (.slice C2 l2.length p2) ∧ w'.cell? ⟨g7,4,none⟩ = some (.slice C3 f2.length p3) ∧ w'.cell? ⟨g9,0,none⟩ = some (.int .i64 g) ∧ w'.cell? ⟨g9,1,none⟩ = some (.int .i64 s) ∧ w'.cell? ⟨g9,2,none⟩ = some (.slice D1 o2.length q1) ∧ w'.cell? ⟨g9,3,none⟩ = some (.slice D2 l2.length q2) ∧ w'.cell? ⟨g9,4,none⟩ = some (.slice D3 f2.length q3) ∧ w'.cell? (ad.add (i.toNat * 3)) = some (.int .i64 (rd_T42 q i).f0) ∧ w'.cell? ⟨(ad.add (i.toNat * 3)).block,(ad.add (i.toNat * 3)).off + 1,none⟩ = some (.int .i64 (rd_T42 q i).f1) ∧ w'.cell? ⟨(ad.add (i.toNat * 3)).block,(ad.add (i.toNat * 3)).off + 2,none⟩ = some (.int .u64 (rd_T42 q i).f2)) (ds := []) yq51 (by kernel_rfl) rfl rfl ⟨((blk_cell (blk_drew HX7.out) 0).trans rfl),((blk_cell (blk_drew HX7.out) 1).trans rfl),((blk_cell (blk_drew HX7.out) 2).trans rfl),((blk_cell (blk_drew HX7.out) 3).trans rfl),((blk_cell (blk_drew HX7.out) 4).trans rfl),((blk_cell (blk_drew HX9.out) 0).trans rfl),((blk_cell (blk_drew HX9.out) 1).trans rfl),((blk_cell (blk_drew HX9.out) 2).trans rfl),((blk_cell (blk_drew HX9.out) 3).trans rfl),((blk_cell (blk_drew HX9.out) 4).trans rfl),(pw_cell_below (below_drew HB.out) hp0.out),(pw_cell_below (below_drew HB.out) hp1.out),(pw_cell_below (below_drew HB.out) hp2.out)⟩ (fun hHeld => ?_)
     refine with_tabW does8.tab13 does8.bits13 (fun HT_ HW_ => ?_)
     replace HX7 := Aside0.mk (blk_drew HX7.out)
     replace HX9 := Aside0.mk (blk_drew HX9.out)
     replace HXc := Aside0.mk (blk_drew HXc.out)
     replace HXd := Aside0.mk (blk_drew HXd.out)
     replace HTc := Aside0.mk (TR_below HTc.out (below_drew (Below.refl _ _)))
     replace HTd := Aside0.mk (TR_below HTd.out (below_drew (Below.refl _ _)))
     replace HB := Aside0.mk (below_drew HB.out)
     generalize wh3.drew = wd13 at *
     refine take_ (i := 0) (N := some 84) (v := ?_) (a' := ?_) yq52 rfl rfl (take_ofW HT_.out HW_.out (by kernel_rfl)) (fun _ _ _ h => h) (Or.inl ⟨by rfl,?_⟩) hHeld ?_ ?_
     rotate_left
     ·rintro w' ⟨s0,s1,s2,s3,s4,s5,s6,s7,s8,s9,s10,s11,s12⟩
      go_simp
      with_reducible rfl
     rotate_left
     ·simp only [Act.put,yqI,yqs0,yqs1,i64_w,i32_w]
      rfl
     refine take_ (i := 2) (N := some 86) (v := ?_) (a' := ?_) yq53 rfl rfl (take_ofW HT_.out HW_.out (by kernel_rfl)) (fun _ _ _ h => h) (Or.inl ⟨by rfl,?_⟩) hHeld ?_ ?_
     rotate_left
     ·rintro w' ⟨s0,s1,s2,s3,s4,s5,s6,s7,s8,s9,s10,s11,s12⟩
      go_simp
      with_reducible rfl
     rotate_left
     ·simp only [Act.put,yqI,yqs0,yqs1,i64_w,i32_w]
      rfl
     refine one_ (i := 1) (N := some 85) yq54 rfl rfl (one_of HT_.out (by kernel_rfl)) (by decide) (fun K hK => ?_)
     refine goes_ Try.func17 (by kernel_rfl) rfl #[.agg #[.int .i64 g,.int .i64 s,.slice C1 o2.length p1,.slice C2 l2.length p2,.slice C3 f2.length p3]] (by rfl) rfl rfl (by simp only [List.map_toArray,List.map_cons,List.map_nil]; rfl) ?_
     with_reducible refine (Free_calls g s _ _ o2 _ _ _ (TC_o (TR_TC HTc.out)).1 (TC_o (TR_TC HTc.out)).2 (by have := HRT1.out.may; omega) (by have := HRT1.out.may; omega) (by have h1 := HRT1.out.len; have h2 := HRT1.out.may; omega)).mono ?_
     rintro e_ wg1 ⟨v_,rfl,hv,hb⟩
     rw [← HF1.out] at hv
     obtain ⟨Av,cv_,hv1⟩ := Kd.R_slice hv
     subst hv1
     refine ⟨_,rfl,?_⟩
     have HVA := Aside0.mk (TR1_mk hv)
     have HVAc := Aside0.mk (Kd.R_reads' hv).2.1
     replace HX7 := mB HX7 hb
     replace HX9 := mB HX9 hb
     replace HXc := mB HXc hb
     replace HXd := mB HXd hb
     replace HTc := Aside0.mk (TR_below HTc.out hb)
     replace HTd := Aside0.mk (TR_below HTd.out hb)
     replace HB := mS HB hb
     clear hb hv
     refine hK.out _ _ ⟨(cL HX7 0 rfl),(cL HX7 1 rfl),(cL HX7 2 rfl),(cL HX7 3 rfl),(cL HX7 4 rfl),(cL HX9 0 rfl),(cL HX9 1 rfl),(cL HX9 2 rfl),(cL HX9 3 rfl),(cL HX9 4 rfl),(pw_cell_below HB.out hp0.out),(pw_cell_below HB.out hp1.out),(pw_cell_below HB.out hp2.out)⟩ (fun hHeld => ?_)
     clear hK K
     refine norm_ (a' := ?_) ?_ ?_
     rotate_left
     ·show Act.put _ (some 85) _ = _
      simp only [Act.put,yqI,yqs0,yqs1,i64_w,i32_w]
      rfl
     refine one_ (i := 3) (N := some 87) yq55 rfl rfl (one_of HT_.out (by kernel_rfl)) (by decide) (fun K hK => ?_)
     refine goes_ Try.func18 (by kernel_rfl) rfl #[.agg #[.int .i64 g,.int .i64 s,.slice D1 o2.length q1,.slice D2 l2.length q2,.slice D3 f2.length q3]] (by rfl) rfl rfl (by simp only [List.map_toArray,List.map_cons,List.map_nil]; rfl) ?_
     with_reducible refine (rfree_calls 40 g s _ _ o2 _ _ l2 _ _ f2 _ (TR_TC HTd.out) fr HF2.out).mono ?_
     rintro e_ wg2 ⟨v_,rfl,hv,hb⟩
     obtain ⟨Au,cu_,hv1⟩ := Kd.R_slice hv
     subst hv1
     refine ⟨_,rfl,?_⟩
     have HVB := Aside0.mk (TR1_mk hv)
     replace HVA := Aside0.mk (Kd.C_below HVA.out hb)
     have HVBc := Aside0.mk (Kd.R_reads' hv).2.1
     replace HX7 := mB HX7 hb
     replace HX9 := mB HX9 hb
     replace HXc := mB HXc hb
     replace HXd := mB HXd hb
     replace HTc := Aside0.mk (TR_below HTc.out hb)
     replace HTd := Aside0.mk (TR_below HTd.out hb)
     replace HB := mS HB hb
     clear hb hv
     refine hK.out _ _ ⟨(cL HX7 0 rfl),(cL HX7 1 rfl),(cL HX7 2 rfl),(cL HX7 3 rfl),(cL HX7 4 rfl),(cL HX9 0 rfl),(cL HX9 1 rfl),(cL HX9 2 rfl),(cL HX9 3 rfl),(cL HX9 4 rfl),(pw_cell_below HB.out hp0.out),(pw_cell_below HB.out hp1.out),(pw_cell_below HB.out hp2.out)⟩ (fun hHeld => ?_)
     clear hK K
     refine norm_ (a' := ?_) ?_ ?_
     rotate_left
     ·show Act.put _ (some 87) _ = _
      simp only [Act.put,yqI,yqs0,yqs1,i64_w,i32_w]
      rfl
     refine one_ (i := 4) (N := some 88) yq56 rfl rfl (one_of HT_.out (by kernel_rfl)) (by decide) (fun K hK => ?_)
     refine goes_ Try.func16 (by kernel_rfl) rfl #[.slice Av fr.length cv_,.slice Au fr.length cu_] (by rfl) rfl rfl (by simp only [List.map_toArray,List.map_cons,List.map_nil]; rfl) ?_
     with_reducible refine (lodgerref07_Ints.calls kf Av cv_ fr Au cu_ fr true _ HVA.out HVAc.out HVB.out HVBc.out HK.out).mono ?_
     rintro e_ wg3 ⟨rfl,hb⟩
     refine ⟨_,rfl,?_⟩
     replace hb := Drawn0.below hb
     replace HX7 := mB HX7 hb
     replace HX9 := mB HX9 hb
     replace HXc := mB HXc hb
     replace HXd := mB HXd hb
     replace HTc := Aside0.mk (TR_below HTc.out hb)
     replace HTd := Aside0.mk (TR_below HTd.out hb)
     replace HB := mS HB hb
     clear hb HVA HVB HVAc HVBc
     refine hK.out _ _ ⟨(cL HX7 0 rfl),(cL HX7 1 rfl),(cL HX7 2 rfl),(cL HX7 3 rfl),(cL HX7 4 rfl),(cL HX9 0 rfl),(cL HX9 1 rfl),(cL HX9 2 rfl),(cL HX9 3 rfl),(cL HX9 4 rfl),(pw_cell_below HB.out hp0.out),(pw_cell_below HB.out hp1.out),(pw_cell_below HB.out hp2.out)⟩ (fun hHeld => ?_)
     clear hK K
     refine norm_ (a' := ?_) ?_ ?_
     rotate_left
     ·show Act.put _ (some 88) _ = _
      simp only [Act.put,yqI,yqs0,yqs1,i64_w,i32_w]
      rfl
     refine pure_ (i := 5) (N := some 89) (v := ?_) (a' := ?_) yq57 rfl rfl (any_of HT_.out (by kernel_rfl)) (fun _ _ _ h => h) (Or.inl ⟨by rfl,?_⟩) ?_ ?_
     rotate_left
     ·intro w'
      go_simp
      with_reducible rfl
     rotate_left
     ·simp only [Act.put,yqI,yqs0,yqs1,i64_w,i32_w]
      rfl
     refine pure_ (i := 6) (N := some 90) (v := ?_) (a' := ?_) yq58 rfl rfl (any_of HT_.out (by kernel_rfl)) (fun _ _ _ h => h) (Or.inl ⟨by rfl,?_⟩) ?_ ?_
     rotate_left
     ·intro w'
      go_simp
      with_reducible rfl
     rotate_left
     ·simp only [Act.put,yqI,yqs0,yqs1,i64_w,i32_w]
      rfl
     refine take_ (i := 7) (N := some 91) (v := ?_) (a' := ?_) yq59 rfl rfl (take_ofW HT_.out HW_.out (by kernel_rfl)) (fun _ _ _ h => h) (Or.inl ⟨by rfl,?_⟩) hHeld ?_ ?_
     rotate_left
     ·rintro w' ⟨s0,s1,s2,s3,s4,s5,s6,s7,s8,s9,s10,s11,s12⟩
      go_simp
      with_reducible rfl
     rotate_left
     ·simp only [Act.put,yqI,yqs0,yqs1,i64_w,i32_w]
      rfl
     refine take_ (i := 9) (N := some 93) (v := ?_) (a' := ?_) yq60 rfl rfl (take_ofW HT_.out HW_.out (by kernel_rfl)) (fun _ _ _ h => h) (Or.inl ⟨by rfl,?_⟩) hHeld ?_ ?_
     rotate_left
     ·rintro w' ⟨s0,s1,s2,s3,s4,s5,s6,s7,s8,s9,s10,s11,s12⟩
      go_simp
      with_reducible rfl
     rotate_left
     ·simp only [Act.put,yqI,yqs0,yqs1,i64_w,i32_w]
      rfl
     refine one_ (i := 8) (N := some 92) yq61 rfl rfl (one_of HT_.out (by kernel_rfl)) (by decide) (fun K hK => ?_)
     refine goes_ Try.func19 (by kernel_rfl) rfl #[.agg #[.int .i64 g,.int .i64 s,.slice C1 o2.length p1,.slice C2 l2.length p2,.slice C3 f2.length p3]] (by rfl) rfl rfl (by simp only [List.map_toArray,List.map_cons,List.map_nil]; rfl) ?_
     with_reducible refine (room_calls g s _ _ o2 _ _ l2 _ _ f2 _ (TR_TC HTc.out) _ HM1.out).mono ?_
     rintro e_ wg4 ⟨rfl,hb⟩
     refine ⟨_,rfl,?_⟩
     replace HX7 := mB HX7 hb
     replace HX9 := mB HX9 hb
     replace HXc := mB HXc hb
     replace HXd := mB HXd hb
     replace HTc := Aside0.mk (TR_below HTc.out hb)
     replace HTd := Aside0.mk (TR_below HTd.out hb)
     replace HB := mS HB hb
     clear hb
     refine hK.out _ _ ⟨(cL HX7 0 rfl),(cL HX7 1 rfl),(cL HX7 2 rfl),(cL HX7 3 rfl),(cL HX7 4 rfl),(cL HX9 0 rfl),(cL HX9 1 rfl),(cL HX9 2 rfl),(cL HX9 3 rfl),(cL HX9 4 rfl),(pw_cell_below HB.out hp0.out),(pw_cell_below HB.out hp1.out),(pw_cell_below HB.out hp2.out)⟩ (fun hHeld => ?_)
     clear hK K
     refine norm_ (a' := ?_) ?_ ?_
     rotate_left
     ·show Act.put _ (some 92) _ = _
      simp only [Act.put,yqI,yqs0,yqs1,i64_w,i32_w]
      rfl
     refine one_ (i := 10) (N := some 94) yq62 rfl rfl (one_of HT_.out (by kernel_rfl)) (by decide) (fun K hK => ?_)
     refine goes_ Try.func20 (by kernel_rfl) rfl #[.agg #[.int .i64 g,.int .i64 s,.slice D1 o2.length q1,.slice D2 l2.length q2,.slice D3 f2.length q3]] (by rfl) rfl rfl (by simp only [List.map_toArray,List.map_cons,List.map_nil]; rfl) ?_
     with_reducible refine (rroom_calls 40 g s _ _ o2 _ _ l2 _ _ f2 _ (TR_TC HTd.out) _ HM2.out).mono ?_
     rintro e_ wg5 ⟨rfl,hb⟩
     refine ⟨_,rfl,?_⟩
     replace HX7 := mB HX7 hb
     replace HX9 := mB HX9 hb
     replace HXc := mB HXc hb
     replace HXd := mB HXd hb
     replace HTc := Aside0.mk (TR_below HTc.out hb)
     replace HTd := Aside0.mk (TR_below HTd.out hb)
     replace HB := mS HB hb
     clear hb
     refine hK.out _ _ ⟨(cL HX7 0 rfl),(cL HX7 1 rfl),(cL HX7 2 rfl),(cL HX7 3 rfl),(cL HX7 4 rfl),(cL HX9 0 rfl),(cL HX9 1 rfl),(cL HX9 2 rfl),(cL HX9 3 rfl),(cL HX9 4 rfl),(pw_cell_below HB.out hp0.out),(pw_cell_below HB.out hp1.out),(pw_cell_below HB.out hp2.out)⟩ (fun hHeld => ?_)
     clear hK K
     refine norm_ (a' := ?_) ?_ ?_
     rotate_left
     ·show Act.put _ (some 94) _ = _
      simp only [Act.put,yqI,yqs0,yqs1,i64_w,i32_w]
      rfl
     refine pure_ (i := 11) (N := some 95) (v := ?_) (a' := ?_) yq63 rfl rfl (any_of HT_.out (by kernel_rfl)) (fun _ _ _ h => h) (Or.inl ⟨by rfl,?_⟩) ?_ ?_
     rotate_left
     ·intro w'
      go_simp
      with_reducible rfl
     rotate_left
     ·simp only [Act.put,yqI,yqs0,yqs1,i64_w,i32_w]
      rfl
     refine pure_ (i := 12) (N := some 96) (v := ?_) (a' := ?_) yq64 rfl rfl (any_of HT_.out (by kernel_rfl)) (fun _ _ _ h => h) (Or.inl ⟨by rfl,?_⟩) ?_ ?_
     rotate_left
     ·intro w'
      go_simp
      with_reducible rfl
     rotate_left
     ·simp only [Act.put,yqI,yqs0,yqs1,i64_w,i32_w]
      rfl
     refine pure_ (i := 13) (N := some 97) (v := ?_) (a' := ?_) yq65 rfl rfl (any_of HT_.out (by kernel_rfl)) (fun _ _ _ h => h) (Or.inl ⟨by rfl,?_⟩) ?_ ?_
     rotate_left
     ·intro w'
      go_simp
      with_reducible rfl
     rotate_left
     ·simp only [Act.put,yqI,yqs0,yqs1,i64_w,i32_w]
      rfl
     refine take_ (i := 14) (N := some 98) (v := ?_) (a' := ?_) yq66 rfl rfl (take_ofW HT_.out HW_.out (by kernel_rfl)) (fun _ _ _ h => h) (Or.inl ⟨by rfl,?_⟩) hHeld ?_ ?_
     rotate_left
     ·rintro w' ⟨s0,s1,s2,s3,s4,s5,s6,s7,s8,s9,s10,s11,s12⟩
      go_simp
      with_reducible rfl
     rotate_left
     ·simp only [Act.put,yqI,yqs0,yqs1,i64_w,i32_w]
      rfl
     refine take_ (i := 16) (N := some 100) (v := ?_) (a' := ?_) yq67 rfl rfl (take_ofW HT_.out HW_.out (by kernel_rfl)) (fun _ _ _ h => h) (Or.inl ⟨by rfl,?_⟩) hHeld ?_ ?_
     rotate_left
     ·rintro w' ⟨s0,s1,s2,s3,s4,s5,s6,s7,s8,s9,s10,s11,s12⟩
      go_simp
      with_reducible rfl
     rotate_left
     ·simp only [Act.put,yqI,yqs0,yqs1,i64_w,i32_w]
      rfl
     refine one_ (i := 15) (N := some 99) yq68 rfl rfl (one_of HT_.out (by kernel_rfl)) (by decide) (fun K hK => ?_)
     refine goes_ Try.func21 (by kernel_rfl) rfl #[.agg #[.int .i64 g,.int .i64 s,.slice C1 o2.length p1,.slice C2 l2.length p2,.slice C3 f2.length p3]] (by rfl) rfl rfl (by simp only [List.map_toArray,List.map_cons,List.map_nil]; rfl) ?_
     with_reducible refine (used_calls 21 g s _ _ o2 _ _ l2 _ _ f2 _ (TR_TC HTc.out) _ HU1.out).mono ?_
     rintro e_ wg6 ⟨rfl,hb⟩
     refine ⟨_,rfl,?_⟩
     replace HX7 := mB HX7 hb
     replace HX9 := mB HX9 hb
     replace HXc := mB HXc hb
     replace HXd := mB HXd hb
     replace HTc := Aside0.mk (TR_below HTc.out hb)
     replace HTd := Aside0.mk (TR_below HTd.out hb)
     replace HB := mS HB hb
     clear hb
     refine hK.out _ _ ⟨(cL HX7 0 rfl),(cL HX7 1 rfl),(cL HX7 2 rfl),(cL HX7 3 rfl),(cL HX7 4 rfl),(cL HX9 0 rfl),(cL HX9 1 rfl),(cL HX9 2 rfl),(cL HX9 3 rfl),(cL HX9 4 rfl),(pw_cell_below HB.out hp0.out),(pw_cell_below HB.out hp1.out),(pw_cell_below HB.out hp2.out)⟩ (fun hHeld => ?_)
     clear hK K
     refine norm_ (a' := ?_) ?_ ?_
     rotate_left
     ·show Act.put _ (some 99) _ = _
      simp only [Act.put,yqI,yqs0,yqs1,i64_w,i32_w]
      rfl
     refine one_ (i := 17) (N := some 101) yq69 rfl rfl (one_of HT_.out (by kernel_rfl)) (by decide) (fun K hK => ?_)
     refine goes_ Try.func22 (by kernel_rfl) rfl #[.agg #[.int .i64 g,.int .i64 s,.slice D1 o2.length q1,.slice D2 l2.length q2,.slice D3 f2.length q3]] (by rfl) rfl rfl (by simp only [List.map_toArray,List.map_cons,List.map_nil]; rfl) ?_
     with_reducible refine (rused_calls 40 g s _ _ o2 _ _ l2 _ _ f2 _ (TR_TC HTd.out) _ HU2.out).mono ?_
     rintro e_ wg7 ⟨rfl,hb⟩
     refine ⟨_,rfl,?_⟩
     replace HX7 := mB HX7 hb
     replace HX9 := mB HX9 hb
     replace HXc := mB HXc hb
     replace HXd := mB HXd hb
     replace HTc := Aside0.mk (TR_below HTc.out hb)
     replace HTd := Aside0.mk (TR_below HTd.out hb)
     replace HB := mS HB hb
     clear hb
     refine hK.out _ _ ⟨(cL HX7 0 rfl),(cL HX7 1 rfl),(cL HX7 2 rfl),(cL HX7 3 rfl),(cL HX7 4 rfl),(cL HX9 0 rfl),(cL HX9 1 rfl),(cL HX9 2 rfl),(cL HX9 3 rfl),(cL HX9 4 rfl),(pw_cell_below HB.out hp0.out),(pw_cell_below HB.out hp1.out),(pw_cell_below HB.out hp2.out)⟩ (fun hHeld => ?_)
     clear hK K
     refine norm_ (a' := ?_) ?_ ?_
     rotate_left
     ·show Act.put _ (some 101) _ = _
      simp only [Act.put,yqI,yqs0,yqs1,i64_w,i32_w]
      rfl
     refine pure_ (i := 18) (N := some 102) (v := ?_) (a' := ?_) yq70 rfl rfl (any_of HT_.out (by kernel_rfl)) (fun _ _ _ h => h) (Or.inl ⟨by rfl,?_⟩) ?_ ?_
     rotate_left
     ·intro w'
      go_simp
      with_reducible rfl
     rotate_left
     ·simp only [Act.put,yqI,yqs0,yqs1,i64_w,i32_w]
      rfl
     refine pure_ (i := 19) (N := some 103) (v := ?_) (a' := ?_) yq71 rfl rfl (any_of HT_.out (by kernel_rfl)) (fun _ _ _ h => h) (Or.inl ⟨by rfl,?_⟩) ?_ ?_
     rotate_left
     ·intro w'
      go_simp
      with_reducible rfl
     rotate_left
     ·simp only [Act.put,yqI,yqs0,yqs1,i64_w,i32_w]
      rfl
     refine pure_ (i := 20) (N := some 104) (v := ?_) (a' := ?_) yq72 rfl rfl (any_of HT_.out (by kernel_rfl)) (fun _ _ _ h => h) (Or.inl ⟨by rfl,?_⟩) ?_ ?_
     rotate_left
     ·intro w'
      go_simp
      with_reducible rfl
     rotate_left
     ·simp only [Act.put,yqI,yqs0,yqs1,i64_w,i32_w]
      rfl
     refine pure_ (i := 22) (N := some 106) (v := ?_) (a' := ?_) yq73 rfl rfl (any_of HT_.out (by kernel_rfl)) (fun _ _ _ h => h) (Or.inl ⟨by rfl,?_⟩) ?_ ?_
     rotate_left
     ·intro w'
      go_simp
      with_reducible rfl
     rotate_left
     ·simp only [Act.put,yqI,yqs0,yqs1,i64_w,i32_w]
      rfl
     refine pure_ (i := 23) (N := some 107) (v := ?_) (a' := ?_) yq74 rfl rfl (any_of HT_.out (by kernel_rfl)) (fun _ _ _ h => h) (Or.inl ⟨by rfl,?_⟩) ?_ ?_
     rotate_left
     ·intro w'
      go_simp
      with_reducible rfl
     rotate_left
     ·simp only [Act.put,yqI,yqs0,yqs1,i64_w,i32_w]
      rfl
     refine pure_ (i := 24) (N := some 108) (v := ?_) (a' := ?_) yq75 rfl rfl (any_of HT_.out (by kernel_rfl)) (fun _ _ _ h => h) (Or.inl ⟨by rfl,?_⟩) ?_ ?_
     rotate_left
     ·intro w'
      go_simp
      with_reducible rfl
     rotate_left
     ·simp only [Act.put,yqI,yqs0,yqs1,i64_w,i32_w]
      rfl
     refine pure_ (i := 25) (N := some 109) (v := ?_) (a' := ?_) yq76 rfl rfl (any_of HT_.out (by kernel_rfl)) (fun _ _ _ h => h) (Or.inl ⟨by rfl,?_⟩) ?_ ?_
     rotate_left
     ·intro w'
      go_simp
      with_reducible rfl
     rotate_left
     ·simp only [Act.put,yqI,yqs0,yqs1,i64_w,i32_w]
      rfl
     refine pure_ (i := 29) (N := some 113) (v := ?_) (a' := ?_) yq77 rfl rfl (any_of HT_.out (by kernel_rfl)) (fun _ _ _ h => h) (Or.inl ⟨by rfl,?_⟩) ?_ ?_
     rotate_left
     ·intro w'
      go_simp
      with_reducible rfl
     rotate_left
     ·simp only [Act.put,yqI,yqs0,yqs1,i64_w,i32_w]
      rfl
     refine pure_ (i := 30) (N := some 114) (v := ?_) (a' := ?_) yq78 rfl rfl (any_of HT_.out (by kernel_rfl)) (fun _ _ _ h => h) (Or.inl ⟨by rfl,?_⟩) ?_ ?_
     rotate_left
     ·intro w'
      go_simp
      with_reducible rfl
     rotate_left
     ·simp only [Act.put,yqI,yqs0,yqs1,i64_w,i32_w]
      rfl
     refine pure_ (i := 31) (N := some 115) (v := ?_) (a' := ?_) yq79 rfl rfl (any_of HT_.out (by kernel_rfl)) (fun _ _ _ h => h) (Or.inl ⟨by rfl,?_⟩) ?_ ?_
     rotate_left
     ·intro w'
      go_simp
      with_reducible rfl
     rotate_left
     ·simp only [Act.put,yqI,yqs0,yqs1,i64_w,i32_w]
      rfl
     refine pure_ (i := 32) (N := some 116) (v := ?_) (a' := ?_) yq80 rfl rfl (any_of HT_.out (by kernel_rfl)) (fun _ _ _ h => h) (Or.inl ⟨by rfl,?_⟩) ?_ ?_
     rotate_left
     ·intro w'
      go_simp
      with_reducible rfl
     rotate_left
     ·simp only [Act.put,yqI,yqs0,yqs1,i64_w,i32_w]
      rfl
     refine take_ (i := 21) (N := some 105) (v := ?_) (a' := ?_) yq81 rfl rfl (take_ofW HT_.out HW_.out (by kernel_rfl)) (fun _ _ _ h => h) (Or.inl ⟨by rfl,?_⟩) hHeld ?_ ?_
     rotate_left
     ·rintro w' ⟨s0,s1,s2,s3,s4,s5,s6,s7,s8,s9,s10,s11,s12⟩
      go_simp
      with_reducible rfl
     rotate_left
     ·simp only [Act.put,yqI,yqs0,yqs1,i64_w,i32_w]
      rfl
     refine take_ (i := 26) (N := some 110) (v := ?_) (a' := ?_) yq82 rfl rfl (take_ofW HT_.out HW_.out (by kernel_rfl)) (fun _ _ _ h => h) (Or.inl ⟨by rfl,?_⟩) hHeld ?_ ?_
     rotate_left
     ·rintro w' ⟨s0,s1,s2,s3,s4,s5,s6,s7,s8,s9,s10,s11,s12⟩
      go_simp
      with_reducible rfl
     rotate_left
     ·simp only [Act.put,yqI,yqs0,yqs1,i64_w,i32_w]
      rfl
     refine take_ (i := 28) (N := some 112) (v := ?_) (a' := ?_) yq83 rfl rfl (take_ofW HT_.out HW_.out (by kernel_rfl)) (fun _ _ _ h => h) (Or.inl ⟨by rfl,?_⟩) hHeld ?_ ?_
     rotate_left
     ·rintro w' ⟨s0,s1,s2,s3,s4,s5,s6,s7,s8,s9,s10,s11,s12⟩
      go_simp
      with_reducible rfl
     rotate_left
     ·simp only [Act.put,yqI,yqs0,yqs1,i64_w,i32_w]
      rfl
     refine take_ (i := 33) (N := some 117) (v := ?_) (a' := ?_) yq84 rfl rfl (take_ofW HT_.out HW_.out (by kernel_rfl)) (fun _ _ _ h => h) (Or.inl ⟨by rfl,?_⟩) hHeld ?_ ?_
     rotate_left
     ·rintro w' ⟨s0,s1,s2,s3,s4,s5,s6,s7,s8,s9,s10,s11,s12⟩
      go_simp
      with_reducible rfl
     rotate_left
     ·simp only [Act.put,yqI,yqs0,yqs1,i64_w,i32_w]
      rfl
     refine one_ (i := 27) (N := some 111) yq85 rfl rfl (one_of HT_.out (by kernel_rfl)) (by decide) (fun K hK => ?_)
     refine goes_ Try.func23 (by kernel_rfl) rfl #[.agg #[.int .i64 g,.int .i64 s,.slice C1 o2.length p1,.slice C2 l2.length p2,.slice C3 f2.length p3],.int .i64 (rd_T42 q i).f1] (by rfl) rfl rfl (by simp only [List.map_toArray,List.map_cons,List.map_nil]; rfl) ?_
     with_reducible refine (len_calls 21 g s _ _ o2 _ _ l2 _ _ f2 _ _ (TR_TC HTc.out) _ HL1.out).mono ?_
     rintro e_ wg8 ⟨rfl,hb⟩
     refine ⟨_,rfl,?_⟩
     replace HX7 := mB HX7 hb
     replace HX9 := mB HX9 hb
     replace HXc := mB HXc hb
     replace HXd := mB HXd hb
     replace HTc := Aside0.mk (TR_below HTc.out hb)
     replace HTd := Aside0.mk (TR_below HTd.out hb)
     replace HB := mS HB hb
     clear hb
     refine hK.out _ _ ⟨(cL HX7 0 rfl),(cL HX7 1 rfl),(cL HX7 2 rfl),(cL HX7 3 rfl),(cL HX7 4 rfl),(cL HX9 0 rfl),(cL HX9 1 rfl),(cL HX9 2 rfl),(cL HX9 3 rfl),(cL HX9 4 rfl),(pw_cell_below HB.out hp0.out),(pw_cell_below HB.out hp1.out),(pw_cell_below HB.out hp2.out)⟩ (fun hHeld => ?_)
     clear hK K
     refine norm_ (a' := ?_) ?_ ?_
     rotate_left
     ·show Act.put _ (some 111) _ = _
      simp only [Act.put,yqI,yqs0,yqs1,i64_w,i32_w]
      rfl
     refine one_ (i := 34) (N := some 118) yq86 rfl rfl (one_of HT_.out (by kernel_rfl)) (by decide) (fun K hK => ?_)
     refine goes_ Try.func24 (by kernel_rfl) rfl #[.agg #[.int .i64 g,.int .i64 s,.slice D1 o2.length q1,.slice D2 l2.length q2,.slice D3 f2.length q3],.int .i64 (rd_T42 q i).f1] (by rfl) rfl rfl (by simp only [List.map_toArray,List.map_cons,List.map_nil]; rfl) ?_
     with_reducible refine (rlen_calls 40 g s _ _ o2 _ _ l2 _ _ f2 _ _ (TR_TC HTd.out) _ HL2.out).mono ?_
     rintro e_ wg9 ⟨rfl,hb⟩
     refine ⟨_,rfl,?_⟩
     replace HX7 := mB HX7 hb
     replace HX9 := mB HX9 hb
     replace HXc := mB HXc hb
     replace HXd := mB HXd hb
     replace HTc := Aside0.mk (TR_below HTc.out hb)
     replace HTd := Aside0.mk (TR_below HTd.out hb)
     replace HB := mS HB hb
     clear hb
     refine hK.out _ _ ⟨(cL HX7 0 rfl),(cL HX7 1 rfl),(cL HX7 2 rfl),(cL HX7 3 rfl),(cL HX7 4 rfl),(cL HX9 0 rfl),(cL HX9 1 rfl),(cL HX9 2 rfl),(cL HX9 3 rfl),(cL HX9 4 rfl),(pw_cell_below HB.out hp0.out),(pw_cell_below HB.out hp1.out),(pw_cell_below HB.out hp2.out)⟩ (fun hHeld => ?_)
     clear hK K
     refine norm_ (a' := ?_) ?_ ?_
     rotate_left
     ·show Act.put _ (some 118) _ = _
      simp only [Act.put,yqI,yqs0,yqs1,i64_w,i32_w]
      rfl
     refine pure_ (i := 35) (N := some 119) (v := ?_) (a' := ?_) yq87 rfl rfl (any_of HT_.out (by kernel_rfl)) (fun _ _ _ h => h) (Or.inl ⟨by rfl,?_⟩) ?_ ?_
     rotate_left
     ·intro w'
      go_simp
      with_reducible rfl
     rotate_left
     ·simp only [Act.put,yqI,yqs0,yqs1,i64_w,i32_w]
      rfl
     refine pure_ (i := 36) (N := some 120) (v := ?_) (a' := ?_) yq88 rfl rfl (any_of HT_.out (by kernel_rfl)) (fun _ _ _ h => h) (Or.inl ⟨by rfl,?_⟩) ?_ ?_
     rotate_left
     ·intro w'
      go_simp
      with_reducible rfl
     rotate_left
     ·simp only [Act.put,yqI,yqs0,yqs1,i64_w,i32_w]
      rfl
     refine done_ (done_of HT_.out (by kernel_rfl)) ?_
     clear HT_ HW_ hHeld
     clear t1 t2 t3 hi0t hilt
     have hi0 := hi.out.1
     go_wp2
     go_roundw
     case rel => exact ⟨i + 1,⟨by have := hi.out; have := HIL.out; have := HI8.out; omega⟩,rfl,C1,p1,C2,p2,C3,p3,D1,q1,D2,q2,D3,q3,o2,l2,f2,HRT1,HTc,HTd,HX7,HX9,HB⟩
     case measure => have := hi.out; have := HI8.out; simp [intOf]; omega
    ·have t2 := decide_eq_false hi8
     clear hi8 hil
     go_wp2_with fail
     refine (fixed_calls _).mono ?_
     rintro e_ wz ⟨rfl,hb⟩
     go_wp2_with fail
     go_ret
     exact ⟨rfl,below_step HB.out hb⟩
   ·have t1 := decide_eq_false hil
    clear hil
    go_wp2_with fail
    refine (fixed_calls _).mono ?_
    rintro e_ wz ⟨rfl,hb⟩
    go_wp2_with fail
    go_ret
    exact ⟨rfl,below_step HB.out hb⟩
 ·have hm2 : mayT n0 n1 = false := by simpa using hm
  have HM := Aside0.mk hm2
  clear hm hm2
  have s_0 : W1.cell? ⟨g3,0,none⟩ = some (.int .i64 n0) := cL HX3 0 rfl
  have s_1 : W1.cell? ⟨g3,1,none⟩ = some (.int .i64 n1) := cL HX3 1 rfl
  go_wp2_with fail
  clear s_0 s_1
  refine (new_no n0 n1 first _ ((may_is _ _).trans (congrArg some HM.out))).mono ?_
  rintro e_ w2 ⟨rfl,hb⟩
  replace HX3 := mB HX3 hb
  replace HB := mS HB hb
  clear hb
  go_upto_region 2 with ((with_reducible refine gate_dst (N := 7) rfl ?_); refine box_event ?hg (N := 7) ?hd (cs := #[.int .i64 0,.int .i64 0,.slice none 0 0,.slice none 0 0,.slice none 0 0]) (t := 28) ?hr ?_; (case hd => rfl); (case hg => rfl); (case hr => first | (go_simp; done) | (go_simp; rfl)); intro g7 hgo w3 hbox hbb; have HBO := Aside0.mk hbox; have HBB := Aside0.mk hbb; have HGO := Aside0.mk hgo; have y0 : w3.cell? ⟨g7,0,none⟩ = some (.int .i64 0) := (blk_cell hbox 0).trans rfl; have y1 : w3.cell? ⟨g7,1,none⟩ = some (.int .i64 0) := (blk_cell hbox 1).trans rfl; have y2 : w3.cell? ⟨g7,2,none⟩ = some (.slice none 0 0) := (blk_cell hbox 2).trans rfl; have y3 : w3.cell? ⟨g7,3,none⟩ = some (.slice none 0 0) := (blk_cell hbox 3).trans rfl; have y4 : w3.cell? ⟨g7,4,none⟩ = some (.slice none 0 0) := (blk_cell hbox 4).trans rfl; have yf0 := blk_frozen hbox 0; have yf1 := blk_frozen hbox 1; have yf2 := blk_frozen hbox 2; have yf3 := blk_frozen hbox 3; have yf4 := blk_frozen hbox 4; clear hbox hbb hgo)
  clear y0 y1 y2 y3 y4 yf0 yf1 yf2 yf3 yf4
  have N37 : Aside0 (g3 ≠ g7) := ⟨by rw [HGO.out]; exact Nat.ne_of_lt (blk_lt HX3.out)⟩
  have N73 : Aside0 (g7 ≠ g3) := ⟨Ne.symm N37.out⟩
  have HG7 : Aside0 (w.heap.size ≤ g7) := ⟨by rw [HGO.out]; exact below_size HB.out⟩
  replace HX3 := Aside0.mk (blk_below HX3.out HBB.out)
  replace HB := Aside0.mk (below_step HB.out HBB.out)
  have HX7 := Aside0.mk HBO.out
  clear HBO HBB HGO
  obtain ⟨W4,hW⟩ : ∃ W_,W_ = (((((w3.setCell ⟨g7,0,none⟩ (.int .i64 0)).setCell ⟨g7,1,none⟩ (.int .i64 0)).setCell ⟨g7,2,none⟩ (.slice none 0 0)).setCell ⟨g7,3,none⟩ (.slice none 0 0)).setCell ⟨g7,4,none⟩ (.slice none 0 0)) := ⟨_,rfl⟩
  rw [← hW]
  replace HX3 := Aside0.mk (far5 hW HX3.out N37.out)
  replace HX7 := Aside0.mk (set5 hW HX7.out)
  replace HB := Aside0.mk (below5 hW HB.out HG7.out)
  clear hW
  have s_0 : W4.cell? ⟨g3,0,none⟩ = some (.int .i64 n0) := cL HX3 0 rfl
  have s_1 : W4.cell? ⟨g3,1,none⟩ = some (.int .i64 n1) := cL HX3 1 rfl
  go_wp2_with fail
  clear s_0 s_1
  refine (rnew_no n0 n1 first _ ((rmay_is _ _).trans (congrArg some HM.out))).mono ?_
  rintro e_ w5 ⟨rfl,hb⟩
  replace HX3 := mB HX3 hb
  replace HX7 := mB HX7 hb
  replace HB := mS HB hb
  clear hb
  go_upto_region 3 with ((with_reducible refine gate_dst (N := 9) rfl ?_); refine box_event ?hg (N := 9) ?hd (cs := #[.int .i64 0,.int .i64 0,.slice none 0 0,.slice none 0 0,.slice none 0 0]) (t := 32) ?hr ?_; (case hd => rfl); (case hg => rfl); (case hr => first | (go_simp; done) | (go_simp; rfl)); intro g9 hgo w6 hbox hbb; have HBO := Aside0.mk hbox; have HBB := Aside0.mk hbb; have HGO := Aside0.mk hgo; have y0 : w6.cell? ⟨g9,0,none⟩ = some (.int .i64 0) := (blk_cell hbox 0).trans rfl; have y1 : w6.cell? ⟨g9,1,none⟩ = some (.int .i64 0) := (blk_cell hbox 1).trans rfl; have y2 : w6.cell? ⟨g9,2,none⟩ = some (.slice none 0 0) := (blk_cell hbox 2).trans rfl; have y3 : w6.cell? ⟨g9,3,none⟩ = some (.slice none 0 0) := (blk_cell hbox 3).trans rfl; have y4 : w6.cell? ⟨g9,4,none⟩ = some (.slice none 0 0) := (blk_cell hbox 4).trans rfl; have yf0 := blk_frozen hbox 0; have yf1 := blk_frozen hbox 1; have yf2 := blk_frozen hbox 2; have yf3 := blk_frozen hbox 3; have yf4 := blk_frozen hbox 4; clear hbox hbb hgo)
  clear y0 y1 y2 y3 y4 yf0 yf1 yf2 yf3 yf4
  have N39 : Aside0 (g3 ≠ g9) := ⟨by rw [HGO.out]; exact Nat.ne_of_lt (blk_lt HX3.out)⟩
  have N93 : Aside0 (g9 ≠ g3) := ⟨Ne.symm N39.out⟩
  have N79 : Aside0 (g7 ≠ g9) := ⟨by rw [HGO.out]; exact Nat.ne_of_lt (blk_lt HX7.out)⟩
  have N97 : Aside0 (g9 ≠ g7) := ⟨Ne.symm N79.out⟩
  have HG9 : Aside0 (w.heap.size ≤ g9) := ⟨by rw [HGO.out]; exact below_size HB.out⟩
  replace HX3 := Aside0.mk (blk_below HX3.out HBB.out)
  replace HX7 := Aside0.mk (blk_below HX7.out HBB.out)
  replace HB := Aside0.mk (below_step HB.out HBB.out)
  have HX9 := Aside0.mk HBO.out
  clear HBO HBB HGO
  obtain ⟨W7,hW⟩ : ∃ W_,W_ = (((((w6.setCell ⟨g9,0,none⟩ (.int .i64 0)).setCell ⟨g9,1,none⟩ (.int .i64 0)).setCell ⟨g9,2,none⟩ (.slice none 0 0)).setCell ⟨g9,3,none⟩ (.slice none 0 0)).setCell ⟨g9,4,none⟩ (.slice none 0 0)) := ⟨_,rfl⟩
  rw [← hW]
  replace HX3 := Aside0.mk (far5 hW HX3.out N39.out)
  replace HX7 := Aside0.mk (far5 hW HX7.out N79.out)
  replace HX9 := Aside0.mk (set5 hW HX9.out)
  replace HB := Aside0.mk (below5 hW HB.out HG9.out)
  clear hW
  obtain ⟨b,hb⟩ : ∃ b,b = rtT 0 0 [] [] [] := ⟨_,rfl⟩
  have HRB := Aside0.mk hb
  clear hb
  have t1 := bne_self_false b
  go_wp2_with fail
  refine start_ (n := 17) (S := fun w' => w'.cell? ⟨g7,0,none⟩ = some (.int .i64 0) ∧ w'.cell? ⟨g7,1,none⟩ = some (.int .i64 0) ∧ w'.cell? ⟨g7,2,none⟩ = some (.slice none 0 0) ∧ w'.cell? ⟨g7,3,none⟩ = some (.slice none 0 0) ∧ w'.cell? ⟨g7,4,none⟩ = some (.slice none 0 0) ∧ w'.cell? ⟨g9,0,none⟩ = some (.int .i64 0) ∧ w'.cell? ⟨g9,1,none⟩ = some (.int .i64 0) ∧ w'.cell? ⟨g9,2,none⟩ = some (.slice none 0 0) ∧ w'.cell? ⟨g9,3,none⟩ = some (.slice none 0 0) ∧ w'.cell? ⟨g9,4,none⟩ = some (.slice none 0 0)) (ds := []) yq0 (by kernel_rfl) rfl rfl ⟨((blk_cell (blk_drew HX7.out) 0).trans rfl),((blk_cell (blk_drew HX7.out) 1).trans rfl),((blk_cell (blk_drew HX7.out) 2).trans rfl),((blk_cell (blk_drew HX7.out) 3).trans rfl),((blk_cell (blk_drew HX7.out) 4).trans rfl),((blk_cell (blk_drew HX9.out) 0).trans rfl),((blk_cell (blk_drew HX9.out) 1).trans rfl),((blk_cell (blk_drew HX9.out) 2).trans rfl),((blk_cell (blk_drew HX9.out) 3).trans rfl),((blk_cell (blk_drew HX9.out) 4).trans rfl)⟩ (fun hHeld => ?_)
  refine with_tabW does8.tab3 does8.bits3 (fun HT_ HW_ => ?_)
  replace HX3 := Aside0.mk (blk_drew HX3.out)
  replace HX7 := Aside0.mk (blk_drew HX7.out)
  replace HX9 := Aside0.mk (blk_drew HX9.out)
  replace HB := Aside0.mk (below_drew HB.out)
  generalize W7.drew = wd3 at *
  refine pure_ (i := 0) (N := some 33) (v := ?_) (a' := ?_) yq1 rfl rfl (any_of HT_.out (by kernel_rfl)) (fun _ _ _ h => h) (Or.inl ⟨by rfl,?_⟩) ?_ ?_
  rotate_left
  ·intro w'
   go_simp
   with_reducible rfl
  rotate_left
  ·simp only [Act.put,yqI,yqs0,yqs1,i64_w,i32_w]
   rfl
  refine pure_ (i := 1) (N := some 34) (v := ?_) (a' := ?_) yq2 rfl rfl (any_of HT_.out (by kernel_rfl)) (fun _ _ _ h => h) (Or.inl ⟨by rfl,?_⟩) ?_ ?_
  rotate_left
  ·intro w'
   go_simp
   with_reducible rfl
  rotate_left
  ·simp only [Act.put,yqI,yqs0,yqs1,i64_w,i32_w]
   rfl
  refine pure_ (i := 2) (N := some 35) (v := ?_) (a' := ?_) yq3 rfl rfl (any_of HT_.out (by kernel_rfl)) (fun _ _ _ h => h) (Or.inl ⟨by rfl,?_⟩) ?_ ?_
  rotate_left
  ·intro w'
   go_simp
   with_reducible rfl
  rotate_left
  ·simp only [Act.put,yqI,yqs0,yqs1,i64_w,i32_w]
   rfl
  refine pure_ (i := 3) (N := some 36) (v := ?_) (a' := ?_) yq4 rfl rfl (any_of HT_.out (by kernel_rfl)) (fun _ _ _ h => h) (Or.inl ⟨by rfl,?_⟩) ?_ ?_
  rotate_left
  ·intro w'
   go_simp
   with_reducible rfl
  rotate_left
  ·simp only [Act.put,yqI,yqs0,yqs1,i64_w,i32_w]
   rfl
  refine take_ (i := 4) (N := some 37) (v := ?_) (a' := ?_) yq5 rfl rfl (take_ofW HT_.out HW_.out (by kernel_rfl)) (fun _ _ _ h => h) (Or.inl ⟨by rfl,?_⟩) hHeld ?_ ?_
  rotate_left
  ·rintro w' ⟨s0,s1,s2,s3,s4,s5,s6,s7,s8,s9⟩
   go_simp
   with_reducible rfl
  rotate_left
  ·simp only [Act.put,yqI,yqs0,yqs1,i64_w,i32_w]
   rfl
  refine take_ (i := 6) (N := some 39) (v := ?_) (a' := ?_) yq6 rfl rfl (take_ofW HT_.out HW_.out (by kernel_rfl)) (fun _ _ _ h => h) (Or.inl ⟨by rfl,?_⟩) hHeld ?_ ?_
  rotate_left
  ·rintro w' ⟨s0,s1,s2,s3,s4,s5,s6,s7,s8,s9⟩
   go_simp
   with_reducible rfl
  rotate_left
  ·simp only [Act.put,yqI,yqs0,yqs1,i64_w,i32_w]
   rfl
  refine one_ (i := 5) (N := some 38) yq7 rfl rfl (one_of HT_.out (by kernel_rfl)) (by decide) (fun K hK => ?_)
  refine goes_ Try.func12 (by kernel_rfl) rfl #[.agg #[.int .i64 0,.int .i64 0,.slice none 0 0,.slice none 0 0,.slice none 0 0]] (by rfl) rfl rfl (by simp only [List.map_toArray,List.map_cons,List.map_nil]; rfl) ?_
  with_reducible refine (ref0_calls _).mono ?_
  rintro e_ wa ⟨rfl,hb⟩
  refine ⟨_,rfl,?_⟩
  replace HX3 := mB HX3 hb
  replace HX7 := mB HX7 hb
  replace HX9 := mB HX9 hb
  replace HB := mS HB hb
  clear hb
  refine hK.out _ _ ⟨(cL HX7 0 rfl),(cL HX7 1 rfl),(cL HX7 2 rfl),(cL HX7 3 rfl),(cL HX7 4 rfl),(cL HX9 0 rfl),(cL HX9 1 rfl),(cL HX9 2 rfl),(cL HX9 3 rfl),(cL HX9 4 rfl)⟩ (fun hHeld => ?_)
  clear hK K
  refine norm_ (a' := ?_) ?_ ?_
  rotate_left
  ·show Act.put _ (some 38) _ = _
   simp only [Act.put,yqI,yqs0,yqs1,i64_w,i32_w]
   rfl
  refine one_ (i := 7) (N := some 40) yq8 rfl rfl (one_of HT_.out (by kernel_rfl)) (by decide) (fun K hK => ?_)
  refine goes_ Try.func11 (by kernel_rfl) rfl #[.agg #[.int .i64 0,.int .i64 0,.slice none 0 0,.slice none 0 0,.slice none 0 0],.agg #[.int .i64 0,.int .i64 0,.slice none 0 0,.slice none 0 0,.slice none 0 0]] (by rfl) rfl rfl (by simp only [List.map_toArray,List.map_cons,List.map_nil]; rfl) ?_
  with_reducible refine (same0_calls _).mono ?_
  rintro e_ wb ⟨rfl,hb⟩
  refine ⟨_,rfl,?_⟩
  replace HX3 := mB HX3 hb
  replace HX7 := mB HX7 hb
  replace HX9 := mB HX9 hb
  replace HB := mS HB hb
  clear hb
  refine hK.out _ _ ⟨(cL HX7 0 rfl),(cL HX7 1 rfl),(cL HX7 2 rfl),(cL HX7 3 rfl),(cL HX7 4 rfl),(cL HX9 0 rfl),(cL HX9 1 rfl),(cL HX9 2 rfl),(cL HX9 3 rfl),(cL HX9 4 rfl)⟩ (fun hHeld => ?_)
  clear hK K
  refine norm_ (a' := ?_) ?_ ?_
  rotate_left
  ·show Act.put _ (some 40) _ = _
   simp only [Act.put,yqI,yqs0,yqs1,i64_w,i32_w]
   rfl
  refine pure_ (i := 8) (N := some 41) (v := ?_) (a' := ?_) yq9 rfl rfl (any_of HT_.out (by kernel_rfl)) (fun _ _ _ h => h) (Or.inl ⟨by rfl,?_⟩) ?_ ?_
  rotate_left
  ·intro w'
   go_simp
   with_reducible rfl
  rotate_left
  ·simp only [Act.put,yqI,yqs0,yqs1,i64_w,i32_w]
   rfl
  refine pure_ (i := 9) (N := some 42) (v := ?_) (a' := ?_) yq10 rfl rfl (any_of HT_.out (by kernel_rfl)) (fun _ _ _ h => h) (Or.inl ⟨by rfl,?_⟩) ?_ ?_
  rotate_left
  ·intro w'
   go_simp
   with_reducible rfl
  rotate_left
  ·simp only [Act.put,yqI,yqs0,yqs1,i64_w,i32_w]
   rfl
  refine pure_ (i := 10) (N := some 43) (v := ?_) (a' := ?_) yq11 rfl rfl (any_of HT_.out (by kernel_rfl)) (fun _ _ _ h => h) (Or.inl ⟨by rfl,?_⟩) ?_ ?_
  rotate_left
  ·intro w'
   go_simp
   with_reducible rfl
  rotate_left
  ·simp only [Act.put,yqI,yqs0,yqs1,i64_w,i32_w]
   rfl
  refine take_ (i := 11) (N := some 44) (v := ?_) (a' := ?_) yq12 rfl rfl (take_ofW HT_.out HW_.out (by kernel_rfl)) (fun _ _ _ h => h) (Or.inl ⟨by rfl,?_⟩) hHeld ?_ ?_
  rotate_left
  ·rintro w' ⟨s0,s1,s2,s3,s4,s5,s6,s7,s8,s9⟩
   go_simp
   with_reducible rfl
  rotate_left
  ·simp only [Act.put,yqI,yqs0,yqs1,i64_w,i32_w]
   rfl
  refine take_ (i := 13) (N := some 46) (v := ?_) (a' := ?_) yq13 rfl rfl (take_ofW HT_.out HW_.out (by kernel_rfl)) (fun _ _ _ h => h) (Or.inl ⟨by rfl,?_⟩) hHeld ?_ ?_
  rotate_left
  ·rintro w' ⟨s0,s1,s2,s3,s4,s5,s6,s7,s8,s9⟩
   go_simp
   with_reducible rfl
  rotate_left
  ·simp only [Act.put,yqI,yqs0,yqs1,i64_w,i32_w]
   rfl
  refine one_ (i := 12) (N := some 45) yq14 rfl rfl (one_of HT_.out (by kernel_rfl)) (by decide) (fun K hK => ?_)
  refine goes_ Try.func13 (by kernel_rfl) rfl #[.agg #[.int .i64 0,.int .i64 0,.slice none 0 0,.slice none 0 0,.slice none 0 0]] (by rfl) rfl rfl (by simp only [List.map_toArray,List.map_cons,List.map_nil]; rfl) ?_
  with_reducible refine (right0_calls _).mono ?_
  rintro e_ wc ⟨he,hb⟩
  have he2 : e_ = .returned (.bool b) := he.trans (congrArg (fun b_ => Ending.returned (.bool b_)) (HRB.out.symm))
  subst he2
  clear he
  refine ⟨_,rfl,?_⟩
  replace HX3 := mB HX3 hb
  replace HX7 := mB HX7 hb
  replace HX9 := mB HX9 hb
  replace HB := mS HB hb
  clear hb
  refine hK.out _ _ ⟨(cL HX7 0 rfl),(cL HX7 1 rfl),(cL HX7 2 rfl),(cL HX7 3 rfl),(cL HX7 4 rfl),(cL HX9 0 rfl),(cL HX9 1 rfl),(cL HX9 2 rfl),(cL HX9 3 rfl),(cL HX9 4 rfl)⟩ (fun hHeld => ?_)
  clear hK K
  refine norm_ (a' := ?_) ?_ ?_
  rotate_left
  ·show Act.put _ (some 45) _ = _
   simp only [Act.put,yqI,yqs0,yqs1,i64_w,i32_w]
   rfl
  refine one_ (i := 14) (N := some 47) yq15 rfl rfl (one_of HT_.out (by kernel_rfl)) (by decide) (fun K hK => ?_)
  refine goes_ Try.func14 (by kernel_rfl) rfl #[.agg #[.int .i64 0,.int .i64 0,.slice none 0 0,.slice none 0 0,.slice none 0 0]] (by rfl) rfl rfl (by simp only [List.map_toArray,List.map_cons,List.map_nil]; rfl) ?_
  with_reducible refine (rright0_calls _).mono ?_
  rintro e_ we ⟨he,hb⟩
  have he2 : e_ = .returned (.bool b) := he.trans (congrArg (fun b_ => Ending.returned (.bool b_)) (HRB.out.symm))
  subst he2
  clear he
  refine ⟨_,rfl,?_⟩
  replace HX3 := mB HX3 hb
  replace HX7 := mB HX7 hb
  replace HX9 := mB HX9 hb
  replace HB := mS HB hb
  clear hb
  refine hK.out _ _ ⟨(cL HX7 0 rfl),(cL HX7 1 rfl),(cL HX7 2 rfl),(cL HX7 3 rfl),(cL HX7 4 rfl),(cL HX9 0 rfl),(cL HX9 1 rfl),(cL HX9 2 rfl),(cL HX9 3 rfl),(cL HX9 4 rfl)⟩ (fun hHeld => ?_)
  clear hK K
  refine norm_ (a' := ?_) ?_ ?_
  rotate_left
  ·show Act.put _ (some 47) _ = _
   simp only [Act.put,yqI,yqs0,yqs1,i64_w,i32_w]
   rfl
  refine pure_ (i := 15) (N := some 48) (v := ?_) (a' := ?_) yq16 rfl rfl (any_of HT_.out (by kernel_rfl)) (fun _ _ _ h => h) (Or.inl ⟨by rfl,?_⟩) ?_ ?_
  rotate_left
  ·intro w'
   go_simp
   with_reducible rfl
  rotate_left
  ·simp only [Act.put,yqI,yqs0,yqs1,i64_w,i32_w]
   rfl
  refine pure_ (i := 16) (N := some 49) (v := ?_) (a' := ?_) yq17 rfl rfl (any_of HT_.out (by kernel_rfl)) (fun _ _ _ h => h) (Or.inl ⟨by rfl,?_⟩) ?_ ?_
  rotate_left
  ·intro w'
   go_simp
   with_reducible rfl
  rotate_left
  ·simp only [Act.put,yqI,yqs0,yqs1,i64_w,i32_w]
   rfl
  refine done_ (done_of HT_.out (by kernel_rfl)) ?_
  clear HT_ HW_ hHeld
  clear t1
  go_wp2_with fail
  go_loopw [11] (fun v w' => v = .int .i64 0 ∧ Aside0 (Below w.heap.size w w')) (fun _ _ => 0)
  case atStart => exact ⟨rfl,HB⟩
  case round =>
   clear HB
   obtain ⟨rfl,HB⟩ := hrel
   by_cases hq : 0 < q.length
   ·have t1 : decide ((0 : Int) < (q.length : Int)) = true := decide_eq_true (by omega)
    have t2 : decide (0 < q.length) = true := decide_eq_true hq
    clear hq
    go_wp2_with fail
    refine (fixed_calls _).mono ?_
    rintro e_ wz ⟨rfl,hb⟩
    go_wp2_with fail
    go_ret
    exact ⟨rfl,below_step HB.out hb⟩
   ·have t1 : decide ((0 : Int) < (q.length : Int)) = false := decide_eq_false (by omega)
    have t2 : decide (0 < q.length) = false := decide_eq_false hq
    clear hq
    go_wp2_with fail
    refine (fixed_calls _).mono ?_
    rintro e_ wz ⟨rfl,hb⟩
    go_wp2_with fail
    go_ret
    exact ⟨rfl,below_step HB.out hb⟩
end Go.Proofs.Ytbefoehjlgdcgaa.H
