/-
The walk of SweepDoes.
-/
import Derived.Test.YtbcmjbjhjnojjaaHx
import Derived.Test.YtbcmjbjhjnojjaaSw2
import Derived.Test.YtbcmjbjhjnojjaaDo
namespace Go.Proofs.Ytbcmjbjhjnojjaa.H
open Go.RowKit Go.Proofs.YtbcmjbjhjnojjaaW.PrintWords Go.Proofs.YtbcmjbjhjnojjaaW.PrintLast Go.Proofs.YtbcmjbjhjnojjaaW.PrintMore
attribute [local go_sem] max2_int min2_int max_two min_two max_three min_three max_four min_four
set_option linter.unusedVariables false
set_option linter.unusedSimpArgs false
def zw0 : Array Bool := #[false,false,false,false,false,false,false,false,false,false,false,false,false,false,false,false]
def zw1 : Array Bool := #[false,false,true,false,false,false,false,false,false,false,false,false,false,false,false,false]
def zw2 : Array Bool := #[false,false,true,true,false,false,false,false,false,false,false,false,false,false,false,false]
def zw3 : Array Bool := #[false,false,true,true,true,false,false,false,false,false,false,false,false,false,false,false]
def zw4 : Array Bool := #[true,false,true,true,true,false,false,false,false,false,false,false,false,false,false,false]
def zw5 : Array Bool := #[true,true,true,true,true,false,false,false,false,false,false,false,false,false,false,false]
def zw6 : Array Bool := #[true,true,true,true,true,true,false,false,false,false,false,false,false,false,false,false]
def zw7 : Array Bool := #[true,true,true,true,true,true,true,true,true,true,true,true,true,false,false,false]
def zw8 : Array Bool := #[true,true,true,true,true,true,true,false,false,false,false,false,false,false,false,false]
def zw9 : Array Bool := #[true,true,true,true,true,true,false,false,false,false,false,true,false,false,false,false]
def zw10 : Array Bool := #[true,true,true,true,true,true,false,false,false,false,false,false,true,false,false,false]
def zw11 : Array Bool := #[true,true,true,true,true,true,true,true,false,false,false,false,false,false,false,false]
def zw12 : Array Bool := #[true,true,true,true,true,true,true,true,true,false,false,false,false,false,false,false]
def zw13 : Array Bool := #[true,true,true,true,true,true,true,true,true,true,false,false,false,false,false,false]
def zw14 : Array Bool := #[true,true,true,true,true,true,true,true,true,true,true,false,false,false,false,false]
def zw15 : Array Bool := #[true,true,true,true,true,true,true,true,true,true,true,true,false,false,false,false]
def zw16 : Array Bool := #[true,true,true,true,true,true,true,true,true,true,true,false,true,false,false,false]
def zw17 : Array Bool := #[true,true,true,true,true,true,true,false,false,false,false,true,false,false,false,false]
def zw18 : Array Bool := #[true,true,true,true,true,true,false,false,false,false,false,true,true,false,false,false]
def zw19 : Array Bool := #[true,true,true,true,true,true,true,true,false,false,false,true,false,false,false,false]
def zw20 : Array Bool := #[true,true,true,true,true,true,true,true,true,false,false,true,false,false,false,false]
def zw21 : Array Bool := #[true,true,true,true,true,true,true,true,true,true,false,true,false,false,false,false]
def zw22 : Array Bool := #[true,true,true,true,true,true,true,false,false,false,false,true,true,false,false,false]
def zw23 : Array Bool := #[true,true,true,true,true,true,true,true,false,false,false,true,true,false,false,false]
def zw24 : Array Bool := #[true,true,true,true,true,true,true,true,true,false,false,true,true,false,false,false]
def zw25 : Array Bool := #[true,true,true,true,true,true,true,true,true,true,false,true,true,false,false,false]
def zw26 : Array Bool := #[true,true,true,true,true,true,true,false,false,false,false,false,true,false,false,false]
def zw27 : Array Bool := #[true,true,true,true,true,true,true,true,false,false,false,false,true,false,false,false]
def zw28 : Array Bool := #[true,true,true,true,true,true,true,true,true,false,false,false,true,false,false,false]
def zw29 : Array Bool := #[true,true,true,true,true,true,true,true,true,true,false,false,true,false,false,false]
def zw30 : Array Bool := #[true,true,true,true,true,true,true,true,true,true,true,true,true,true,false,false]
def zw31 : Array Bool := #[true,true,true,true,true,true,true,true,true,true,true,true,true,true,true,false]
def zw32 : Array Bool := #[true,true,true,true,true,true,true,true,true,true,true,true,true,true,true,true]
def zw33 : Array Bool := #[false,false,false,false,false,false,false,false,false,false,false,false,false,false,false,false,false,false,false,false,false,false,false,false,false,false,false,false,false,false,false,false,false,false,false,false,false,false,false]
def zw34 : Array Bool := #[true,false,false,false,false,false,false,false,false,false,false,false,false,false,false,false,false,false,false,false,false,false,false,false,false,false,false,false,false,false,false,false,false,false,false,false,false,false,false]
def zw35 : Array Bool := #[true,true,false,false,false,false,false,false,false,false,false,false,false,false,false,false,false,false,false,false,false,false,false,false,false,false,false,false,false,false,false,false,false,false,false,false,false,false,false]
def zw36 : Array Bool := #[true,true,true,false,false,false,false,false,false,false,false,false,false,false,false,false,false,false,false,false,false,false,false,false,false,false,false,false,false,false,false,false,false,false,false,false,false,false,false]
def zw37 : Array Bool := #[true,true,true,true,false,false,false,false,false,false,false,false,false,false,false,false,false,false,false,false,false,false,false,false,false,false,false,false,false,false,false,false,false,false,false,false,false,false,false]
def zw38 : Array Bool := #[true,true,true,true,true,false,false,false,false,false,false,false,false,false,false,false,false,false,false,false,false,false,false,false,false,false,false,false,false,false,false,false,false,false,false,false,false,false,false]
def zw39 : Array Bool := #[true,true,true,true,true,true,false,false,false,false,false,false,false,false,false,false,false,false,false,false,false,false,false,false,false,false,false,false,false,false,false,false,false,false,false,false,false,false,false]
def zw40 : Array Bool := #[true,true,true,true,true,true,true,false,false,false,false,false,false,false,false,false,false,false,false,false,false,false,false,false,false,false,false,false,false,false,false,false,false,false,false,false,false,false,false]
def zw41 : Array Bool := #[true,true,true,true,true,true,true,true,false,false,false,false,false,false,false,false,false,false,false,false,false,false,false,false,false,false,false,false,false,false,false,false,false,false,false,false,false,false,false]
def zw42 : Array Bool := #[true,true,true,true,true,true,true,true,false,true,false,false,false,false,false,false,false,false,false,false,false,false,false,false,false,false,false,false,false,false,false,false,false,false,false,false,false,false,false]
def zw43 : Array Bool := #[true,true,true,true,true,true,true,true,false,true,false,false,true,false,false,false,false,false,false,false,false,false,false,false,false,false,false,false,false,false,false,false,false,false,false,false,false,false,false]
def zw44 : Array Bool := #[true,true,true,true,true,true,true,true,true,true,false,false,true,false,false,false,false,false,false,false,false,false,false,false,false,false,false,false,false,false,false,false,false,false,false,false,false,false,false]
def zw45 : Array Bool := #[true,true,true,true,true,true,true,true,true,true,false,true,true,false,false,false,false,false,false,false,false,false,false,false,false,false,false,false,false,false,false,false,false,false,false,false,false,false,false]
def zw46 : Array Bool := #[true,true,true,true,true,true,true,true,true,true,true,true,true,false,false,false,false,false,false,false,false,false,false,false,false,false,false,false,false,false,false,false,false,false,false,false,false,false,false]
def zw47 : Array Bool := #[true,true,true,true,true,true,true,true,true,true,true,true,true,true,false,false,false,false,false,false,false,false,false,false,false,false,false,false,false,false,false,false,false,false,false,false,false,false,false]
def zw48 : Array Bool := #[true,true,true,true,true,true,true,true,true,true,true,true,true,true,true,false,false,false,false,false,false,false,false,false,false,false,false,false,false,false,false,false,false,false,false,false,false,false,false]
def zw49 : Array Bool := #[true,true,true,true,true,true,true,true,true,true,true,true,true,true,true,true,false,false,false,false,false,false,false,false,false,false,false,false,false,false,false,false,false,false,false,false,false,false,false]
def zw50 : Array Bool := #[true,true,true,true,true,true,true,true,true,true,true,true,true,true,true,true,true,false,false,false,false,false,false,false,false,false,false,false,false,false,false,false,false,false,false,false,false,false,false]
def zw51 : Array Bool := #[true,true,true,true,true,true,true,true,true,true,true,true,true,true,true,true,true,false,true,false,false,false,false,false,false,false,false,false,false,false,false,false,false,false,false,false,false,false,false]
def zw52 : Array Bool := #[true,true,true,true,true,true,true,true,true,true,true,true,true,true,true,true,true,false,true,false,false,true,false,false,false,false,false,false,false,false,false,false,false,false,false,false,false,false,false]
def zw53 : Array Bool := #[true,true,true,true,true,true,true,true,true,true,true,true,true,true,true,true,true,true,true,false,false,true,false,false,false,false,false,false,false,false,false,false,false,false,false,false,false,false,false]
def zw54 : Array Bool := #[true,true,true,true,true,true,true,true,true,true,true,true,true,true,true,true,true,true,true,false,true,true,false,false,false,false,false,false,false,false,false,false,false,false,false,false,false,false,false]
def zw55 : Array Bool := #[true,true,true,true,true,true,true,true,true,true,true,true,true,true,true,true,true,true,true,true,true,true,false,false,false,false,false,false,false,false,false,false,false,false,false,false,false,false,false]
def zw56 : Array Bool := #[true,true,true,true,true,true,true,true,true,true,true,true,true,true,true,true,true,true,true,true,true,true,true,false,false,false,false,false,false,false,false,false,false,false,false,false,false,false,false]
def zw57 : Array Bool := #[true,true,true,true,true,true,true,true,true,true,true,true,true,true,true,true,true,true,true,true,true,true,true,true,false,false,false,false,false,false,false,false,false,false,false,false,false,false,false]
def zw58 : Array Bool := #[true,true,true,true,true,true,true,true,true,true,true,true,true,true,true,true,true,true,true,true,true,true,true,true,true,false,false,false,false,false,false,false,false,false,false,false,false,false,false]
def zw59 : Array Bool := #[true,true,true,true,true,true,true,true,true,true,true,true,true,true,true,true,true,true,true,true,true,true,true,true,true,true,false,false,false,false,false,false,false,false,false,false,false,false,false]
def zw60 : Array Bool := #[true,true,true,true,true,true,true,true,true,true,true,true,true,true,true,true,true,true,true,true,true,true,true,true,true,true,true,false,false,false,false,false,false,false,false,false,false,false,false]
def zw61 : Array Bool := #[true,true,true,true,true,true,true,true,true,true,true,true,true,true,true,true,true,true,true,true,true,true,true,true,true,true,true,false,true,false,false,false,false,false,false,false,false,false,false]
def zw62 : Array Bool := #[true,true,true,true,true,true,true,true,true,true,true,true,true,true,true,true,true,true,true,true,true,true,true,true,true,true,true,true,true,false,false,false,false,false,false,false,false,false,false]
def zw63 : Array Bool := #[true,true,true,true,true,true,true,true,true,true,true,true,true,true,true,true,true,true,true,true,true,true,true,true,true,true,true,true,true,true,false,false,false,false,false,false,false,false,false]
def zw64 : Array Bool := #[true,true,true,true,true,true,true,true,true,true,true,true,true,true,true,true,true,true,true,true,true,true,true,true,true,true,true,true,true,true,true,false,false,false,false,false,false,false,false]
def zw65 : Array Bool := #[true,true,true,true,true,true,true,true,true,true,true,true,true,true,true,true,true,true,true,true,true,true,true,true,true,true,true,true,true,true,true,true,false,false,false,false,false,false,false]
def zw66 : Array Bool := #[true,true,true,true,true,true,true,true,true,true,true,true,true,true,true,true,true,true,true,true,true,true,true,true,true,true,true,true,true,true,true,true,true,false,false,false,false,false,false]
def zw67 : Array Bool := #[true,true,true,true,true,true,true,true,true,true,true,true,true,true,true,true,true,true,true,true,true,true,true,true,true,true,true,true,true,true,true,true,true,true,false,false,false,false,false]
def zw68 : Array Bool := #[true,true,true,true,true,true,true,true,true,true,true,true,true,true,true,true,true,true,true,true,true,true,true,true,true,true,true,true,true,true,true,true,true,true,false,true,false,false,false]
def zw69 : Array Bool := #[true,true,true,true,true,true,true,true,true,true,true,true,true,true,true,true,true,true,true,true,true,true,true,true,true,true,true,true,true,true,true,true,true,true,true,true,false,false,false]
def zw70 : Array Bool := #[true,true,true,true,true,true,true,true,true,true,true,true,true,true,true,true,true,true,true,true,true,true,true,true,true,true,true,true,true,true,true,true,true,true,true,true,true,false,false]
def zw71 : Array Bool := #[true,true,true,true,true,true,true,true,true,true,true,true,true,true,true,true,true,true,true,true,true,true,true,true,true,true,true,true,true,true,true,true,true,true,true,true,true,true,false]
def zw72 : Array Bool := #[true,true,true,true,true,true,true,true,true,true,true,true,true,true,true,true,true,true,true,true,true,true,true,true,true,true,true,true,true,true,true,true,true,true,true,true,true,true,true]
theorem zwI {α : Type} (l : List α) (i : Nat) (a : α) : l.toArray.setIfInBounds i a = (l.set i a).toArray := List.setIfInBounds_toArray l i a
theorem zws0 {α : Type} (x : α) (l : List α) (a : α) : (x :: l).set 0 a = a :: l := rfl
theorem zws1 {α : Type} (x : α) (l : List α) (i : Nat) (a : α) : (x :: l).set (i + 1) a = x :: l.set i a := rfl
def sweep_does.T5 : Bool × List (List Nat × List Nat) := (true,[([],[]),([],[]),([],[]),([],[]),([2,3],[2,3]),([4],[4]),([0,1,5],[0,1,5]),([6],[6]),([7],[7]),([7],[7]),([7],[7]),([],[]),([],[]),([11,8,6,0,1,2,3,4,5,6,7,8,11,12],[8,11]),([12,9,13,0,1,2,3,4,5,6,7,8,9,11,12,13],[9,12]),([10,14,0,1,2,3,4,5,6,7,8,9,10,11,12,13,14],[10])])
def sweep_does.B5 : List Nat := [0,0,0,0,12,28,63,127,255,255,255,0,0,6655,15359,32767]
theorem sweep_does.tab5 : rtab .any (opsOf Try.f3 5) = sweep_does.T5 := by kernel_rfl
theorem sweep_does.bits5 : waitsOk sweep_does.T5.2 sweep_does.B5 = true := by kernel_rfl
def sweep_does.T6 : Bool × List (List Nat × List Nat) := (true,[([],[]),([0],[0]),([1],[1]),([2],[2]),([3,2,2],[2,3]),([4,2],[2,4]),([2,5],[2,5]),([6,4],[6]),([7],[7]),([7],[7]),([8,9,7,7],[7,8,9]),([7],[7]),([7],[7]),([11,12,10,7],[7,11,12]),([10,13,7],[7,10,13]),([7,14],[7,14]),([15,13],[15]),([16],[16]),([16],[16]),([17,18,16,16],[16,17,18]),([16],[16]),([16],[16]),([20,21,19,16],[16,20,21]),([19,22,16],[16,19,22]),([16,23],[16,23]),([24,22],[24]),([25],[25]),([26,25,25],[25,26]),([25],[25]),([28,27,25],[25,28]),([27,29,25],[25,27,29]),([25,30],[25,30]),([31,29],[31]),([32],[32]),([33,32,32],[32,33]),([32],[32]),([35,34,32],[32,35]),([34,36,32],[32,34,36]),([32,37],[32,37])])
def sweep_does.B6 : List Nat := [0,1,3,7,15,31,63,127,255,255,1023,255,255,8191,16383,32767,65535,131071,131071,524287,131071,131071,4194303,8388607,16777215,33554431,67108863,134217727,67108863,536870911,1073741823,2147483647,4294967295,8589934591,17179869183,8589934591,68719476735,137438953471,274877906943]
theorem sweep_does.tab6 : rtab .any (opsOf Try.f3 6) = sweep_does.T6 := by kernel_rfl
theorem sweep_does.bits6 : waitsOk sweep_does.T6.2 sweep_does.B6 = true := by kernel_rfl
theorem do_own (w0 : World) (Aa : Option Addr) (ca : Nat) (Ab : Option Addr) (cb : Nat) (l : List Int) (v s n : Int) (kind seg nn : Int) (Ao : Option Addr) (co : Nat) (q : List Int) (w : World) (hB : Below w0.heap.size w0 w) (hRa : Kd.R (Kd.int .i64) 3 w w0.heap.size (fun _ => True) (.slice Aa l.length ca) l) (hRb : Kd.R (Kd.int .i64) 3 w w0.heap.size (fun _ => True) (.slice Ab l.length cb) l) (hCo : Kd.C (Kd.int .i64) w Ao q.length q) (hco : q.length ≤ co) (hrt : rt l v s n = true) :
  Calls Try.prog 10 #[.agg #[.slice Aa l.length ca,.int .i64 v,.int .i64 s,.int .i64 n],.agg #[.slice Ab l.length cb,.int .i64 v,.int .i64 s,.int .i64 n],.agg #[.int .i64 kind,.int .i64 seg,.int .i64 nn,.slice Ao q.length co]] w fun e w' => (∃ (r' : List Int) (v1 s1 n1 : Int) (A1 : Option Addr) (d1 : Nat) (A2 : Option Addr) (d2 : Nat),e = .returned (.tuple #[.agg #[.slice A1 r'.length d1,.int .i64 v1,.int .i64 s1,.int .i64 n1],.agg #[.slice A2 r'.length d2,.int .i64 v1,.int .i64 s1,.int .i64 n1],.bool true]) ∧ rt r' v1 s1 n1 = true ∧ Kd.R (Kd.int .i64) 3 w' w0.heap.size (fun _ => True) (.slice A1 r'.length d1) r' ∧ Kd.R (Kd.int .i64) 3 w' w0.heap.size (fun _ => True) (.slice A2 r'.length d2) r') ∧ Below w.heap.size w w' := by
 refine (do_calls Aa ca Ab cb l v s n kind seg nn Ao co q w (Kd.R_reads' hRa).2.2 (Kd.R_reads' hRa).2.1 (Kd.R_reads' hRb).2.2 (Kd.R_reads' hRb).2.1 hCo hco hrt).mono ?_
 rintro e w' ⟨h,hb⟩
 refine ⟨?_,hb⟩
 rcases h with rfl | ⟨r,v',s',n',vx,vy,rfl,hr,hx,hy⟩
 ·exact ⟨l,v,s,n,Aa,ca,Ab,cb,rfl,hrt,Kd.R_below hRa hb,Kd.R_below hRb hb⟩
 ·have hx2 := Kd.R_lower hx (below_size hB)
  have hy2 := Kd.R_lower hy (below_size hB)
  obtain ⟨A1,c1,rfl,_,_⟩ := Kd.R_reads hx
  obtain ⟨A2,c2,rfl,_,_⟩ := Kd.R_reads hy
  exact ⟨r,v',s',n',A1,c1,A2,c2,rfl,hr,hx2,hy2⟩
set_option maxHeartbeats 8000000 in
set_option maxRecDepth 100000 in
theorem SweepDoes_walk0 (Al : Option Addr) (c0 : Nat) (l : List S32) (u8v : Int) (hu8 : 0 ≤ u8v ∧ u8v ≤ 255) (w : World) (hC : Kd.C k32 w Al l.length l) (hc : l.length ≤ c0) :
  Calls Try.prog 3 #[.slice Al l.length c0,.int .u8 u8v] w fun e w' => e = .returned (.bool true) ∧ Below w.heap.size w w' := by
 have HCL := Aside0.mk hC
 have Hc0 := Aside0.mk hc
 clear hC hc
 have HB := Aside0.mk (Below.refl w.heap.size w)
 go_enter Try.func3,Try.ntmps3
 go_wp2_with fail
 refine (sweep_Idle.calls [] (-1) 0 0 _ (by kernel_rfl)).mono ?_
 rintro e_ w1 ⟨va,rfl,hva,hb⟩
 have HVa := Aside0.mk hva
 have HB1 := Aside0.mk hb
 clear hva hb HB
 have HB := HB1
 clear HB1
 go_wp2_with fail
 refine (lodgerref15_Idle.calls [] (-1) 0 0 _ (by kernel_rfl)).mono ?_
 rintro e_ w2 ⟨vb,rfl,hvb,hb⟩
 have HVb := Aside0.mk (Kd.R_lower hvb (below_size HB.out))
 replace HVa := Aside0.mk (Kd.R_below HVa.out hb)
 replace HB := Aside0.mk (below_step HB.out hb)
 clear hvb hb
 obtain ⟨Aa,ca,rfl,_,_⟩ := Kd.R_reads HVa.out
 obtain ⟨Ab,cb,rfl,_,_⟩ := Kd.R_reads HVb.out
 go_upto_region 2 with (first | ((with_reducible refine gate_dst (N := 5) rfl ?_); refine box_event ?hg (N := 5) ?hd (cs := #[.slice none 0 0,.int .i64 0,.int .i64 0,.int .i64 0]) (t := 25) ?hr ?_; (case hd => rfl); (case hg => rfl); (case hr => first | (go_simp; done) | (go_simp; rfl)); intro ga hgo w3 hbox hbb; have HXa := Aside0.mk hbox; have HGa : Aside0 (w.heap.size ≤ ga) := ⟨by rw [hgo]; exact below_size HB.out⟩; have HVa_ := Aside0.mk (Kd.R_below HVa.out hbb); have HVb_ := Aside0.mk (Kd.R_below HVb.out hbb); have HB_ := Aside0.mk (below_step HB.out hbb); clear HVa HVb HB; have HVa := HVa_; have HVb := HVb_; have HB := HB_; clear HVa_ HVb_ HB_; clear hbox hbb hgo) | ((with_reducible refine gate_dst (N := 6) rfl ?_); refine box_event ?hg (N := 6) ?hd (cs := #[.slice none 0 0,.int .i64 0,.int .i64 0,.int .i64 0]) (t := 27) ?hr ?_; (case hd => rfl); (case hg => rfl); (case hr => first | (go_simp; done) | (go_simp; rfl)); intro gb hgo w4 hbox hbb; have HXb := Aside0.mk hbox; have HGb : Aside0 (w.heap.size ≤ gb) := ⟨by rw [hgo]; exact below_size HB.out⟩; have Nab : Aside0 (ga ≠ gb) := ⟨by rw [hgo]; exact Nat.ne_of_lt (blk_lt HXa.out)⟩; have Nba := Aside0.mk (Ne.symm Nab.out); have HXa_ := Aside0.mk (blk_below HXa.out hbb); have HVa_ := Aside0.mk (Kd.R_below HVa.out hbb); have HVb_ := Aside0.mk (Kd.R_below HVb.out hbb); have HB_ := Aside0.mk (below_step HB.out hbb); clear HVa HVb HB HXa; have HXa := HXa_; have HVa := HVa_; have HVb := HVb_; have HB := HB_; clear HVa_ HVb_ HB_ HXa_; have t_0 : w4.cell? ⟨ga,0,none⟩ = some (.slice none 0 0) := (blk_cell HXa.out 0).trans rfl; have t_1 : w4.cell? ⟨ga,1,none⟩ = some (.int .i64 0) := (blk_cell HXa.out 1).trans rfl; have t_2 : w4.cell? ⟨ga,2,none⟩ = some (.int .i64 0) := (blk_cell HXa.out 2).trans rfl; have t_3 : w4.cell? ⟨ga,3,none⟩ = some (.int .i64 0) := (blk_cell HXa.out 3).trans rfl; have tf_0 := blk_frozen HXa.out 0; have tf_1 := blk_frozen HXa.out 1; have tf_2 := blk_frozen HXa.out 2; have tf_3 := blk_frozen HXa.out 3; have n1_ := Nab.out; have n2_ := Nba.out; have y0 : w4.cell? ⟨gb,0,none⟩ = some (.slice none 0 0) := (blk_cell hbox 0).trans rfl; have y1 : w4.cell? ⟨gb,1,none⟩ = some (.int .i64 0) := (blk_cell hbox 1).trans rfl; have y2 : w4.cell? ⟨gb,2,none⟩ = some (.int .i64 0) := (blk_cell hbox 2).trans rfl; have y3 : w4.cell? ⟨gb,3,none⟩ = some (.int .i64 0) := (blk_cell hbox 3).trans rfl; have yf0 := blk_frozen hbox 0; have yf1 := blk_frozen hbox 1; have yf2 := blk_frozen hbox 2; have yf3 := blk_frozen hbox 3; clear hbox hbb hgo))
 clear y0 y1 y2 y3 yf0 yf1 yf2 yf3 n1_ n2_
 clear t_0 t_1 t_2 t_3 tf_0 tf_1 tf_2 tf_3
 obtain ⟨W5,hW⟩ : ∃ W_,W_ = ((((((((w4.setCell ⟨ga,0,none⟩ (.slice Aa 0 ca)).setCell ⟨ga,1,none⟩ (.int .i64 (-1))).setCell ⟨ga,2,none⟩ (.int .i64 (0))).setCell ⟨ga,3,none⟩ (.int .i64 (0))).setCell ⟨gb,0,none⟩ (.slice Ab 0 cb)).setCell ⟨gb,1,none⟩ (.int .i64 (-1))).setCell ⟨gb,2,none⟩ (.int .i64 (0))).setCell ⟨gb,3,none⟩ (.int .i64 (0))) := ⟨_,rfl⟩
 rw [← hW]
 have q1 := (blk_far (blk_far (blk_far (blk_far (blk_set (blk_set (blk_set (blk_set HXa.out 0 (.slice Aa 0 ca)) 1 (.int .i64 (-1))) 2 (.int .i64 (0))) 3 (.int .i64 (0))) (p := ⟨gb,0,none⟩) Nab.out (.slice Ab 0 cb)) (p := ⟨gb,1,none⟩) Nab.out (.int .i64 (-1))) (p := ⟨gb,2,none⟩) Nab.out (.int .i64 (0))) (p := ⟨gb,3,none⟩) Nab.out (.int .i64 (0)))
 simp only [zwI,zws0,zws1] at q1
 have q2 := (blk_set (blk_set (blk_set (blk_set (blk_far (blk_far (blk_far (blk_far HXb.out (p := ⟨ga,0,none⟩) Nba.out (.slice Aa 0 ca)) (p := ⟨ga,1,none⟩) Nba.out (.int .i64 (-1))) (p := ⟨ga,2,none⟩) Nba.out (.int .i64 (0))) (p := ⟨ga,3,none⟩) Nba.out (.int .i64 (0))) 0 (.slice Ab 0 cb)) 1 (.int .i64 (-1))) 2 (.int .i64 (0))) 3 (.int .i64 (0)))
 simp only [zwI,zws0,zws1] at q2
 have p3 := (Kd.R_set (Kd.R_set (Kd.R_set (Kd.R_set HVa.out HXa.out (by decide) 0 (.slice Aa 0 ca)) (blk_set HXa.out 0 (.slice Aa 0 ca)) (by decide) 1 (.int .i64 (-1))) (blk_set (blk_set HXa.out 0 (.slice Aa 0 ca)) 1 (.int .i64 (-1))) (by decide) 2 (.int .i64 (0))) (blk_set (blk_set (blk_set HXa.out 0 (.slice Aa 0 ca)) 1 (.int .i64 (-1))) 2 (.int .i64 (0))) (by decide) 3 (.int .i64 (0)))
 have p4 := (Kd.R_set (Kd.R_set (Kd.R_set (Kd.R_set HVb.out HXa.out (by decide) 0 (.slice Aa 0 ca)) (blk_set HXa.out 0 (.slice Aa 0 ca)) (by decide) 1 (.int .i64 (-1))) (blk_set (blk_set HXa.out 0 (.slice Aa 0 ca)) 1 (.int .i64 (-1))) (by decide) 2 (.int .i64 (0))) (blk_set (blk_set (blk_set HXa.out 0 (.slice Aa 0 ca)) 1 (.int .i64 (-1))) 2 (.int .i64 (0))) (by decide) 3 (.int .i64 (0)))
 have q3 := (Kd.R_set (Kd.R_set (Kd.R_set (Kd.R_set p3 (blk_far (blk_far (blk_far (blk_far HXb.out (p := ⟨ga,0,none⟩) Nba.out (.slice Aa 0 ca)) (p := ⟨ga,1,none⟩) Nba.out (.int .i64 (-1))) (p := ⟨ga,2,none⟩) Nba.out (.int .i64 (0))) (p := ⟨ga,3,none⟩) Nba.out (.int .i64 (0))) (by decide) 0 (.slice Ab 0 cb)) (blk_set (blk_far (blk_far (blk_far (blk_far HXb.out (p := ⟨ga,0,none⟩) Nba.out (.slice Aa 0 ca)) (p := ⟨ga,1,none⟩) Nba.out (.int .i64 (-1))) (p := ⟨ga,2,none⟩) Nba.out (.int .i64 (0))) (p := ⟨ga,3,none⟩) Nba.out (.int .i64 (0))) 0 (.slice Ab 0 cb)) (by decide) 1 (.int .i64 (-1))) (blk_set (blk_set (blk_far (blk_far (blk_far (blk_far HXb.out (p := ⟨ga,0,none⟩) Nba.out (.slice Aa 0 ca)) (p := ⟨ga,1,none⟩) Nba.out (.int .i64 (-1))) (p := ⟨ga,2,none⟩) Nba.out (.int .i64 (0))) (p := ⟨ga,3,none⟩) Nba.out (.int .i64 (0))) 0 (.slice Ab 0 cb)) 1 (.int .i64 (-1))) (by decide) 2 (.int .i64 (0))) (blk_set (blk_set (blk_set (blk_far (blk_far (blk_far (blk_far HXb.out (p := ⟨ga,0,none⟩) Nba.out (.slice Aa 0 ca)) (p := ⟨ga,1,none⟩) Nba.out (.int .i64 (-1))) (p := ⟨ga,2,none⟩) Nba.out (.int .i64 (0))) (p := ⟨ga,3,none⟩) Nba.out (.int .i64 (0))) 0 (.slice Ab 0 cb)) 1 (.int .i64 (-1))) 2 (.int .i64 (0))) (by decide) 3 (.int .i64 (0)))
 have q4 := (Kd.R_set (Kd.R_set (Kd.R_set (Kd.R_set p4 (blk_far (blk_far (blk_far (blk_far HXb.out (p := ⟨ga,0,none⟩) Nba.out (.slice Aa 0 ca)) (p := ⟨ga,1,none⟩) Nba.out (.int .i64 (-1))) (p := ⟨ga,2,none⟩) Nba.out (.int .i64 (0))) (p := ⟨ga,3,none⟩) Nba.out (.int .i64 (0))) (by decide) 0 (.slice Ab 0 cb)) (blk_set (blk_far (blk_far (blk_far (blk_far HXb.out (p := ⟨ga,0,none⟩) Nba.out (.slice Aa 0 ca)) (p := ⟨ga,1,none⟩) Nba.out (.int .i64 (-1))) (p := ⟨ga,2,none⟩) Nba.out (.int .i64 (0))) (p := ⟨ga,3,none⟩) Nba.out (.int .i64 (0))) 0 (.slice Ab 0 cb)) (by decide) 1 (.int .i64 (-1))) (blk_set (blk_set (blk_far (blk_far (blk_far (blk_far HXb.out (p := ⟨ga,0,none⟩) Nba.out (.slice Aa 0 ca)) (p := ⟨ga,1,none⟩) Nba.out (.int .i64 (-1))) (p := ⟨ga,2,none⟩) Nba.out (.int .i64 (0))) (p := ⟨ga,3,none⟩) Nba.out (.int .i64 (0))) 0 (.slice Ab 0 cb)) 1 (.int .i64 (-1))) (by decide) 2 (.int .i64 (0))) (blk_set (blk_set (blk_set (blk_far (blk_far (blk_far (blk_far HXb.out (p := ⟨ga,0,none⟩) Nba.out (.slice Aa 0 ca)) (p := ⟨ga,1,none⟩) Nba.out (.int .i64 (-1))) (p := ⟨ga,2,none⟩) Nba.out (.int .i64 (0))) (p := ⟨ga,3,none⟩) Nba.out (.int .i64 (0))) 0 (.slice Ab 0 cb)) 1 (.int .i64 (-1))) 2 (.int .i64 (0))) (by decide) 3 (.int .i64 (0)))
 have q5 := (below_set (g := gb) (j := 3) (v := .int .i64 (0)) (below_set (g := gb) (j := 2) (v := .int .i64 (0)) (below_set (g := gb) (j := 1) (v := .int .i64 (-1)) (below_set (g := gb) (j := 0) (v := .slice Ab 0 cb) (below_set (g := ga) (j := 3) (v := .int .i64 (0)) (below_set (g := ga) (j := 2) (v := .int .i64 (0)) (below_set (g := ga) (j := 1) (v := .int .i64 (-1)) (below_set (g := ga) (j := 0) (v := .slice Aa 0 ca) HB.out HGa.out) HGa.out) HGa.out) HGa.out) HGb.out) HGb.out) HGb.out) HGb.out)
 rw [← hW] at q1 q2 q3 q4 q5
 clear hW p3 p4 HXa HXb HVa HVb HB
 have HXa := Aside0.mk q1
 have HXb := Aside0.mk q2
 have HVa := Aside0.mk q3
 have HVb := Aside0.mk q4
 have HB := Aside0.mk q5
 clear q1 q2 q3 q4 q5
 obtain ⟨e,he⟩ : ∃ j_ : Int,j_ = u8v % 31 := ⟨_,rfl⟩
 rw [← he]
 clear he
 go_wp2_with fail
 go_loopw [8] (fun v8 w' => ∃ x : Int,Aside0 (0 ≤ x ∧ x ≤ l.length ∧ x ≤ 60) ∧ v8 = .int .i64 x ∧ ∃ (r : List Int) (v s n : Int) (Aa : Option Addr) (ca : Nat) (Ab : Option Addr) (cb : Nat),Aside0 (rt r v s n = true) ∧ Aside0 (Kd.R (Kd.int .i64) 3 w' w.heap.size (fun _ => True) (.slice Aa r.length ca) r) ∧ Aside0 (Kd.R (Kd.int .i64) 3 w' w.heap.size (fun _ => True) (.slice Ab r.length cb) r) ∧ Aside0 (w'.heap[ga]? = some (.cells #[.slice Aa r.length ca,.int .i64 (v),.int .i64 (s),.int .i64 (n)] 25 (0,0))) ∧ Aside0 (w'.heap[gb]? = some (.cells #[.slice Ab r.length cb,.int .i64 (v),.int .i64 (s),.int .i64 (n)] 27 (0,0))) ∧ Aside0 (Below w.heap.size w w')) (fun v8 _ => 60 - (intOf v8).toNat)
 case atStart => exact ⟨0,⟨by omega,by omega,by omega⟩,rfl,[],-1,0,0,Aa,ca,Ab,cb,⟨by decide⟩,HVa,HVb,HXa,HXb,HB⟩
 case round =>
  clear HVa HVb HXa HXb HB
  obtain ⟨x,hx,rfl,r,v,s,n,Aa,ca,Ab,cb,HRT,HVa,HVb,HXa,HXb,HB⟩ := hrel
  have hx64 : x + 1 ≤ 9223372036854775807 := by have := hx.out; omega
  have hx0 := hx.out.1
  by_cases hxl : x < (l.length : Int)
  ·have HLT := Aside0.mk hxl
   have hxl2 := decide_eq_true hxl
   by_cases hx6 : x < 60
   ·have HL6 := Aside0.mk hx6
    have hx62 := decide_eq_true hx6
    obtain ⟨ad,Aq,cq,e1,hp0,hp1,hp2,hp3,hcq,hCq⟩ := at_T32 HCL.out x hx0 hxl
    cases e1
    replace hp0 := Aside0.mk hp0
    replace hp1 := Aside0.mk hp1
    replace hp2 := Aside0.mk hp2
    replace hp3 := Aside0.mk hp3
    have Hcq := Aside0.mk hcq
    have HCq := Aside0.mk hCq
    clear hcq hCq
    have hx0t := eq_true hx0
    have hxlt := eq_true hxl
    clear hx6 hxl hx0
    go_wp2_with fail
    refine start_ (n := 16) (S := fun w' => w'.cell? ⟨ga,0,none⟩ = some (.slice Aa r.length ca) ∧ w'.cell? ⟨ga,1,none⟩ = some (.int .i64 (v)) ∧ w'.cell? ⟨ga,2,none⟩ = some (.int .i64 (s)) ∧ w'.cell? ⟨ga,3,none⟩ = some (.int .i64 (n)) ∧ w'.cell? ⟨gb,0,none⟩ = some (.slice Ab r.length cb) ∧ w'.cell? ⟨gb,1,none⟩ = some (.int .i64 (v)) ∧ w'.cell? ⟨gb,2,none⟩ = some (.int .i64 (s)) ∧ w'.cell? ⟨gb,3,none⟩ = some (.int .i64 (n)) ∧ w'.cell? (ad.add (x.toNat * 4)) = some (.int .i64 (rd_T32 l x).f0) ∧ w'.cell? ⟨(ad.add (x.toNat * 4)).block,(ad.add (x.toNat * 4)).off + 1,none⟩ = some (.int .i64 (rd_T32 l x).f1) ∧ w'.cell? ⟨(ad.add (x.toNat * 4)).block,(ad.add (x.toNat * 4)).off + 2,none⟩ = some (.int .i64 (rd_T32 l x).f2) ∧ w'.cell? ⟨(ad.add (x.toNat * 4)).block,(ad.add (x.toNat * 4)).off + 3,none⟩ = some (.slice Aq (rd_T32 l x).f3.length cq)) (ds := []) zw0 (by kernel_rfl) rfl rfl ⟨((blk_cell (blk_drew HXa.out) 0).trans rfl),((blk_cell (blk_drew HXa.out) 1).trans rfl),((blk_cell (blk_drew HXa.out) 2).trans rfl),((blk_cell (blk_drew HXa.out) 3).trans rfl),((blk_cell (blk_drew HXb.out) 0).trans rfl),((blk_cell (blk_drew HXb.out) 1).trans rfl),((blk_cell (blk_drew HXb.out) 2).trans rfl),((blk_cell (blk_drew HXb.out) 3).trans rfl),(pw_cell_below (below_drew HB.out) hp0.out),(pw_cell_below (below_drew HB.out) hp1.out),(pw_cell_below (below_drew HB.out) hp2.out),(pw_cell_below (below_drew HB.out) hp3.out)⟩ (fun hHeld => ?_)
    refine with_tabW sweep_does.tab5 sweep_does.bits5 (fun HT_ HW_ => ?_)
    replace HXa := Aside0.mk (blk_drew HXa.out)
    replace HXb := Aside0.mk (blk_drew HXb.out)
    replace HVa := Aside0.mk (Kd.R_drew HVa.out)
    replace HVb := Aside0.mk (Kd.R_drew HVb.out)
    replace HB := Aside0.mk (below_drew HB.out)
    generalize wr.drew = wd5 at *
    refine pure_ (i := 2) (N := some 30) (v := ?_) (a' := ?_) zw1 rfl rfl (any_of HT_.out (by kernel_rfl)) (fun _ _ _ h => h) (Or.inl ⟨by rfl,?_⟩) ?_ ?_
    rotate_left
    ·intro w'
     go_simp
     with_reducible rfl
    rotate_left
    ·simp only [Act.put,zwI,zws0,zws1,i64_w,i32_w]
     rfl
    refine pure_ (i := 3) (N := some 31) (v := ?_) (a' := ?_) zw2 rfl rfl (any_of HT_.out (by kernel_rfl)) (fun _ _ _ h => h) (Or.inl ⟨by rfl,?_⟩) ?_ ?_
    rotate_left
    ·intro w'
     go_simp
     with_reducible rfl
    rotate_left
    ·simp only [Act.put,zwI,zws0,zws1,i64_w,i32_w]
     rfl
    refine pure_ (i := 4) (N := some 32) (v := ?_) (a' := ?_) zw3 rfl rfl (any_of HT_.out (by kernel_rfl)) (fun _ _ _ h => h) (Or.inl ⟨by rfl,?_⟩) ?_ ?_
    rotate_left
    ·intro w'
     go_simp
     with_reducible rfl
    rotate_left
    ·simp only [Act.put,zwI,zws0,zws1,i64_w,i32_w]
     rfl
    refine take_ (i := 0) (N := some 28) (v := ?_) (a' := ?_) zw4 rfl rfl (take_ofW HT_.out HW_.out (by kernel_rfl)) (fun _ _ _ h => h) (Or.inl ⟨by rfl,?_⟩) hHeld ?_ ?_
    rotate_left
    ·rintro w' ⟨s0,s1,s2,s3,s4,s5,s6,s7,s8,s9,s10,s11⟩
     go_simp
     with_reducible rfl
    rotate_left
    ·simp only [Act.put,zwI,zws0,zws1,i64_w,i32_w]
     rfl
    refine take_ (i := 1) (N := some 29) (v := ?_) (a' := ?_) zw5 rfl rfl (take_ofW HT_.out HW_.out (by kernel_rfl)) (fun _ _ _ h => h) (Or.inl ⟨by rfl,?_⟩) hHeld ?_ ?_
    rotate_left
    ·rintro w' ⟨s0,s1,s2,s3,s4,s5,s6,s7,s8,s9,s10,s11⟩
     go_simp
     with_reducible rfl
    rotate_left
    ·simp only [Act.put,zwI,zws0,zws1,i64_w,i32_w]
     rfl
    refine take_ (i := 5) (N := some 33) (v := ?_) (a' := ?_) zw6 rfl rfl (take_ofW HT_.out HW_.out (by kernel_rfl)) (fun _ _ _ h => h) (Or.inl ⟨by rfl,?_⟩) hHeld ?_ ?_
    rotate_left
    ·rintro w' ⟨s0,s1,s2,s3,s4,s5,s6,s7,s8,s9,s10,s11⟩
     go_simp
     with_reducible rfl
    rotate_left
    ·simp only [Act.put,zwI,zws0,zws1,i64_w,i32_w]
     rfl
    refine join_ (σ := Nat × Nat × Value × Value × Value) 3 zw7 (fun s_ => [(34,s_.2.2.1),(27,s_.2.2.1),(35,s_.2.2.2.1),(36,s_.2.2.2.2),(37,.bool true),(9,.pointer (some ⟨s_.1,0,none⟩)),(10,.pointer (some ⟨s_.2.1,0,none⟩))]) (fun s_ w' => w'.heap[s_.1]? = some (.cells #[.slice none 0 0,.int .i64 0,.int .i64 0,.int .i64 0] 25 (0,0)) ∧ w'.heap[s_.2.1]? = some (.cells #[.slice none 0 0,.int .i64 0,.int .i64 0,.int .i64 0] 27 (0,0)) ∧ w'.heap[ga]? = some (.cells #[.slice Aa r.length ca,.int .i64 (v),.int .i64 (s),.int .i64 (n)] 25 (0,0)) ∧ w'.heap[gb]? = some (.cells #[.slice Ab r.length cb,.int .i64 (v),.int .i64 (s),.int .i64 (n)] 27 (0,0)) ∧ Below w.heap.size w w' ∧ w.heap.size ≤ s_.1 ∧ w.heap.size ≤ s_.2.1 ∧ ga ≠ s_.1 ∧ gb ≠ s_.1 ∧ ga ≠ s_.2.1 ∧ gb ≠ s_.2.1 ∧ s_.1 ≠ s_.2.1 ∧ (∃ (r' : List Int) (v1 s1 n1 : Int) (A1 : Option Addr) (d1 : Nat) (A2 : Option Addr) (d2 : Nat),s_.2.2.1 = .tuple #[.agg #[.slice A1 r'.length d1,.int .i64 v1,.int .i64 s1,.int .i64 n1],.agg #[.slice A2 r'.length d2,.int .i64 v1,.int .i64 s1,.int .i64 n1],.bool true] ∧ s_.2.2.2.1 = .agg #[.slice A1 r'.length d1,.int .i64 v1,.int .i64 s1,.int .i64 n1] ∧ s_.2.2.2.2 = .agg #[.slice A2 r'.length d2,.int .i64 v1,.int .i64 s1,.int .i64 n1] ∧ rt r' v1 s1 n1 = true ∧ Kd.R (Kd.int .i64) 3 w' w.heap.size (fun _ => True) (.slice A1 r'.length d1) r' ∧ Kd.R (Kd.int .i64) 3 w' w.heap.size (fun _ => True) (.slice A2 r'.length d2) r')) ?_ ?_
    rotate_left
    ·intro hCont
     refine three_ (i := 6) (j := 11) (k := 12) (Ni := some 34) (Nj := some 9) (Nk := some 10) zw8 zw9 zw10 rfl rfl rfl rfl rfl rfl (three_of HT_.out (by kernel_rfl)) (by decide) (by decide) (by decide) (fun K hK => ?_) (fun K hK => ?_) (fun K hK => ?_)
     ·skip
      refine goes_ Try.func10 (by kernel_rfl) rfl #[.agg #[.slice Aa r.length ca,.int .i64 (v),.int .i64 (s),.int .i64 (n)],.agg #[.slice Ab r.length cb,.int .i64 (v),.int .i64 (s),.int .i64 (n)],.agg #[.int .i64 (rd_T32 l x).f0,.int .i64 (rd_T32 l x).f1,.int .i64 (rd_T32 l x).f2,.slice Aq (rd_T32 l x).f3.length cq]] (by rfl) rfl rfl (by simp only [List.map_toArray,List.map_cons,List.map_nil]; rfl) ?_
      with_reducible refine (do_own w Aa ca Ab cb r v s n _ _ _ Aq cq _ _ HB.out HVa.out HVb.out (Kd.C_below HCq.out HB.out) Hcq.out HRT.out).mono ?_
      rintro e_ wf1 ⟨hV,hb⟩
      obtain ⟨r',v1,s1,n1,A1,d1,A2,d2,rfl,hrt1,hr1,hr2⟩ := hV
      refine ⟨_,rfl,?_⟩
      replace HXa := Aside0.mk (blk_below HXa.out hb)
      replace HXb := Aside0.mk (blk_below HXb.out hb)
      replace HVa := Aside0.mk (Kd.R_below HVa.out hb)
      replace HVb := Aside0.mk (Kd.R_below HVb.out hb)
      replace HB := Aside0.mk (below_step HB.out hb)
      have HRT1 := Aside0.mk hrt1
      have HV9 := Aside0.mk hr1
      have HV0 := Aside0.mk hr2
      clear hb hrt1 hr1 hr2
      refine hK.out _ _ ⟨((blk_cell HXa.out 0).trans rfl),((blk_cell HXa.out 1).trans rfl),((blk_cell HXa.out 2).trans rfl),((blk_cell HXa.out 3).trans rfl),((blk_cell HXb.out 0).trans rfl),((blk_cell HXb.out 1).trans rfl),((blk_cell HXb.out 2).trans rfl),((blk_cell HXb.out 3).trans rfl),(pw_cell_below HB.out hp0.out),(pw_cell_below HB.out hp1.out),(pw_cell_below HB.out hp2.out),(pw_cell_below HB.out hp3.out)⟩ (fun hHeld => ?_)
      clear hK K
      refine norm_ (a' := ?_) ?_ ?_
      rotate_left
      ·show Act.put _ (some 34) _ = _
       simp only [Act.put,zwI,zws0,zws1,i64_w,i32_w]
       rfl
      refine pure_ (i := 7) (N := some 27) (v := ?_) (a' := ?_) zw11 rfl rfl (any_of HT_.out (by kernel_rfl)) (fun _ _ _ h => h) (Or.inl ⟨by rfl,?_⟩) ?_ ?_
      rotate_left
      ·intro w'
       go_simp
       with_reducible rfl
      rotate_left
      ·simp only [Act.put,zwI,zws0,zws1,i64_w,i32_w]
       rfl
      refine pure_ (i := 8) (N := some 35) (v := ?_) (a' := ?_) zw12 rfl rfl (any_of HT_.out (by kernel_rfl)) (fun _ _ _ h => h) (Or.inl ⟨by rfl,?_⟩) ?_ ?_
      rotate_left
      ·intro w'
       go_simp
       with_reducible rfl
      rotate_left
      ·simp only [Act.put,zwI,zws0,zws1,i64_w,i32_w]
       rfl
      refine pure_ (i := 9) (N := some 36) (v := ?_) (a' := ?_) zw13 rfl rfl (any_of HT_.out (by kernel_rfl)) (fun _ _ _ h => h) (Or.inl ⟨by rfl,?_⟩) ?_ ?_
      rotate_left
      ·intro w'
       go_simp
       with_reducible rfl
      rotate_left
      ·simp only [Act.put,zwI,zws0,zws1,i64_w,i32_w]
       rfl
      refine pure_ (i := 10) (N := some 37) (v := ?_) (a' := ?_) zw14 rfl rfl (any_of HT_.out (by kernel_rfl)) (fun _ _ _ h => h) (Or.inl ⟨by rfl,?_⟩) ?_ ?_
      rotate_left
      ·intro w'
       go_simp
       with_reducible rfl
      rotate_left
      ·simp only [Act.put,zwI,zws0,zws1,i64_w,i32_w]
       rfl
      refine two_ (i := 11) (j := 12) (Ni := some 9) (Nj := some 10) zw15 zw16 rfl rfl rfl rfl (two_of HT_.out (by kernel_rfl)) (by decide) (by decide) (fun K hK => ?_) (fun K hK => ?_)
      ·skip
       refine value_ (w1 := ?_) (v := ?_) (by rfl) rfl ?_ ?_
       rotate_left 2
       ·go_simp
        constructor
        ·rfl
        ·rfl
       obtain ⟨wf2,hW⟩ : ∃ W_,W_ = wf1.alloc (.cells #[.slice none 0 0,.int .i64 0,.int .i64 0,.int .i64 0] 25) := ⟨_,rfl⟩
       rw [← hW]
       obtain ⟨g9,hg⟩ : ∃ g,g = wf1.heap.size := ⟨_,rfl⟩
       rw [← hg]
       have hb : Below wf1.heap.size wf1 wf2 := by rw [hW]; exact below_alloc (Below.refl _ _) _
       have hx_ : wf2.heap[g9]? = some (.cells #[.slice none 0 0,.int .i64 0,.int .i64 0,.int .i64 0] 25 (0,0)) := by rw [hW,hg]; exact blk_new _ _
       have HG9 : Aside0 (w.heap.size ≤ g9) := ⟨by rw [hg]; exact below_size HB.out⟩
       have Na9 : Aside0 (ga ≠ g9) := ⟨by rw [hg]; exact Nat.ne_of_lt (blk_lt HXa.out)⟩
       have Nb9 : Aside0 (gb ≠ g9) := ⟨by rw [hg]; exact Nat.ne_of_lt (blk_lt HXb.out)⟩
       have N9a := Aside0.mk (Ne.symm Na9.out)
       have N9b := Aside0.mk (Ne.symm Nb9.out)
       replace HXa := Aside0.mk (blk_below HXa.out hb)
       replace HXb := Aside0.mk (blk_below HXb.out hb)
       replace HVa := Aside0.mk (Kd.R_below HVa.out hb)
       replace HVb := Aside0.mk (Kd.R_below HVb.out hb)
       replace HV9 := Aside0.mk (Kd.R_below HV9.out hb)
       replace HV0 := Aside0.mk (Kd.R_below HV0.out hb)
       replace HB := Aside0.mk (below_step HB.out hb)
       have HX9 := Aside0.mk hx_
       clear hx_ hb hg hW
       refine hK.out _ _ ⟨((blk_cell HXa.out 0).trans rfl),((blk_cell HXa.out 1).trans rfl),((blk_cell HXa.out 2).trans rfl),((blk_cell HXa.out 3).trans rfl),((blk_cell HXb.out 0).trans rfl),((blk_cell HXb.out 1).trans rfl),((blk_cell HXb.out 2).trans rfl),((blk_cell HXb.out 3).trans rfl),(pw_cell_below HB.out hp0.out),(pw_cell_below HB.out hp1.out),(pw_cell_below HB.out hp2.out),(pw_cell_below HB.out hp3.out)⟩ (fun hHeld => ?_)
       clear hK K
       refine norm_ (a' := ?_) ?_ ?_
       rotate_left
       ·show Act.put _ (some 9) _ = _
        simp only [Act.put,zwI,zws0,zws1,i64_w,i32_w]
        rfl
       refine one_ (i := 12) (N := some 10) zw7 rfl rfl (one_of HT_.out (by kernel_rfl)) (by decide) (fun K hK => ?_)
       refine value_ (w1 := ?_) (v := ?_) (by rfl) rfl ?_ ?_
       rotate_left 2
       ·go_simp
        constructor
        ·rfl
        ·rfl
       obtain ⟨wf3,hW⟩ : ∃ W_,W_ = wf2.alloc (.cells #[.slice none 0 0,.int .i64 0,.int .i64 0,.int .i64 0] 27) := ⟨_,rfl⟩
       rw [← hW]
       obtain ⟨g0,hg⟩ : ∃ g,g = wf2.heap.size := ⟨_,rfl⟩
       rw [← hg]
       have hb : Below wf2.heap.size wf2 wf3 := by rw [hW]; exact below_alloc (Below.refl _ _) _
       have hx_ : wf3.heap[g0]? = some (.cells #[.slice none 0 0,.int .i64 0,.int .i64 0,.int .i64 0] 27 (0,0)) := by rw [hW,hg]; exact blk_new _ _
       have HG0 : Aside0 (w.heap.size ≤ g0) := ⟨by rw [hg]; exact below_size HB.out⟩
       have Na0 : Aside0 (ga ≠ g0) := ⟨by rw [hg]; exact Nat.ne_of_lt (blk_lt HXa.out)⟩
       have Nb0 : Aside0 (gb ≠ g0) := ⟨by rw [hg]; exact Nat.ne_of_lt (blk_lt HXb.out)⟩
       have N90 : Aside0 (g9 ≠ g0) := ⟨by rw [hg]; exact Nat.ne_of_lt (blk_lt HX9.out)⟩
       have N0a := Aside0.mk (Ne.symm Na0.out)
       have N0b := Aside0.mk (Ne.symm Nb0.out)
       have N09 := Aside0.mk (Ne.symm N90.out)
       replace HXa := Aside0.mk (blk_below HXa.out hb)
       replace HXb := Aside0.mk (blk_below HXb.out hb)
       replace HX9 := Aside0.mk (blk_below HX9.out hb)
       replace HVa := Aside0.mk (Kd.R_below HVa.out hb)
       replace HVb := Aside0.mk (Kd.R_below HVb.out hb)
       replace HV9 := Aside0.mk (Kd.R_below HV9.out hb)
       replace HV0 := Aside0.mk (Kd.R_below HV0.out hb)
       replace HB := Aside0.mk (below_step HB.out hb)
       have HX0 := Aside0.mk hx_
       clear hx_ hb hg hW
       refine hK.out _ _ ⟨((blk_cell HXa.out 0).trans rfl),((blk_cell HXa.out 1).trans rfl),((blk_cell HXa.out 2).trans rfl),((blk_cell HXa.out 3).trans rfl),((blk_cell HXb.out 0).trans rfl),((blk_cell HXb.out 1).trans rfl),((blk_cell HXb.out 2).trans rfl),((blk_cell HXb.out 3).trans rfl),(pw_cell_below HB.out hp0.out),(pw_cell_below HB.out hp1.out),(pw_cell_below HB.out hp2.out),(pw_cell_below HB.out hp3.out)⟩ (fun hHeld => ?_)
       clear hK K
       refine norm_ (a' := ?_) ?_ ?_
       rotate_left
       ·show Act.put _ (some 10) _ = _
        simp only [Act.put,zwI,zws0,zws1,i64_w,i32_w]
        rfl
       exact norm_ (by first | (simp only [putAll,Act.put,zwI,zws0,zws1]; done) | (simp only [putAll,Act.put,zwI,zws0,zws1]; rfl)) (hCont (g9,g0,.tuple #[.agg #[.slice A1 r'.length d1,.int .i64 v1,.int .i64 s1,.int .i64 n1],.agg #[.slice A2 r'.length d2,.int .i64 v1,.int .i64 s1,.int .i64 n1],.bool true],.agg #[.slice A1 r'.length d1,.int .i64 v1,.int .i64 s1,.int .i64 n1],.agg #[.slice A2 r'.length d2,.int .i64 v1,.int .i64 s1,.int .i64 n1]) _ ⟨HX9.out,HX0.out,HXa.out,HXb.out,HB.out,HG9.out,HG0.out,Na9.out,Nb9.out,Na0.out,Nb0.out,N90.out,r',v1,s1,n1,A1,d1,A2,d2,rfl,rfl,rfl,HRT1.out,HV9.out,HV0.out⟩)
      ·skip
       refine value_ (w1 := ?_) (v := ?_) (by rfl) rfl ?_ ?_
       rotate_left 2
       ·go_simp
        constructor
        ·rfl
        ·rfl
       obtain ⟨wf2,hW⟩ : ∃ W_,W_ = wf1.alloc (.cells #[.slice none 0 0,.int .i64 0,.int .i64 0,.int .i64 0] 27) := ⟨_,rfl⟩
       rw [← hW]
       obtain ⟨g0,hg⟩ : ∃ g,g = wf1.heap.size := ⟨_,rfl⟩
       rw [← hg]
       have hb : Below wf1.heap.size wf1 wf2 := by rw [hW]; exact below_alloc (Below.refl _ _) _
       have hx_ : wf2.heap[g0]? = some (.cells #[.slice none 0 0,.int .i64 0,.int .i64 0,.int .i64 0] 27 (0,0)) := by rw [hW,hg]; exact blk_new _ _
       have HG0 : Aside0 (w.heap.size ≤ g0) := ⟨by rw [hg]; exact below_size HB.out⟩
       have Na0 : Aside0 (ga ≠ g0) := ⟨by rw [hg]; exact Nat.ne_of_lt (blk_lt HXa.out)⟩
       have Nb0 : Aside0 (gb ≠ g0) := ⟨by rw [hg]; exact Nat.ne_of_lt (blk_lt HXb.out)⟩
       have N0a := Aside0.mk (Ne.symm Na0.out)
       have N0b := Aside0.mk (Ne.symm Nb0.out)
       replace HXa := Aside0.mk (blk_below HXa.out hb)
       replace HXb := Aside0.mk (blk_below HXb.out hb)
       replace HVa := Aside0.mk (Kd.R_below HVa.out hb)
       replace HVb := Aside0.mk (Kd.R_below HVb.out hb)
       replace HV9 := Aside0.mk (Kd.R_below HV9.out hb)
       replace HV0 := Aside0.mk (Kd.R_below HV0.out hb)
       replace HB := Aside0.mk (below_step HB.out hb)
       have HX0 := Aside0.mk hx_
       clear hx_ hb hg hW
       refine hK.out _ _ ⟨((blk_cell HXa.out 0).trans rfl),((blk_cell HXa.out 1).trans rfl),((blk_cell HXa.out 2).trans rfl),((blk_cell HXa.out 3).trans rfl),((blk_cell HXb.out 0).trans rfl),((blk_cell HXb.out 1).trans rfl),((blk_cell HXb.out 2).trans rfl),((blk_cell HXb.out 3).trans rfl),(pw_cell_below HB.out hp0.out),(pw_cell_below HB.out hp1.out),(pw_cell_below HB.out hp2.out),(pw_cell_below HB.out hp3.out)⟩ (fun hHeld => ?_)
       clear hK K
       refine norm_ (a' := ?_) ?_ ?_
       rotate_left
       ·show Act.put _ (some 10) _ = _
        simp only [Act.put,zwI,zws0,zws1,i64_w,i32_w]
        rfl
       refine one_ (i := 11) (N := some 9) zw7 rfl rfl (one_of HT_.out (by kernel_rfl)) (by decide) (fun K hK => ?_)
       refine value_ (w1 := ?_) (v := ?_) (by rfl) rfl ?_ ?_
       rotate_left 2
       ·go_simp
        constructor
        ·rfl
        ·rfl
       obtain ⟨wf3,hW⟩ : ∃ W_,W_ = wf2.alloc (.cells #[.slice none 0 0,.int .i64 0,.int .i64 0,.int .i64 0] 25) := ⟨_,rfl⟩
       rw [← hW]
       obtain ⟨g9,hg⟩ : ∃ g,g = wf2.heap.size := ⟨_,rfl⟩
       rw [← hg]
       have hb : Below wf2.heap.size wf2 wf3 := by rw [hW]; exact below_alloc (Below.refl _ _) _
       have hx_ : wf3.heap[g9]? = some (.cells #[.slice none 0 0,.int .i64 0,.int .i64 0,.int .i64 0] 25 (0,0)) := by rw [hW,hg]; exact blk_new _ _
       have HG9 : Aside0 (w.heap.size ≤ g9) := ⟨by rw [hg]; exact below_size HB.out⟩
       have Na9 : Aside0 (ga ≠ g9) := ⟨by rw [hg]; exact Nat.ne_of_lt (blk_lt HXa.out)⟩
       have Nb9 : Aside0 (gb ≠ g9) := ⟨by rw [hg]; exact Nat.ne_of_lt (blk_lt HXb.out)⟩
       have N09 : Aside0 (g0 ≠ g9) := ⟨by rw [hg]; exact Nat.ne_of_lt (blk_lt HX0.out)⟩
       have N9a := Aside0.mk (Ne.symm Na9.out)
       have N9b := Aside0.mk (Ne.symm Nb9.out)
       have N90 := Aside0.mk (Ne.symm N09.out)
       replace HXa := Aside0.mk (blk_below HXa.out hb)
       replace HXb := Aside0.mk (blk_below HXb.out hb)
       replace HX0 := Aside0.mk (blk_below HX0.out hb)
       replace HVa := Aside0.mk (Kd.R_below HVa.out hb)
       replace HVb := Aside0.mk (Kd.R_below HVb.out hb)
       replace HV9 := Aside0.mk (Kd.R_below HV9.out hb)
       replace HV0 := Aside0.mk (Kd.R_below HV0.out hb)
       replace HB := Aside0.mk (below_step HB.out hb)
       have HX9 := Aside0.mk hx_
       clear hx_ hb hg hW
       refine hK.out _ _ ⟨((blk_cell HXa.out 0).trans rfl),((blk_cell HXa.out 1).trans rfl),((blk_cell HXa.out 2).trans rfl),((blk_cell HXa.out 3).trans rfl),((blk_cell HXb.out 0).trans rfl),((blk_cell HXb.out 1).trans rfl),((blk_cell HXb.out 2).trans rfl),((blk_cell HXb.out 3).trans rfl),(pw_cell_below HB.out hp0.out),(pw_cell_below HB.out hp1.out),(pw_cell_below HB.out hp2.out),(pw_cell_below HB.out hp3.out)⟩ (fun hHeld => ?_)
       clear hK K
       refine norm_ (a' := ?_) ?_ ?_
       rotate_left
       ·show Act.put _ (some 9) _ = _
        simp only [Act.put,zwI,zws0,zws1,i64_w,i32_w]
        rfl
       exact norm_ (by first | (simp only [putAll,Act.put,zwI,zws0,zws1]; done) | (simp only [putAll,Act.put,zwI,zws0,zws1]; rfl)) (hCont (g9,g0,.tuple #[.agg #[.slice A1 r'.length d1,.int .i64 v1,.int .i64 s1,.int .i64 n1],.agg #[.slice A2 r'.length d2,.int .i64 v1,.int .i64 s1,.int .i64 n1],.bool true],.agg #[.slice A1 r'.length d1,.int .i64 v1,.int .i64 s1,.int .i64 n1],.agg #[.slice A2 r'.length d2,.int .i64 v1,.int .i64 s1,.int .i64 n1]) _ ⟨HX9.out,HX0.out,HXa.out,HXb.out,HB.out,HG9.out,HG0.out,Na9.out,Nb9.out,Na0.out,Nb0.out,N90.out,r',v1,s1,n1,A1,d1,A2,d2,rfl,rfl,rfl,HRT1.out,HV9.out,HV0.out⟩)
     ·skip
      refine value_ (w1 := ?_) (v := ?_) (by rfl) rfl ?_ ?_
      rotate_left 2
      ·go_simp
       constructor
       ·rfl
       ·rfl
      obtain ⟨wf1,hW⟩ : ∃ W_,W_ = wd5.alloc (.cells #[.slice none 0 0,.int .i64 0,.int .i64 0,.int .i64 0] 25) := ⟨_,rfl⟩
      rw [← hW]
      obtain ⟨g9,hg⟩ : ∃ g,g = wd5.heap.size := ⟨_,rfl⟩
      rw [← hg]
      have hb : Below wd5.heap.size wd5 wf1 := by rw [hW]; exact below_alloc (Below.refl _ _) _
      have hx_ : wf1.heap[g9]? = some (.cells #[.slice none 0 0,.int .i64 0,.int .i64 0,.int .i64 0] 25 (0,0)) := by rw [hW,hg]; exact blk_new _ _
      have HG9 : Aside0 (w.heap.size ≤ g9) := ⟨by rw [hg]; exact below_size HB.out⟩
      have Na9 : Aside0 (ga ≠ g9) := ⟨by rw [hg]; exact Nat.ne_of_lt (blk_lt HXa.out)⟩
      have Nb9 : Aside0 (gb ≠ g9) := ⟨by rw [hg]; exact Nat.ne_of_lt (blk_lt HXb.out)⟩
      have N9a := Aside0.mk (Ne.symm Na9.out)
      have N9b := Aside0.mk (Ne.symm Nb9.out)
      replace HXa := Aside0.mk (blk_below HXa.out hb)
      replace HXb := Aside0.mk (blk_below HXb.out hb)
      replace HVa := Aside0.mk (Kd.R_below HVa.out hb)
      replace HVb := Aside0.mk (Kd.R_below HVb.out hb)
      replace HB := Aside0.mk (below_step HB.out hb)
      have HX9 := Aside0.mk hx_
      clear hx_ hb hg hW
      refine hK.out _ _ ⟨((blk_cell HXa.out 0).trans rfl),((blk_cell HXa.out 1).trans rfl),((blk_cell HXa.out 2).trans rfl),((blk_cell HXa.out 3).trans rfl),((blk_cell HXb.out 0).trans rfl),((blk_cell HXb.out 1).trans rfl),((blk_cell HXb.out 2).trans rfl),((blk_cell HXb.out 3).trans rfl),(pw_cell_below HB.out hp0.out),(pw_cell_below HB.out hp1.out),(pw_cell_below HB.out hp2.out),(pw_cell_below HB.out hp3.out)⟩ (fun hHeld => ?_)
      clear hK K
      refine norm_ (a' := ?_) ?_ ?_
      rotate_left
      ·show Act.put _ (some 9) _ = _
       simp only [Act.put,zwI,zws0,zws1,i64_w,i32_w]
       rfl
      refine two_ (i := 6) (j := 12) (Ni := some 34) (Nj := some 10) zw17 zw18 rfl rfl rfl rfl (two_of HT_.out (by kernel_rfl)) (by decide) (by decide) (fun K hK => ?_) (fun K hK => ?_)
      ·skip
       refine goes_ Try.func10 (by kernel_rfl) rfl #[.agg #[.slice Aa r.length ca,.int .i64 (v),.int .i64 (s),.int .i64 (n)],.agg #[.slice Ab r.length cb,.int .i64 (v),.int .i64 (s),.int .i64 (n)],.agg #[.int .i64 (rd_T32 l x).f0,.int .i64 (rd_T32 l x).f1,.int .i64 (rd_T32 l x).f2,.slice Aq (rd_T32 l x).f3.length cq]] (by rfl) rfl rfl (by simp only [List.map_toArray,List.map_cons,List.map_nil]; rfl) ?_
       with_reducible refine (do_own w Aa ca Ab cb r v s n _ _ _ Aq cq _ _ HB.out HVa.out HVb.out (Kd.C_below HCq.out HB.out) Hcq.out HRT.out).mono ?_
       rintro e_ wf2 ⟨hV,hb⟩
       obtain ⟨r',v1,s1,n1,A1,d1,A2,d2,rfl,hrt1,hr1,hr2⟩ := hV
       refine ⟨_,rfl,?_⟩
       replace HXa := Aside0.mk (blk_below HXa.out hb)
       replace HXb := Aside0.mk (blk_below HXb.out hb)
       replace HX9 := Aside0.mk (blk_below HX9.out hb)
       replace HVa := Aside0.mk (Kd.R_below HVa.out hb)
       replace HVb := Aside0.mk (Kd.R_below HVb.out hb)
       replace HB := Aside0.mk (below_step HB.out hb)
       have HRT1 := Aside0.mk hrt1
       have HV9 := Aside0.mk hr1
       have HV0 := Aside0.mk hr2
       clear hb hrt1 hr1 hr2
       refine hK.out _ _ ⟨((blk_cell HXa.out 0).trans rfl),((blk_cell HXa.out 1).trans rfl),((blk_cell HXa.out 2).trans rfl),((blk_cell HXa.out 3).trans rfl),((blk_cell HXb.out 0).trans rfl),((blk_cell HXb.out 1).trans rfl),((blk_cell HXb.out 2).trans rfl),((blk_cell HXb.out 3).trans rfl),(pw_cell_below HB.out hp0.out),(pw_cell_below HB.out hp1.out),(pw_cell_below HB.out hp2.out),(pw_cell_below HB.out hp3.out)⟩ (fun hHeld => ?_)
       clear hK K
       refine norm_ (a' := ?_) ?_ ?_
       rotate_left
       ·show Act.put _ (some 34) _ = _
        simp only [Act.put,zwI,zws0,zws1,i64_w,i32_w]
        rfl
       refine pure_ (i := 7) (N := some 27) (v := ?_) (a' := ?_) zw19 rfl rfl (any_of HT_.out (by kernel_rfl)) (fun _ _ _ h => h) (Or.inl ⟨by rfl,?_⟩) ?_ ?_
       rotate_left
       ·intro w'
        go_simp
        with_reducible rfl
       rotate_left
       ·simp only [Act.put,zwI,zws0,zws1,i64_w,i32_w]
        rfl
       refine pure_ (i := 8) (N := some 35) (v := ?_) (a' := ?_) zw20 rfl rfl (any_of HT_.out (by kernel_rfl)) (fun _ _ _ h => h) (Or.inl ⟨by rfl,?_⟩) ?_ ?_
       rotate_left
       ·intro w'
        go_simp
        with_reducible rfl
       rotate_left
       ·simp only [Act.put,zwI,zws0,zws1,i64_w,i32_w]
        rfl
       refine pure_ (i := 9) (N := some 36) (v := ?_) (a' := ?_) zw21 rfl rfl (any_of HT_.out (by kernel_rfl)) (fun _ _ _ h => h) (Or.inl ⟨by rfl,?_⟩) ?_ ?_
       rotate_left
       ·intro w'
        go_simp
        with_reducible rfl
       rotate_left
       ·simp only [Act.put,zwI,zws0,zws1,i64_w,i32_w]
        rfl
       refine pure_ (i := 10) (N := some 37) (v := ?_) (a' := ?_) zw15 rfl rfl (any_of HT_.out (by kernel_rfl)) (fun _ _ _ h => h) (Or.inl ⟨by rfl,?_⟩) ?_ ?_
       rotate_left
       ·intro w'
        go_simp
        with_reducible rfl
       rotate_left
       ·simp only [Act.put,zwI,zws0,zws1,i64_w,i32_w]
        rfl
       refine one_ (i := 12) (N := some 10) zw7 rfl rfl (one_of HT_.out (by kernel_rfl)) (by decide) (fun K hK => ?_)
       refine value_ (w1 := ?_) (v := ?_) (by rfl) rfl ?_ ?_
       rotate_left 2
       ·go_simp
        constructor
        ·rfl
        ·rfl
       obtain ⟨wf3,hW⟩ : ∃ W_,W_ = wf2.alloc (.cells #[.slice none 0 0,.int .i64 0,.int .i64 0,.int .i64 0] 27) := ⟨_,rfl⟩
       rw [← hW]
       obtain ⟨g0,hg⟩ : ∃ g,g = wf2.heap.size := ⟨_,rfl⟩
       rw [← hg]
       have hb : Below wf2.heap.size wf2 wf3 := by rw [hW]; exact below_alloc (Below.refl _ _) _
       have hx_ : wf3.heap[g0]? = some (.cells #[.slice none 0 0,.int .i64 0,.int .i64 0,.int .i64 0] 27 (0,0)) := by rw [hW,hg]; exact blk_new _ _
       have HG0 : Aside0 (w.heap.size ≤ g0) := ⟨by rw [hg]; exact below_size HB.out⟩
       have Na0 : Aside0 (ga ≠ g0) := ⟨by rw [hg]; exact Nat.ne_of_lt (blk_lt HXa.out)⟩
       have Nb0 : Aside0 (gb ≠ g0) := ⟨by rw [hg]; exact Nat.ne_of_lt (blk_lt HXb.out)⟩
       have N90 : Aside0 (g9 ≠ g0) := ⟨by rw [hg]; exact Nat.ne_of_lt (blk_lt HX9.out)⟩
       have N0a := Aside0.mk (Ne.symm Na0.out)
       have N0b := Aside0.mk (Ne.symm Nb0.out)
       have N09 := Aside0.mk (Ne.symm N90.out)
       replace HXa := Aside0.mk (blk_below HXa.out hb)
       replace HXb := Aside0.mk (blk_below HXb.out hb)
       replace HX9 := Aside0.mk (blk_below HX9.out hb)
       replace HVa := Aside0.mk (Kd.R_below HVa.out hb)
       replace HVb := Aside0.mk (Kd.R_below HVb.out hb)
       replace HV9 := Aside0.mk (Kd.R_below HV9.out hb)
       replace HV0 := Aside0.mk (Kd.R_below HV0.out hb)
       replace HB := Aside0.mk (below_step HB.out hb)
       have HX0 := Aside0.mk hx_
       clear hx_ hb hg hW
       refine hK.out _ _ ⟨((blk_cell HXa.out 0).trans rfl),((blk_cell HXa.out 1).trans rfl),((blk_cell HXa.out 2).trans rfl),((blk_cell HXa.out 3).trans rfl),((blk_cell HXb.out 0).trans rfl),((blk_cell HXb.out 1).trans rfl),((blk_cell HXb.out 2).trans rfl),((blk_cell HXb.out 3).trans rfl),(pw_cell_below HB.out hp0.out),(pw_cell_below HB.out hp1.out),(pw_cell_below HB.out hp2.out),(pw_cell_below HB.out hp3.out)⟩ (fun hHeld => ?_)
       clear hK K
       refine norm_ (a' := ?_) ?_ ?_
       rotate_left
       ·show Act.put _ (some 10) _ = _
        simp only [Act.put,zwI,zws0,zws1,i64_w,i32_w]
        rfl
       exact norm_ (by first | (simp only [putAll,Act.put,zwI,zws0,zws1]; done) | (simp only [putAll,Act.put,zwI,zws0,zws1]; rfl)) (hCont (g9,g0,.tuple #[.agg #[.slice A1 r'.length d1,.int .i64 v1,.int .i64 s1,.int .i64 n1],.agg #[.slice A2 r'.length d2,.int .i64 v1,.int .i64 s1,.int .i64 n1],.bool true],.agg #[.slice A1 r'.length d1,.int .i64 v1,.int .i64 s1,.int .i64 n1],.agg #[.slice A2 r'.length d2,.int .i64 v1,.int .i64 s1,.int .i64 n1]) _ ⟨HX9.out,HX0.out,HXa.out,HXb.out,HB.out,HG9.out,HG0.out,Na9.out,Nb9.out,Na0.out,Nb0.out,N90.out,r',v1,s1,n1,A1,d1,A2,d2,rfl,rfl,rfl,HRT1.out,HV9.out,HV0.out⟩)
      ·skip
       refine value_ (w1 := ?_) (v := ?_) (by rfl) rfl ?_ ?_
       rotate_left 2
       ·go_simp
        constructor
        ·rfl
        ·rfl
       obtain ⟨wf2,hW⟩ : ∃ W_,W_ = wf1.alloc (.cells #[.slice none 0 0,.int .i64 0,.int .i64 0,.int .i64 0] 27) := ⟨_,rfl⟩
       rw [← hW]
       obtain ⟨g0,hg⟩ : ∃ g,g = wf1.heap.size := ⟨_,rfl⟩
       rw [← hg]
       have hb : Below wf1.heap.size wf1 wf2 := by rw [hW]; exact below_alloc (Below.refl _ _) _
       have hx_ : wf2.heap[g0]? = some (.cells #[.slice none 0 0,.int .i64 0,.int .i64 0,.int .i64 0] 27 (0,0)) := by rw [hW,hg]; exact blk_new _ _
       have HG0 : Aside0 (w.heap.size ≤ g0) := ⟨by rw [hg]; exact below_size HB.out⟩
       have Na0 : Aside0 (ga ≠ g0) := ⟨by rw [hg]; exact Nat.ne_of_lt (blk_lt HXa.out)⟩
       have Nb0 : Aside0 (gb ≠ g0) := ⟨by rw [hg]; exact Nat.ne_of_lt (blk_lt HXb.out)⟩
       have N90 : Aside0 (g9 ≠ g0) := ⟨by rw [hg]; exact Nat.ne_of_lt (blk_lt HX9.out)⟩
       have N0a := Aside0.mk (Ne.symm Na0.out)
       have N0b := Aside0.mk (Ne.symm Nb0.out)
       have N09 := Aside0.mk (Ne.symm N90.out)
       replace HXa := Aside0.mk (blk_below HXa.out hb)
       replace HXb := Aside0.mk (blk_below HXb.out hb)
       replace HX9 := Aside0.mk (blk_below HX9.out hb)
       replace HVa := Aside0.mk (Kd.R_below HVa.out hb)
       replace HVb := Aside0.mk (Kd.R_below HVb.out hb)
       replace HB := Aside0.mk (below_step HB.out hb)
       have HX0 := Aside0.mk hx_
       clear hx_ hb hg hW
       refine hK.out _ _ ⟨((blk_cell HXa.out 0).trans rfl),((blk_cell HXa.out 1).trans rfl),((blk_cell HXa.out 2).trans rfl),((blk_cell HXa.out 3).trans rfl),((blk_cell HXb.out 0).trans rfl),((blk_cell HXb.out 1).trans rfl),((blk_cell HXb.out 2).trans rfl),((blk_cell HXb.out 3).trans rfl),(pw_cell_below HB.out hp0.out),(pw_cell_below HB.out hp1.out),(pw_cell_below HB.out hp2.out),(pw_cell_below HB.out hp3.out)⟩ (fun hHeld => ?_)
       clear hK K
       refine norm_ (a' := ?_) ?_ ?_
       rotate_left
       ·show Act.put _ (some 10) _ = _
        simp only [Act.put,zwI,zws0,zws1,i64_w,i32_w]
        rfl
       refine one_ (i := 6) (N := some 34) zw22 rfl rfl (one_of HT_.out (by kernel_rfl)) (by decide) (fun K hK => ?_)
       refine goes_ Try.func10 (by kernel_rfl) rfl #[.agg #[.slice Aa r.length ca,.int .i64 (v),.int .i64 (s),.int .i64 (n)],.agg #[.slice Ab r.length cb,.int .i64 (v),.int .i64 (s),.int .i64 (n)],.agg #[.int .i64 (rd_T32 l x).f0,.int .i64 (rd_T32 l x).f1,.int .i64 (rd_T32 l x).f2,.slice Aq (rd_T32 l x).f3.length cq]] (by rfl) rfl rfl (by simp only [List.map_toArray,List.map_cons,List.map_nil]; rfl) ?_
       with_reducible refine (do_own w Aa ca Ab cb r v s n _ _ _ Aq cq _ _ HB.out HVa.out HVb.out (Kd.C_below HCq.out HB.out) Hcq.out HRT.out).mono ?_
       rintro e_ wf3 ⟨hV,hb⟩
       obtain ⟨r',v1,s1,n1,A1,d1,A2,d2,rfl,hrt1,hr1,hr2⟩ := hV
       refine ⟨_,rfl,?_⟩
       replace HXa := Aside0.mk (blk_below HXa.out hb)
       replace HXb := Aside0.mk (blk_below HXb.out hb)
       replace HX9 := Aside0.mk (blk_below HX9.out hb)
       replace HX0 := Aside0.mk (blk_below HX0.out hb)
       replace HVa := Aside0.mk (Kd.R_below HVa.out hb)
       replace HVb := Aside0.mk (Kd.R_below HVb.out hb)
       replace HB := Aside0.mk (below_step HB.out hb)
       have HRT1 := Aside0.mk hrt1
       have HV9 := Aside0.mk hr1
       have HV0 := Aside0.mk hr2
       clear hb hrt1 hr1 hr2
       refine hK.out _ _ ⟨((blk_cell HXa.out 0).trans rfl),((blk_cell HXa.out 1).trans rfl),((blk_cell HXa.out 2).trans rfl),((blk_cell HXa.out 3).trans rfl),((blk_cell HXb.out 0).trans rfl),((blk_cell HXb.out 1).trans rfl),((blk_cell HXb.out 2).trans rfl),((blk_cell HXb.out 3).trans rfl),(pw_cell_below HB.out hp0.out),(pw_cell_below HB.out hp1.out),(pw_cell_below HB.out hp2.out),(pw_cell_below HB.out hp3.out)⟩ (fun hHeld => ?_)
       clear hK K
       refine norm_ (a' := ?_) ?_ ?_
       rotate_left
       ·show Act.put _ (some 34) _ = _
        simp only [Act.put,zwI,zws0,zws1,i64_w,i32_w]
        rfl
       refine pure_ (i := 7) (N := some 27) (v := ?_) (a' := ?_) zw23 rfl rfl (any_of HT_.out (by kernel_rfl)) (fun _ _ _ h => h) (Or.inl ⟨by rfl,?_⟩) ?_ ?_
       rotate_left
       ·intro w'
        go_simp
        with_reducible rfl
       rotate_left
       ·simp only [Act.put,zwI,zws0,zws1,i64_w,i32_w]
        rfl
       refine pure_ (i := 8) (N := some 35) (v := ?_) (a' := ?_) zw24 rfl rfl (any_of HT_.out (by kernel_rfl)) (fun _ _ _ h => h) (Or.inl ⟨by rfl,?_⟩) ?_ ?_
       rotate_left
       ·intro w'
        go_simp
        with_reducible rfl
       rotate_left
       ·simp only [Act.put,zwI,zws0,zws1,i64_w,i32_w]
        rfl
       refine pure_ (i := 9) (N := some 36) (v := ?_) (a' := ?_) zw25 rfl rfl (any_of HT_.out (by kernel_rfl)) (fun _ _ _ h => h) (Or.inl ⟨by rfl,?_⟩) ?_ ?_
       rotate_left
       ·intro w'
        go_simp
        with_reducible rfl
       rotate_left
       ·simp only [Act.put,zwI,zws0,zws1,i64_w,i32_w]
        rfl
       refine pure_ (i := 10) (N := some 37) (v := ?_) (a' := ?_) zw7 rfl rfl (any_of HT_.out (by kernel_rfl)) (fun _ _ _ h => h) (Or.inl ⟨by rfl,?_⟩) ?_ ?_
       rotate_left
       ·intro w'
        go_simp
        with_reducible rfl
       rotate_left
       ·simp only [Act.put,zwI,zws0,zws1,i64_w,i32_w]
        rfl
       exact norm_ (by first | (simp only [putAll,Act.put,zwI,zws0,zws1]; done) | (simp only [putAll,Act.put,zwI,zws0,zws1]; rfl)) (hCont (g9,g0,.tuple #[.agg #[.slice A1 r'.length d1,.int .i64 v1,.int .i64 s1,.int .i64 n1],.agg #[.slice A2 r'.length d2,.int .i64 v1,.int .i64 s1,.int .i64 n1],.bool true],.agg #[.slice A1 r'.length d1,.int .i64 v1,.int .i64 s1,.int .i64 n1],.agg #[.slice A2 r'.length d2,.int .i64 v1,.int .i64 s1,.int .i64 n1]) _ ⟨HX9.out,HX0.out,HXa.out,HXb.out,HB.out,HG9.out,HG0.out,Na9.out,Nb9.out,Na0.out,Nb0.out,N90.out,r',v1,s1,n1,A1,d1,A2,d2,rfl,rfl,rfl,HRT1.out,HV9.out,HV0.out⟩)
     ·skip
      refine value_ (w1 := ?_) (v := ?_) (by rfl) rfl ?_ ?_
      rotate_left 2
      ·go_simp
       constructor
       ·rfl
       ·rfl
      obtain ⟨wf1,hW⟩ : ∃ W_,W_ = wd5.alloc (.cells #[.slice none 0 0,.int .i64 0,.int .i64 0,.int .i64 0] 27) := ⟨_,rfl⟩
      rw [← hW]
      obtain ⟨g0,hg⟩ : ∃ g,g = wd5.heap.size := ⟨_,rfl⟩
      rw [← hg]
      have hb : Below wd5.heap.size wd5 wf1 := by rw [hW]; exact below_alloc (Below.refl _ _) _
      have hx_ : wf1.heap[g0]? = some (.cells #[.slice none 0 0,.int .i64 0,.int .i64 0,.int .i64 0] 27 (0,0)) := by rw [hW,hg]; exact blk_new _ _
      have HG0 : Aside0 (w.heap.size ≤ g0) := ⟨by rw [hg]; exact below_size HB.out⟩
      have Na0 : Aside0 (ga ≠ g0) := ⟨by rw [hg]; exact Nat.ne_of_lt (blk_lt HXa.out)⟩
      have Nb0 : Aside0 (gb ≠ g0) := ⟨by rw [hg]; exact Nat.ne_of_lt (blk_lt HXb.out)⟩
      have N0a := Aside0.mk (Ne.symm Na0.out)
      have N0b := Aside0.mk (Ne.symm Nb0.out)
      replace HXa := Aside0.mk (blk_below HXa.out hb)
      replace HXb := Aside0.mk (blk_below HXb.out hb)
      replace HVa := Aside0.mk (Kd.R_below HVa.out hb)
      replace HVb := Aside0.mk (Kd.R_below HVb.out hb)
      replace HB := Aside0.mk (below_step HB.out hb)
      have HX0 := Aside0.mk hx_
      clear hx_ hb hg hW
      refine hK.out _ _ ⟨((blk_cell HXa.out 0).trans rfl),((blk_cell HXa.out 1).trans rfl),((blk_cell HXa.out 2).trans rfl),((blk_cell HXa.out 3).trans rfl),((blk_cell HXb.out 0).trans rfl),((blk_cell HXb.out 1).trans rfl),((blk_cell HXb.out 2).trans rfl),((blk_cell HXb.out 3).trans rfl),(pw_cell_below HB.out hp0.out),(pw_cell_below HB.out hp1.out),(pw_cell_below HB.out hp2.out),(pw_cell_below HB.out hp3.out)⟩ (fun hHeld => ?_)
      clear hK K
      refine norm_ (a' := ?_) ?_ ?_
      rotate_left
      ·show Act.put _ (some 10) _ = _
       simp only [Act.put,zwI,zws0,zws1,i64_w,i32_w]
       rfl
      refine two_ (i := 6) (j := 11) (Ni := some 34) (Nj := some 9) zw26 zw18 rfl rfl rfl rfl (two_of HT_.out (by kernel_rfl)) (by decide) (by decide) (fun K hK => ?_) (fun K hK => ?_)
      ·skip
       refine goes_ Try.func10 (by kernel_rfl) rfl #[.agg #[.slice Aa r.length ca,.int .i64 (v),.int .i64 (s),.int .i64 (n)],.agg #[.slice Ab r.length cb,.int .i64 (v),.int .i64 (s),.int .i64 (n)],.agg #[.int .i64 (rd_T32 l x).f0,.int .i64 (rd_T32 l x).f1,.int .i64 (rd_T32 l x).f2,.slice Aq (rd_T32 l x).f3.length cq]] (by rfl) rfl rfl (by simp only [List.map_toArray,List.map_cons,List.map_nil]; rfl) ?_
       with_reducible refine (do_own w Aa ca Ab cb r v s n _ _ _ Aq cq _ _ HB.out HVa.out HVb.out (Kd.C_below HCq.out HB.out) Hcq.out HRT.out).mono ?_
       rintro e_ wf2 ⟨hV,hb⟩
       obtain ⟨r',v1,s1,n1,A1,d1,A2,d2,rfl,hrt1,hr1,hr2⟩ := hV
       refine ⟨_,rfl,?_⟩
       replace HXa := Aside0.mk (blk_below HXa.out hb)
       replace HXb := Aside0.mk (blk_below HXb.out hb)
       replace HX0 := Aside0.mk (blk_below HX0.out hb)
       replace HVa := Aside0.mk (Kd.R_below HVa.out hb)
       replace HVb := Aside0.mk (Kd.R_below HVb.out hb)
       replace HB := Aside0.mk (below_step HB.out hb)
       have HRT1 := Aside0.mk hrt1
       have HV9 := Aside0.mk hr1
       have HV0 := Aside0.mk hr2
       clear hb hrt1 hr1 hr2
       refine hK.out _ _ ⟨((blk_cell HXa.out 0).trans rfl),((blk_cell HXa.out 1).trans rfl),((blk_cell HXa.out 2).trans rfl),((blk_cell HXa.out 3).trans rfl),((blk_cell HXb.out 0).trans rfl),((blk_cell HXb.out 1).trans rfl),((blk_cell HXb.out 2).trans rfl),((blk_cell HXb.out 3).trans rfl),(pw_cell_below HB.out hp0.out),(pw_cell_below HB.out hp1.out),(pw_cell_below HB.out hp2.out),(pw_cell_below HB.out hp3.out)⟩ (fun hHeld => ?_)
       clear hK K
       refine norm_ (a' := ?_) ?_ ?_
       rotate_left
       ·show Act.put _ (some 34) _ = _
        simp only [Act.put,zwI,zws0,zws1,i64_w,i32_w]
        rfl
       refine pure_ (i := 7) (N := some 27) (v := ?_) (a' := ?_) zw27 rfl rfl (any_of HT_.out (by kernel_rfl)) (fun _ _ _ h => h) (Or.inl ⟨by rfl,?_⟩) ?_ ?_
       rotate_left
       ·intro w'
        go_simp
        with_reducible rfl
       rotate_left
       ·simp only [Act.put,zwI,zws0,zws1,i64_w,i32_w]
        rfl
       refine pure_ (i := 8) (N := some 35) (v := ?_) (a' := ?_) zw28 rfl rfl (any_of HT_.out (by kernel_rfl)) (fun _ _ _ h => h) (Or.inl ⟨by rfl,?_⟩) ?_ ?_
       rotate_left
       ·intro w'
        go_simp
        with_reducible rfl
       rotate_left
       ·simp only [Act.put,zwI,zws0,zws1,i64_w,i32_w]
        rfl
       refine pure_ (i := 9) (N := some 36) (v := ?_) (a' := ?_) zw29 rfl rfl (any_of HT_.out (by kernel_rfl)) (fun _ _ _ h => h) (Or.inl ⟨by rfl,?_⟩) ?_ ?_
       rotate_left
       ·intro w'
        go_simp
        with_reducible rfl
       rotate_left
       ·simp only [Act.put,zwI,zws0,zws1,i64_w,i32_w]
        rfl
       refine pure_ (i := 10) (N := some 37) (v := ?_) (a' := ?_) zw16 rfl rfl (any_of HT_.out (by kernel_rfl)) (fun _ _ _ h => h) (Or.inl ⟨by rfl,?_⟩) ?_ ?_
       rotate_left
       ·intro w'
        go_simp
        with_reducible rfl
       rotate_left
       ·simp only [Act.put,zwI,zws0,zws1,i64_w,i32_w]
        rfl
       refine one_ (i := 11) (N := some 9) zw7 rfl rfl (one_of HT_.out (by kernel_rfl)) (by decide) (fun K hK => ?_)
       refine value_ (w1 := ?_) (v := ?_) (by rfl) rfl ?_ ?_
       rotate_left 2
       ·go_simp
        constructor
        ·rfl
        ·rfl
       obtain ⟨wf3,hW⟩ : ∃ W_,W_ = wf2.alloc (.cells #[.slice none 0 0,.int .i64 0,.int .i64 0,.int .i64 0] 25) := ⟨_,rfl⟩
       rw [← hW]
       obtain ⟨g9,hg⟩ : ∃ g,g = wf2.heap.size := ⟨_,rfl⟩
       rw [← hg]
       have hb : Below wf2.heap.size wf2 wf3 := by rw [hW]; exact below_alloc (Below.refl _ _) _
       have hx_ : wf3.heap[g9]? = some (.cells #[.slice none 0 0,.int .i64 0,.int .i64 0,.int .i64 0] 25 (0,0)) := by rw [hW,hg]; exact blk_new _ _
       have HG9 : Aside0 (w.heap.size ≤ g9) := ⟨by rw [hg]; exact below_size HB.out⟩
       have Na9 : Aside0 (ga ≠ g9) := ⟨by rw [hg]; exact Nat.ne_of_lt (blk_lt HXa.out)⟩
       have Nb9 : Aside0 (gb ≠ g9) := ⟨by rw [hg]; exact Nat.ne_of_lt (blk_lt HXb.out)⟩
       have N09 : Aside0 (g0 ≠ g9) := ⟨by rw [hg]; exact Nat.ne_of_lt (blk_lt HX0.out)⟩
       have N9a := Aside0.mk (Ne.symm Na9.out)
       have N9b := Aside0.mk (Ne.symm Nb9.out)
       have N90 := Aside0.mk (Ne.symm N09.out)
       replace HXa := Aside0.mk (blk_below HXa.out hb)
       replace HXb := Aside0.mk (blk_below HXb.out hb)
       replace HX0 := Aside0.mk (blk_below HX0.out hb)
       replace HVa := Aside0.mk (Kd.R_below HVa.out hb)
       replace HVb := Aside0.mk (Kd.R_below HVb.out hb)
       replace HV9 := Aside0.mk (Kd.R_below HV9.out hb)
       replace HV0 := Aside0.mk (Kd.R_below HV0.out hb)
       replace HB := Aside0.mk (below_step HB.out hb)
       have HX9 := Aside0.mk hx_
       clear hx_ hb hg hW
       refine hK.out _ _ ⟨((blk_cell HXa.out 0).trans rfl),((blk_cell HXa.out 1).trans rfl),((blk_cell HXa.out 2).trans rfl),((blk_cell HXa.out 3).trans rfl),((blk_cell HXb.out 0).trans rfl),((blk_cell HXb.out 1).trans rfl),((blk_cell HXb.out 2).trans rfl),((blk_cell HXb.out 3).trans rfl),(pw_cell_below HB.out hp0.out),(pw_cell_below HB.out hp1.out),(pw_cell_below HB.out hp2.out),(pw_cell_below HB.out hp3.out)⟩ (fun hHeld => ?_)
       clear hK K
       refine norm_ (a' := ?_) ?_ ?_
       rotate_left
       ·show Act.put _ (some 9) _ = _
        simp only [Act.put,zwI,zws0,zws1,i64_w,i32_w]
        rfl
       exact norm_ (by first | (simp only [putAll,Act.put,zwI,zws0,zws1]; done) | (simp only [putAll,Act.put,zwI,zws0,zws1]; rfl)) (hCont (g9,g0,.tuple #[.agg #[.slice A1 r'.length d1,.int .i64 v1,.int .i64 s1,.int .i64 n1],.agg #[.slice A2 r'.length d2,.int .i64 v1,.int .i64 s1,.int .i64 n1],.bool true],.agg #[.slice A1 r'.length d1,.int .i64 v1,.int .i64 s1,.int .i64 n1],.agg #[.slice A2 r'.length d2,.int .i64 v1,.int .i64 s1,.int .i64 n1]) _ ⟨HX9.out,HX0.out,HXa.out,HXb.out,HB.out,HG9.out,HG0.out,Na9.out,Nb9.out,Na0.out,Nb0.out,N90.out,r',v1,s1,n1,A1,d1,A2,d2,rfl,rfl,rfl,HRT1.out,HV9.out,HV0.out⟩)
      ·skip
       refine value_ (w1 := ?_) (v := ?_) (by rfl) rfl ?_ ?_
       rotate_left 2
       ·go_simp
        constructor
        ·rfl
        ·rfl
       obtain ⟨wf2,hW⟩ : ∃ W_,W_ = wf1.alloc (.cells #[.slice none 0 0,.int .i64 0,.int .i64 0,.int .i64 0] 25) := ⟨_,rfl⟩
       rw [← hW]
       obtain ⟨g9,hg⟩ : ∃ g,g = wf1.heap.size := ⟨_,rfl⟩
       rw [← hg]
       have hb : Below wf1.heap.size wf1 wf2 := by rw [hW]; exact below_alloc (Below.refl _ _) _
       have hx_ : wf2.heap[g9]? = some (.cells #[.slice none 0 0,.int .i64 0,.int .i64 0,.int .i64 0] 25 (0,0)) := by rw [hW,hg]; exact blk_new _ _
       have HG9 : Aside0 (w.heap.size ≤ g9) := ⟨by rw [hg]; exact below_size HB.out⟩
       have Na9 : Aside0 (ga ≠ g9) := ⟨by rw [hg]; exact Nat.ne_of_lt (blk_lt HXa.out)⟩
       have Nb9 : Aside0 (gb ≠ g9) := ⟨by rw [hg]; exact Nat.ne_of_lt (blk_lt HXb.out)⟩
       have N09 : Aside0 (g0 ≠ g9) := ⟨by rw [hg]; exact Nat.ne_of_lt (blk_lt HX0.out)⟩
       have N9a := Aside0.mk (Ne.symm Na9.out)
       have N9b := Aside0.mk (Ne.symm Nb9.out)
       have N90 := Aside0.mk (Ne.symm N09.out)
       replace HXa := Aside0.mk (blk_below HXa.out hb)
       replace HXb := Aside0.mk (blk_below HXb.out hb)
       replace HX0 := Aside0.mk (blk_below HX0.out hb)
       replace HVa := Aside0.mk (Kd.R_below HVa.out hb)
       replace HVb := Aside0.mk (Kd.R_below HVb.out hb)
       replace HB := Aside0.mk (below_step HB.out hb)
       have HX9 := Aside0.mk hx_
       clear hx_ hb hg hW
       refine hK.out _ _ ⟨((blk_cell HXa.out 0).trans rfl),((blk_cell HXa.out 1).trans rfl),((blk_cell HXa.out 2).trans rfl),((blk_cell HXa.out 3).trans rfl),((blk_cell HXb.out 0).trans rfl),((blk_cell HXb.out 1).trans rfl),((blk_cell HXb.out 2).trans rfl),((blk_cell HXb.out 3).trans rfl),(pw_cell_below HB.out hp0.out),(pw_cell_below HB.out hp1.out),(pw_cell_below HB.out hp2.out),(pw_cell_below HB.out hp3.out)⟩ (fun hHeld => ?_)
       clear hK K
       refine norm_ (a' := ?_) ?_ ?_
       rotate_left
       ·show Act.put _ (some 9) _ = _
        simp only [Act.put,zwI,zws0,zws1,i64_w,i32_w]
        rfl
       refine one_ (i := 6) (N := some 34) zw22 rfl rfl (one_of HT_.out (by kernel_rfl)) (by decide) (fun K hK => ?_)
       refine goes_ Try.func10 (by kernel_rfl) rfl #[.agg #[.slice Aa r.length ca,.int .i64 (v),.int .i64 (s),.int .i64 (n)],.agg #[.slice Ab r.length cb,.int .i64 (v),.int .i64 (s),.int .i64 (n)],.agg #[.int .i64 (rd_T32 l x).f0,.int .i64 (rd_T32 l x).f1,.int .i64 (rd_T32 l x).f2,.slice Aq (rd_T32 l x).f3.length cq]] (by rfl) rfl rfl (by simp only [List.map_toArray,List.map_cons,List.map_nil]; rfl) ?_
       with_reducible refine (do_own w Aa ca Ab cb r v s n _ _ _ Aq cq _ _ HB.out HVa.out HVb.out (Kd.C_below HCq.out HB.out) Hcq.out HRT.out).mono ?_
       rintro e_ wf3 ⟨hV,hb⟩
       obtain ⟨r',v1,s1,n1,A1,d1,A2,d2,rfl,hrt1,hr1,hr2⟩ := hV
       refine ⟨_,rfl,?_⟩
       replace HXa := Aside0.mk (blk_below HXa.out hb)
       replace HXb := Aside0.mk (blk_below HXb.out hb)
       replace HX9 := Aside0.mk (blk_below HX9.out hb)
       replace HX0 := Aside0.mk (blk_below HX0.out hb)
       replace HVa := Aside0.mk (Kd.R_below HVa.out hb)
       replace HVb := Aside0.mk (Kd.R_below HVb.out hb)
       replace HB := Aside0.mk (below_step HB.out hb)
       have HRT1 := Aside0.mk hrt1
       have HV9 := Aside0.mk hr1
       have HV0 := Aside0.mk hr2
       clear hb hrt1 hr1 hr2
       refine hK.out _ _ ⟨((blk_cell HXa.out 0).trans rfl),((blk_cell HXa.out 1).trans rfl),((blk_cell HXa.out 2).trans rfl),((blk_cell HXa.out 3).trans rfl),((blk_cell HXb.out 0).trans rfl),((blk_cell HXb.out 1).trans rfl),((blk_cell HXb.out 2).trans rfl),((blk_cell HXb.out 3).trans rfl),(pw_cell_below HB.out hp0.out),(pw_cell_below HB.out hp1.out),(pw_cell_below HB.out hp2.out),(pw_cell_below HB.out hp3.out)⟩ (fun hHeld => ?_)
       clear hK K
       refine norm_ (a' := ?_) ?_ ?_
       rotate_left
       ·show Act.put _ (some 34) _ = _
        simp only [Act.put,zwI,zws0,zws1,i64_w,i32_w]
        rfl
       refine pure_ (i := 7) (N := some 27) (v := ?_) (a' := ?_) zw23 rfl rfl (any_of HT_.out (by kernel_rfl)) (fun _ _ _ h => h) (Or.inl ⟨by rfl,?_⟩) ?_ ?_
       rotate_left
       ·intro w'
        go_simp
        with_reducible rfl
       rotate_left
       ·simp only [Act.put,zwI,zws0,zws1,i64_w,i32_w]
        rfl
       refine pure_ (i := 8) (N := some 35) (v := ?_) (a' := ?_) zw24 rfl rfl (any_of HT_.out (by kernel_rfl)) (fun _ _ _ h => h) (Or.inl ⟨by rfl,?_⟩) ?_ ?_
       rotate_left
       ·intro w'
        go_simp
        with_reducible rfl
       rotate_left
       ·simp only [Act.put,zwI,zws0,zws1,i64_w,i32_w]
        rfl
       refine pure_ (i := 9) (N := some 36) (v := ?_) (a' := ?_) zw25 rfl rfl (any_of HT_.out (by kernel_rfl)) (fun _ _ _ h => h) (Or.inl ⟨by rfl,?_⟩) ?_ ?_
       rotate_left
       ·intro w'
        go_simp
        with_reducible rfl
       rotate_left
       ·simp only [Act.put,zwI,zws0,zws1,i64_w,i32_w]
        rfl
       refine pure_ (i := 10) (N := some 37) (v := ?_) (a' := ?_) zw7 rfl rfl (any_of HT_.out (by kernel_rfl)) (fun _ _ _ h => h) (Or.inl ⟨by rfl,?_⟩) ?_ ?_
       rotate_left
       ·intro w'
        go_simp
        with_reducible rfl
       rotate_left
       ·simp only [Act.put,zwI,zws0,zws1,i64_w,i32_w]
        rfl
       exact norm_ (by first | (simp only [putAll,Act.put,zwI,zws0,zws1]; done) | (simp only [putAll,Act.put,zwI,zws0,zws1]; rfl)) (hCont (g9,g0,.tuple #[.agg #[.slice A1 r'.length d1,.int .i64 v1,.int .i64 s1,.int .i64 n1],.agg #[.slice A2 r'.length d2,.int .i64 v1,.int .i64 s1,.int .i64 n1],.bool true],.agg #[.slice A1 r'.length d1,.int .i64 v1,.int .i64 s1,.int .i64 n1],.agg #[.slice A2 r'.length d2,.int .i64 v1,.int .i64 s1,.int .i64 n1]) _ ⟨HX9.out,HX0.out,HXa.out,HXb.out,HB.out,HG9.out,HG0.out,Na9.out,Nb9.out,Na0.out,Nb0.out,N90.out,r',v1,s1,n1,A1,d1,A2,d2,rfl,rfl,rfl,HRT1.out,HV9.out,HV0.out⟩)
    rintro ⟨g9,g0,V,VX,VY⟩ w9 ⟨h9,h0,ha,hb_,hb,hl9,hl0,na9,nb9,na0,nb0,n90,r',v1,s1,n1,A1,d1,A2,d2,hV,hVX,hVY,hrt1,hr1,hr2⟩
    dsimp only at h9 h0 hl9 hl0 na9 nb9 na0 nb0 n90 hV hVX hVY
    subst hV hVX hVY
    clear HXa HXb HB HVa HVb
    have HX9 := Aside0.mk h9
    have HX0 := Aside0.mk h0
    have HXa := Aside0.mk ha
    have HXb := Aside0.mk hb_
    have HB := Aside0.mk hb
    have HG9 := Aside0.mk hl9
    have HG0 := Aside0.mk hl0
    have HRT1 := Aside0.mk hrt1
    have HV9 := Aside0.mk hr1
    have HV0 := Aside0.mk hr2
    have Na9 := Aside0.mk na9
    have Nb9 := Aside0.mk nb9
    have Na0 := Aside0.mk na0
    have Nb0 := Aside0.mk nb0
    have N90 := Aside0.mk n90
    have N9a := Aside0.mk (Ne.symm na9)
    have N9b := Aside0.mk (Ne.symm nb9)
    have N0a := Aside0.mk (Ne.symm na0)
    have N0b := Aside0.mk (Ne.symm nb0)
    have N09 := Aside0.mk (Ne.symm n90)
    clear h9 h0 ha hb_ hb hl9 hl0 hrt1 hr1 hr2 na9 nb9 na0 nb0 n90
    have hHeld : (fun w' => w'.cell? ⟨ga,0,none⟩ = some (.slice Aa r.length ca) ∧ w'.cell? ⟨ga,1,none⟩ = some (.int .i64 (v)) ∧ w'.cell? ⟨ga,2,none⟩ = some (.int .i64 (s)) ∧ w'.cell? ⟨ga,3,none⟩ = some (.int .i64 (n)) ∧ w'.cell? ⟨gb,0,none⟩ = some (.slice Ab r.length cb) ∧ w'.cell? ⟨gb,1,none⟩ = some (.int .i64 (v)) ∧ w'.cell? ⟨gb,2,none⟩ = some (.int .i64 (s)) ∧ w'.cell? ⟨gb,3,none⟩ = some (.int .i64 (n)) ∧ w'.cell? (ad.add (x.toNat * 4)) = some (.int .i64 (rd_T32 l x).f0) ∧ w'.cell? ⟨(ad.add (x.toNat * 4)).block,(ad.add (x.toNat * 4)).off + 1,none⟩ = some (.int .i64 (rd_T32 l x).f1) ∧ w'.cell? ⟨(ad.add (x.toNat * 4)).block,(ad.add (x.toNat * 4)).off + 2,none⟩ = some (.int .i64 (rd_T32 l x).f2) ∧ w'.cell? ⟨(ad.add (x.toNat * 4)).block,(ad.add (x.toNat * 4)).off + 3,none⟩ = some (.slice Aq (rd_T32 l x).f3.length cq)) w9 := ⟨((blk_cell HXa.out 0).trans rfl),((blk_cell HXa.out 1).trans rfl),((blk_cell HXa.out 2).trans rfl),((blk_cell HXa.out 3).trans rfl),((blk_cell HXb.out 0).trans rfl),((blk_cell HXb.out 1).trans rfl),((blk_cell HXb.out 2).trans rfl),((blk_cell HXb.out 3).trans rfl),(pw_cell_below HB.out hp0.out),(pw_cell_below HB.out hp1.out),(pw_cell_below HB.out hp2.out),(pw_cell_below HB.out hp3.out)⟩
    refine norm_ (a' := ?_) ?_ ?_
    rotate_left
    ·simp only [putAll,Act.put,zwI,zws0,zws1]
     rfl
    refine one_ (i := 13) (N := none) zw30 rfl rfl (one_of HT_.out (by kernel_rfl)) (by decide) (fun K hK => ?_)
    have z_0 : w9.cell? ⟨g9,0,none⟩ = some (.slice none 0 0) := (blk_cell HX9.out 0).trans rfl
    have z_1 : w9.cell? ⟨g9,1,none⟩ = some (.int .i64 0) := (blk_cell HX9.out 1).trans rfl
    have z_2 : w9.cell? ⟨g9,2,none⟩ = some (.int .i64 0) := (blk_cell HX9.out 2).trans rfl
    have z_3 : w9.cell? ⟨g9,3,none⟩ = some (.int .i64 0) := (blk_cell HX9.out 3).trans rfl
    have zf_0 := blk_frozen HX9.out 0
    have zf_1 := blk_frozen HX9.out 1
    have zf_2 := blk_frozen HX9.out 2
    have zf_3 := blk_frozen HX9.out 3
    refine skip_ (w1 := ?_) (by rfl) rfl ?_ ?_
    rotate_left
    ·go_simp
     rfl
    clear z_0 z_1 z_2 z_3 zf_0 zf_1 zf_2 zf_3
    obtain ⟨w10,hW⟩ : ∃ W_,W_ = ((((w9.setCell ⟨g9,0,none⟩ (.slice A1 r'.length d1)).setCell ⟨g9,1,none⟩ (.int .i64 (v1))).setCell ⟨g9,2,none⟩ (.int .i64 (s1))).setCell ⟨g9,3,none⟩ (.int .i64 (n1))) := ⟨_,rfl⟩
    rw [← hW]
    replace HXa := Aside0.mk (far4 hW HXa.out Na9.out)
    replace HXb := Aside0.mk (far4 hW HXb.out Nb9.out)
    replace HX0 := Aside0.mk (far4 hW HX0.out N09.out)
    replace HV9 := Aside0.mk (rset4 hW HX9.out HV9.out (by decide))
    replace HV0 := Aside0.mk (rset4 hW HX9.out HV0.out (by decide))
    replace HX9 := Aside0.mk (set4 hW HX9.out)
    replace HB := Aside0.mk (below4 hW HB.out HG9.out)
    clear hW
    refine hK.out _ _ ⟨((blk_cell HXa.out 0).trans rfl),((blk_cell HXa.out 1).trans rfl),((blk_cell HXa.out 2).trans rfl),((blk_cell HXa.out 3).trans rfl),((blk_cell HXb.out 0).trans rfl),((blk_cell HXb.out 1).trans rfl),((blk_cell HXb.out 2).trans rfl),((blk_cell HXb.out 3).trans rfl),(pw_cell_below HB.out hp0.out),(pw_cell_below HB.out hp1.out),(pw_cell_below HB.out hp2.out),(pw_cell_below HB.out hp3.out)⟩ (fun hHeld => ?_)
    clear hK K
    refine one_ (i := 14) (N := none) zw31 rfl rfl (one_of HT_.out (by kernel_rfl)) (by decide) (fun K hK => ?_)
    have z_0 : w10.cell? ⟨g0,0,none⟩ = some (.slice none 0 0) := (blk_cell HX0.out 0).trans rfl
    have z_1 : w10.cell? ⟨g0,1,none⟩ = some (.int .i64 0) := (blk_cell HX0.out 1).trans rfl
    have z_2 : w10.cell? ⟨g0,2,none⟩ = some (.int .i64 0) := (blk_cell HX0.out 2).trans rfl
    have z_3 : w10.cell? ⟨g0,3,none⟩ = some (.int .i64 0) := (blk_cell HX0.out 3).trans rfl
    have zf_0 := blk_frozen HX0.out 0
    have zf_1 := blk_frozen HX0.out 1
    have zf_2 := blk_frozen HX0.out 2
    have zf_3 := blk_frozen HX0.out 3
    refine skip_ (w1 := ?_) (by rfl) rfl ?_ ?_
    rotate_left
    ·go_simp
     rfl
    clear z_0 z_1 z_2 z_3 zf_0 zf_1 zf_2 zf_3
    obtain ⟨w11,hW⟩ : ∃ W_,W_ = ((((w10.setCell ⟨g0,0,none⟩ (.slice A2 r'.length d2)).setCell ⟨g0,1,none⟩ (.int .i64 (v1))).setCell ⟨g0,2,none⟩ (.int .i64 (s1))).setCell ⟨g0,3,none⟩ (.int .i64 (n1))) := ⟨_,rfl⟩
    rw [← hW]
    replace HXa := Aside0.mk (far4 hW HXa.out Na0.out)
    replace HXb := Aside0.mk (far4 hW HXb.out Nb0.out)
    replace HX9 := Aside0.mk (far4 hW HX9.out N90.out)
    replace HV9 := Aside0.mk (rset4 hW HX0.out HV9.out (by decide))
    replace HV0 := Aside0.mk (rset4 hW HX0.out HV0.out (by decide))
    replace HX0 := Aside0.mk (set4 hW HX0.out)
    replace HB := Aside0.mk (below4 hW HB.out HG0.out)
    clear hW
    refine hK.out _ _ ⟨((blk_cell HXa.out 0).trans rfl),((blk_cell HXa.out 1).trans rfl),((blk_cell HXa.out 2).trans rfl),((blk_cell HXa.out 3).trans rfl),((blk_cell HXb.out 0).trans rfl),((blk_cell HXb.out 1).trans rfl),((blk_cell HXb.out 2).trans rfl),((blk_cell HXb.out 3).trans rfl),(pw_cell_below HB.out hp0.out),(pw_cell_below HB.out hp1.out),(pw_cell_below HB.out hp2.out),(pw_cell_below HB.out hp3.out)⟩ (fun hHeld => ?_)
    clear hK K
    refine pure_ (i := 15) (N := some 11) (v := ?_) (a' := ?_) zw32 rfl rfl (any_of HT_.out (by kernel_rfl)) (fun _ _ _ h => h) (Or.inl ⟨by rfl,?_⟩) ?_ ?_
    rotate_left
    ·intro w'
     go_simp
     with_reducible rfl
    rotate_left
    ·simp only [Act.put,zwI,zws0,zws1,i64_w,i32_w]
     rfl
    refine done_ (done_of HT_.out (by kernel_rfl)) ?_
    clear HT_ HW_ hHeld
    clear hx0t hxlt
    have HL : Aside0 (r'.length ≤ 20) := ⟨by have := rt_few HRT1.out; omega⟩
    obtain ⟨x1,hx1,hy1⟩ := need_eq HRT1.out e
    obtain ⟨x2,hx2,hy2⟩ := left_eq HRT1.out e
    obtain ⟨x3,hx3,hy3,_⟩ := next_is HRT1.out true
    obtain ⟨x4,hx4,hy4,_⟩ := next_is HRT1.out false
    have Hx1 := Aside0.mk hx1
    have Hy1 := Aside0.mk hy1
    have Hx2 := Aside0.mk hx2
    have Hy2 := Aside0.mk hy2
    have Hx3 := Aside0.mk hx3
    have Hy3 := Aside0.mk hy3
    have Hx4 := Aside0.mk hx4
    have Hy4 := Aside0.mk hy4
    clear hx1 hy1 hx2 hy2 hx3 hy3 hx4 hy4
    go_wp2_with fail
    refine start_ (n := 39) (S := fun w' => w'.cell? ⟨g9,0,none⟩ = some (.slice A1 r'.length d1) ∧ w'.cell? ⟨g9,1,none⟩ = some (.int .i64 (v1)) ∧ w'.cell? ⟨g9,2,none⟩ = some (.int .i64 (s1)) ∧ w'.cell? ⟨g9,3,none⟩ = some (.int .i64 (n1)) ∧ w'.cell? ⟨g0,0,none⟩ = some (.slice A2 r'.length d2) ∧ w'.cell? ⟨g0,1,none⟩ = some (.int .i64 (v1)) ∧ w'.cell? ⟨g0,2,none⟩ = some (.int .i64 (s1)) ∧ w'.cell? ⟨g0,3,none⟩ = some (.int .i64 (n1))) (ds := []) zw33 (by kernel_rfl) rfl rfl ⟨((blk_cell (blk_drew HX9.out) 0).trans rfl),((blk_cell (blk_drew HX9.out) 1).trans rfl),((blk_cell (blk_drew HX9.out) 2).trans rfl),((blk_cell (blk_drew HX9.out) 3).trans rfl),((blk_cell (blk_drew HX0.out) 0).trans rfl),((blk_cell (blk_drew HX0.out) 1).trans rfl),((blk_cell (blk_drew HX0.out) 2).trans rfl),((blk_cell (blk_drew HX0.out) 3).trans rfl)⟩ (fun hHeld => ?_)
    refine with_tabW sweep_does.tab6 sweep_does.bits6 (fun HT_ HW_ => ?_)
    replace HXa := Aside0.mk (blk_drew HXa.out)
    replace HXb := Aside0.mk (blk_drew HXb.out)
    replace HX9 := Aside0.mk (blk_drew HX9.out)
    replace HX0 := Aside0.mk (blk_drew HX0.out)
    replace HV9 := Aside0.mk (Kd.R_drew HV9.out)
    replace HV0 := Aside0.mk (Kd.R_drew HV0.out)
    replace HB := Aside0.mk (below_drew HB.out)
    generalize w11.drew = wd6 at *
    refine pure_ (i := 0) (N := some 38) (v := ?_) (a' := ?_) zw34 rfl rfl (any_of HT_.out (by kernel_rfl)) (fun _ _ _ h => h) (Or.inl ⟨by rfl,?_⟩) ?_ ?_
    rotate_left
    ·intro w'
     go_simp
     with_reducible rfl
    rotate_left
    ·simp only [Act.put,zwI,zws0,zws1,i64_w,i32_w]
     rfl
    refine pure_ (i := 1) (N := some 39) (v := ?_) (a' := ?_) zw35 rfl rfl (any_of HT_.out (by kernel_rfl)) (fun _ _ _ h => h) (Or.inl ⟨by rfl,?_⟩) ?_ ?_
    rotate_left
    ·intro w'
     go_simp
     with_reducible rfl
    rotate_left
    ·simp only [Act.put,zwI,zws0,zws1,i64_w,i32_w]
     rfl
    refine pure_ (i := 2) (N := some 40) (v := ?_) (a' := ?_) zw36 rfl rfl (any_of HT_.out (by kernel_rfl)) (fun _ _ _ h => h) (Or.inl ⟨by rfl,?_⟩) ?_ ?_
    rotate_left
    ·intro w'
     go_simp
     with_reducible rfl
    rotate_left
    ·simp only [Act.put,zwI,zws0,zws1,i64_w,i32_w]
     rfl
    refine take_ (i := 3) (N := some 41) (v := ?_) (a' := ?_) zw37 rfl rfl (take_ofW HT_.out HW_.out (by kernel_rfl)) (fun _ _ _ h => h) (Or.inl ⟨by rfl,?_⟩) hHeld ?_ ?_
    rotate_left
    ·rintro w' ⟨s0,s1,s2,s3,s4,s5,s6,s7⟩
     go_simp
     with_reducible rfl
    rotate_left
    ·simp only [Act.put,zwI,zws0,zws1,i64_w,i32_w]
     rfl
    refine one_ (i := 4) (N := some 42) zw38 rfl rfl (one_of HT_.out (by kernel_rfl)) (by decide) (fun K hK => ?_)
    refine goes_ Try.func11 (by kernel_rfl) rfl #[.agg #[.slice A1 r'.length d1,.int .i64 (v1),.int .i64 (s1),.int .i64 (n1)]] (by rfl) rfl rfl (by simp only [List.map_toArray,List.map_cons,List.map_nil]; rfl) ?_
    with_reducible refine (sweep_Right.calls 61 A1 d1 r' v1 s1 n1 true _ (Kd.R_reads' HV9.out).2.2 (Kd.R_reads' HV9.out).2.1 ((right_is r' v1 s1 n1 HL.out 61 (by omega)).trans (congrArg some HRT1.out))).mono ?_
    rintro e_ wg1 ⟨rfl,hb⟩
    refine ⟨_,rfl,?_⟩
    replace HXa := Aside0.mk (blk_below HXa.out hb)
    replace HXb := Aside0.mk (blk_below HXb.out hb)
    replace HX9 := Aside0.mk (blk_below HX9.out hb)
    replace HX0 := Aside0.mk (blk_below HX0.out hb)
    replace HV9 := Aside0.mk (Kd.R_below HV9.out hb)
    replace HV0 := Aside0.mk (Kd.R_below HV0.out hb)
    replace HB := Aside0.mk (below_step HB.out hb)
    clear hb
    refine hK.out _ _ ⟨((blk_cell HX9.out 0).trans rfl),((blk_cell HX9.out 1).trans rfl),((blk_cell HX9.out 2).trans rfl),((blk_cell HX9.out 3).trans rfl),((blk_cell HX0.out 0).trans rfl),((blk_cell HX0.out 1).trans rfl),((blk_cell HX0.out 2).trans rfl),((blk_cell HX0.out 3).trans rfl)⟩ (fun hHeld => ?_)
    clear hK K
    refine norm_ (a' := ?_) ?_ ?_
    rotate_left
    ·show Act.put _ (some 42) _ = _
     simp only [Act.put,zwI,zws0,zws1,i64_w,i32_w]
     rfl
    refine pure_ (i := 5) (N := some 43) (v := ?_) (a' := ?_) zw39 rfl rfl (any_of HT_.out (by kernel_rfl)) (fun _ _ _ h => h) (Or.inl ⟨by rfl,?_⟩) ?_ ?_
    rotate_left
    ·intro w'
     go_simp
     with_reducible rfl
    rotate_left
    ·simp only [Act.put,zwI,zws0,zws1,i64_w,i32_w]
     rfl
    refine pure_ (i := 6) (N := some 44) (v := ?_) (a' := ?_) zw40 rfl rfl (any_of HT_.out (by kernel_rfl)) (fun _ _ _ h => h) (Or.inl ⟨by rfl,?_⟩) ?_ ?_
    rotate_left
    ·intro w'
     go_simp
     with_reducible rfl
    rotate_left
    ·simp only [Act.put,zwI,zws0,zws1,i64_w,i32_w]
     rfl
    refine pure_ (i := 7) (N := some 45) (v := ?_) (a' := ?_) zw41 rfl rfl (any_of HT_.out (by kernel_rfl)) (fun _ _ _ h => h) (Or.inl ⟨by rfl,?_⟩) ?_ ?_
    rotate_left
    ·intro w'
     go_simp
     with_reducible rfl
    rotate_left
    ·simp only [Act.put,zwI,zws0,zws1,i64_w,i32_w]
     rfl
    refine pure_ (i := 9) (N := some 47) (v := ?_) (a' := ?_) zw42 rfl rfl (any_of HT_.out (by kernel_rfl)) (fun _ _ _ h => h) (Or.inl ⟨by rfl,?_⟩) ?_ ?_
    rotate_left
    ·intro w'
     go_simp
     with_reducible rfl
    rotate_left
    ·simp only [Act.put,zwI,zws0,zws1,i64_w,i32_w]
     rfl
    refine pure_ (i := 12) (N := some 50) (v := ?_) (a' := ?_) zw43 rfl rfl (any_of HT_.out (by kernel_rfl)) (fun _ _ _ h => h) (Or.inl ⟨by rfl,?_⟩) ?_ ?_
    rotate_left
    ·intro w'
     go_simp
     with_reducible rfl
    rotate_left
    ·simp only [Act.put,zwI,zws0,zws1,i64_w,i32_w]
     rfl
    refine take_ (i := 8) (N := some 46) (v := ?_) (a' := ?_) zw44 rfl rfl (take_ofW HT_.out HW_.out (by kernel_rfl)) (fun _ _ _ h => h) (Or.inl ⟨by rfl,?_⟩) hHeld ?_ ?_
    rotate_left
    ·rintro w' ⟨s0,s1,s2,s3,s4,s5,s6,s7⟩
     go_simp
     with_reducible rfl
    rotate_left
    ·simp only [Act.put,zwI,zws0,zws1,i64_w,i32_w]
     rfl
    refine take_ (i := 11) (N := some 49) (v := ?_) (a' := ?_) zw45 rfl rfl (take_ofW HT_.out HW_.out (by kernel_rfl)) (fun _ _ _ h => h) (Or.inl ⟨by rfl,?_⟩) hHeld ?_ ?_
    rotate_left
    ·rintro w' ⟨s0,s1,s2,s3,s4,s5,s6,s7⟩
     go_simp
     with_reducible rfl
    rotate_left
    ·simp only [Act.put,zwI,zws0,zws1,i64_w,i32_w]
     rfl
    refine one_ (i := 10) (N := some 48) zw46 rfl rfl (one_of HT_.out (by kernel_rfl)) (by decide) (fun K hK => ?_)
    refine goes_ Try.func12 (by kernel_rfl) rfl #[.agg #[.slice A1 r'.length d1,.int .i64 (v1),.int .i64 (s1),.int .i64 (n1)],.int .i64 e] (by rfl) rfl rfl (by simp only [List.map_toArray,List.map_cons,List.map_nil]; rfl) ?_
    with_reducible refine (sweep_Need.calls A1 d1 r' v1 s1 n1 e x1 _ (Kd.R_reads' HV9.out).2.2 (Kd.R_reads' HV9.out).2.1 Hx1.out).mono ?_
    rintro e_ wg2 ⟨rfl,hb⟩
    refine ⟨_,rfl,?_⟩
    replace HXa := Aside0.mk (blk_below HXa.out hb)
    replace HXb := Aside0.mk (blk_below HXb.out hb)
    replace HX9 := Aside0.mk (blk_below HX9.out hb)
    replace HX0 := Aside0.mk (blk_below HX0.out hb)
    replace HV9 := Aside0.mk (Kd.R_below HV9.out hb)
    replace HV0 := Aside0.mk (Kd.R_below HV0.out hb)
    replace HB := Aside0.mk (below_step HB.out hb)
    clear hb
    refine hK.out _ _ ⟨((blk_cell HX9.out 0).trans rfl),((blk_cell HX9.out 1).trans rfl),((blk_cell HX9.out 2).trans rfl),((blk_cell HX9.out 3).trans rfl),((blk_cell HX0.out 0).trans rfl),((blk_cell HX0.out 1).trans rfl),((blk_cell HX0.out 2).trans rfl),((blk_cell HX0.out 3).trans rfl)⟩ (fun hHeld => ?_)
    clear hK K
    refine norm_ (a' := ?_) ?_ ?_
    rotate_left
    ·show Act.put _ (some 48) _ = _
     simp only [Act.put,zwI,zws0,zws1,i64_w,i32_w]
     rfl
    refine one_ (i := 13) (N := some 51) zw47 rfl rfl (one_of HT_.out (by kernel_rfl)) (by decide) (fun K hK => ?_)
    refine goes_ Try.func13 (by kernel_rfl) rfl #[.agg #[.slice A2 r'.length d2,.int .i64 (v1),.int .i64 (s1),.int .i64 (n1)],.int .i64 e] (by rfl) rfl rfl (by simp only [List.map_toArray,List.map_cons,List.map_nil]; rfl) ?_
    with_reducible refine (lodgerref15_Need.calls A2 d2 r' v1 s1 n1 e x1 _ (Kd.R_reads' HV0.out).2.2 (Kd.R_reads' HV0.out).2.1 Hy1.out).mono ?_
    rintro e_ wg3 ⟨rfl,hb⟩
    refine ⟨_,rfl,?_⟩
    replace HXa := Aside0.mk (blk_below HXa.out hb)
    replace HXb := Aside0.mk (blk_below HXb.out hb)
    replace HX9 := Aside0.mk (blk_below HX9.out hb)
    replace HX0 := Aside0.mk (blk_below HX0.out hb)
    replace HV9 := Aside0.mk (Kd.R_below HV9.out hb)
    replace HV0 := Aside0.mk (Kd.R_below HV0.out hb)
    replace HB := Aside0.mk (below_step HB.out hb)
    clear hb
    refine hK.out _ _ ⟨((blk_cell HX9.out 0).trans rfl),((blk_cell HX9.out 1).trans rfl),((blk_cell HX9.out 2).trans rfl),((blk_cell HX9.out 3).trans rfl),((blk_cell HX0.out 0).trans rfl),((blk_cell HX0.out 1).trans rfl),((blk_cell HX0.out 2).trans rfl),((blk_cell HX0.out 3).trans rfl)⟩ (fun hHeld => ?_)
    clear hK K
    refine norm_ (a' := ?_) ?_ ?_
    rotate_left
    ·show Act.put _ (some 51) _ = _
     simp only [Act.put,zwI,zws0,zws1,i64_w,i32_w]
     rfl
    refine pure_ (i := 14) (N := some 52) (v := ?_) (a' := ?_) zw48 rfl rfl (any_of HT_.out (by kernel_rfl)) (fun _ _ _ h => h) (Or.inl ⟨by rfl,?_⟩) ?_ ?_
    rotate_left
    ·intro w'
     go_simp
     with_reducible rfl
    rotate_left
    ·simp only [Act.put,zwI,zws0,zws1,i64_w,i32_w]
     rfl
    refine pure_ (i := 15) (N := some 53) (v := ?_) (a' := ?_) zw49 rfl rfl (any_of HT_.out (by kernel_rfl)) (fun _ _ _ h => h) (Or.inl ⟨by rfl,?_⟩) ?_ ?_
    rotate_left
    ·intro w'
     go_simp
     with_reducible rfl
    rotate_left
    ·simp only [Act.put,zwI,zws0,zws1,i64_w,i32_w]
     rfl
    refine pure_ (i := 16) (N := some 54) (v := ?_) (a' := ?_) zw50 rfl rfl (any_of HT_.out (by kernel_rfl)) (fun _ _ _ h => h) (Or.inl ⟨by rfl,?_⟩) ?_ ?_
    rotate_left
    ·intro w'
     go_simp
     with_reducible rfl
    rotate_left
    ·simp only [Act.put,zwI,zws0,zws1,i64_w,i32_w]
     rfl
    refine pure_ (i := 18) (N := some 56) (v := ?_) (a' := ?_) zw51 rfl rfl (any_of HT_.out (by kernel_rfl)) (fun _ _ _ h => h) (Or.inl ⟨by rfl,?_⟩) ?_ ?_
    rotate_left
    ·intro w'
     go_simp
     with_reducible rfl
    rotate_left
    ·simp only [Act.put,zwI,zws0,zws1,i64_w,i32_w]
     rfl
    refine pure_ (i := 21) (N := some 59) (v := ?_) (a' := ?_) zw52 rfl rfl (any_of HT_.out (by kernel_rfl)) (fun _ _ _ h => h) (Or.inl ⟨by rfl,?_⟩) ?_ ?_
    rotate_left
    ·intro w'
     go_simp
     with_reducible rfl
    rotate_left
    ·simp only [Act.put,zwI,zws0,zws1,i64_w,i32_w]
     rfl
    refine take_ (i := 17) (N := some 55) (v := ?_) (a' := ?_) zw53 rfl rfl (take_ofW HT_.out HW_.out (by kernel_rfl)) (fun _ _ _ h => h) (Or.inl ⟨by rfl,?_⟩) hHeld ?_ ?_
    rotate_left
    ·rintro w' ⟨s0,s1,s2,s3,s4,s5,s6,s7⟩
     go_simp
     with_reducible rfl
    rotate_left
    ·simp only [Act.put,zwI,zws0,zws1,i64_w,i32_w]
     rfl
    refine take_ (i := 20) (N := some 58) (v := ?_) (a' := ?_) zw54 rfl rfl (take_ofW HT_.out HW_.out (by kernel_rfl)) (fun _ _ _ h => h) (Or.inl ⟨by rfl,?_⟩) hHeld ?_ ?_
    rotate_left
    ·rintro w' ⟨s0,s1,s2,s3,s4,s5,s6,s7⟩
     go_simp
     with_reducible rfl
    rotate_left
    ·simp only [Act.put,zwI,zws0,zws1,i64_w,i32_w]
     rfl
    refine one_ (i := 19) (N := some 57) zw55 rfl rfl (one_of HT_.out (by kernel_rfl)) (by decide) (fun K hK => ?_)
    refine goes_ Try.func14 (by kernel_rfl) rfl #[.agg #[.slice A1 r'.length d1,.int .i64 (v1),.int .i64 (s1),.int .i64 (n1)],.int .i64 e] (by rfl) rfl rfl (by simp only [List.map_toArray,List.map_cons,List.map_nil]; rfl) ?_
    with_reducible refine (sweep_Left.calls A1 d1 r' v1 s1 n1 e x2 _ (Kd.R_reads' HV9.out).2.2 (Kd.R_reads' HV9.out).2.1 Hx2.out).mono ?_
    rintro e_ wg4 ⟨rfl,hb⟩
    refine ⟨_,rfl,?_⟩
    replace HXa := Aside0.mk (blk_below HXa.out hb)
    replace HXb := Aside0.mk (blk_below HXb.out hb)
    replace HX9 := Aside0.mk (blk_below HX9.out hb)
    replace HX0 := Aside0.mk (blk_below HX0.out hb)
    replace HV9 := Aside0.mk (Kd.R_below HV9.out hb)
    replace HV0 := Aside0.mk (Kd.R_below HV0.out hb)
    replace HB := Aside0.mk (below_step HB.out hb)
    clear hb
    refine hK.out _ _ ⟨((blk_cell HX9.out 0).trans rfl),((blk_cell HX9.out 1).trans rfl),((blk_cell HX9.out 2).trans rfl),((blk_cell HX9.out 3).trans rfl),((blk_cell HX0.out 0).trans rfl),((blk_cell HX0.out 1).trans rfl),((blk_cell HX0.out 2).trans rfl),((blk_cell HX0.out 3).trans rfl)⟩ (fun hHeld => ?_)
    clear hK K
    refine norm_ (a' := ?_) ?_ ?_
    rotate_left
    ·show Act.put _ (some 57) _ = _
     simp only [Act.put,zwI,zws0,zws1,i64_w,i32_w]
     rfl
    refine one_ (i := 22) (N := some 60) zw56 rfl rfl (one_of HT_.out (by kernel_rfl)) (by decide) (fun K hK => ?_)
    refine goes_ Try.func15 (by kernel_rfl) rfl #[.agg #[.slice A2 r'.length d2,.int .i64 (v1),.int .i64 (s1),.int .i64 (n1)],.int .i64 e] (by rfl) rfl rfl (by simp only [List.map_toArray,List.map_cons,List.map_nil]; rfl) ?_
    with_reducible refine (lodgerref15_Left.calls A2 d2 r' v1 s1 n1 e x2 _ (Kd.R_reads' HV0.out).2.2 (Kd.R_reads' HV0.out).2.1 Hy2.out).mono ?_
    rintro e_ wg5 ⟨rfl,hb⟩
    refine ⟨_,rfl,?_⟩
    replace HXa := Aside0.mk (blk_below HXa.out hb)
    replace HXb := Aside0.mk (blk_below HXb.out hb)
    replace HX9 := Aside0.mk (blk_below HX9.out hb)
    replace HX0 := Aside0.mk (blk_below HX0.out hb)
    replace HV9 := Aside0.mk (Kd.R_below HV9.out hb)
    replace HV0 := Aside0.mk (Kd.R_below HV0.out hb)
    replace HB := Aside0.mk (below_step HB.out hb)
    clear hb
    refine hK.out _ _ ⟨((blk_cell HX9.out 0).trans rfl),((blk_cell HX9.out 1).trans rfl),((blk_cell HX9.out 2).trans rfl),((blk_cell HX9.out 3).trans rfl),((blk_cell HX0.out 0).trans rfl),((blk_cell HX0.out 1).trans rfl),((blk_cell HX0.out 2).trans rfl),((blk_cell HX0.out 3).trans rfl)⟩ (fun hHeld => ?_)
    clear hK K
    refine norm_ (a' := ?_) ?_ ?_
    rotate_left
    ·show Act.put _ (some 60) _ = _
     simp only [Act.put,zwI,zws0,zws1,i64_w,i32_w]
     rfl
    refine pure_ (i := 23) (N := some 61) (v := ?_) (a' := ?_) zw57 rfl rfl (any_of HT_.out (by kernel_rfl)) (fun _ _ _ h => h) (Or.inl ⟨by rfl,?_⟩) ?_ ?_
    rotate_left
    ·intro w'
     go_simp
     with_reducible rfl
    rotate_left
    ·simp only [Act.put,zwI,zws0,zws1,i64_w,i32_w]
     rfl
    refine pure_ (i := 24) (N := some 62) (v := ?_) (a' := ?_) zw58 rfl rfl (any_of HT_.out (by kernel_rfl)) (fun _ _ _ h => h) (Or.inl ⟨by rfl,?_⟩) ?_ ?_
    rotate_left
    ·intro w'
     go_simp
     with_reducible rfl
    rotate_left
    ·simp only [Act.put,zwI,zws0,zws1,i64_w,i32_w]
     rfl
    refine pure_ (i := 25) (N := some 63) (v := ?_) (a' := ?_) zw59 rfl rfl (any_of HT_.out (by kernel_rfl)) (fun _ _ _ h => h) (Or.inl ⟨by rfl,?_⟩) ?_ ?_
    rotate_left
    ·intro w'
     go_simp
     with_reducible rfl
    rotate_left
    ·simp only [Act.put,zwI,zws0,zws1,i64_w,i32_w]
     rfl
    refine take_ (i := 26) (N := some 64) (v := ?_) (a' := ?_) zw60 rfl rfl (take_ofW HT_.out HW_.out (by kernel_rfl)) (fun _ _ _ h => h) (Or.inl ⟨by rfl,?_⟩) hHeld ?_ ?_
    rotate_left
    ·rintro w' ⟨s0,s1,s2,s3,s4,s5,s6,s7⟩
     go_simp
     with_reducible rfl
    rotate_left
    ·simp only [Act.put,zwI,zws0,zws1,i64_w,i32_w]
     rfl
    refine take_ (i := 28) (N := some 66) (v := ?_) (a' := ?_) zw61 rfl rfl (take_ofW HT_.out HW_.out (by kernel_rfl)) (fun _ _ _ h => h) (Or.inl ⟨by rfl,?_⟩) hHeld ?_ ?_
    rotate_left
    ·rintro w' ⟨s0,s1,s2,s3,s4,s5,s6,s7⟩
     go_simp
     with_reducible rfl
    rotate_left
    ·simp only [Act.put,zwI,zws0,zws1,i64_w,i32_w]
     rfl
    refine one_ (i := 27) (N := some 65) zw62 rfl rfl (one_of HT_.out (by kernel_rfl)) (by decide) (fun K hK => ?_)
    refine goes_ Try.func16 (by kernel_rfl) rfl #[.agg #[.slice A1 r'.length d1,.int .i64 (v1),.int .i64 (s1),.int .i64 (n1)],.bool true] (by rfl) rfl rfl (by simp only [List.map_toArray,List.map_cons,List.map_nil]; rfl) ?_
    with_reducible refine (sweep_Next.calls 61 A1 d1 r' v1 s1 n1 true x3 _ (Kd.R_reads' HV9.out).2.2 (Kd.R_reads' HV9.out).2.1 Hx3.out).mono ?_
    rintro e_ wg6 ⟨rfl,hb⟩
    refine ⟨_,rfl,?_⟩
    replace HXa := Aside0.mk (blk_below HXa.out hb)
    replace HXb := Aside0.mk (blk_below HXb.out hb)
    replace HX9 := Aside0.mk (blk_below HX9.out hb)
    replace HX0 := Aside0.mk (blk_below HX0.out hb)
    replace HV9 := Aside0.mk (Kd.R_below HV9.out hb)
    replace HV0 := Aside0.mk (Kd.R_below HV0.out hb)
    replace HB := Aside0.mk (below_step HB.out hb)
    clear hb
    refine hK.out _ _ ⟨((blk_cell HX9.out 0).trans rfl),((blk_cell HX9.out 1).trans rfl),((blk_cell HX9.out 2).trans rfl),((blk_cell HX9.out 3).trans rfl),((blk_cell HX0.out 0).trans rfl),((blk_cell HX0.out 1).trans rfl),((blk_cell HX0.out 2).trans rfl),((blk_cell HX0.out 3).trans rfl)⟩ (fun hHeld => ?_)
    clear hK K
    refine norm_ (a' := ?_) ?_ ?_
    rotate_left
    ·show Act.put _ (some 65) _ = _
     simp only [Act.put,zwI,zws0,zws1,i64_w,i32_w]
     rfl
    refine one_ (i := 29) (N := some 67) zw63 rfl rfl (one_of HT_.out (by kernel_rfl)) (by decide) (fun K hK => ?_)
    refine goes_ Try.func17 (by kernel_rfl) rfl #[.agg #[.slice A2 r'.length d2,.int .i64 (v1),.int .i64 (s1),.int .i64 (n1)],.bool true] (by rfl) rfl rfl (by simp only [List.map_toArray,List.map_cons,List.map_nil]; rfl) ?_
    with_reducible refine (lodgerref15_Next.calls 61 A2 d2 r' v1 s1 n1 true x3 _ (Kd.R_reads' HV0.out).2.2 (Kd.R_reads' HV0.out).2.1 Hy3.out).mono ?_
    rintro e_ wg7 ⟨rfl,hb⟩
    refine ⟨_,rfl,?_⟩
    replace HXa := Aside0.mk (blk_below HXa.out hb)
    replace HXb := Aside0.mk (blk_below HXb.out hb)
    replace HX9 := Aside0.mk (blk_below HX9.out hb)
    replace HX0 := Aside0.mk (blk_below HX0.out hb)
    replace HV9 := Aside0.mk (Kd.R_below HV9.out hb)
    replace HV0 := Aside0.mk (Kd.R_below HV0.out hb)
    replace HB := Aside0.mk (below_step HB.out hb)
    clear hb
    refine hK.out _ _ ⟨((blk_cell HX9.out 0).trans rfl),((blk_cell HX9.out 1).trans rfl),((blk_cell HX9.out 2).trans rfl),((blk_cell HX9.out 3).trans rfl),((blk_cell HX0.out 0).trans rfl),((blk_cell HX0.out 1).trans rfl),((blk_cell HX0.out 2).trans rfl),((blk_cell HX0.out 3).trans rfl)⟩ (fun hHeld => ?_)
    clear hK K
    refine norm_ (a' := ?_) ?_ ?_
    rotate_left
    ·show Act.put _ (some 67) _ = _
     simp only [Act.put,zwI,zws0,zws1,i64_w,i32_w]
     rfl
    refine pure_ (i := 30) (N := some 68) (v := ?_) (a' := ?_) zw64 rfl rfl (any_of HT_.out (by kernel_rfl)) (fun _ _ _ h => h) (Or.inl ⟨by rfl,?_⟩) ?_ ?_
    rotate_left
    ·intro w'
     go_simp
     with_reducible rfl
    rotate_left
    ·simp only [Act.put,zwI,zws0,zws1,i64_w,i32_w]
     rfl
    refine pure_ (i := 31) (N := some 69) (v := ?_) (a' := ?_) zw65 rfl rfl (any_of HT_.out (by kernel_rfl)) (fun _ _ _ h => h) (Or.inl ⟨by rfl,?_⟩) ?_ ?_
    rotate_left
    ·intro w'
     go_simp
     with_reducible rfl
    rotate_left
    ·simp only [Act.put,zwI,zws0,zws1,i64_w,i32_w]
     rfl
    refine pure_ (i := 32) (N := some 70) (v := ?_) (a' := ?_) zw66 rfl rfl (any_of HT_.out (by kernel_rfl)) (fun _ _ _ h => h) (Or.inl ⟨by rfl,?_⟩) ?_ ?_
    rotate_left
    ·intro w'
     go_simp
     with_reducible rfl
    rotate_left
    ·simp only [Act.put,zwI,zws0,zws1,i64_w,i32_w]
     rfl
    refine take_ (i := 33) (N := some 71) (v := ?_) (a' := ?_) zw67 rfl rfl (take_ofW HT_.out HW_.out (by kernel_rfl)) (fun _ _ _ h => h) (Or.inl ⟨by rfl,?_⟩) hHeld ?_ ?_
    rotate_left
    ·rintro w' ⟨s0,s1,s2,s3,s4,s5,s6,s7⟩
     go_simp
     with_reducible rfl
    rotate_left
    ·simp only [Act.put,zwI,zws0,zws1,i64_w,i32_w]
     rfl
    refine take_ (i := 35) (N := some 73) (v := ?_) (a' := ?_) zw68 rfl rfl (take_ofW HT_.out HW_.out (by kernel_rfl)) (fun _ _ _ h => h) (Or.inl ⟨by rfl,?_⟩) hHeld ?_ ?_
    rotate_left
    ·rintro w' ⟨s0,s1,s2,s3,s4,s5,s6,s7⟩
     go_simp
     with_reducible rfl
    rotate_left
    ·simp only [Act.put,zwI,zws0,zws1,i64_w,i32_w]
     rfl
    refine one_ (i := 34) (N := some 72) zw69 rfl rfl (one_of HT_.out (by kernel_rfl)) (by decide) (fun K hK => ?_)
    refine goes_ Try.func16 (by kernel_rfl) rfl #[.agg #[.slice A1 r'.length d1,.int .i64 (v1),.int .i64 (s1),.int .i64 (n1)],.bool false] (by rfl) rfl rfl (by simp only [List.map_toArray,List.map_cons,List.map_nil]; rfl) ?_
    with_reducible refine (sweep_Next.calls 61 A1 d1 r' v1 s1 n1 false x4 _ (Kd.R_reads' HV9.out).2.2 (Kd.R_reads' HV9.out).2.1 Hx4.out).mono ?_
    rintro e_ wg8 ⟨rfl,hb⟩
    refine ⟨_,rfl,?_⟩
    replace HXa := Aside0.mk (blk_below HXa.out hb)
    replace HXb := Aside0.mk (blk_below HXb.out hb)
    replace HX9 := Aside0.mk (blk_below HX9.out hb)
    replace HX0 := Aside0.mk (blk_below HX0.out hb)
    replace HV9 := Aside0.mk (Kd.R_below HV9.out hb)
    replace HV0 := Aside0.mk (Kd.R_below HV0.out hb)
    replace HB := Aside0.mk (below_step HB.out hb)
    clear hb
    refine hK.out _ _ ⟨((blk_cell HX9.out 0).trans rfl),((blk_cell HX9.out 1).trans rfl),((blk_cell HX9.out 2).trans rfl),((blk_cell HX9.out 3).trans rfl),((blk_cell HX0.out 0).trans rfl),((blk_cell HX0.out 1).trans rfl),((blk_cell HX0.out 2).trans rfl),((blk_cell HX0.out 3).trans rfl)⟩ (fun hHeld => ?_)
    clear hK K
    refine norm_ (a' := ?_) ?_ ?_
    rotate_left
    ·show Act.put _ (some 72) _ = _
     simp only [Act.put,zwI,zws0,zws1,i64_w,i32_w]
     rfl
    refine one_ (i := 36) (N := some 74) zw70 rfl rfl (one_of HT_.out (by kernel_rfl)) (by decide) (fun K hK => ?_)
    refine goes_ Try.func17 (by kernel_rfl) rfl #[.agg #[.slice A2 r'.length d2,.int .i64 (v1),.int .i64 (s1),.int .i64 (n1)],.bool false] (by rfl) rfl rfl (by simp only [List.map_toArray,List.map_cons,List.map_nil]; rfl) ?_
    with_reducible refine (lodgerref15_Next.calls 61 A2 d2 r' v1 s1 n1 false x4 _ (Kd.R_reads' HV0.out).2.2 (Kd.R_reads' HV0.out).2.1 Hy4.out).mono ?_
    rintro e_ wg9 ⟨rfl,hb⟩
    refine ⟨_,rfl,?_⟩
    replace HXa := Aside0.mk (blk_below HXa.out hb)
    replace HXb := Aside0.mk (blk_below HXb.out hb)
    replace HX9 := Aside0.mk (blk_below HX9.out hb)
    replace HX0 := Aside0.mk (blk_below HX0.out hb)
    replace HV9 := Aside0.mk (Kd.R_below HV9.out hb)
    replace HV0 := Aside0.mk (Kd.R_below HV0.out hb)
    replace HB := Aside0.mk (below_step HB.out hb)
    clear hb
    refine hK.out _ _ ⟨((blk_cell HX9.out 0).trans rfl),((blk_cell HX9.out 1).trans rfl),((blk_cell HX9.out 2).trans rfl),((blk_cell HX9.out 3).trans rfl),((blk_cell HX0.out 0).trans rfl),((blk_cell HX0.out 1).trans rfl),((blk_cell HX0.out 2).trans rfl),((blk_cell HX0.out 3).trans rfl)⟩ (fun hHeld => ?_)
    clear hK K
    refine norm_ (a' := ?_) ?_ ?_
    rotate_left
    ·show Act.put _ (some 74) _ = _
     simp only [Act.put,zwI,zws0,zws1,i64_w,i32_w]
     rfl
    refine pure_ (i := 37) (N := some 75) (v := ?_) (a' := ?_) zw71 rfl rfl (any_of HT_.out (by kernel_rfl)) (fun _ _ _ h => h) (Or.inl ⟨by rfl,?_⟩) ?_ ?_
    rotate_left
    ·intro w'
     go_simp
     with_reducible rfl
    rotate_left
    ·simp only [Act.put,zwI,zws0,zws1,i64_w,i32_w]
     rfl
    refine pure_ (i := 38) (N := some 76) (v := ?_) (a' := ?_) zw72 rfl rfl (any_of HT_.out (by kernel_rfl)) (fun _ _ _ h => h) (Or.inl ⟨by rfl,?_⟩) ?_ ?_
    rotate_left
    ·intro w'
     go_simp
     with_reducible rfl
    rotate_left
    ·simp only [Act.put,zwI,zws0,zws1,i64_w,i32_w]
     rfl
    refine done_ (done_of HT_.out (by kernel_rfl)) ?_
    clear HT_ HW_ hHeld
    have c_0 : wg9.cell? ⟨g9,0,none⟩ = some (.slice A1 r'.length d1) := (blk_cell HX9.out 0).trans rfl
    have c_1 : wg9.cell? ⟨g9,1,none⟩ = some (.int .i64 (v1)) := (blk_cell HX9.out 1).trans rfl
    have c_2 : wg9.cell? ⟨g9,2,none⟩ = some (.int .i64 (s1)) := (blk_cell HX9.out 2).trans rfl
    have c_3 : wg9.cell? ⟨g9,3,none⟩ = some (.int .i64 (n1)) := (blk_cell HX9.out 3).trans rfl
    have d_0 : wg9.cell? ⟨ga,0,none⟩ = some (.slice Aa r.length ca) := (blk_cell HXa.out 0).trans rfl
    have d_1 : wg9.cell? ⟨ga,1,none⟩ = some (.int .i64 (v)) := (blk_cell HXa.out 1).trans rfl
    have d_2 : wg9.cell? ⟨ga,2,none⟩ = some (.int .i64 (s)) := (blk_cell HXa.out 2).trans rfl
    have d_3 : wg9.cell? ⟨ga,3,none⟩ = some (.int .i64 (n)) := (blk_cell HXa.out 3).trans rfl
    have df_0 := blk_frozen HXa.out 0
    have df_1 := blk_frozen HXa.out 1
    have df_2 := blk_frozen HXa.out 2
    have df_3 := blk_frozen HXa.out 3
    go_upto_region 9 with fail
    clear c_0 c_1 c_2 c_3 d_0 d_1 d_2 d_3 df_0 df_1 df_2 df_3
    obtain ⟨wh1,hW⟩ : ∃ W_,W_ = ((((wg9.setCell ⟨ga,0,none⟩ (.slice A1 r'.length d1)).setCell ⟨ga,1,none⟩ (.int .i64 (v1))).setCell ⟨ga,2,none⟩ (.int .i64 (s1))).setCell ⟨ga,3,none⟩ (.int .i64 (n1))) := ⟨_,rfl⟩
    rw [← hW]
    replace HXb := Aside0.mk (far4 hW HXb.out Nba.out)
    replace HX9 := Aside0.mk (far4 hW HX9.out N9a.out)
    replace HX0 := Aside0.mk (far4 hW HX0.out N0a.out)
    replace HV9 := Aside0.mk (rset4 hW HXa.out HV9.out (by decide))
    replace HV0 := Aside0.mk (rset4 hW HXa.out HV0.out (by decide))
    replace HXa := Aside0.mk (set4 hW HXa.out)
    replace HB := Aside0.mk (below4 hW HB.out HGa.out)
    clear hW
    have c_0 : wh1.cell? ⟨g0,0,none⟩ = some (.slice A2 r'.length d2) := (blk_cell HX0.out 0).trans rfl
    have c_1 : wh1.cell? ⟨g0,1,none⟩ = some (.int .i64 (v1)) := (blk_cell HX0.out 1).trans rfl
    have c_2 : wh1.cell? ⟨g0,2,none⟩ = some (.int .i64 (s1)) := (blk_cell HX0.out 2).trans rfl
    have c_3 : wh1.cell? ⟨g0,3,none⟩ = some (.int .i64 (n1)) := (blk_cell HX0.out 3).trans rfl
    have d_0 : wh1.cell? ⟨gb,0,none⟩ = some (.slice Ab r.length cb) := (blk_cell HXb.out 0).trans rfl
    have d_1 : wh1.cell? ⟨gb,1,none⟩ = some (.int .i64 (v)) := (blk_cell HXb.out 1).trans rfl
    have d_2 : wh1.cell? ⟨gb,2,none⟩ = some (.int .i64 (s)) := (blk_cell HXb.out 2).trans rfl
    have d_3 : wh1.cell? ⟨gb,3,none⟩ = some (.int .i64 (n)) := (blk_cell HXb.out 3).trans rfl
    have df_0 := blk_frozen HXb.out 0
    have df_1 := blk_frozen HXb.out 1
    have df_2 := blk_frozen HXb.out 2
    have df_3 := blk_frozen HXb.out 3
    go_upto_region 4 with fail
    clear c_0 c_1 c_2 c_3 d_0 d_1 d_2 d_3 df_0 df_1 df_2 df_3
    obtain ⟨wh2,hW⟩ : ∃ W_,W_ = ((((wh1.setCell ⟨gb,0,none⟩ (.slice A2 r'.length d2)).setCell ⟨gb,1,none⟩ (.int .i64 (v1))).setCell ⟨gb,2,none⟩ (.int .i64 (s1))).setCell ⟨gb,3,none⟩ (.int .i64 (n1))) := ⟨_,rfl⟩
    rw [← hW]
    replace HXa := Aside0.mk (far4 hW HXa.out Nab.out)
    replace HX9 := Aside0.mk (far4 hW HX9.out N9b.out)
    replace HX0 := Aside0.mk (far4 hW HX0.out N0b.out)
    replace HV9 := Aside0.mk (rset4 hW HXb.out HV9.out (by decide))
    replace HV0 := Aside0.mk (rset4 hW HXb.out HV0.out (by decide))
    replace HXb := Aside0.mk (set4 hW HXb.out)
    replace HB := Aside0.mk (below4 hW HB.out HGb.out)
    clear hW
    have hx0 := hx.out.1
    go_wp2
    go_roundw
    case rel => exact ⟨x + 1,⟨by have := hx.out; have := HLT.out; have := HL6.out; omega,by have := hx.out; have := HLT.out; have := HL6.out; omega,by have := hx.out; have := HLT.out; have := HL6.out; omega⟩,rfl,r',v1,s1,n1,A1,d1,A2,d2,HRT1,HV9,HV0,HXa,HXb,HB⟩
    case measure => have := hx.out; have := HL6.out; simp [intOf]; omega
   ·have hx62 := decide_eq_false hx6
    clear hx6 hxl
    go_wp2_with fail
    refine (lodgerlaw15_fixed.calls _).mono ?_
    rintro e wf ⟨rfl,hb⟩
    go_wp2
    go_ret
    exact ⟨rfl,below_step HB.out hb⟩
  ·have hxl2 := decide_eq_false hxl
   clear hxl
   go_wp2_with fail
   refine (lodgerlaw15_fixed.calls _).mono ?_
   rintro e wf ⟨rfl,hb⟩
   go_wp2
   go_ret
   exact ⟨rfl,below_step HB.out hb⟩
end Go.Proofs.Ytbcmjbjhjnojjaa.H
