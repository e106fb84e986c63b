/-
The walk of SweepOnce.
-/
import Derived.Test.YtbcmjbjhjnojjaaHx
import Derived.Test.YtbcmjbjhjnojjaaSw2
import Derived.Test.YtbcmjbjhjnojjaaDo
namespace Go.Proofs.Ytbcmjbjhjnojjaa.H
open Go.RowKit Go.Proofs.YtbcmjbjhjnojjaaW.PrintWords Go.Proofs.YtbcmjbjhjnojjaaW.PrintLast Go.Proofs.YtbcmjbjhjnojjaaW.PrintMore
attribute [local go_sem] max2_int min2_int max_two min_two max_three min_three max_four min_four
set_option linter.unusedVariables false
set_option linter.unusedSimpArgs false
def zo0 : Array Bool := #[false,false,false,false,false,false]
def zo1 : Array Bool := #[true,false,false,false,false,false]
def zo2 : Array Bool := #[true,false,true,false,false,false]
def zo3 : Array Bool := #[true,true,true,false,false,false]
def zo4 : Array Bool := #[true,true,true,true,false,false]
def zo5 : Array Bool := #[true,true,true,true,true,false]
def zo6 : Array Bool := #[true,true,true,true,true,true]
def zo7 : Array Bool := #[false,false,false,false,false,false,false,false,false,false,false,false,false,false]
def zo8 : Array Bool := #[true,false,false,false,false,false,false,false,false,false,false,false,false,false]
def zo9 : Array Bool := #[true,true,false,false,false,false,false,false,false,false,false,false,false,false]
def zo10 : Array Bool := #[true,true,false,true,false,false,false,false,false,false,false,false,false,false]
def zo11 : Array Bool := #[true,true,true,true,true,true,true,true,true,true,true,false,false,false]
def zo12 : Array Bool := #[true,true,true,true,false,false,false,false,false,false,false,false,false,false]
def zo13 : Array Bool := #[true,true,false,true,false,false,false,false,false,true,false,false,false,false]
def zo14 : Array Bool := #[true,true,false,true,false,false,false,false,false,false,true,false,false,false]
def zo15 : Array Bool := #[true,true,true,true,true,false,false,false,false,false,false,false,false,false]
def zo16 : Array Bool := #[true,true,true,true,false,false,false,false,false,true,false,false,false,false]
def zo17 : Array Bool := #[true,true,true,true,false,false,false,false,false,false,true,false,false,false]
def zo18 : Array Bool := #[true,true,true,true,true,true,false,false,false,false,false,false,false,false]
def zo19 : Array Bool := #[true,true,true,true,true,true,true,false,false,false,false,false,false,false]
def zo20 : Array Bool := #[true,true,true,true,true,true,true,true,false,false,false,false,false,false]
def zo21 : Array Bool := #[true,true,true,true,true,true,true,true,true,false,false,false,false,false]
def zo22 : Array Bool := #[true,true,true,true,true,true,true,true,true,true,false,false,false,false]
def zo23 : Array Bool := #[true,true,true,true,true,true,true,true,true,false,true,false,false,false]
def zo24 : Array Bool := #[true,true,true,true,true,false,false,false,false,true,false,false,false,false]
def zo25 : Array Bool := #[true,true,true,true,false,false,false,false,false,true,true,false,false,false]
def zo26 : Array Bool := #[true,true,true,true,true,true,false,false,false,true,false,false,false,false]
def zo27 : Array Bool := #[true,true,true,true,true,true,true,false,false,true,false,false,false,false]
def zo28 : Array Bool := #[true,true,true,true,true,true,true,true,false,true,false,false,false,false]
def zo29 : Array Bool := #[true,true,true,true,true,false,false,false,false,true,true,false,false,false]
def zo30 : Array Bool := #[true,true,true,true,true,true,false,false,false,true,true,false,false,false]
def zo31 : Array Bool := #[true,true,true,true,true,true,true,false,false,true,true,false,false,false]
def zo32 : Array Bool := #[true,true,true,true,true,true,true,true,false,true,true,false,false,false]
def zo33 : Array Bool := #[true,true,true,true,true,false,false,false,false,false,true,false,false,false]
def zo34 : Array Bool := #[true,true,true,true,true,true,false,false,false,false,true,false,false,false]
def zo35 : Array Bool := #[true,true,true,true,true,true,true,false,false,false,true,false,false,false]
def zo36 : Array Bool := #[true,true,true,true,true,true,true,true,false,false,true,false,false,false]
def zo37 : Array Bool := #[true,true,false,true,false,false,false,false,false,true,true,false,false,false]
def zo38 : Array Bool := #[true,true,true,true,true,true,true,true,true,true,true,true,false,false]
def zo39 : Array Bool := #[true,true,true,true,true,true,true,true,true,true,true,true,true,false]
def zo40 : Array Bool := #[true,true,true,true,true,true,true,true,true,true,true,true,true,true]
def zo41 : Array Bool := #[false,false,false,false,false,false,false,false,false,false,false,false,false,false,false,false,false,false,false,false,false,false,false,false,false,false,false,false,false,false,false,false,false,false,false,false,false,false,false,false,false]
def zo42 : Array Bool := #[true,false,false,false,false,false,false,false,false,false,false,false,false,false,false,false,false,false,false,false,false,false,false,false,false,false,false,false,false,false,false,false,false,false,false,false,false,false,false,false,false]
def zo43 : Array Bool := #[true,true,false,false,false,false,false,false,false,false,false,false,false,false,false,false,false,false,false,false,false,false,false,false,false,false,false,false,false,false,false,false,false,false,false,false,false,false,false,false,false]
def zo44 : Array Bool := #[true,true,false,true,false,false,false,false,false,false,false,false,false,false,false,false,false,false,false,false,false,false,false,false,false,false,false,false,false,false,false,false,false,false,false,false,false,false,false,false,false]
def zo45 : Array Bool := #[true,true,false,true,false,false,false,true,false,false,false,false,false,false,false,false,false,false,false,false,false,false,false,false,false,false,false,false,false,false,false,false,false,false,false,false,false,false,false,false,false]
def zo46 : Array Bool := #[true,true,true,true,false,false,false,true,false,false,false,false,false,false,false,false,false,false,false,false,false,false,false,false,false,false,false,false,false,false,false,false,false,false,false,false,false,false,false,false,false]
def zo47 : Array Bool := #[true,true,true,true,false,true,false,true,false,false,false,false,false,false,false,false,false,false,false,false,false,false,false,false,false,false,false,false,false,false,false,false,false,false,false,false,false,false,false,false,false]
def zo48 : Array Bool := #[true,true,true,true,true,true,false,true,false,false,false,false,false,false,false,false,false,false,false,false,false,false,false,false,false,false,false,false,false,false,false,false,false,false,false,false,false,false,false,false,false]
def zo49 : Array Bool := #[true,true,true,true,true,true,true,true,false,false,false,false,false,false,false,false,false,false,false,false,false,false,false,false,false,false,false,false,false,false,false,false,false,false,false,false,false,false,false,false,false]
def zo50 : Array Bool := #[true,true,true,true,true,true,true,true,true,false,false,false,false,false,false,false,false,false,false,false,false,false,false,false,false,false,false,false,false,false,false,false,false,false,false,false,false,false,false,false,false]
def zo51 : Array Bool := #[true,true,true,true,true,true,true,true,true,true,false,false,false,false,false,false,false,false,false,false,false,false,false,false,false,false,false,false,false,false,false,false,false,false,false,false,false,false,false,false,false]
def zo52 : Array Bool := #[true,true,true,true,true,true,true,true,true,true,true,false,false,false,false,false,false,false,false,false,false,false,false,false,false,false,false,false,false,false,false,false,false,false,false,false,false,false,false,false,false]
def zo53 : Array Bool := #[true,true,true,true,true,true,true,true,true,true,true,true,false,false,false,false,false,false,false,false,false,false,false,false,false,false,false,false,false,false,false,false,false,false,false,false,false,false,false,false,false]
def zo54 : Array Bool := #[true,true,true,true,true,true,true,true,true,true,true,true,false,true,false,false,false,false,false,false,false,false,false,false,false,false,false,false,false,false,false,false,false,false,false,false,false,false,false,false,false]
def zo55 : Array Bool := #[true,true,true,true,true,true,true,true,true,true,true,true,false,true,false,false,false,true,false,false,false,false,false,false,false,false,false,false,false,false,false,false,false,false,false,false,false,false,false,false,false]
def zo56 : Array Bool := #[true,true,true,true,true,true,true,true,true,true,true,true,true,true,false,false,false,true,false,false,false,false,false,false,false,false,false,false,false,false,false,false,false,false,false,false,false,false,false,false,false]
def zo57 : Array Bool := #[true,true,true,true,true,true,true,true,true,true,true,true,true,true,false,true,false,true,false,false,false,false,false,false,false,false,false,false,false,false,false,false,false,false,false,false,false,false,false,false,false]
def zo58 : Array Bool := #[true,true,true,true,true,true,true,true,true,true,true,true,true,true,true,true,false,true,false,false,false,false,false,false,false,false,false,false,false,false,false,false,false,false,false,false,false,false,false,false,false]
def zo59 : Array Bool := #[true,true,true,true,true,true,true,true,true,true,true,true,true,true,true,true,true,true,false,false,false,false,false,false,false,false,false,false,false,false,false,false,false,false,false,false,false,false,false,false,false]
def zo60 : Array Bool := #[true,true,true,true,true,true,true,true,true,true,true,true,true,true,true,true,true,true,true,false,false,false,false,false,false,false,false,false,false,false,false,false,false,false,false,false,false,false,false,false,false]
def zo61 : Array Bool := #[true,true,true,true,true,true,true,true,true,true,true,true,true,true,true,true,true,true,true,true,false,false,false,false,false,false,false,false,false,false,false,false,false,false,false,false,false,false,false,false,false]
def zo62 : Array Bool := #[true,true,true,true,true,true,true,true,true,true,true,true,true,true,true,true,true,true,true,true,true,false,false,false,false,false,false,false,false,false,false,false,false,false,false,false,false,false,false,false,false]
def zo63 : Array Bool := #[true,true,true,true,true,true,true,true,true,true,true,true,true,true,true,true,true,true,true,true,true,true,false,false,false,false,false,false,false,false,false,false,false,false,false,false,false,false,false,false,false]
def zo64 : Array Bool := #[true,true,true,true,true,true,true,true,true,true,true,true,true,true,true,true,true,true,true,true,true,true,true,false,false,false,false,false,false,false,false,false,false,false,false,false,false,false,false,false,false]
def zo65 : Array Bool := #[true,true,true,true,true,true,true,true,true,true,true,true,true,true,true,true,true,true,true,true,true,true,true,false,true,false,false,false,false,false,false,false,false,false,false,false,false,false,false,false,false]
def zo66 : Array Bool := #[true,true,true,true,true,true,true,true,true,true,true,true,true,true,true,true,true,true,true,true,true,true,true,true,true,false,false,false,false,false,false,false,false,false,false,false,false,false,false,false,false]
def zo67 : Array Bool := #[true,true,true,true,true,true,true,true,true,true,true,true,true,true,true,true,true,true,true,true,true,true,true,true,true,true,false,false,false,false,false,false,false,false,false,false,false,false,false,false,false]
def zo68 : Array Bool := #[true,true,true,true,true,true,true,true,true,true,true,true,true,true,true,true,true,true,true,true,true,true,true,true,true,true,true,false,false,false,false,false,false,false,false,false,false,false,false,false,false]
def zo69 : Array Bool := #[true,true,true,true,true,true,true,true,true,true,true,true,true,true,true,true,true,true,true,true,true,true,true,true,true,true,true,true,false,false,false,false,false,false,false,false,false,false,false,false,false]
def zo70 : Array Bool := #[true,true,true,true,true,true,true,true,true,true,true,true,true,true,true,true,true,true,true,true,true,true,true,true,true,true,true,true,true,false,false,false,false,false,false,false,false,false,false,false,false]
def zo71 : Array Bool := #[true,true,true,true,true,true,true,true,true,true,true,true,true,true,true,true,true,true,true,true,true,true,true,true,true,true,true,true,true,true,false,false,false,false,false,false,false,false,false,false,false]
def zo72 : Array Bool := #[true,true,true,true,true,true,true,true,true,true,true,true,true,true,true,true,true,true,true,true,true,true,true,true,true,true,true,true,true,true,true,false,false,false,false,false,false,false,false,false,false]
def zo73 : Array Bool := #[true,true,true,true,true,true,true,true,true,true,true,true,true,true,true,true,true,true,true,true,true,true,true,true,true,true,true,true,true,true,true,false,true,false,false,false,false,false,false,false,false]
def zo74 : Array Bool := #[true,true,true,true,true,true,true,true,true,true,true,true,true,true,true,true,true,true,true,true,true,true,true,true,true,true,true,true,true,true,true,true,true,false,false,false,false,false,false,false,false]
def zo75 : Array Bool := #[true,true,true,true,true,true,true,true,true,true,true,true,true,true,true,true,true,true,true,true,true,true,true,true,true,true,true,true,true,true,true,true,true,true,false,false,false,false,false,false,false]
def zo76 : Array Bool := #[true,true,true,true,true,true,true,true,true,true,true,true,true,true,true,true,true,true,true,true,true,true,true,true,true,true,true,true,true,true,true,true,true,true,true,false,false,false,false,false,false]
def zo77 : Array Bool := #[true,true,true,true,true,true,true,true,true,true,true,true,true,true,true,true,true,true,true,true,true,true,true,true,true,true,true,true,true,true,true,true,true,true,true,true,false,false,false,false,false]
def zo78 : Array Bool := #[true,true,true,true,true,true,true,true,true,true,true,true,true,true,true,true,true,true,true,true,true,true,true,true,true,true,true,true,true,true,true,true,true,true,true,true,true,false,false,false,false]
def zo79 : Array Bool := #[true,true,true,true,true,true,true,true,true,true,true,true,true,true,true,true,true,true,true,true,true,true,true,true,true,true,true,true,true,true,true,true,true,true,true,true,true,true,false,false,false]
def zo80 : Array Bool := #[true,true,true,true,true,true,true,true,true,true,true,true,true,true,true,true,true,true,true,true,true,true,true,true,true,true,true,true,true,true,true,true,true,true,true,true,true,true,true,false,false]
def zo81 : Array Bool := #[true,true,true,true,true,true,true,true,true,true,true,true,true,true,true,true,true,true,true,true,true,true,true,true,true,true,true,true,true,true,true,true,true,true,true,true,true,true,true,true,false]
def zo82 : Array Bool := #[true,true,true,true,true,true,true,true,true,true,true,true,true,true,true,true,true,true,true,true,true,true,true,true,true,true,true,true,true,true,true,true,true,true,true,true,true,true,true,true,true]
theorem zoI {α : Type} (l : List α) (i : Nat) (a : α) : l.toArray.setIfInBounds i a = (l.set i a).toArray := List.setIfInBounds_toArray l i a
theorem zos0 {α : Type} (x : α) (l : List α) (a : α) : (x :: l).set 0 a = a :: l := rfl
theorem zos1 {α : Type} (x : α) (l : List α) (i : Nat) (a : α) : (x :: l).set (i + 1) a = x :: l.set i a := rfl
def sweep_once.T3 : Bool × List (List Nat × List Nat) := (true,[([],[]),([0],[0]),([],[]),([2,1],[2]),([3,3],[3]),([1,4],[1,4])])
def sweep_once.B3 : List Nat := [0,1,0,7,15,31]
theorem sweep_once.tab3 : rtab .any (opsOf Try.f4 3) = sweep_once.T3 := by kernel_rfl
theorem sweep_once.bits3 : waitsOk sweep_once.T3.2 sweep_once.B3 = true := by kernel_rfl
def sweep_once.T7 : Bool × List (List Nat × List Nat) := (true,[([],[]),([],[]),([1],[1]),([],[]),([0,2,3,2],[0,2,3]),([4],[4]),([5],[5]),([5],[5]),([5],[5]),([],[]),([],[]),([9,6,4,0,1,2,3,4,5,6,9,10],[6,9]),([10,7,11,0,1,2,3,4,5,6,7,9,10,11],[7,10]),([8,12,0,1,2,3,4,5,6,7,8,9,10,11,12],[8])])
def sweep_once.B7 : List Nat := [0,0,2,0,15,31,63,63,63,0,0,1663,3839,8191]
theorem sweep_once.tab7 : rtab .any (opsOf Try.f4 7) = sweep_once.T7 := by kernel_rfl
theorem sweep_once.bits7 : waitsOk sweep_once.T7.2 sweep_once.B7 = true := by kernel_rfl
def sweep_once.T8 : Bool × List (List Nat × List Nat) := (true,[([],[]),([0],[0]),([1],[1]),([1],[1]),([2,3,1,1],[1,2,3]),([1],[1]),([5,4,1],[1,5]),([1],[1]),([6,7,6,1],[1,6,7]),([4,8,1],[1,4,8]),([1,9],[1,9]),([10,8],[10]),([11],[11]),([11],[11]),([12,13,11,11],[11,12,13]),([11],[11]),([15,14,11],[11,15]),([11],[11]),([16,17,16,11],[11,16,17]),([14,18,11],[11,14,18]),([11,19],[11,19]),([20,18],[20]),([21],[21]),([22,21,21],[21,22]),([21],[21]),([24,23,21],[21,24]),([25,25,21],[21,25]),([23,26,21],[21,23,26]),([21,27],[21,27]),([28,26],[28]),([29],[29]),([30,29,29],[29,30]),([29],[29]),([32,31,29],[29,32]),([33,33,29],[29,33]),([31,34,29],[29,31,34]),([29,35],[29,35]),([36,34],[36]),([37,37],[37]),([37,38],[37,38]),([39,38,0,1,2,3,4,5,6,7,8,9,10,11,12,13,14,15,16,17,18,19,20,21,22,23,24,25,26,27,28,29,30,31,32,33,34,35,36,37,38,39],[39])])
def sweep_once.B8 : List Nat := [0,1,3,3,15,3,63,3,255,511,1023,2047,4095,4095,16383,4095,65535,4095,262143,524287,1048575,2097151,4194303,8388607,4194303,33554431,67108863,134217727,268435455,536870911,1073741823,2147483647,1073741823,8589934591,17179869183,34359738367,68719476735,137438953471,274877906943,549755813887,1099511627775]
theorem sweep_once.tab8 : rtab .any (opsOf Try.f4 8) = sweep_once.T8 := by kernel_rfl
theorem sweep_once.bits8 : waitsOk sweep_once.T8.2 sweep_once.B8 = true := by kernel_rfl
theorem do_is (Aa : Option Addr) (ca : Nat) (Ab : Option Addr) (cb : Nat) (l : List Int) (v s n : Int) (kind seg nn : Int) (Ao : Option Addr) (co : Nat) (q : List Int) (w : World) (hCa : Kd.C (Kd.int .i64) w Aa l.length l) (hca : l.length ≤ ca) (hCb : Kd.C (Kd.int .i64) w Ab l.length l) (hcb : l.length ≤ cb) (hCo : Kd.C (Kd.int .i64) w Ao q.length q) (hco : q.length ≤ co) (hrt : rt l v s n = true) :
  Calls Try.prog 10 #[.agg #[.slice Aa l.length ca,.int .i64 v,.int .i64 s,.int .i64 n],.agg #[.slice Ab l.length cb,.int .i64 v,.int .i64 s,.int .i64 n],.agg #[.int .i64 kind,.int .i64 seg,.int .i64 nn,.slice Ao q.length co]] w fun e w' => (∃ (A1 : Option Addr) (n1 d1 : Nat) (v1 s1 k1 : Int) (A2 : Option Addr) (n2 d2 : Nat) (v2 s2 k2 : Int),e = .returned (.tuple #[.agg #[.slice A1 n1 d1,.int .i64 v1,.int .i64 s1,.int .i64 k1],.agg #[.slice A2 n2 d2,.int .i64 v2,.int .i64 s2,.int .i64 k2],.bool true])) ∧ Below w.heap.size w w' := by
 refine (do_calls Aa ca Ab cb l v s n kind seg nn Ao co q w hCa hca hCb hcb hCo hco hrt).mono ?_
 rintro e w' ⟨h,hb⟩
 refine ⟨?_,hb⟩
 rcases h with rfl | ⟨r,v',s',n',vx,vy,rfl,_,hx,hy⟩
 ·exact ⟨_,_,_,_,_,_,_,_,_,_,_,_,rfl⟩
 ·obtain ⟨A1,c1,rfl,_,_⟩ := Kd.R_reads hx
  obtain ⟨A2,c2,rfl,_,_⟩ := Kd.R_reads hy
  exact ⟨_,_,_,_,_,_,_,_,_,_,_,_,rfl⟩
set_option maxHeartbeats 8000000 in
set_option maxRecDepth 100000 in
theorem SweepOnce_walk0 (A0 : Option Addr) (c0 : Nat) (l0 : List Int) (v s n kind seg nn : Int) (Ao : Option Addr) (co : Nat) (q : List Int) (u8v : Int) (hu8 : 0 ≤ u8v ∧ u8v ≤ 255) (w : World) (hC : Kd.C (Kd.int .i64) w A0 l0.length l0) (hc : l0.length ≤ c0) (hCo : Kd.C (Kd.int .i64) w Ao q.length q) (hco : q.length ≤ co) :
  Calls Try.prog 4 #[.agg #[.slice A0 l0.length c0,.int .i64 v,.int .i64 s,.int .i64 n],.agg #[.int .i64 (kind),.int .i64 (seg),.int .i64 (nn),.slice Ao q.length co],.int .u8 u8v] w fun e w' => e = .returned (.bool true) ∧ Below w.heap.size w w' := by
 obtain ⟨l,hl⟩ : ∃ l,l = l0.take 20 := ⟨_,rfl⟩
 have hl20 : l.length ≤ 20 := by rw [hl,List.length_take]; omega
 have HCl : Aside0 (Kd.C (Kd.int .i64) w A0 l.length l) := ⟨by rw [hl,List.take_eq_take_min]; exact Kd.C_take hC (by omega)⟩
 have Hcl : Aside0 (l.length ≤ c0) := ⟨by rw [hl,List.length_take]; omega⟩
 have H20 := Aside0.mk hl20
 have HC0 := Aside0.mk hc
 have HLL := Aside0.mk hl
 have HCo := Aside0.mk hCo
 have Hco := Aside0.mk hco
 clear hC hc hl20 hl hCo hco
 go_enter Try.func4,Try.ntmps4
 go_upto_region 1 with fail
 obtain ⟨W1,hW1⟩ : ∃ W1,W1 = (w.alloc (.cells #[.slice A0 l0.length c0,.int .i64 (v),.int .i64 (s),.int .i64 (n)] 25)).alloc (.cells #[.int .i64 (kind),.int .i64 (seg),.int .i64 (nn),.slice Ao q.length co] 32) := ⟨_,rfl⟩
 rw [← hW1]
 obtain ⟨go,hgo⟩ : ∃ g,g = w.heap.size + 1 := ⟨_,rfl⟩
 obtain ⟨gs,hgs⟩ : ∃ g,g = w.heap.size := ⟨_,rfl⟩
 have HXs : Aside0 (W1.heap[gs]? = some (.cells #[.slice A0 l0.length c0,.int .i64 (v),.int .i64 (s),.int .i64 (n)] 25 (0,0))) := ⟨by rw [hW1,hgs]; exact blk_alloc (blk_new _ _) _⟩
 have HXo : Aside0 (W1.heap[go]? = some (.cells #[.int .i64 (kind),.int .i64 (seg),.int .i64 (nn),.slice Ao q.length co] 32 (0,0))) := ⟨by rw [hW1,hgo]; exact blk_at (by simp)⟩
 have HB : Aside0 (Below w.heap.size w W1) := ⟨by rw [hW1]; exact below_alloc (below_alloc (Below.refl _ _) _) _⟩
 have HGs : Aside0 (w.heap.size ≤ gs) := ⟨by omega⟩
 have Nos : Aside0 (go ≠ gs) := ⟨by omega⟩
 rw [← hgo,← hgs]
 clear hW1 hgs hgo
 have s_0 : W1.cell? ⟨gs,0,none⟩ = some (.slice A0 l0.length c0) := (blk_cell HXs.out 0).trans rfl
 have s_1 : W1.cell? ⟨gs,1,none⟩ = some (.int .i64 (v)) := (blk_cell HXs.out 1).trans rfl
 have s_2 : W1.cell? ⟨gs,2,none⟩ = some (.int .i64 (s)) := (blk_cell HXs.out 2).trans rfl
 have s_3 : W1.cell? ⟨gs,3,none⟩ = some (.int .i64 (n)) := (blk_cell HXs.out 3).trans rfl
 go_wp2_with fail
 clear s_0 s_1 s_2 s_3
 refine (lodgerlaw15_Cut.calls A0 c0 l0 v s n _ HC0.out).mono ?_
 rintro e w2 ⟨rfl,hb⟩
 rw [← HLL.out]
 replace HXs := Aside0.mk (blk_below HXs.out hb)
 replace HXo := Aside0.mk (blk_below HXo.out hb)
 replace HB := Aside0.mk (below_step HB.out hb)
 clear hb
 have sf_0 := blk_frozen HXs.out 0
 have sf_1 := blk_frozen HXs.out 1
 have sf_2 := blk_frozen HXs.out 2
 have sf_3 := blk_frozen HXs.out 3
 have s_0 : w2.cell? ⟨gs,0,none⟩ = some (.slice A0 l0.length c0) := (blk_cell HXs.out 0).trans rfl
 have s_1 : w2.cell? ⟨gs,1,none⟩ = some (.int .i64 (v)) := (blk_cell HXs.out 1).trans rfl
 have s_2 : w2.cell? ⟨gs,2,none⟩ = some (.int .i64 (s)) := (blk_cell HXs.out 2).trans rfl
 have s_3 : w2.cell? ⟨gs,3,none⟩ = some (.int .i64 (n)) := (blk_cell HXs.out 3).trans rfl
 go_upto_region 2 with fail
 clear s_0 s_1 s_2 s_3 sf_0 sf_1 sf_2 sf_3
 obtain ⟨W3,hW⟩ : ∃ W_,W_ = ((((w2.setCell ⟨gs,0,none⟩ (.slice A0 l.length c0)).setCell ⟨gs,1,none⟩ (.int .i64 (v))).setCell ⟨gs,2,none⟩ (.int .i64 (s))).setCell ⟨gs,3,none⟩ (.int .i64 (n))) := ⟨_,rfl⟩
 rw [← hW]
 replace HXo := Aside0.mk (far4 hW HXo.out Nos.out)
 replace HXs := Aside0.mk (set4 hW HXs.out)
 replace HB := Aside0.mk (below4 hW HB.out HGs.out)
 clear hW
 go_upto_region 3 with fail
 obtain ⟨e,he⟩ : ∃ j_ : Int,j_ = u8v % 31 := ⟨_,rfl⟩
 rw [← he]
 clear he
 obtain ⟨b,hb⟩ : ∃ b,rt l v s n = b := ⟨_,rfl⟩
 have HRT := Aside0.mk hb
 clear hb
 go_wp2_with fail
 refine start_ (n := 6) (S := fun w' => w'.cell? ⟨gs,0,none⟩ = some (.slice A0 l.length c0) ∧ w'.cell? ⟨gs,1,none⟩ = some (.int .i64 (v)) ∧ w'.cell? ⟨gs,2,none⟩ = some (.int .i64 (s)) ∧ w'.cell? ⟨gs,3,none⟩ = some (.int .i64 (n))) (ds := []) zo0 (by kernel_rfl) rfl rfl ⟨((blk_cell (blk_drew HXs.out) 0).trans rfl),((blk_cell (blk_drew HXs.out) 1).trans rfl),((blk_cell (blk_drew HXs.out) 2).trans rfl),((blk_cell (blk_drew HXs.out) 3).trans rfl)⟩ (fun hHeld => ?_)
 refine with_tabW sweep_once.tab3 sweep_once.bits3 (fun HT_ HW_ => ?_)
 replace HXs := Aside0.mk (blk_drew HXs.out)
 replace HXo := Aside0.mk (blk_drew HXo.out)
 replace HB := Aside0.mk (below_drew HB.out)
 generalize W3.drew = wd3 at *
 refine take_ (i := 0) (N := some 16) (v := ?_) (a' := ?_) zo1 rfl rfl (take_ofW HT_.out HW_.out (by kernel_rfl)) (fun _ _ _ h => h) (Or.inl ⟨by rfl,?_⟩) hHeld ?_ ?_
 rotate_left
 ·rintro w' ⟨s0,s1,s2,s3⟩
  go_simp
  with_reducible rfl
 rotate_left
 ·simp only [Act.put,zoI,zos0,zos1,i64_w,i32_w]
  rfl
 refine take_ (i := 2) (N := some 18) (v := ?_) (a' := ?_) zo2 rfl rfl (take_ofW HT_.out HW_.out (by kernel_rfl)) (fun _ _ _ h => h) (Or.inl ⟨by rfl,?_⟩) hHeld ?_ ?_
 rotate_left
 ·rintro w' ⟨s0,s1,s2,s3⟩
  go_simp
  with_reducible rfl
 rotate_left
 ·simp only [Act.put,zoI,zos0,zos1,i64_w,i32_w]
  rfl
 refine one_ (i := 1) (N := some 17) zo3 rfl rfl (one_of HT_.out (by kernel_rfl)) (by decide) (fun K hK => ?_)
 refine goes_ Try.func11 (by kernel_rfl) rfl #[.agg #[.slice A0 l.length c0,.int .i64 (v),.int .i64 (s),.int .i64 (n)]] (by rfl) rfl rfl (by simp only [List.map_toArray,List.map_cons,List.map_nil]; rfl) ?_
 with_reducible refine (sweep_Right.calls 61 A0 c0 l v s n b _ (Kd.C_below HCl.out HB.out) Hcl.out ((right_is l v s n H20.out 61 (by omega)).trans (congrArg some HRT.out))).mono ?_
 rintro e_ wa ⟨rfl,hb⟩
 refine ⟨_,rfl,?_⟩
 replace HXs := Aside0.mk (blk_below HXs.out hb)
 replace HXo := Aside0.mk (blk_below HXo.out hb)
 replace HB := Aside0.mk (below_step HB.out hb)
 clear hb
 refine hK.out _ _ ⟨((blk_cell HXs.out 0).trans rfl),((blk_cell HXs.out 1).trans rfl),((blk_cell HXs.out 2).trans rfl),((blk_cell HXs.out 3).trans rfl)⟩ (fun hHeld => ?_)
 clear hK K
 refine norm_ (a' := ?_) ?_ ?_
 rotate_left
 ·show Act.put _ (some 17) _ = _
  simp only [Act.put,zoI,zos0,zos1,i64_w,i32_w]
  rfl
 refine one_ (i := 3) (N := some 19) zo4 rfl rfl (one_of HT_.out (by kernel_rfl)) (by decide) (fun K hK => ?_)
 refine goes_ Try.func21 (by kernel_rfl) rfl #[.agg #[.slice A0 l.length c0,.int .i64 (v),.int .i64 (s),.int .i64 (n)]] (by rfl) rfl rfl (by simp only [List.map_toArray,List.map_cons,List.map_nil]; rfl) ?_
 with_reducible refine (lodgerlaw15_Ref.calls A0 c0 l v s n _).mono ?_
 rintro e_ wb ⟨rfl,hb⟩
 refine ⟨_,rfl,?_⟩
 replace HXs := Aside0.mk (blk_below HXs.out hb)
 replace HXo := Aside0.mk (blk_below HXo.out hb)
 replace HB := Aside0.mk (below_step HB.out hb)
 clear hb
 refine hK.out _ _ ⟨((blk_cell HXs.out 0).trans rfl),((blk_cell HXs.out 1).trans rfl),((blk_cell HXs.out 2).trans rfl),((blk_cell HXs.out 3).trans rfl)⟩ (fun hHeld => ?_)
 clear hK K
 refine norm_ (a' := ?_) ?_ ?_
 rotate_left
 ·show Act.put _ (some 19) _ = _
  simp only [Act.put,zoI,zos0,zos1,i64_w,i32_w]
  rfl
 refine one_ (i := 4) (N := some 20) zo5 rfl rfl (one_of HT_.out (by kernel_rfl)) (by decide) (fun K hK => ?_)
 refine goes_ Try.func20 (by kernel_rfl) rfl #[.agg #[.slice A0 l.length c0,.int .i64 (v),.int .i64 (s),.int .i64 (n)]] (by rfl) rfl rfl (by simp only [List.map_toArray,List.map_cons,List.map_nil]; rfl) ?_
 with_reducible refine (lodgerref15_Right.calls 61 A0 c0 l v s n b _ (Kd.C_below HCl.out HB.out) Hcl.out ((ref_right_is l v s n H20.out 61 (by omega)).trans (congrArg some HRT.out))).mono ?_
 rintro e_ wc ⟨rfl,hb⟩
 refine ⟨_,rfl,?_⟩
 replace HXs := Aside0.mk (blk_below HXs.out hb)
 replace HXo := Aside0.mk (blk_below HXo.out hb)
 replace HB := Aside0.mk (below_step HB.out hb)
 clear hb
 refine hK.out _ _ ⟨((blk_cell HXs.out 0).trans rfl),((blk_cell HXs.out 1).trans rfl),((blk_cell HXs.out 2).trans rfl),((blk_cell HXs.out 3).trans rfl)⟩ (fun hHeld => ?_)
 clear hK K
 refine norm_ (a' := ?_) ?_ ?_
 rotate_left
 ·show Act.put _ (some 20) _ = _
  simp only [Act.put,zoI,zos0,zos1,i64_w,i32_w]
  rfl
 refine pure_ (i := 5) (N := some 21) (v := ?_) (a' := ?_) zo6 rfl rfl (any_of HT_.out (by kernel_rfl)) (fun _ _ _ h => h) (Or.inl ⟨by rfl,?_⟩) ?_ ?_
 rotate_left
 ·intro w'
  go_simp
  with_reducible rfl
 rotate_left
 ·simp only [Act.put,zoI,zos0,zos1,i64_w,i32_w]
  rfl
 refine done_ (done_of HT_.out (by kernel_rfl)) ?_
 clear HT_ HW_ hHeld
 have s_0 : wc.cell? ⟨gs,0,none⟩ = some (.slice A0 l.length c0) := (blk_cell HXs.out 0).trans rfl
 have s_1 : wc.cell? ⟨gs,1,none⟩ = some (.int .i64 (v)) := (blk_cell HXs.out 1).trans rfl
 have s_2 : wc.cell? ⟨gs,2,none⟩ = some (.int .i64 (s)) := (blk_cell HXs.out 2).trans rfl
 have s_3 : wc.cell? ⟨gs,3,none⟩ = some (.int .i64 (n)) := (blk_cell HXs.out 3).trans rfl
 go_wp2_with fail
 clear s_0 s_1 s_2 s_3
 refine (lodgerlaw15_Ref.calls A0 c0 l v s n _).mono ?_
 rintro e_ w4 ⟨rfl,hb⟩
 replace HXs := Aside0.mk (blk_below HXs.out hb)
 replace HXo := Aside0.mk (blk_below HXo.out hb)
 replace HB := Aside0.mk (below_step HB.out hb)
 clear hb
 go_wp2_with fail
 refine (lodgerref15_Right.calls 61 A0 c0 l v s n b _ (Kd.C_below HCl.out HB.out) Hcl.out ((ref_right_is l v s n H20.out 61 (by omega)).trans (congrArg some HRT.out))).mono ?_
 rintro e_ w5 ⟨rfl,hb⟩
 replace HXs := Aside0.mk (blk_below HXs.out hb)
 replace HXo := Aside0.mk (blk_below HXo.out hb)
 replace HB := Aside0.mk (below_step HB.out hb)
 clear hb
 cases b
 ·go_wp2_with fail
  refine (lodgerlaw15_fixed.calls _).mono ?_
  rintro e wf ⟨rfl,hb⟩
  go_wp2
  go_ret
  exact ⟨rfl,below_step HB.out hb⟩
 ·go_wp2_with fail
  refine start_ (n := 14) (S := fun w' => w'.cell? ⟨gs,0,none⟩ = some (.slice A0 l.length c0) ∧ w'.cell? ⟨gs,1,none⟩ = some (.int .i64 (v)) ∧ w'.cell? ⟨gs,2,none⟩ = some (.int .i64 (s)) ∧ w'.cell? ⟨gs,3,none⟩ = some (.int .i64 (n)) ∧ w'.cell? ⟨go,0,none⟩ = some (.int .i64 (kind)) ∧ w'.cell? ⟨go,1,none⟩ = some (.int .i64 (seg)) ∧ w'.cell? ⟨go,2,none⟩ = some (.int .i64 (nn)) ∧ w'.cell? ⟨go,3,none⟩ = some (.slice Ao q.length co)) (ds := []) zo7 (by kernel_rfl) rfl rfl ⟨((blk_cell (blk_drew HXs.out) 0).trans rfl),((blk_cell (blk_drew HXs.out) 1).trans rfl),((blk_cell (blk_drew HXs.out) 2).trans rfl),((blk_cell (blk_drew HXs.out) 3).trans rfl),((blk_cell (blk_drew HXo.out) 0).trans rfl),((blk_cell (blk_drew HXo.out) 1).trans rfl),((blk_cell (blk_drew HXo.out) 2).trans rfl),((blk_cell (blk_drew HXo.out) 3).trans rfl)⟩ (fun hHeld => ?_)
  refine with_tabW sweep_once.tab7 sweep_once.bits7 (fun HT_ HW_ => ?_)
  replace HXs := Aside0.mk (blk_drew HXs.out)
  replace HXo := Aside0.mk (blk_drew HXo.out)
  replace HB := Aside0.mk (below_drew HB.out)
  generalize w5.drew = wd7 at *
  refine take_ (i := 0) (N := some 28) (v := ?_) (a' := ?_) zo8 rfl rfl (take_ofW HT_.out HW_.out (by kernel_rfl)) (fun _ _ _ h => h) (Or.inl ⟨by rfl,?_⟩) hHeld ?_ ?_
  rotate_left
  ·rintro w' ⟨s0,s1,s2,s3,s4,s5,s6,s7⟩
   go_simp
   with_reducible rfl
  rotate_left
  ·simp only [Act.put,zoI,zos0,zos1,i64_w,i32_w]
   rfl
  refine take_ (i := 1) (N := some 29) (v := ?_) (a' := ?_) zo9 rfl rfl (take_ofW HT_.out HW_.out (by kernel_rfl)) (fun _ _ _ h => h) (Or.inl ⟨by rfl,?_⟩) hHeld ?_ ?_
  rotate_left
  ·rintro w' ⟨s0,s1,s2,s3,s4,s5,s6,s7⟩
   go_simp
   with_reducible rfl
  rotate_left
  ·simp only [Act.put,zoI,zos0,zos1,i64_w,i32_w]
   rfl
  refine take_ (i := 3) (N := some 31) (v := ?_) (a' := ?_) zo10 rfl rfl (take_ofW HT_.out HW_.out (by kernel_rfl)) (fun _ _ _ h => h) (Or.inl ⟨by rfl,?_⟩) hHeld ?_ ?_
  rotate_left
  ·rintro w' ⟨s0,s1,s2,s3,s4,s5,s6,s7⟩
   go_simp
   with_reducible rfl
  rotate_left
  ·simp only [Act.put,zoI,zos0,zos1,i64_w,i32_w]
   rfl
  refine join_ (σ := Nat × Nat × Value × Value × Value) 3 zo11 (fun s_ => [(30,.agg #[.slice A0 l.length c0,.int .i64 (v),.int .i64 (s),.int .i64 (n)]),(32,s_.2.2.1),(27,s_.2.2.1),(33,s_.2.2.2.1),(34,s_.2.2.2.2),(35,.bool true),(8,.pointer (some ⟨s_.1,0,none⟩)),(9,.pointer (some ⟨s_.2.1,0,none⟩))]) (fun s_ w' => w'.heap[s_.1]? = some (.cells #[.slice none 0 0,.int .i64 0,.int .i64 0,.int .i64 0] 25 (0,0)) ∧ w'.heap[s_.2.1]? = some (.cells #[.slice none 0 0,.int .i64 0,.int .i64 0,.int .i64 0] 27 (0,0)) ∧ w'.heap[gs]? = some (.cells #[.slice A0 l.length c0,.int .i64 (v),.int .i64 (s),.int .i64 (n)] 25 (0,0)) ∧ w'.heap[go]? = some (.cells #[.int .i64 (kind),.int .i64 (seg),.int .i64 (nn),.slice Ao q.length co] 32 (0,0)) ∧ Below w.heap.size w w' ∧ w.heap.size ≤ s_.1 ∧ w.heap.size ≤ s_.2.1 ∧ gs ≠ s_.1 ∧ go ≠ s_.1 ∧ gs ≠ s_.2.1 ∧ go ≠ s_.2.1 ∧ s_.1 ≠ s_.2.1 ∧ (∃ (A1 : Option Addr) (n1 d1 : Nat) (v1 s1 k1 : Int) (A2 : Option Addr) (n2 d2 : Nat) (v2 s2 k2 : Int),s_.2.2.1 = .tuple #[.agg #[.slice A1 n1 d1,.int .i64 v1,.int .i64 s1,.int .i64 k1],.agg #[.slice A2 n2 d2,.int .i64 v2,.int .i64 s2,.int .i64 k2],.bool true] ∧ s_.2.2.2.1 = .agg #[.slice A1 n1 d1,.int .i64 v1,.int .i64 s1,.int .i64 k1] ∧ s_.2.2.2.2 = .agg #[.slice A2 n2 d2,.int .i64 v2,.int .i64 s2,.int .i64 k2])) ?_ ?_
  rotate_left
  ·intro hCont
   refine three_ (i := 2) (j := 9) (k := 10) (Ni := some 30) (Nj := some 8) (Nk := some 9) zo12 zo13 zo14 rfl rfl rfl rfl rfl rfl (three_of HT_.out (by kernel_rfl)) (by decide) (by decide) (by decide) (fun K hK => ?_) (fun K hK => ?_) (fun K hK => ?_)
   ·skip
    refine goes_ Try.func21 (by kernel_rfl) rfl #[.agg #[.slice A0 l.length c0,.int .i64 (v),.int .i64 (s),.int .i64 (n)]] (by rfl) rfl rfl (by simp only [List.map_toArray,List.map_cons,List.map_nil]; rfl) ?_
    with_reducible refine (lodgerlaw15_Ref.calls A0 c0 l v s n _).mono ?_
    rintro e_ wf1 ⟨rfl,hb⟩
    refine ⟨_,rfl,?_⟩
    replace HXs := Aside0.mk (blk_below HXs.out hb)
    replace HXo := Aside0.mk (blk_below HXo.out hb)
    replace HB := Aside0.mk (below_step HB.out hb)
    clear hb
    refine hK.out _ _ ⟨((blk_cell HXs.out 0).trans rfl),((blk_cell HXs.out 1).trans rfl),((blk_cell HXs.out 2).trans rfl),((blk_cell HXs.out 3).trans rfl),((blk_cell HXo.out 0).trans rfl),((blk_cell HXo.out 1).trans rfl),((blk_cell HXo.out 2).trans rfl),((blk_cell HXo.out 3).trans rfl)⟩ (fun hHeld => ?_)
    clear hK K
    refine norm_ (a' := ?_) ?_ ?_
    rotate_left
    ·show Act.put _ (some 30) _ = _
     simp only [Act.put,zoI,zos0,zos1,i64_w,i32_w]
     rfl
    refine three_ (i := 4) (j := 9) (k := 10) (Ni := some 32) (Nj := some 8) (Nk := some 9) zo15 zo16 zo17 rfl rfl rfl rfl rfl rfl (three_of HT_.out (by kernel_rfl)) (by decide) (by decide) (by decide) (fun K hK => ?_) (fun K hK => ?_) (fun K hK => ?_)
    ·skip
     refine goes_ Try.func10 (by kernel_rfl) rfl #[.agg #[.slice A0 l.length c0,.int .i64 (v),.int .i64 (s),.int .i64 (n)],.agg #[.slice A0 l.length c0,.int .i64 (v),.int .i64 (s),.int .i64 (n)],.agg #[.int .i64 (kind),.int .i64 (seg),.int .i64 (nn),.slice Ao q.length co]] (by rfl) rfl rfl (by simp only [List.map_toArray,List.map_cons,List.map_nil]; rfl) ?_
     with_reducible refine (do_is A0 c0 A0 c0 l v s n kind seg nn Ao co q _ (Kd.C_below HCl.out HB.out) Hcl.out (Kd.C_below HCl.out HB.out) Hcl.out (Kd.C_below HCo.out HB.out) Hco.out HRT.out).mono ?_
     rintro e_ wf2 ⟨hV,hb⟩
     obtain ⟨A1,n1,d1,v1,s1,k1,A2,n2,d2,v2,s2,k2,rfl⟩ := hV
     refine ⟨_,rfl,?_⟩
     replace HXs := Aside0.mk (blk_below HXs.out hb)
     replace HXo := Aside0.mk (blk_below HXo.out hb)
     replace HB := Aside0.mk (below_step HB.out hb)
     clear hb
     refine hK.out _ _ ⟨((blk_cell HXs.out 0).trans rfl),((blk_cell HXs.out 1).trans rfl),((blk_cell HXs.out 2).trans rfl),((blk_cell HXs.out 3).trans rfl),((blk_cell HXo.out 0).trans rfl),((blk_cell HXo.out 1).trans rfl),((blk_cell HXo.out 2).trans rfl),((blk_cell HXo.out 3).trans rfl)⟩ (fun hHeld => ?_)
     clear hK K
     refine norm_ (a' := ?_) ?_ ?_
     rotate_left
     ·show Act.put _ (some 32) _ = _
      simp only [Act.put,zoI,zos0,zos1,i64_w,i32_w]
      rfl
     refine pure_ (i := 5) (N := some 27) (v := ?_) (a' := ?_) zo18 rfl rfl (any_of HT_.out (by kernel_rfl)) (fun _ _ _ h => h) (Or.inl ⟨by rfl,?_⟩) ?_ ?_
     rotate_left
     ·intro w'
      go_simp
      with_reducible rfl
     rotate_left
     ·simp only [Act.put,zoI,zos0,zos1,i64_w,i32_w]
      rfl
     refine pure_ (i := 6) (N := some 33) (v := ?_) (a' := ?_) zo19 rfl rfl (any_of HT_.out (by kernel_rfl)) (fun _ _ _ h => h) (Or.inl ⟨by rfl,?_⟩) ?_ ?_
     rotate_left
     ·intro w'
      go_simp
      with_reducible rfl
     rotate_left
     ·simp only [Act.put,zoI,zos0,zos1,i64_w,i32_w]
      rfl
     refine pure_ (i := 7) (N := some 34) (v := ?_) (a' := ?_) zo20 rfl rfl (any_of HT_.out (by kernel_rfl)) (fun _ _ _ h => h) (Or.inl ⟨by rfl,?_⟩) ?_ ?_
     rotate_left
     ·intro w'
      go_simp
      with_reducible rfl
     rotate_left
     ·simp only [Act.put,zoI,zos0,zos1,i64_w,i32_w]
      rfl
     refine pure_ (i := 8) (N := some 35) (v := ?_) (a' := ?_) zo21 rfl rfl (any_of HT_.out (by kernel_rfl)) (fun _ _ _ h => h) (Or.inl ⟨by rfl,?_⟩) ?_ ?_
     rotate_left
     ·intro w'
      go_simp
      with_reducible rfl
     rotate_left
     ·simp only [Act.put,zoI,zos0,zos1,i64_w,i32_w]
      rfl
     refine two_ (i := 9) (j := 10) (Ni := some 8) (Nj := some 9) zo22 zo23 rfl rfl rfl rfl (two_of HT_.out (by kernel_rfl)) (by decide) (by decide) (fun K hK => ?_) (fun K hK => ?_)
     ·skip
      refine value_ (w1 := ?_) (v := ?_) (by rfl) rfl ?_ ?_
      rotate_left 2
      ·go_simp
       constructor
       ·rfl
       ·rfl
      obtain ⟨wf3,hW⟩ : ∃ W_,W_ = wf2.alloc (.cells #[.slice none 0 0,.int .i64 0,.int .i64 0,.int .i64 0] 25) := ⟨_,rfl⟩
      rw [← hW]
      obtain ⟨g8,hg⟩ : ∃ g,g = wf2.heap.size := ⟨_,rfl⟩
      rw [← hg]
      have hb : Below wf2.heap.size wf2 wf3 := by rw [hW]; exact below_alloc (Below.refl _ _) _
      have hx_ : wf3.heap[g8]? = some (.cells #[.slice none 0 0,.int .i64 0,.int .i64 0,.int .i64 0] 25 (0,0)) := by rw [hW,hg]; exact blk_new _ _
      have HG8 : Aside0 (w.heap.size ≤ g8) := ⟨by rw [hg]; exact below_size HB.out⟩
      have Ns8 : Aside0 (gs ≠ g8) := ⟨by rw [hg]; exact Nat.ne_of_lt (blk_lt HXs.out)⟩
      have No8 : Aside0 (go ≠ g8) := ⟨by rw [hg]; exact Nat.ne_of_lt (blk_lt HXo.out)⟩
      replace HXs := Aside0.mk (blk_below HXs.out hb)
      replace HXo := Aside0.mk (blk_below HXo.out hb)
      replace HB := Aside0.mk (below_step HB.out hb)
      have HX8 := Aside0.mk hx_
      clear hx_ hb hg hW
      refine hK.out _ _ ⟨((blk_cell HXs.out 0).trans rfl),((blk_cell HXs.out 1).trans rfl),((blk_cell HXs.out 2).trans rfl),((blk_cell HXs.out 3).trans rfl),((blk_cell HXo.out 0).trans rfl),((blk_cell HXo.out 1).trans rfl),((blk_cell HXo.out 2).trans rfl),((blk_cell HXo.out 3).trans rfl)⟩ (fun hHeld => ?_)
      clear hK K
      refine norm_ (a' := ?_) ?_ ?_
      rotate_left
      ·show Act.put _ (some 8) _ = _
       simp only [Act.put,zoI,zos0,zos1,i64_w,i32_w]
       rfl
      refine one_ (i := 10) (N := some 9) zo11 rfl rfl (one_of HT_.out (by kernel_rfl)) (by decide) (fun K hK => ?_)
      refine value_ (w1 := ?_) (v := ?_) (by rfl) rfl ?_ ?_
      rotate_left 2
      ·go_simp
       constructor
       ·rfl
       ·rfl
      obtain ⟨wf4,hW⟩ : ∃ W_,W_ = wf3.alloc (.cells #[.slice none 0 0,.int .i64 0,.int .i64 0,.int .i64 0] 27) := ⟨_,rfl⟩
      rw [← hW]
      obtain ⟨g9,hg⟩ : ∃ g,g = wf3.heap.size := ⟨_,rfl⟩
      rw [← hg]
      have hb : Below wf3.heap.size wf3 wf4 := by rw [hW]; exact below_alloc (Below.refl _ _) _
      have hx_ : wf4.heap[g9]? = some (.cells #[.slice none 0 0,.int .i64 0,.int .i64 0,.int .i64 0] 27 (0,0)) := by rw [hW,hg]; exact blk_new _ _
      have HG9 : Aside0 (w.heap.size ≤ g9) := ⟨by rw [hg]; exact below_size HB.out⟩
      have Ns9 : Aside0 (gs ≠ g9) := ⟨by rw [hg]; exact Nat.ne_of_lt (blk_lt HXs.out)⟩
      have No9 : Aside0 (go ≠ g9) := ⟨by rw [hg]; exact Nat.ne_of_lt (blk_lt HXo.out)⟩
      have N89 : Aside0 (g8 ≠ g9) := ⟨by rw [hg]; exact Nat.ne_of_lt (blk_lt HX8.out)⟩
      replace HXs := Aside0.mk (blk_below HXs.out hb)
      replace HXo := Aside0.mk (blk_below HXo.out hb)
      replace HX8 := Aside0.mk (blk_below HX8.out hb)
      replace HB := Aside0.mk (below_step HB.out hb)
      have HX9 := Aside0.mk hx_
      clear hx_ hb hg hW
      refine hK.out _ _ ⟨((blk_cell HXs.out 0).trans rfl),((blk_cell HXs.out 1).trans rfl),((blk_cell HXs.out 2).trans rfl),((blk_cell HXs.out 3).trans rfl),((blk_cell HXo.out 0).trans rfl),((blk_cell HXo.out 1).trans rfl),((blk_cell HXo.out 2).trans rfl),((blk_cell HXo.out 3).trans rfl)⟩ (fun hHeld => ?_)
      clear hK K
      refine norm_ (a' := ?_) ?_ ?_
      rotate_left
      ·show Act.put _ (some 9) _ = _
       simp only [Act.put,zoI,zos0,zos1,i64_w,i32_w]
       rfl
      exact norm_ (by first | (simp only [putAll,Act.put,zoI,zos0,zos1]; done) | (simp only [putAll,Act.put,zoI,zos0,zos1]; rfl)) (hCont (g8,g9,.tuple #[.agg #[.slice A1 n1 d1,.int .i64 v1,.int .i64 s1,.int .i64 k1],.agg #[.slice A2 n2 d2,.int .i64 v2,.int .i64 s2,.int .i64 k2],.bool true],.agg #[.slice A1 n1 d1,.int .i64 v1,.int .i64 s1,.int .i64 k1],.agg #[.slice A2 n2 d2,.int .i64 v2,.int .i64 s2,.int .i64 k2]) _ ⟨HX8.out,HX9.out,HXs.out,HXo.out,HB.out,HG8.out,HG9.out,Ns8.out,No8.out,Ns9.out,No9.out,N89.out,A1,n1,d1,v1,s1,k1,A2,n2,d2,v2,s2,k2,rfl,rfl,rfl⟩)
     ·skip
      refine value_ (w1 := ?_) (v := ?_) (by rfl) rfl ?_ ?_
      rotate_left 2
      ·go_simp
       constructor
       ·rfl
       ·rfl
      obtain ⟨wf3,hW⟩ : ∃ W_,W_ = wf2.alloc (.cells #[.slice none 0 0,.int .i64 0,.int .i64 0,.int .i64 0] 27) := ⟨_,rfl⟩
      rw [← hW]
      obtain ⟨g9,hg⟩ : ∃ g,g = wf2.heap.size := ⟨_,rfl⟩
      rw [← hg]
      have hb : Below wf2.heap.size wf2 wf3 := by rw [hW]; exact below_alloc (Below.refl _ _) _
      have hx_ : wf3.heap[g9]? = some (.cells #[.slice none 0 0,.int .i64 0,.int .i64 0,.int .i64 0] 27 (0,0)) := by rw [hW,hg]; exact blk_new _ _
      have HG9 : Aside0 (w.heap.size ≤ g9) := ⟨by rw [hg]; exact below_size HB.out⟩
      have Ns9 : Aside0 (gs ≠ g9) := ⟨by rw [hg]; exact Nat.ne_of_lt (blk_lt HXs.out)⟩
      have No9 : Aside0 (go ≠ g9) := ⟨by rw [hg]; exact Nat.ne_of_lt (blk_lt HXo.out)⟩
      replace HXs := Aside0.mk (blk_below HXs.out hb)
      replace HXo := Aside0.mk (blk_below HXo.out hb)
      replace HB := Aside0.mk (below_step HB.out hb)
      have HX9 := Aside0.mk hx_
      clear hx_ hb hg hW
      refine hK.out _ _ ⟨((blk_cell HXs.out 0).trans rfl),((blk_cell HXs.out 1).trans rfl),((blk_cell HXs.out 2).trans rfl),((blk_cell HXs.out 3).trans rfl),((blk_cell HXo.out 0).trans rfl),((blk_cell HXo.out 1).trans rfl),((blk_cell HXo.out 2).trans rfl),((blk_cell HXo.out 3).trans rfl)⟩ (fun hHeld => ?_)
      clear hK K
      refine norm_ (a' := ?_) ?_ ?_
      rotate_left
      ·show Act.put _ (some 9) _ = _
       simp only [Act.put,zoI,zos0,zos1,i64_w,i32_w]
       rfl
      refine one_ (i := 9) (N := some 8) zo11 rfl rfl (one_of HT_.out (by kernel_rfl)) (by decide) (fun K hK => ?_)
      refine value_ (w1 := ?_) (v := ?_) (by rfl) rfl ?_ ?_
      rotate_left 2
      ·go_simp
       constructor
       ·rfl
       ·rfl
      obtain ⟨wf4,hW⟩ : ∃ W_,W_ = wf3.alloc (.cells #[.slice none 0 0,.int .i64 0,.int .i64 0,.int .i64 0] 25) := ⟨_,rfl⟩
      rw [← hW]
      obtain ⟨g8,hg⟩ : ∃ g,g = wf3.heap.size := ⟨_,rfl⟩
      rw [← hg]
      have hb : Below wf3.heap.size wf3 wf4 := by rw [hW]; exact below_alloc (Below.refl _ _) _
      have hx_ : wf4.heap[g8]? = some (.cells #[.slice none 0 0,.int .i64 0,.int .i64 0,.int .i64 0] 25 (0,0)) := by rw [hW,hg]; exact blk_new _ _
      have HG8 : Aside0 (w.heap.size ≤ g8) := ⟨by rw [hg]; exact below_size HB.out⟩
      have Ns8 : Aside0 (gs ≠ g8) := ⟨by rw [hg]; exact Nat.ne_of_lt (blk_lt HXs.out)⟩
      have No8 : Aside0 (go ≠ g8) := ⟨by rw [hg]; exact Nat.ne_of_lt (blk_lt HXo.out)⟩
      have N98 : Aside0 (g9 ≠ g8) := ⟨by rw [hg]; exact Nat.ne_of_lt (blk_lt HX9.out)⟩
      replace HXs := Aside0.mk (blk_below HXs.out hb)
      replace HXo := Aside0.mk (blk_below HXo.out hb)
      replace HX9 := Aside0.mk (blk_below HX9.out hb)
      replace HB := Aside0.mk (below_step HB.out hb)
      have HX8 := Aside0.mk hx_
      clear hx_ hb hg hW
      refine hK.out _ _ ⟨((blk_cell HXs.out 0).trans rfl),((blk_cell HXs.out 1).trans rfl),((blk_cell HXs.out 2).trans rfl),((blk_cell HXs.out 3).trans rfl),((blk_cell HXo.out 0).trans rfl),((blk_cell HXo.out 1).trans rfl),((blk_cell HXo.out 2).trans rfl),((blk_cell HXo.out 3).trans rfl)⟩ (fun hHeld => ?_)
      clear hK K
      refine norm_ (a' := ?_) ?_ ?_
      rotate_left
      ·show Act.put _ (some 8) _ = _
       simp only [Act.put,zoI,zos0,zos1,i64_w,i32_w]
       rfl
      exact norm_ (by first | (simp only [putAll,Act.put,zoI,zos0,zos1]; done) | (simp only [putAll,Act.put,zoI,zos0,zos1]; rfl)) (hCont (g8,g9,.tuple #[.agg #[.slice A1 n1 d1,.int .i64 v1,.int .i64 s1,.int .i64 k1],.agg #[.slice A2 n2 d2,.int .i64 v2,.int .i64 s2,.int .i64 k2],.bool true],.agg #[.slice A1 n1 d1,.int .i64 v1,.int .i64 s1,.int .i64 k1],.agg #[.slice A2 n2 d2,.int .i64 v2,.int .i64 s2,.int .i64 k2]) _ ⟨HX8.out,HX9.out,HXs.out,HXo.out,HB.out,HG8.out,HG9.out,Ns8.out,No8.out,Ns9.out,No9.out,(Ne.symm N98.out),A1,n1,d1,v1,s1,k1,A2,n2,d2,v2,s2,k2,rfl,rfl,rfl⟩)
    ·skip
     refine value_ (w1 := ?_) (v := ?_) (by rfl) rfl ?_ ?_
     rotate_left 2
     ·go_simp
      constructor
      ·rfl
      ·rfl
     obtain ⟨wf2,hW⟩ : ∃ W_,W_ = wf1.alloc (.cells #[.slice none 0 0,.int .i64 0,.int .i64 0,.int .i64 0] 25) := ⟨_,rfl⟩
     rw [← hW]
     obtain ⟨g8,hg⟩ : ∃ g,g = wf1.heap.size := ⟨_,rfl⟩
     rw [← hg]
     have hb : Below wf1.heap.size wf1 wf2 := by rw [hW]; exact below_alloc (Below.refl _ _) _
     have hx_ : wf2.heap[g8]? = some (.cells #[.slice none 0 0,.int .i64 0,.int .i64 0,.int .i64 0] 25 (0,0)) := by rw [hW,hg]; exact blk_new _ _
     have HG8 : Aside0 (w.heap.size ≤ g8) := ⟨by rw [hg]; exact below_size HB.out⟩
     have Ns8 : Aside0 (gs ≠ g8) := ⟨by rw [hg]; exact Nat.ne_of_lt (blk_lt HXs.out)⟩
     have No8 : Aside0 (go ≠ g8) := ⟨by rw [hg]; exact Nat.ne_of_lt (blk_lt HXo.out)⟩
     replace HXs := Aside0.mk (blk_below HXs.out hb)
     replace HXo := Aside0.mk (blk_below HXo.out hb)
     replace HB := Aside0.mk (below_step HB.out hb)
     have HX8 := Aside0.mk hx_
     clear hx_ hb hg hW
     refine hK.out _ _ ⟨((blk_cell HXs.out 0).trans rfl),((blk_cell HXs.out 1).trans rfl),((blk_cell HXs.out 2).trans rfl),((blk_cell HXs.out 3).trans rfl),((blk_cell HXo.out 0).trans rfl),((blk_cell HXo.out 1).trans rfl),((blk_cell HXo.out 2).trans rfl),((blk_cell HXo.out 3).trans rfl)⟩ (fun hHeld => ?_)
     clear hK K
     refine norm_ (a' := ?_) ?_ ?_
     rotate_left
     ·show Act.put _ (some 8) _ = _
      simp only [Act.put,zoI,zos0,zos1,i64_w,i32_w]
      rfl
     refine two_ (i := 4) (j := 10) (Ni := some 32) (Nj := some 9) zo24 zo25 rfl rfl rfl rfl (two_of HT_.out (by kernel_rfl)) (by decide) (by decide) (fun K hK => ?_) (fun K hK => ?_)
     ·skip
      refine goes_ Try.func10 (by kernel_rfl) rfl #[.agg #[.slice A0 l.length c0,.int .i64 (v),.int .i64 (s),.int .i64 (n)],.agg #[.slice A0 l.length c0,.int .i64 (v),.int .i64 (s),.int .i64 (n)],.agg #[.int .i64 (kind),.int .i64 (seg),.int .i64 (nn),.slice Ao q.length co]] (by rfl) rfl rfl (by simp only [List.map_toArray,List.map_cons,List.map_nil]; rfl) ?_
      with_reducible refine (do_is A0 c0 A0 c0 l v s n kind seg nn Ao co q _ (Kd.C_below HCl.out HB.out) Hcl.out (Kd.C_below HCl.out HB.out) Hcl.out (Kd.C_below HCo.out HB.out) Hco.out HRT.out).mono ?_
      rintro e_ wf3 ⟨hV,hb⟩
      obtain ⟨A1,n1,d1,v1,s1,k1,A2,n2,d2,v2,s2,k2,rfl⟩ := hV
      refine ⟨_,rfl,?_⟩
      replace HXs := Aside0.mk (blk_below HXs.out hb)
      replace HXo := Aside0.mk (blk_below HXo.out hb)
      replace HX8 := Aside0.mk (blk_below HX8.out hb)
      replace HB := Aside0.mk (below_step HB.out hb)
      clear hb
      refine hK.out _ _ ⟨((blk_cell HXs.out 0).trans rfl),((blk_cell HXs.out 1).trans rfl),((blk_cell HXs.out 2).trans rfl),((blk_cell HXs.out 3).trans rfl),((blk_cell HXo.out 0).trans rfl),((blk_cell HXo.out 1).trans rfl),((blk_cell HXo.out 2).trans rfl),((blk_cell HXo.out 3).trans rfl)⟩ (fun hHeld => ?_)
      clear hK K
      refine norm_ (a' := ?_) ?_ ?_
      rotate_left
      ·show Act.put _ (some 32) _ = _
       simp only [Act.put,zoI,zos0,zos1,i64_w,i32_w]
       rfl
      refine pure_ (i := 5) (N := some 27) (v := ?_) (a' := ?_) zo26 rfl rfl (any_of HT_.out (by kernel_rfl)) (fun _ _ _ h => h) (Or.inl ⟨by rfl,?_⟩) ?_ ?_
      rotate_left
      ·intro w'
       go_simp
       with_reducible rfl
      rotate_left
      ·simp only [Act.put,zoI,zos0,zos1,i64_w,i32_w]
       rfl
      refine pure_ (i := 6) (N := some 33) (v := ?_) (a' := ?_) zo27 rfl rfl (any_of HT_.out (by kernel_rfl)) (fun _ _ _ h => h) (Or.inl ⟨by rfl,?_⟩) ?_ ?_
      rotate_left
      ·intro w'
       go_simp
       with_reducible rfl
      rotate_left
      ·simp only [Act.put,zoI,zos0,zos1,i64_w,i32_w]
       rfl
      refine pure_ (i := 7) (N := some 34) (v := ?_) (a' := ?_) zo28 rfl rfl (any_of HT_.out (by kernel_rfl)) (fun _ _ _ h => h) (Or.inl ⟨by rfl,?_⟩) ?_ ?_
      rotate_left
      ·intro w'
       go_simp
       with_reducible rfl
      rotate_left
      ·simp only [Act.put,zoI,zos0,zos1,i64_w,i32_w]
       rfl
      refine pure_ (i := 8) (N := some 35) (v := ?_) (a' := ?_) zo22 rfl rfl (any_of HT_.out (by kernel_rfl)) (fun _ _ _ h => h) (Or.inl ⟨by rfl,?_⟩) ?_ ?_
      rotate_left
      ·intro w'
       go_simp
       with_reducible rfl
      rotate_left
      ·simp only [Act.put,zoI,zos0,zos1,i64_w,i32_w]
       rfl
      refine one_ (i := 10) (N := some 9) zo11 rfl rfl (one_of HT_.out (by kernel_rfl)) (by decide) (fun K hK => ?_)
      refine value_ (w1 := ?_) (v := ?_) (by rfl) rfl ?_ ?_
      rotate_left 2
      ·go_simp
       constructor
       ·rfl
       ·rfl
      obtain ⟨wf4,hW⟩ : ∃ W_,W_ = wf3.alloc (.cells #[.slice none 0 0,.int .i64 0,.int .i64 0,.int .i64 0] 27) := ⟨_,rfl⟩
      rw [← hW]
      obtain ⟨g9,hg⟩ : ∃ g,g = wf3.heap.size := ⟨_,rfl⟩
      rw [← hg]
      have hb : Below wf3.heap.size wf3 wf4 := by rw [hW]; exact below_alloc (Below.refl _ _) _
      have hx_ : wf4.heap[g9]? = some (.cells #[.slice none 0 0,.int .i64 0,.int .i64 0,.int .i64 0] 27 (0,0)) := by rw [hW,hg]; exact blk_new _ _
      have HG9 : Aside0 (w.heap.size ≤ g9) := ⟨by rw [hg]; exact below_size HB.out⟩
      have Ns9 : Aside0 (gs ≠ g9) := ⟨by rw [hg]; exact Nat.ne_of_lt (blk_lt HXs.out)⟩
      have No9 : Aside0 (go ≠ g9) := ⟨by rw [hg]; exact Nat.ne_of_lt (blk_lt HXo.out)⟩
      have N89 : Aside0 (g8 ≠ g9) := ⟨by rw [hg]; exact Nat.ne_of_lt (blk_lt HX8.out)⟩
      replace HXs := Aside0.mk (blk_below HXs.out hb)
      replace HXo := Aside0.mk (blk_below HXo.out hb)
      replace HX8 := Aside0.mk (blk_below HX8.out hb)
      replace HB := Aside0.mk (below_step HB.out hb)
      have HX9 := Aside0.mk hx_
      clear hx_ hb hg hW
      refine hK.out _ _ ⟨((blk_cell HXs.out 0).trans rfl),((blk_cell HXs.out 1).trans rfl),((blk_cell HXs.out 2).trans rfl),((blk_cell HXs.out 3).trans rfl),((blk_cell HXo.out 0).trans rfl),((blk_cell HXo.out 1).trans rfl),((blk_cell HXo.out 2).trans rfl),((blk_cell HXo.out 3).trans rfl)⟩ (fun hHeld => ?_)
      clear hK K
      refine norm_ (a' := ?_) ?_ ?_
      rotate_left
      ·show Act.put _ (some 9) _ = _
       simp only [Act.put,zoI,zos0,zos1,i64_w,i32_w]
       rfl
      exact norm_ (by first | (simp only [putAll,Act.put,zoI,zos0,zos1]; done) | (simp only [putAll,Act.put,zoI,zos0,zos1]; rfl)) (hCont (g8,g9,.tuple #[.agg #[.slice A1 n1 d1,.int .i64 v1,.int .i64 s1,.int .i64 k1],.agg #[.slice A2 n2 d2,.int .i64 v2,.int .i64 s2,.int .i64 k2],.bool true],.agg #[.slice A1 n1 d1,.int .i64 v1,.int .i64 s1,.int .i64 k1],.agg #[.slice A2 n2 d2,.int .i64 v2,.int .i64 s2,.int .i64 k2]) _ ⟨HX8.out,HX9.out,HXs.out,HXo.out,HB.out,HG8.out,HG9.out,Ns8.out,No8.out,Ns9.out,No9.out,N89.out,A1,n1,d1,v1,s1,k1,A2,n2,d2,v2,s2,k2,rfl,rfl,rfl⟩)
     ·skip
      refine value_ (w1 := ?_) (v := ?_) (by rfl) rfl ?_ ?_
      rotate_left 2
      ·go_simp
       constructor
       ·rfl
       ·rfl
      obtain ⟨wf3,hW⟩ : ∃ W_,W_ = wf2.alloc (.cells #[.slice none 0 0,.int .i64 0,.int .i64 0,.int .i64 0] 27) := ⟨_,rfl⟩
      rw [← hW]
      obtain ⟨g9,hg⟩ : ∃ g,g = wf2.heap.size := ⟨_,rfl⟩
      rw [← hg]
      have hb : Below wf2.heap.size wf2 wf3 := by rw [hW]; exact below_alloc (Below.refl _ _) _
      have hx_ : wf3.heap[g9]? = some (.cells #[.slice none 0 0,.int .i64 0,.int .i64 0,.int .i64 0] 27 (0,0)) := by rw [hW,hg]; exact blk_new _ _
      have HG9 : Aside0 (w.heap.size ≤ g9) := ⟨by rw [hg]; exact below_size HB.out⟩
      have Ns9 : Aside0 (gs ≠ g9) := ⟨by rw [hg]; exact Nat.ne_of_lt (blk_lt HXs.out)⟩
      have No9 : Aside0 (go ≠ g9) := ⟨by rw [hg]; exact Nat.ne_of_lt (blk_lt HXo.out)⟩
      have N89 : Aside0 (g8 ≠ g9) := ⟨by rw [hg]; exact Nat.ne_of_lt (blk_lt HX8.out)⟩
      replace HXs := Aside0.mk (blk_below HXs.out hb)
      replace HXo := Aside0.mk (blk_below HXo.out hb)
      replace HX8 := Aside0.mk (blk_below HX8.out hb)
      replace HB := Aside0.mk (below_step HB.out hb)
      have HX9 := Aside0.mk hx_
      clear hx_ hb hg hW
      refine hK.out _ _ ⟨((blk_cell HXs.out 0).trans rfl),((blk_cell HXs.out 1).trans rfl),((blk_cell HXs.out 2).trans rfl),((blk_cell HXs.out 3).trans rfl),((blk_cell HXo.out 0).trans rfl),((blk_cell HXo.out 1).trans rfl),((blk_cell HXo.out 2).trans rfl),((blk_cell HXo.out 3).trans rfl)⟩ (fun hHeld => ?_)
      clear hK K
      refine norm_ (a' := ?_) ?_ ?_
      rotate_left
      ·show Act.put _ (some 9) _ = _
       simp only [Act.put,zoI,zos0,zos1,i64_w,i32_w]
       rfl
      refine one_ (i := 4) (N := some 32) zo29 rfl rfl (one_of HT_.out (by kernel_rfl)) (by decide) (fun K hK => ?_)
      refine goes_ Try.func10 (by kernel_rfl) rfl #[.agg #[.slice A0 l.length c0,.int .i64 (v),.int .i64 (s),.int .i64 (n)],.agg #[.slice A0 l.length c0,.int .i64 (v),.int .i64 (s),.int .i64 (n)],.agg #[.int .i64 (kind),.int .i64 (seg),.int .i64 (nn),.slice Ao q.length co]] (by rfl) rfl rfl (by simp only [List.map_toArray,List.map_cons,List.map_nil]; rfl) ?_
      with_reducible refine (do_is A0 c0 A0 c0 l v s n kind seg nn Ao co q _ (Kd.C_below HCl.out HB.out) Hcl.out (Kd.C_below HCl.out HB.out) Hcl.out (Kd.C_below HCo.out HB.out) Hco.out HRT.out).mono ?_
      rintro e_ wf4 ⟨hV,hb⟩
      obtain ⟨A1,n1,d1,v1,s1,k1,A2,n2,d2,v2,s2,k2,rfl⟩ := hV
      refine ⟨_,rfl,?_⟩
      replace HXs := Aside0.mk (blk_below HXs.out hb)
      replace HXo := Aside0.mk (blk_below HXo.out hb)
      replace HX8 := Aside0.mk (blk_below HX8.out hb)
      replace HX9 := Aside0.mk (blk_below HX9.out hb)
      replace HB := Aside0.mk (below_step HB.out hb)
      clear hb
      refine hK.out _ _ ⟨((blk_cell HXs.out 0).trans rfl),((blk_cell HXs.out 1).trans rfl),((blk_cell HXs.out 2).trans rfl),((blk_cell HXs.out 3).trans rfl),((blk_cell HXo.out 0).trans rfl),((blk_cell HXo.out 1).trans rfl),((blk_cell HXo.out 2).trans rfl),((blk_cell HXo.out 3).trans rfl)⟩ (fun hHeld => ?_)
      clear hK K
      refine norm_ (a' := ?_) ?_ ?_
      rotate_left
      ·show Act.put _ (some 32) _ = _
       simp only [Act.put,zoI,zos0,zos1,i64_w,i32_w]
       rfl
      refine pure_ (i := 5) (N := some 27) (v := ?_) (a' := ?_) zo30 rfl rfl (any_of HT_.out (by kernel_rfl)) (fun _ _ _ h => h) (Or.inl ⟨by rfl,?_⟩) ?_ ?_
      rotate_left
      ·intro w'
       go_simp
       with_reducible rfl
      rotate_left
      ·simp only [Act.put,zoI,zos0,zos1,i64_w,i32_w]
       rfl
      refine pure_ (i := 6) (N := some 33) (v := ?_) (a' := ?_) zo31 rfl rfl (any_of HT_.out (by kernel_rfl)) (fun _ _ _ h => h) (Or.inl ⟨by rfl,?_⟩) ?_ ?_
      rotate_left
      ·intro w'
       go_simp
       with_reducible rfl
      rotate_left
      ·simp only [Act.put,zoI,zos0,zos1,i64_w,i32_w]
       rfl
      refine pure_ (i := 7) (N := some 34) (v := ?_) (a' := ?_) zo32 rfl rfl (any_of HT_.out (by kernel_rfl)) (fun _ _ _ h => h) (Or.inl ⟨by rfl,?_⟩) ?_ ?_
      rotate_left
      ·intro w'
       go_simp
       with_reducible rfl
      rotate_left
      ·simp only [Act.put,zoI,zos0,zos1,i64_w,i32_w]
       rfl
      refine pure_ (i := 8) (N := some 35) (v := ?_) (a' := ?_) zo11 rfl rfl (any_of HT_.out (by kernel_rfl)) (fun _ _ _ h => h) (Or.inl ⟨by rfl,?_⟩) ?_ ?_
      rotate_left
      ·intro w'
       go_simp
       with_reducible rfl
      rotate_left
      ·simp only [Act.put,zoI,zos0,zos1,i64_w,i32_w]
       rfl
      exact norm_ (by first | (simp only [putAll,Act.put,zoI,zos0,zos1]; done) | (simp only [putAll,Act.put,zoI,zos0,zos1]; rfl)) (hCont (g8,g9,.tuple #[.agg #[.slice A1 n1 d1,.int .i64 v1,.int .i64 s1,.int .i64 k1],.agg #[.slice A2 n2 d2,.int .i64 v2,.int .i64 s2,.int .i64 k2],.bool true],.agg #[.slice A1 n1 d1,.int .i64 v1,.int .i64 s1,.int .i64 k1],.agg #[.slice A2 n2 d2,.int .i64 v2,.int .i64 s2,.int .i64 k2]) _ ⟨HX8.out,HX9.out,HXs.out,HXo.out,HB.out,HG8.out,HG9.out,Ns8.out,No8.out,Ns9.out,No9.out,N89.out,A1,n1,d1,v1,s1,k1,A2,n2,d2,v2,s2,k2,rfl,rfl,rfl⟩)
    ·skip
     refine value_ (w1 := ?_) (v := ?_) (by rfl) rfl ?_ ?_
     rotate_left 2
     ·go_simp
      constructor
      ·rfl
      ·rfl
     obtain ⟨wf2,hW⟩ : ∃ W_,W_ = wf1.alloc (.cells #[.slice none 0 0,.int .i64 0,.int .i64 0,.int .i64 0] 27) := ⟨_,rfl⟩
     rw [← hW]
     obtain ⟨g9,hg⟩ : ∃ g,g = wf1.heap.size := ⟨_,rfl⟩
     rw [← hg]
     have hb : Below wf1.heap.size wf1 wf2 := by rw [hW]; exact below_alloc (Below.refl _ _) _
     have hx_ : wf2.heap[g9]? = some (.cells #[.slice none 0 0,.int .i64 0,.int .i64 0,.int .i64 0] 27 (0,0)) := by rw [hW,hg]; exact blk_new _ _
     have HG9 : Aside0 (w.heap.size ≤ g9) := ⟨by rw [hg]; exact below_size HB.out⟩
     have Ns9 : Aside0 (gs ≠ g9) := ⟨by rw [hg]; exact Nat.ne_of_lt (blk_lt HXs.out)⟩
     have No9 : Aside0 (go ≠ g9) := ⟨by rw [hg]; exact Nat.ne_of_lt (blk_lt HXo.out)⟩
     replace HXs := Aside0.mk (blk_below HXs.out hb)
     replace HXo := Aside0.mk (blk_below HXo.out hb)
     replace HB := Aside0.mk (below_step HB.out hb)
     have HX9 := Aside0.mk hx_
     clear hx_ hb hg hW
     refine hK.out _ _ ⟨((blk_cell HXs.out 0).trans rfl),((blk_cell HXs.out 1).trans rfl),((blk_cell HXs.out 2).trans rfl),((blk_cell HXs.out 3).trans rfl),((blk_cell HXo.out 0).trans rfl),((blk_cell HXo.out 1).trans rfl),((blk_cell HXo.out 2).trans rfl),((blk_cell HXo.out 3).trans rfl)⟩ (fun hHeld => ?_)
     clear hK K
     refine norm_ (a' := ?_) ?_ ?_
     rotate_left
     ·show Act.put _ (some 9) _ = _
      simp only [Act.put,zoI,zos0,zos1,i64_w,i32_w]
      rfl
     refine two_ (i := 4) (j := 9) (Ni := some 32) (Nj := some 8) zo33 zo25 rfl rfl rfl rfl (two_of HT_.out (by kernel_rfl)) (by decide) (by decide) (fun K hK => ?_) (fun K hK => ?_)
     ·skip
      refine goes_ Try.func10 (by kernel_rfl) rfl #[.agg #[.slice A0 l.length c0,.int .i64 (v),.int .i64 (s),.int .i64 (n)],.agg #[.slice A0 l.length c0,.int .i64 (v),.int .i64 (s),.int .i64 (n)],.agg #[.int .i64 (kind),.int .i64 (seg),.int .i64 (nn),.slice Ao q.length co]] (by rfl) rfl rfl (by simp only [List.map_toArray,List.map_cons,List.map_nil]; rfl) ?_
      with_reducible refine (do_is A0 c0 A0 c0 l v s n kind seg nn Ao co q _ (Kd.C_below HCl.out HB.out) Hcl.out (Kd.C_below HCl.out HB.out) Hcl.out (Kd.C_below HCo.out HB.out) Hco.out HRT.out).mono ?_
      rintro e_ wf3 ⟨hV,hb⟩
      obtain ⟨A1,n1,d1,v1,s1,k1,A2,n2,d2,v2,s2,k2,rfl⟩ := hV
      refine ⟨_,rfl,?_⟩
      replace HXs := Aside0.mk (blk_below HXs.out hb)
      replace HXo := Aside0.mk (blk_below HXo.out hb)
      replace HX9 := Aside0.mk (blk_below HX9.out hb)
      replace HB := Aside0.mk (below_step HB.out hb)
      clear hb
      refine hK.out _ _ ⟨((blk_cell HXs.out 0).trans rfl),((blk_cell HXs.out 1).trans rfl),((blk_cell HXs.out 2).trans rfl),((blk_cell HXs.out 3).trans rfl),((blk_cell HXo.out 0).trans rfl),((blk_cell HXo.out 1).trans rfl),((blk_cell HXo.out 2).trans rfl),((blk_cell HXo.out 3).trans rfl)⟩ (fun hHeld => ?_)
      clear hK K
      refine norm_ (a' := ?_) ?_ ?_
      rotate_left
      ·show Act.put _ (some 32) _ = _
       simp only [Act.put,zoI,zos0,zos1,i64_w,i32_w]
       rfl
      refine pure_ (i := 5) (N := some 27) (v := ?_) (a' := ?_) zo34 rfl rfl (any_of HT_.out (by kernel_rfl)) (fun _ _ _ h => h) (Or.inl ⟨by rfl,?_⟩) ?_ ?_
      rotate_left
      ·intro w'
       go_simp
       with_reducible rfl
      rotate_left
      ·simp only [Act.put,zoI,zos0,zos1,i64_w,i32_w]
       rfl
      refine pure_ (i := 6) (N := some 33) (v := ?_) (a' := ?_) zo35 rfl rfl (any_of HT_.out (by kernel_rfl)) (fun _ _ _ h => h) (Or.inl ⟨by rfl,?_⟩) ?_ ?_
      rotate_left
      ·intro w'
       go_simp
       with_reducible rfl
      rotate_left
      ·simp only [Act.put,zoI,zos0,zos1,i64_w,i32_w]
       rfl
      refine pure_ (i := 7) (N := some 34) (v := ?_) (a' := ?_) zo36 rfl rfl (any_of HT_.out (by kernel_rfl)) (fun _ _ _ h => h) (Or.inl ⟨by rfl,?_⟩) ?_ ?_
      rotate_left
      ·intro w'
       go_simp
       with_reducible rfl
      rotate_left
      ·simp only [Act.put,zoI,zos0,zos1,i64_w,i32_w]
       rfl
      refine pure_ (i := 8) (N := some 35) (v := ?_) (a' := ?_) zo23 rfl rfl (any_of HT_.out (by kernel_rfl)) (fun _ _ _ h => h) (Or.inl ⟨by rfl,?_⟩) ?_ ?_
      rotate_left
      ·intro w'
       go_simp
       with_reducible rfl
      rotate_left
      ·simp only [Act.put,zoI,zos0,zos1,i64_w,i32_w]
       rfl
      refine one_ (i := 9) (N := some 8) zo11 rfl rfl (one_of HT_.out (by kernel_rfl)) (by decide) (fun K hK => ?_)
      refine value_ (w1 := ?_) (v := ?_) (by rfl) rfl ?_ ?_
      rotate_left 2
      ·go_simp
       constructor
       ·rfl
       ·rfl
      obtain ⟨wf4,hW⟩ : ∃ W_,W_ = wf3.alloc (.cells #[.slice none 0 0,.int .i64 0,.int .i64 0,.int .i64 0] 25) := ⟨_,rfl⟩
      rw [← hW]
      obtain ⟨g8,hg⟩ : ∃ g,g = wf3.heap.size := ⟨_,rfl⟩
      rw [← hg]
      have hb : Below wf3.heap.size wf3 wf4 := by rw [hW]; exact below_alloc (Below.refl _ _) _
      have hx_ : wf4.heap[g8]? = some (.cells #[.slice none 0 0,.int .i64 0,.int .i64 0,.int .i64 0] 25 (0,0)) := by rw [hW,hg]; exact blk_new _ _
      have HG8 : Aside0 (w.heap.size ≤ g8) := ⟨by rw [hg]; exact below_size HB.out⟩
      have Ns8 : Aside0 (gs ≠ g8) := ⟨by rw [hg]; exact Nat.ne_of_lt (blk_lt HXs.out)⟩
      have No8 : Aside0 (go ≠ g8) := ⟨by rw [hg]; exact Nat.ne_of_lt (blk_lt HXo.out)⟩
      have N98 : Aside0 (g9 ≠ g8) := ⟨by rw [hg]; exact Nat.ne_of_lt (blk_lt HX9.out)⟩
      replace HXs := Aside0.mk (blk_below HXs.out hb)
      replace HXo := Aside0.mk (blk_below HXo.out hb)
      replace HX9 := Aside0.mk (blk_below HX9.out hb)
      replace HB := Aside0.mk (below_step HB.out hb)
      have HX8 := Aside0.mk hx_
      clear hx_ hb hg hW
      refine hK.out _ _ ⟨((blk_cell HXs.out 0).trans rfl),((blk_cell HXs.out 1).trans rfl),((blk_cell HXs.out 2).trans rfl),((blk_cell HXs.out 3).trans rfl),((blk_cell HXo.out 0).trans rfl),((blk_cell HXo.out 1).trans rfl),((blk_cell HXo.out 2).trans rfl),((blk_cell HXo.out 3).trans rfl)⟩ (fun hHeld => ?_)
      clear hK K
      refine norm_ (a' := ?_) ?_ ?_
      rotate_left
      ·show Act.put _ (some 8) _ = _
       simp only [Act.put,zoI,zos0,zos1,i64_w,i32_w]
       rfl
      exact norm_ (by first | (simp only [putAll,Act.put,zoI,zos0,zos1]; done) | (simp only [putAll,Act.put,zoI,zos0,zos1]; rfl)) (hCont (g8,g9,.tuple #[.agg #[.slice A1 n1 d1,.int .i64 v1,.int .i64 s1,.int .i64 k1],.agg #[.slice A2 n2 d2,.int .i64 v2,.int .i64 s2,.int .i64 k2],.bool true],.agg #[.slice A1 n1 d1,.int .i64 v1,.int .i64 s1,.int .i64 k1],.agg #[.slice A2 n2 d2,.int .i64 v2,.int .i64 s2,.int .i64 k2]) _ ⟨HX8.out,HX9.out,HXs.out,HXo.out,HB.out,HG8.out,HG9.out,Ns8.out,No8.out,Ns9.out,No9.out,(Ne.symm N98.out),A1,n1,d1,v1,s1,k1,A2,n2,d2,v2,s2,k2,rfl,rfl,rfl⟩)
     ·skip
      refine value_ (w1 := ?_) (v := ?_) (by rfl) rfl ?_ ?_
      rotate_left 2
      ·go_simp
       constructor
       ·rfl
       ·rfl
      obtain ⟨wf3,hW⟩ : ∃ W_,W_ = wf2.alloc (.cells #[.slice none 0 0,.int .i64 0,.int .i64 0,.int .i64 0] 25) := ⟨_,rfl⟩
      rw [← hW]
      obtain ⟨g8,hg⟩ : ∃ g,g = wf2.heap.size := ⟨_,rfl⟩
      rw [← hg]
      have hb : Below wf2.heap.size wf2 wf3 := by rw [hW]; exact below_alloc (Below.refl _ _) _
      have hx_ : wf3.heap[g8]? = some (.cells #[.slice none 0 0,.int .i64 0,.int .i64 0,.int .i64 0] 25 (0,0)) := by rw [hW,hg]; exact blk_new _ _
      have HG8 : Aside0 (w.heap.size ≤ g8) := ⟨by rw [hg]; exact below_size HB.out⟩
      have Ns8 : Aside0 (gs ≠ g8) := ⟨by rw [hg]; exact Nat.ne_of_lt (blk_lt HXs.out)⟩
      have No8 : Aside0 (go ≠ g8) := ⟨by rw [hg]; exact Nat.ne_of_lt (blk_lt HXo.out)⟩
      have N98 : Aside0 (g9 ≠ g8) := ⟨by rw [hg]; exact Nat.ne_of_lt (blk_lt HX9.out)⟩
      replace HXs := Aside0.mk (blk_below HXs.out hb)
      replace HXo := Aside0.mk (blk_below HXo.out hb)
      replace HX9 := Aside0.mk (blk_below HX9.out hb)
      replace HB := Aside0.mk (below_step HB.out hb)
      have HX8 := Aside0.mk hx_
      clear hx_ hb hg hW
      refine hK.out _ _ ⟨((blk_cell HXs.out 0).trans rfl),((blk_cell HXs.out 1).trans rfl),((blk_cell HXs.out 2).trans rfl),((blk_cell HXs.out 3).trans rfl),((blk_cell HXo.out 0).trans rfl),((blk_cell HXo.out 1).trans rfl),((blk_cell HXo.out 2).trans rfl),((blk_cell HXo.out 3).trans rfl)⟩ (fun hHeld => ?_)
      clear hK K
      refine norm_ (a' := ?_) ?_ ?_
      rotate_left
      ·show Act.put _ (some 8) _ = _
       simp only [Act.put,zoI,zos0,zos1,i64_w,i32_w]
       rfl
      refine one_ (i := 4) (N := some 32) zo29 rfl rfl (one_of HT_.out (by kernel_rfl)) (by decide) (fun K hK => ?_)
      refine goes_ Try.func10 (by kernel_rfl) rfl #[.agg #[.slice A0 l.length c0,.int .i64 (v),.int .i64 (s),.int .i64 (n)],.agg #[.slice A0 l.length c0,.int .i64 (v),.int .i64 (s),.int .i64 (n)],.agg #[.int .i64 (kind),.int .i64 (seg),.int .i64 (nn),.slice Ao q.length co]] (by rfl) rfl rfl (by simp only [List.map_toArray,List.map_cons,List.map_nil]; rfl) ?_
      with_reducible refine (do_is A0 c0 A0 c0 l v s n kind seg nn Ao co q _ (Kd.C_below HCl.out HB.out) Hcl.out (Kd.C_below HCl.out HB.out) Hcl.out (Kd.C_below HCo.out HB.out) Hco.out HRT.out).mono ?_
      rintro e_ wf4 ⟨hV,hb⟩
      obtain ⟨A1,n1,d1,v1,s1,k1,A2,n2,d2,v2,s2,k2,rfl⟩ := hV
      refine ⟨_,rfl,?_⟩
      replace HXs := Aside0.mk (blk_below HXs.out hb)
      replace HXo := Aside0.mk (blk_below HXo.out hb)
      replace HX8 := Aside0.mk (blk_below HX8.out hb)
      replace HX9 := Aside0.mk (blk_below HX9.out hb)
      replace HB := Aside0.mk (below_step HB.out hb)
      clear hb
      refine hK.out _ _ ⟨((blk_cell HXs.out 0).trans rfl),((blk_cell HXs.out 1).trans rfl),((blk_cell HXs.out 2).trans rfl),((blk_cell HXs.out 3).trans rfl),((blk_cell HXo.out 0).trans rfl),((blk_cell HXo.out 1).trans rfl),((blk_cell HXo.out 2).trans rfl),((blk_cell HXo.out 3).trans rfl)⟩ (fun hHeld => ?_)
      clear hK K
      refine norm_ (a' := ?_) ?_ ?_
      rotate_left
      ·show Act.put _ (some 32) _ = _
       simp only [Act.put,zoI,zos0,zos1,i64_w,i32_w]
       rfl
      refine pure_ (i := 5) (N := some 27) (v := ?_) (a' := ?_) zo30 rfl rfl (any_of HT_.out (by kernel_rfl)) (fun _ _ _ h => h) (Or.inl ⟨by rfl,?_⟩) ?_ ?_
      rotate_left
      ·intro w'
       go_simp
       with_reducible rfl
      rotate_left
      ·simp only [Act.put,zoI,zos0,zos1,i64_w,i32_w]
       rfl
      refine pure_ (i := 6) (N := some 33) (v := ?_) (a' := ?_) zo31 rfl rfl (any_of HT_.out (by kernel_rfl)) (fun _ _ _ h => h) (Or.inl ⟨by rfl,?_⟩) ?_ ?_
      rotate_left
      ·intro w'
       go_simp
       with_reducible rfl
      rotate_left
      ·simp only [Act.put,zoI,zos0,zos1,i64_w,i32_w]
       rfl
      refine pure_ (i := 7) (N := some 34) (v := ?_) (a' := ?_) zo32 rfl rfl (any_of HT_.out (by kernel_rfl)) (fun _ _ _ h => h) (Or.inl ⟨by rfl,?_⟩) ?_ ?_
      rotate_left
      ·intro w'
       go_simp
       with_reducible rfl
      rotate_left
      ·simp only [Act.put,zoI,zos0,zos1,i64_w,i32_w]
       rfl
      refine pure_ (i := 8) (N := some 35) (v := ?_) (a' := ?_) zo11 rfl rfl (any_of HT_.out (by kernel_rfl)) (fun _ _ _ h => h) (Or.inl ⟨by rfl,?_⟩) ?_ ?_
      rotate_left
      ·intro w'
       go_simp
       with_reducible rfl
      rotate_left
      ·simp only [Act.put,zoI,zos0,zos1,i64_w,i32_w]
       rfl
      exact norm_ (by first | (simp only [putAll,Act.put,zoI,zos0,zos1]; done) | (simp only [putAll,Act.put,zoI,zos0,zos1]; rfl)) (hCont (g8,g9,.tuple #[.agg #[.slice A1 n1 d1,.int .i64 v1,.int .i64 s1,.int .i64 k1],.agg #[.slice A2 n2 d2,.int .i64 v2,.int .i64 s2,.int .i64 k2],.bool true],.agg #[.slice A1 n1 d1,.int .i64 v1,.int .i64 s1,.int .i64 k1],.agg #[.slice A2 n2 d2,.int .i64 v2,.int .i64 s2,.int .i64 k2]) _ ⟨HX8.out,HX9.out,HXs.out,HXo.out,HB.out,HG8.out,HG9.out,Ns8.out,No8.out,Ns9.out,No9.out,(Ne.symm N98.out),A1,n1,d1,v1,s1,k1,A2,n2,d2,v2,s2,k2,rfl,rfl,rfl⟩)
   ·skip
    refine value_ (w1 := ?_) (v := ?_) (by rfl) rfl ?_ ?_
    rotate_left 2
    ·go_simp
     constructor
     ·rfl
     ·rfl
    obtain ⟨wf1,hW⟩ : ∃ W_,W_ = wd7.alloc (.cells #[.slice none 0 0,.int .i64 0,.int .i64 0,.int .i64 0] 25) := ⟨_,rfl⟩
    rw [← hW]
    obtain ⟨g8,hg⟩ : ∃ g,g = wd7.heap.size := ⟨_,rfl⟩
    rw [← hg]
    have hb : Below wd7.heap.size wd7 wf1 := by rw [hW]; exact below_alloc (Below.refl _ _) _
    have hx_ : wf1.heap[g8]? = some (.cells #[.slice none 0 0,.int .i64 0,.int .i64 0,.int .i64 0] 25 (0,0)) := by rw [hW,hg]; exact blk_new _ _
    have HG8 : Aside0 (w.heap.size ≤ g8) := ⟨by rw [hg]; exact below_size HB.out⟩
    have Ns8 : Aside0 (gs ≠ g8) := ⟨by rw [hg]; exact Nat.ne_of_lt (blk_lt HXs.out)⟩
    have No8 : Aside0 (go ≠ g8) := ⟨by rw [hg]; exact Nat.ne_of_lt (blk_lt HXo.out)⟩
    replace HXs := Aside0.mk (blk_below HXs.out hb)
    replace HXo := Aside0.mk (blk_below HXo.out hb)
    replace HB := Aside0.mk (below_step HB.out hb)
    have HX8 := Aside0.mk hx_
    clear hx_ hb hg hW
    refine hK.out _ _ ⟨((blk_cell HXs.out 0).trans rfl),((blk_cell HXs.out 1).trans rfl),((blk_cell HXs.out 2).trans rfl),((blk_cell HXs.out 3).trans rfl),((blk_cell HXo.out 0).trans rfl),((blk_cell HXo.out 1).trans rfl),((blk_cell HXo.out 2).trans rfl),((blk_cell HXo.out 3).trans rfl)⟩ (fun hHeld => ?_)
    clear hK K
    refine norm_ (a' := ?_) ?_ ?_
    rotate_left
    ·show Act.put _ (some 8) _ = _
     simp only [Act.put,zoI,zos0,zos1,i64_w,i32_w]
     rfl
    refine two_ (i := 2) (j := 10) (Ni := some 30) (Nj := some 9) zo16 zo37 rfl rfl rfl rfl (two_of HT_.out (by kernel_rfl)) (by decide) (by decide) (fun K hK => ?_) (fun K hK => ?_)
    ·skip
     refine goes_ Try.func21 (by kernel_rfl) rfl #[.agg #[.slice A0 l.length c0,.int .i64 (v),.int .i64 (s),.int .i64 (n)]] (by rfl) rfl rfl (by simp only [List.map_toArray,List.map_cons,List.map_nil]; rfl) ?_
     with_reducible refine (lodgerlaw15_Ref.calls A0 c0 l v s n _).mono ?_
     rintro e_ wf2 ⟨rfl,hb⟩
     refine ⟨_,rfl,?_⟩
     replace HXs := Aside0.mk (blk_below HXs.out hb)
     replace HXo := Aside0.mk (blk_below HXo.out hb)
     replace HX8 := Aside0.mk (blk_below HX8.out hb)
     replace HB := Aside0.mk (below_step HB.out hb)
     clear hb
     refine hK.out _ _ ⟨((blk_cell HXs.out 0).trans rfl),((blk_cell HXs.out 1).trans rfl),((blk_cell HXs.out 2).trans rfl),((blk_cell HXs.out 3).trans rfl),((blk_cell HXo.out 0).trans rfl),((blk_cell HXo.out 1).trans rfl),((blk_cell HXo.out 2).trans rfl),((blk_cell HXo.out 3).trans rfl)⟩ (fun hHeld => ?_)
     clear hK K
     refine norm_ (a' := ?_) ?_ ?_
     rotate_left
     ·show Act.put _ (some 30) _ = _
      simp only [Act.put,zoI,zos0,zos1,i64_w,i32_w]
      rfl
     refine two_ (i := 4) (j := 10) (Ni := some 32) (Nj := some 9) zo24 zo25 rfl rfl rfl rfl (two_of HT_.out (by kernel_rfl)) (by decide) (by decide) (fun K hK => ?_) (fun K hK => ?_)
     ·skip
      refine goes_ Try.func10 (by kernel_rfl) rfl #[.agg #[.slice A0 l.length c0,.int .i64 (v),.int .i64 (s),.int .i64 (n)],.agg #[.slice A0 l.length c0,.int .i64 (v),.int .i64 (s),.int .i64 (n)],.agg #[.int .i64 (kind),.int .i64 (seg),.int .i64 (nn),.slice Ao q.length co]] (by rfl) rfl rfl (by simp only [List.map_toArray,List.map_cons,List.map_nil]; rfl) ?_
      with_reducible refine (do_is A0 c0 A0 c0 l v s n kind seg nn Ao co q _ (Kd.C_below HCl.out HB.out) Hcl.out (Kd.C_below HCl.out HB.out) Hcl.out (Kd.C_below HCo.out HB.out) Hco.out HRT.out).mono ?_
      rintro e_ wf3 ⟨hV,hb⟩
      obtain ⟨A1,n1,d1,v1,s1,k1,A2,n2,d2,v2,s2,k2,rfl⟩ := hV
      refine ⟨_,rfl,?_⟩
      replace HXs := Aside0.mk (blk_below HXs.out hb)
      replace HXo := Aside0.mk (blk_below HXo.out hb)
      replace HX8 := Aside0.mk (blk_below HX8.out hb)
      replace HB := Aside0.mk (below_step HB.out hb)
      clear hb
      refine hK.out _ _ ⟨((blk_cell HXs.out 0).trans rfl),((blk_cell HXs.out 1).trans rfl),((blk_cell HXs.out 2).trans rfl),((blk_cell HXs.out 3).trans rfl),((blk_cell HXo.out 0).trans rfl),((blk_cell HXo.out 1).trans rfl),((blk_cell HXo.out 2).trans rfl),((blk_cell HXo.out 3).trans rfl)⟩ (fun hHeld => ?_)
      clear hK K
      refine norm_ (a' := ?_) ?_ ?_
      rotate_left
      ·show Act.put _ (some 32) _ = _
       simp only [Act.put,zoI,zos0,zos1,i64_w,i32_w]
       rfl
      refine pure_ (i := 5) (N := some 27) (v := ?_) (a' := ?_) zo26 rfl rfl (any_of HT_.out (by kernel_rfl)) (fun _ _ _ h => h) (Or.inl ⟨by rfl,?_⟩) ?_ ?_
      rotate_left
      ·intro w'
       go_simp
       with_reducible rfl
      rotate_left
      ·simp only [Act.put,zoI,zos0,zos1,i64_w,i32_w]
       rfl
      refine pure_ (i := 6) (N := some 33) (v := ?_) (a' := ?_) zo27 rfl rfl (any_of HT_.out (by kernel_rfl)) (fun _ _ _ h => h) (Or.inl ⟨by rfl,?_⟩) ?_ ?_
      rotate_left
      ·intro w'
       go_simp
       with_reducible rfl
      rotate_left
      ·simp only [Act.put,zoI,zos0,zos1,i64_w,i32_w]
       rfl
      refine pure_ (i := 7) (N := some 34) (v := ?_) (a' := ?_) zo28 rfl rfl (any_of HT_.out (by kernel_rfl)) (fun _ _ _ h => h) (Or.inl ⟨by rfl,?_⟩) ?_ ?_
      rotate_left
      ·intro w'
       go_simp
       with_reducible rfl
      rotate_left
      ·simp only [Act.put,zoI,zos0,zos1,i64_w,i32_w]
       rfl
      refine pure_ (i := 8) (N := some 35) (v := ?_) (a' := ?_) zo22 rfl rfl (any_of HT_.out (by kernel_rfl)) (fun _ _ _ h => h) (Or.inl ⟨by rfl,?_⟩) ?_ ?_
      rotate_left
      ·intro w'
       go_simp
       with_reducible rfl
      rotate_left
      ·simp only [Act.put,zoI,zos0,zos1,i64_w,i32_w]
       rfl
      refine one_ (i := 10) (N := some 9) zo11 rfl rfl (one_of HT_.out (by kernel_rfl)) (by decide) (fun K hK => ?_)
      refine value_ (w1 := ?_) (v := ?_) (by rfl) rfl ?_ ?_
      rotate_left 2
      ·go_simp
       constructor
       ·rfl
       ·rfl
      obtain ⟨wf4,hW⟩ : ∃ W_,W_ = wf3.alloc (.cells #[.slice none 0 0,.int .i64 0,.int .i64 0,.int .i64 0] 27) := ⟨_,rfl⟩
      rw [← hW]
      obtain ⟨g9,hg⟩ : ∃ g,g = wf3.heap.size := ⟨_,rfl⟩
      rw [← hg]
      have hb : Below wf3.heap.size wf3 wf4 := by rw [hW]; exact below_alloc (Below.refl _ _) _
      have hx_ : wf4.heap[g9]? = some (.cells #[.slice none 0 0,.int .i64 0,.int .i64 0,.int .i64 0] 27 (0,0)) := by rw [hW,hg]; exact blk_new _ _
      have HG9 : Aside0 (w.heap.size ≤ g9) := ⟨by rw [hg]; exact below_size HB.out⟩
      have Ns9 : Aside0 (gs ≠ g9) := ⟨by rw [hg]; exact Nat.ne_of_lt (blk_lt HXs.out)⟩
      have No9 : Aside0 (go ≠ g9) := ⟨by rw [hg]; exact Nat.ne_of_lt (blk_lt HXo.out)⟩
      have N89 : Aside0 (g8 ≠ g9) := ⟨by rw [hg]; exact Nat.ne_of_lt (blk_lt HX8.out)⟩
      replace HXs := Aside0.mk (blk_below HXs.out hb)
      replace HXo := Aside0.mk (blk_below HXo.out hb)
      replace HX8 := Aside0.mk (blk_below HX8.out hb)
      replace HB := Aside0.mk (below_step HB.out hb)
      have HX9 := Aside0.mk hx_
      clear hx_ hb hg hW
      refine hK.out _ _ ⟨((blk_cell HXs.out 0).trans rfl),((blk_cell HXs.out 1).trans rfl),((blk_cell HXs.out 2).trans rfl),((blk_cell HXs.out 3).trans rfl),((blk_cell HXo.out 0).trans rfl),((blk_cell HXo.out 1).trans rfl),((blk_cell HXo.out 2).trans rfl),((blk_cell HXo.out 3).trans rfl)⟩ (fun hHeld => ?_)
      clear hK K
      refine norm_ (a' := ?_) ?_ ?_
      rotate_left
      ·show Act.put _ (some 9) _ = _
       simp only [Act.put,zoI,zos0,zos1,i64_w,i32_w]
       rfl
      exact norm_ (by first | (simp only [putAll,Act.put,zoI,zos0,zos1]; done) | (simp only [putAll,Act.put,zoI,zos0,zos1]; rfl)) (hCont (g8,g9,.tuple #[.agg #[.slice A1 n1 d1,.int .i64 v1,.int .i64 s1,.int .i64 k1],.agg #[.slice A2 n2 d2,.int .i64 v2,.int .i64 s2,.int .i64 k2],.bool true],.agg #[.slice A1 n1 d1,.int .i64 v1,.int .i64 s1,.int .i64 k1],.agg #[.slice A2 n2 d2,.int .i64 v2,.int .i64 s2,.int .i64 k2]) _ ⟨HX8.out,HX9.out,HXs.out,HXo.out,HB.out,HG8.out,HG9.out,Ns8.out,No8.out,Ns9.out,No9.out,N89.out,A1,n1,d1,v1,s1,k1,A2,n2,d2,v2,s2,k2,rfl,rfl,rfl⟩)
     ·skip
      refine value_ (w1 := ?_) (v := ?_) (by rfl) rfl ?_ ?_
      rotate_left 2
      ·go_simp
       constructor
       ·rfl
       ·rfl
      obtain ⟨wf3,hW⟩ : ∃ W_,W_ = wf2.alloc (.cells #[.slice none 0 0,.int .i64 0,.int .i64 0,.int .i64 0] 27) := ⟨_,rfl⟩
      rw [← hW]
      obtain ⟨g9,hg⟩ : ∃ g,g = wf2.heap.size := ⟨_,rfl⟩
      rw [← hg]
      have hb : Below wf2.heap.size wf2 wf3 := by rw [hW]; exact below_alloc (Below.refl _ _) _
      have hx_ : wf3.heap[g9]? = some (.cells #[.slice none 0 0,.int .i64 0,.int .i64 0,.int .i64 0] 27 (0,0)) := by rw [hW,hg]; exact blk_new _ _
      have HG9 : Aside0 (w.heap.size ≤ g9) := ⟨by rw [hg]; exact below_size HB.out⟩
      have Ns9 : Aside0 (gs ≠ g9) := ⟨by rw [hg]; exact Nat.ne_of_lt (blk_lt HXs.out)⟩
      have No9 : Aside0 (go ≠ g9) := ⟨by rw [hg]; exact Nat.ne_of_lt (blk_lt HXo.out)⟩
      have N89 : Aside0 (g8 ≠ g9) := ⟨by rw [hg]; exact Nat.ne_of_lt (blk_lt HX8.out)⟩
      replace HXs := Aside0.mk (blk_below HXs.out hb)
      replace HXo := Aside0.mk (blk_below HXo.out hb)
      replace HX8 := Aside0.mk (blk_below HX8.out hb)
      replace HB := Aside0.mk (below_step HB.out hb)
      have HX9 := Aside0.mk hx_
      clear hx_ hb hg hW
      refine hK.out _ _ ⟨((blk_cell HXs.out 0).trans rfl),((blk_cell HXs.out 1).trans rfl),((blk_cell HXs.out 2).trans rfl),((blk_cell HXs.out 3).trans rfl),((blk_cell HXo.out 0).trans rfl),((blk_cell HXo.out 1).trans rfl),((blk_cell HXo.out 2).trans rfl),((blk_cell HXo.out 3).trans rfl)⟩ (fun hHeld => ?_)
      clear hK K
      refine norm_ (a' := ?_) ?_ ?_
      rotate_left
      ·show Act.put _ (some 9) _ = _
       simp only [Act.put,zoI,zos0,zos1,i64_w,i32_w]
       rfl
      refine one_ (i := 4) (N := some 32) zo29 rfl rfl (one_of HT_.out (by kernel_rfl)) (by decide) (fun K hK => ?_)
      refine goes_ Try.func10 (by kernel_rfl) rfl #[.agg #[.slice A0 l.length c0,.int .i64 (v),.int .i64 (s),.int .i64 (n)],.agg #[.slice A0 l.length c0,.int .i64 (v),.int .i64 (s),.int .i64 (n)],.agg #[.int .i64 (kind),.int .i64 (seg),.int .i64 (nn),.slice Ao q.length co]] (by rfl) rfl rfl (by simp only [List.map_toArray,List.map_cons,List.map_nil]; rfl) ?_
      with_reducible refine (do_is A0 c0 A0 c0 l v s n kind seg nn Ao co q _ (Kd.C_below HCl.out HB.out) Hcl.out (Kd.C_below HCl.out HB.out) Hcl.out (Kd.C_below HCo.out HB.out) Hco.out HRT.out).mono ?_
      rintro e_ wf4 ⟨hV,hb⟩
      obtain ⟨A1,n1,d1,v1,s1,k1,A2,n2,d2,v2,s2,k2,rfl⟩ := hV
      refine ⟨_,rfl,?_⟩
      replace HXs := Aside0.mk (blk_below HXs.out hb)
      replace HXo := Aside0.mk (blk_below HXo.out hb)
      replace HX8 := Aside0.mk (blk_below HX8.out hb)
      replace HX9 := Aside0.mk (blk_below HX9.out hb)
      replace HB := Aside0.mk (below_step HB.out hb)
      clear hb
      refine hK.out _ _ ⟨((blk_cell HXs.out 0).trans rfl),((blk_cell HXs.out 1).trans rfl),((blk_cell HXs.out 2).trans rfl),((blk_cell HXs.out 3).trans rfl),((blk_cell HXo.out 0).trans rfl),((blk_cell HXo.out 1).trans rfl),((blk_cell HXo.out 2).trans rfl),((blk_cell HXo.out 3).trans rfl)⟩ (fun hHeld => ?_)
      clear hK K
      refine norm_ (a' := ?_) ?_ ?_
      rotate_left
      ·show Act.put _ (some 32) _ = _
       simp only [Act.put,zoI,zos0,zos1,i64_w,i32_w]
       rfl
      refine pure_ (i := 5) (N := some 27) (v := ?_) (a' := ?_) zo30 rfl rfl (any_of HT_.out (by kernel_rfl)) (fun _ _ _ h => h) (Or.inl ⟨by rfl,?_⟩) ?_ ?_
      rotate_left
      ·intro w'
       go_simp
       with_reducible rfl
      rotate_left
      ·simp only [Act.put,zoI,zos0,zos1,i64_w,i32_w]
       rfl
      refine pure_ (i := 6) (N := some 33) (v := ?_) (a' := ?_) zo31 rfl rfl (any_of HT_.out (by kernel_rfl)) (fun _ _ _ h => h) (Or.inl ⟨by rfl,?_⟩) ?_ ?_
      rotate_left
      ·intro w'
       go_simp
       with_reducible rfl
      rotate_left
      ·simp only [Act.put,zoI,zos0,zos1,i64_w,i32_w]
       rfl
      refine pure_ (i := 7) (N := some 34) (v := ?_) (a' := ?_) zo32 rfl rfl (any_of HT_.out (by kernel_rfl)) (fun _ _ _ h => h) (Or.inl ⟨by rfl,?_⟩) ?_ ?_
      rotate_left
      ·intro w'
       go_simp
       with_reducible rfl
      rotate_left
      ·simp only [Act.put,zoI,zos0,zos1,i64_w,i32_w]
       rfl
      refine pure_ (i := 8) (N := some 35) (v := ?_) (a' := ?_) zo11 rfl rfl (any_of HT_.out (by kernel_rfl)) (fun _ _ _ h => h) (Or.inl ⟨by rfl,?_⟩) ?_ ?_
      rotate_left
      ·intro w'
       go_simp
       with_reducible rfl
      rotate_left
      ·simp only [Act.put,zoI,zos0,zos1,i64_w,i32_w]
       rfl
      exact norm_ (by first | (simp only [putAll,Act.put,zoI,zos0,zos1]; done) | (simp only [putAll,Act.put,zoI,zos0,zos1]; rfl)) (hCont (g8,g9,.tuple #[.agg #[.slice A1 n1 d1,.int .i64 v1,.int .i64 s1,.int .i64 k1],.agg #[.slice A2 n2 d2,.int .i64 v2,.int .i64 s2,.int .i64 k2],.bool true],.agg #[.slice A1 n1 d1,.int .i64 v1,.int .i64 s1,.int .i64 k1],.agg #[.slice A2 n2 d2,.int .i64 v2,.int .i64 s2,.int .i64 k2]) _ ⟨HX8.out,HX9.out,HXs.out,HXo.out,HB.out,HG8.out,HG9.out,Ns8.out,No8.out,Ns9.out,No9.out,N89.out,A1,n1,d1,v1,s1,k1,A2,n2,d2,v2,s2,k2,rfl,rfl,rfl⟩)
    ·skip
     refine value_ (w1 := ?_) (v := ?_) (by rfl) rfl ?_ ?_
     rotate_left 2
     ·go_simp
      constructor
      ·rfl
      ·rfl
     obtain ⟨wf2,hW⟩ : ∃ W_,W_ = wf1.alloc (.cells #[.slice none 0 0,.int .i64 0,.int .i64 0,.int .i64 0] 27) := ⟨_,rfl⟩
     rw [← hW]
     obtain ⟨g9,hg⟩ : ∃ g,g = wf1.heap.size := ⟨_,rfl⟩
     rw [← hg]
     have hb : Below wf1.heap.size wf1 wf2 := by rw [hW]; exact below_alloc (Below.refl _ _) _
     have hx_ : wf2.heap[g9]? = some (.cells #[.slice none 0 0,.int .i64 0,.int .i64 0,.int .i64 0] 27 (0,0)) := by rw [hW,hg]; exact blk_new _ _
     have HG9 : Aside0 (w.heap.size ≤ g9) := ⟨by rw [hg]; exact below_size HB.out⟩
     have Ns9 : Aside0 (gs ≠ g9) := ⟨by rw [hg]; exact Nat.ne_of_lt (blk_lt HXs.out)⟩
     have No9 : Aside0 (go ≠ g9) := ⟨by rw [hg]; exact Nat.ne_of_lt (blk_lt HXo.out)⟩
     have N89 : Aside0 (g8 ≠ g9) := ⟨by rw [hg]; exact Nat.ne_of_lt (blk_lt HX8.out)⟩
     replace HXs := Aside0.mk (blk_below HXs.out hb)
     replace HXo := Aside0.mk (blk_below HXo.out hb)
     replace HX8 := Aside0.mk (blk_below HX8.out hb)
     replace HB := Aside0.mk (below_step HB.out hb)
     have HX9 := Aside0.mk hx_
     clear hx_ hb hg hW
     refine hK.out _ _ ⟨((blk_cell HXs.out 0).trans rfl),((blk_cell HXs.out 1).trans rfl),((blk_cell HXs.out 2).trans rfl),((blk_cell HXs.out 3).trans rfl),((blk_cell HXo.out 0).trans rfl),((blk_cell HXo.out 1).trans rfl),((blk_cell HXo.out 2).trans rfl),((blk_cell HXo.out 3).trans rfl)⟩ (fun hHeld => ?_)
     clear hK K
     refine norm_ (a' := ?_) ?_ ?_
     rotate_left
     ·show Act.put _ (some 9) _ = _
      simp only [Act.put,zoI,zos0,zos1,i64_w,i32_w]
      rfl
     refine one_ (i := 2) (N := some 30) zo25 rfl rfl (one_of HT_.out (by kernel_rfl)) (by decide) (fun K hK => ?_)
     refine goes_ Try.func21 (by kernel_rfl) rfl #[.agg #[.slice A0 l.length c0,.int .i64 (v),.int .i64 (s),.int .i64 (n)]] (by rfl) rfl rfl (by simp only [List.map_toArray,List.map_cons,List.map_nil]; rfl) ?_
     with_reducible refine (lodgerlaw15_Ref.calls A0 c0 l v s n _).mono ?_
     rintro e_ wf3 ⟨rfl,hb⟩
     refine ⟨_,rfl,?_⟩
     replace HXs := Aside0.mk (blk_below HXs.out hb)
     replace HXo := Aside0.mk (blk_below HXo.out hb)
     replace HX8 := Aside0.mk (blk_below HX8.out hb)
     replace HX9 := Aside0.mk (blk_below HX9.out hb)
     replace HB := Aside0.mk (below_step HB.out hb)
     clear hb
     refine hK.out _ _ ⟨((blk_cell HXs.out 0).trans rfl),((blk_cell HXs.out 1).trans rfl),((blk_cell HXs.out 2).trans rfl),((blk_cell HXs.out 3).trans rfl),((blk_cell HXo.out 0).trans rfl),((blk_cell HXo.out 1).trans rfl),((blk_cell HXo.out 2).trans rfl),((blk_cell HXo.out 3).trans rfl)⟩ (fun hHeld => ?_)
     clear hK K
     refine norm_ (a' := ?_) ?_ ?_
     rotate_left
     ·show Act.put _ (some 30) _ = _
      simp only [Act.put,zoI,zos0,zos1,i64_w,i32_w]
      rfl
     refine one_ (i := 4) (N := some 32) zo29 rfl rfl (one_of HT_.out (by kernel_rfl)) (by decide) (fun K hK => ?_)
     refine goes_ Try.func10 (by kernel_rfl) rfl #[.agg #[.slice A0 l.length c0,.int .i64 (v),.int .i64 (s),.int .i64 (n)],.agg #[.slice A0 l.length c0,.int .i64 (v),.int .i64 (s),.int .i64 (n)],.agg #[.int .i64 (kind),.int .i64 (seg),.int .i64 (nn),.slice Ao q.length co]] (by rfl) rfl rfl (by simp only [List.map_toArray,List.map_cons,List.map_nil]; rfl) ?_
     with_reducible refine (do_is A0 c0 A0 c0 l v s n kind seg nn Ao co q _ (Kd.C_below HCl.out HB.out) Hcl.out (Kd.C_below HCl.out HB.out) Hcl.out (Kd.C_below HCo.out HB.out) Hco.out HRT.out).mono ?_
     rintro e_ wf4 ⟨hV,hb⟩
     obtain ⟨A1,n1,d1,v1,s1,k1,A2,n2,d2,v2,s2,k2,rfl⟩ := hV
     refine ⟨_,rfl,?_⟩
     replace HXs := Aside0.mk (blk_below HXs.out hb)
     replace HXo := Aside0.mk (blk_below HXo.out hb)
     replace HX8 := Aside0.mk (blk_below HX8.out hb)
     replace HX9 := Aside0.mk (blk_below HX9.out hb)
     replace HB := Aside0.mk (below_step HB.out hb)
     clear hb
     refine hK.out _ _ ⟨((blk_cell HXs.out 0).trans rfl),((blk_cell HXs.out 1).trans rfl),((blk_cell HXs.out 2).trans rfl),((blk_cell HXs.out 3).trans rfl),((blk_cell HXo.out 0).trans rfl),((blk_cell HXo.out 1).trans rfl),((blk_cell HXo.out 2).trans rfl),((blk_cell HXo.out 3).trans rfl)⟩ (fun hHeld => ?_)
     clear hK K
     refine norm_ (a' := ?_) ?_ ?_
     rotate_left
     ·show Act.put _ (some 32) _ = _
      simp only [Act.put,zoI,zos0,zos1,i64_w,i32_w]
      rfl
     refine pure_ (i := 5) (N := some 27) (v := ?_) (a' := ?_) zo30 rfl rfl (any_of HT_.out (by kernel_rfl)) (fun _ _ _ h => h) (Or.inl ⟨by rfl,?_⟩) ?_ ?_
     rotate_left
     ·intro w'
      go_simp
      with_reducible rfl
     rotate_left
     ·simp only [Act.put,zoI,zos0,zos1,i64_w,i32_w]
      rfl
     refine pure_ (i := 6) (N := some 33) (v := ?_) (a' := ?_) zo31 rfl rfl (any_of HT_.out (by kernel_rfl)) (fun _ _ _ h => h) (Or.inl ⟨by rfl,?_⟩) ?_ ?_
     rotate_left
     ·intro w'
      go_simp
      with_reducible rfl
     rotate_left
     ·simp only [Act.put,zoI,zos0,zos1,i64_w,i32_w]
      rfl
     refine pure_ (i := 7) (N := some 34) (v := ?_) (a' := ?_) zo32 rfl rfl (any_of HT_.out (by kernel_rfl)) (fun _ _ _ h => h) (Or.inl ⟨by rfl,?_⟩) ?_ ?_
     rotate_left
     ·intro w'
      go_simp
      with_reducible rfl
     rotate_left
     ·simp only [Act.put,zoI,zos0,zos1,i64_w,i32_w]
      rfl
     refine pure_ (i := 8) (N := some 35) (v := ?_) (a' := ?_) zo11 rfl rfl (any_of HT_.out (by kernel_rfl)) (fun _ _ _ h => h) (Or.inl ⟨by rfl,?_⟩) ?_ ?_
     rotate_left
     ·intro w'
      go_simp
      with_reducible rfl
     rotate_left
     ·simp only [Act.put,zoI,zos0,zos1,i64_w,i32_w]
      rfl
     exact norm_ (by first | (simp only [putAll,Act.put,zoI,zos0,zos1]; done) | (simp only [putAll,Act.put,zoI,zos0,zos1]; rfl)) (hCont (g8,g9,.tuple #[.agg #[.slice A1 n1 d1,.int .i64 v1,.int .i64 s1,.int .i64 k1],.agg #[.slice A2 n2 d2,.int .i64 v2,.int .i64 s2,.int .i64 k2],.bool true],.agg #[.slice A1 n1 d1,.int .i64 v1,.int .i64 s1,.int .i64 k1],.agg #[.slice A2 n2 d2,.int .i64 v2,.int .i64 s2,.int .i64 k2]) _ ⟨HX8.out,HX9.out,HXs.out,HXo.out,HB.out,HG8.out,HG9.out,Ns8.out,No8.out,Ns9.out,No9.out,N89.out,A1,n1,d1,v1,s1,k1,A2,n2,d2,v2,s2,k2,rfl,rfl,rfl⟩)
   ·skip
    refine value_ (w1 := ?_) (v := ?_) (by rfl) rfl ?_ ?_
    rotate_left 2
    ·go_simp
     constructor
     ·rfl
     ·rfl
    obtain ⟨wf1,hW⟩ : ∃ W_,W_ = wd7.alloc (.cells #[.slice none 0 0,.int .i64 0,.int .i64 0,.int .i64 0] 27) := ⟨_,rfl⟩
    rw [← hW]
    obtain ⟨g9,hg⟩ : ∃ g,g = wd7.heap.size := ⟨_,rfl⟩
    rw [← hg]
    have hb : Below wd7.heap.size wd7 wf1 := by rw [hW]; exact below_alloc (Below.refl _ _) _
    have hx_ : wf1.heap[g9]? = some (.cells #[.slice none 0 0,.int .i64 0,.int .i64 0,.int .i64 0] 27 (0,0)) := by rw [hW,hg]; exact blk_new _ _
    have HG9 : Aside0 (w.heap.size ≤ g9) := ⟨by rw [hg]; exact below_size HB.out⟩
    have Ns9 : Aside0 (gs ≠ g9) := ⟨by rw [hg]; exact Nat.ne_of_lt (blk_lt HXs.out)⟩
    have No9 : Aside0 (go ≠ g9) := ⟨by rw [hg]; exact Nat.ne_of_lt (blk_lt HXo.out)⟩
    replace HXs := Aside0.mk (blk_below HXs.out hb)
    replace HXo := Aside0.mk (blk_below HXo.out hb)
    replace HB := Aside0.mk (below_step HB.out hb)
    have HX9 := Aside0.mk hx_
    clear hx_ hb hg hW
    refine hK.out _ _ ⟨((blk_cell HXs.out 0).trans rfl),((blk_cell HXs.out 1).trans rfl),((blk_cell HXs.out 2).trans rfl),((blk_cell HXs.out 3).trans rfl),((blk_cell HXo.out 0).trans rfl),((blk_cell HXo.out 1).trans rfl),((blk_cell HXo.out 2).trans rfl),((blk_cell HXo.out 3).trans rfl)⟩ (fun hHeld => ?_)
    clear hK K
    refine norm_ (a' := ?_) ?_ ?_
    rotate_left
    ·show Act.put _ (some 9) _ = _
     simp only [Act.put,zoI,zos0,zos1,i64_w,i32_w]
     rfl
    refine two_ (i := 2) (j := 9) (Ni := some 30) (Nj := some 8) zo17 zo37 rfl rfl rfl rfl (two_of HT_.out (by kernel_rfl)) (by decide) (by decide) (fun K hK => ?_) (fun K hK => ?_)
    ·skip
     refine goes_ Try.func21 (by kernel_rfl) rfl #[.agg #[.slice A0 l.length c0,.int .i64 (v),.int .i64 (s),.int .i64 (n)]] (by rfl) rfl rfl (by simp only [List.map_toArray,List.map_cons,List.map_nil]; rfl) ?_
     with_reducible refine (lodgerlaw15_Ref.calls A0 c0 l v s n _).mono ?_
     rintro e_ wf2 ⟨rfl,hb⟩
     refine ⟨_,rfl,?_⟩
     replace HXs := Aside0.mk (blk_below HXs.out hb)
     replace HXo := Aside0.mk (blk_below HXo.out hb)
     replace HX9 := Aside0.mk (blk_below HX9.out hb)
     replace HB := Aside0.mk (below_step HB.out hb)
     clear hb
     refine hK.out _ _ ⟨((blk_cell HXs.out 0).trans rfl),((blk_cell HXs.out 1).trans rfl),((blk_cell HXs.out 2).trans rfl),((blk_cell HXs.out 3).trans rfl),((blk_cell HXo.out 0).trans rfl),((blk_cell HXo.out 1).trans rfl),((blk_cell HXo.out 2).trans rfl),((blk_cell HXo.out 3).trans rfl)⟩ (fun hHeld => ?_)
     clear hK K
     refine norm_ (a' := ?_) ?_ ?_
     rotate_left
     ·show Act.put _ (some 30) _ = _
      simp only [Act.put,zoI,zos0,zos1,i64_w,i32_w]
      rfl
     refine two_ (i := 4) (j := 9) (Ni := some 32) (Nj := some 8) zo33 zo25 rfl rfl rfl rfl (two_of HT_.out (by kernel_rfl)) (by decide) (by decide) (fun K hK => ?_) (fun K hK => ?_)
     ·skip
      refine goes_ Try.func10 (by kernel_rfl) rfl #[.agg #[.slice A0 l.length c0,.int .i64 (v),.int .i64 (s),.int .i64 (n)],.agg #[.slice A0 l.length c0,.int .i64 (v),.int .i64 (s),.int .i64 (n)],.agg #[.int .i64 (kind),.int .i64 (seg),.int .i64 (nn),.slice Ao q.length co]] (by rfl) rfl rfl (by simp only [List.map_toArray,List.map_cons,List.map_nil]; rfl) ?_
      with_reducible refine (do_is A0 c0 A0 c0 l v s n kind seg nn Ao co q _ (Kd.C_below HCl.out HB.out) Hcl.out (Kd.C_below HCl.out HB.out) Hcl.out (Kd.C_below HCo.out HB.out) Hco.out HRT.out).mono ?_
      rintro e_ wf3 ⟨hV,hb⟩
      obtain ⟨A1,n1,d1,v1,s1,k1,A2,n2,d2,v2,s2,k2,rfl⟩ := hV
      refine ⟨_,rfl,?_⟩
      replace HXs := Aside0.mk (blk_below HXs.out hb)
      replace HXo := Aside0.mk (blk_below HXo.out hb)
      replace HX9 := Aside0.mk (blk_below HX9.out hb)
      replace HB := Aside0.mk (below_step HB.out hb)
      clear hb
      refine hK.out _ _ ⟨((blk_cell HXs.out 0).trans rfl),((blk_cell HXs.out 1).trans rfl),((blk_cell HXs.out 2).trans rfl),((blk_cell HXs.out 3).trans rfl),((blk_cell HXo.out 0).trans rfl),((blk_cell HXo.out 1).trans rfl),((blk_cell HXo.out 2).trans rfl),((blk_cell HXo.out 3).trans rfl)⟩ (fun hHeld => ?_)
      clear hK K
      refine norm_ (a' := ?_) ?_ ?_
      rotate_left
      ·show Act.put _ (some 32) _ = _
       simp only [Act.put,zoI,zos0,zos1,i64_w,i32_w]
       rfl
      refine pure_ (i := 5) (N := some 27) (v := ?_) (a' := ?_) zo34 rfl rfl (any_of HT_.out (by kernel_rfl)) (fun _ _ _ h => h) (Or.inl ⟨by rfl,?_⟩) ?_ ?_
      rotate_left
      ·intro w'
       go_simp
       with_reducible rfl
      rotate_left
      ·simp only [Act.put,zoI,zos0,zos1,i64_w,i32_w]
       rfl
      refine pure_ (i := 6) (N := some 33) (v := ?_) (a' := ?_) zo35 rfl rfl (any_of HT_.out (by kernel_rfl)) (fun _ _ _ h => h) (Or.inl ⟨by rfl,?_⟩) ?_ ?_
      rotate_left
      ·intro w'
       go_simp
       with_reducible rfl
      rotate_left
      ·simp only [Act.put,zoI,zos0,zos1,i64_w,i32_w]
       rfl
      refine pure_ (i := 7) (N := some 34) (v := ?_) (a' := ?_) zo36 rfl rfl (any_of HT_.out (by kernel_rfl)) (fun _ _ _ h => h) (Or.inl ⟨by rfl,?_⟩) ?_ ?_
      rotate_left
      ·intro w'
       go_simp
       with_reducible rfl
      rotate_left
      ·simp only [Act.put,zoI,zos0,zos1,i64_w,i32_w]
       rfl
      refine pure_ (i := 8) (N := some 35) (v := ?_) (a' := ?_) zo23 rfl rfl (any_of HT_.out (by kernel_rfl)) (fun _ _ _ h => h) (Or.inl ⟨by rfl,?_⟩) ?_ ?_
      rotate_left
      ·intro w'
       go_simp
       with_reducible rfl
      rotate_left
      ·simp only [Act.put,zoI,zos0,zos1,i64_w,i32_w]
       rfl
      refine one_ (i := 9) (N := some 8) zo11 rfl rfl (one_of HT_.out (by kernel_rfl)) (by decide) (fun K hK => ?_)
      refine value_ (w1 := ?_) (v := ?_) (by rfl) rfl ?_ ?_
      rotate_left 2
      ·go_simp
       constructor
       ·rfl
       ·rfl
      obtain ⟨wf4,hW⟩ : ∃ W_,W_ = wf3.alloc (.cells #[.slice none 0 0,.int .i64 0,.int .i64 0,.int .i64 0] 25) := ⟨_,rfl⟩
      rw [← hW]
      obtain ⟨g8,hg⟩ : ∃ g,g = wf3.heap.size := ⟨_,rfl⟩
      rw [← hg]
      have hb : Below wf3.heap.size wf3 wf4 := by rw [hW]; exact below_alloc (Below.refl _ _) _
      have hx_ : wf4.heap[g8]? = some (.cells #[.slice none 0 0,.int .i64 0,.int .i64 0,.int .i64 0] 25 (0,0)) := by rw [hW,hg]; exact blk_new _ _
      have HG8 : Aside0 (w.heap.size ≤ g8) := ⟨by rw [hg]; exact below_size HB.out⟩
      have Ns8 : Aside0 (gs ≠ g8) := ⟨by rw [hg]; exact Nat.ne_of_lt (blk_lt HXs.out)⟩
      have No8 : Aside0 (go ≠ g8) := ⟨by rw [hg]; exact Nat.ne_of_lt (blk_lt HXo.out)⟩
      have N98 : Aside0 (g9 ≠ g8) := ⟨by rw [hg]; exact Nat.ne_of_lt (blk_lt HX9.out)⟩
      replace HXs := Aside0.mk (blk_below HXs.out hb)
      replace HXo := Aside0.mk (blk_below HXo.out hb)
      replace HX9 := Aside0.mk (blk_below HX9.out hb)
      replace HB := Aside0.mk (below_step HB.out hb)
      have HX8 := Aside0.mk hx_
      clear hx_ hb hg hW
      refine hK.out _ _ ⟨((blk_cell HXs.out 0).trans rfl),((blk_cell HXs.out 1).trans rfl),((blk_cell HXs.out 2).trans rfl),((blk_cell HXs.out 3).trans rfl),((blk_cell HXo.out 0).trans rfl),((blk_cell HXo.out 1).trans rfl),((blk_cell HXo.out 2).trans rfl),((blk_cell HXo.out 3).trans rfl)⟩ (fun hHeld => ?_)
      clear hK K
      refine norm_ (a' := ?_) ?_ ?_
      rotate_left
      ·show Act.put _ (some 8) _ = _
       simp only [Act.put,zoI,zos0,zos1,i64_w,i32_w]
       rfl
      exact norm_ (by first | (simp only [putAll,Act.put,zoI,zos0,zos1]; done) | (simp only [putAll,Act.put,zoI,zos0,zos1]; rfl)) (hCont (g8,g9,.tuple #[.agg #[.slice A1 n1 d1,.int .i64 v1,.int .i64 s1,.int .i64 k1],.agg #[.slice A2 n2 d2,.int .i64 v2,.int .i64 s2,.int .i64 k2],.bool true],.agg #[.slice A1 n1 d1,.int .i64 v1,.int .i64 s1,.int .i64 k1],.agg #[.slice A2 n2 d2,.int .i64 v2,.int .i64 s2,.int .i64 k2]) _ ⟨HX8.out,HX9.out,HXs.out,HXo.out,HB.out,HG8.out,HG9.out,Ns8.out,No8.out,Ns9.out,No9.out,(Ne.symm N98.out),A1,n1,d1,v1,s1,k1,A2,n2,d2,v2,s2,k2,rfl,rfl,rfl⟩)
     ·skip
      refine value_ (w1 := ?_) (v := ?_) (by rfl) rfl ?_ ?_
      rotate_left 2
      ·go_simp
       constructor
       ·rfl
       ·rfl
      obtain ⟨wf3,hW⟩ : ∃ W_,W_ = wf2.alloc (.cells #[.slice none 0 0,.int .i64 0,.int .i64 0,.int .i64 0] 25) := ⟨_,rfl⟩
      rw [← hW]
      obtain ⟨g8,hg⟩ : ∃ g,g = wf2.heap.size := ⟨_,rfl⟩
      rw [← hg]
      have hb : Below wf2.heap.size wf2 wf3 := by rw [hW]; exact below_alloc (Below.refl _ _) _
      have hx_ : wf3.heap[g8]? = some (.cells #[.slice none 0 0,.int .i64 0,.int .i64 0,.int .i64 0] 25 (0,0)) := by rw [hW,hg]; exact blk_new _ _
      have HG8 : Aside0 (w.heap.size ≤ g8) := ⟨by rw [hg]; exact below_size HB.out⟩
      have Ns8 : Aside0 (gs ≠ g8) := ⟨by rw [hg]; exact Nat.ne_of_lt (blk_lt HXs.out)⟩
      have No8 : Aside0 (go ≠ g8) := ⟨by rw [hg]; exact Nat.ne_of_lt (blk_lt HXo.out)⟩
      have N98 : Aside0 (g9 ≠ g8) := ⟨by rw [hg]; exact Nat.ne_of_lt (blk_lt HX9.out)⟩
      replace HXs := Aside0.mk (blk_below HXs.out hb)
      replace HXo := Aside0.mk (blk_below HXo.out hb)
      replace HX9 := Aside0.mk (blk_below HX9.out hb)
      replace HB := Aside0.mk (below_step HB.out hb)
      have HX8 := Aside0.mk hx_
      clear hx_ hb hg hW
      refine hK.out _ _ ⟨((blk_cell HXs.out 0).trans rfl),((blk_cell HXs.out 1).trans rfl),((blk_cell HXs.out 2).trans rfl),((blk_cell HXs.out 3).trans rfl),((blk_cell HXo.out 0).trans rfl),((blk_cell HXo.out 1).trans rfl),((blk_cell HXo.out 2).trans rfl),((blk_cell HXo.out 3).trans rfl)⟩ (fun hHeld => ?_)
      clear hK K
      refine norm_ (a' := ?_) ?_ ?_
      rotate_left
      ·show Act.put _ (some 8) _ = _
       simp only [Act.put,zoI,zos0,zos1,i64_w,i32_w]
       rfl
      refine one_ (i := 4) (N := some 32) zo29 rfl rfl (one_of HT_.out (by kernel_rfl)) (by decide) (fun K hK => ?_)
      refine goes_ Try.func10 (by kernel_rfl) rfl #[.agg #[.slice A0 l.length c0,.int .i64 (v),.int .i64 (s),.int .i64 (n)],.agg #[.slice A0 l.length c0,.int .i64 (v),.int .i64 (s),.int .i64 (n)],.agg #[.int .i64 (kind),.int .i64 (seg),.int .i64 (nn),.slice Ao q.length co]] (by rfl) rfl rfl (by simp only [List.map_toArray,List.map_cons,List.map_nil]; rfl) ?_
      with_reducible refine (do_is A0 c0 A0 c0 l v s n kind seg nn Ao co q _ (Kd.C_below HCl.out HB.out) Hcl.out (Kd.C_below HCl.out HB.out) Hcl.out (Kd.C_below HCo.out HB.out) Hco.out HRT.out).mono ?_
      rintro e_ wf4 ⟨hV,hb⟩
      obtain ⟨A1,n1,d1,v1,s1,k1,A2,n2,d2,v2,s2,k2,rfl⟩ := hV
      refine ⟨_,rfl,?_⟩
      replace HXs := Aside0.mk (blk_below HXs.out hb)
      replace HXo := Aside0.mk (blk_below HXo.out hb)
      replace HX8 := Aside0.mk (blk_below HX8.out hb)
      replace HX9 := Aside0.mk (blk_below HX9.out hb)
      replace HB := Aside0.mk (below_step HB.out hb)
      clear hb
      refine hK.out _ _ ⟨((blk_cell HXs.out 0).trans rfl),((blk_cell HXs.out 1).trans rfl),((blk_cell HXs.out 2).trans rfl),((blk_cell HXs.out 3).trans rfl),((blk_cell HXo.out 0).trans rfl),((blk_cell HXo.out 1).trans rfl),((blk_cell HXo.out 2).trans rfl),((blk_cell HXo.out 3).trans rfl)⟩ (fun hHeld => ?_)
      clear hK K
      refine norm_ (a' := ?_) ?_ ?_
      rotate_left
      ·show Act.put _ (some 32) _ = _
       simp only [Act.put,zoI,zos0,zos1,i64_w,i32_w]
       rfl
      refine pure_ (i := 5) (N := some 27) (v := ?_) (a' := ?_) zo30 rfl rfl (any_of HT_.out (by kernel_rfl)) (fun _ _ _ h => h) (Or.inl ⟨by rfl,?_⟩) ?_ ?_
      rotate_left
      ·intro w'
       go_simp
       with_reducible rfl
      rotate_left
      ·simp only [Act.put,zoI,zos0,zos1,i64_w,i32_w]
       rfl
      refine pure_ (i := 6) (N := some 33) (v := ?_) (a' := ?_) zo31 rfl rfl (any_of HT_.out (by kernel_rfl)) (fun _ _ _ h => h) (Or.inl ⟨by rfl,?_⟩) ?_ ?_
      rotate_left
      ·intro w'
       go_simp
       with_reducible rfl
      rotate_left
      ·simp only [Act.put,zoI,zos0,zos1,i64_w,i32_w]
       rfl
      refine pure_ (i := 7) (N := some 34) (v := ?_) (a' := ?_) zo32 rfl rfl (any_of HT_.out (by kernel_rfl)) (fun _ _ _ h => h) (Or.inl ⟨by rfl,?_⟩) ?_ ?_
      rotate_left
      ·intro w'
       go_simp
       with_reducible rfl
      rotate_left
      ·simp only [Act.put,zoI,zos0,zos1,i64_w,i32_w]
       rfl
      refine pure_ (i := 8) (N := some 35) (v := ?_) (a' := ?_) zo11 rfl rfl (any_of HT_.out (by kernel_rfl)) (fun _ _ _ h => h) (Or.inl ⟨by rfl,?_⟩) ?_ ?_
      rotate_left
      ·intro w'
       go_simp
       with_reducible rfl
      rotate_left
      ·simp only [Act.put,zoI,zos0,zos1,i64_w,i32_w]
       rfl
      exact norm_ (by first | (simp only [putAll,Act.put,zoI,zos0,zos1]; done) | (simp only [putAll,Act.put,zoI,zos0,zos1]; rfl)) (hCont (g8,g9,.tuple #[.agg #[.slice A1 n1 d1,.int .i64 v1,.int .i64 s1,.int .i64 k1],.agg #[.slice A2 n2 d2,.int .i64 v2,.int .i64 s2,.int .i64 k2],.bool true],.agg #[.slice A1 n1 d1,.int .i64 v1,.int .i64 s1,.int .i64 k1],.agg #[.slice A2 n2 d2,.int .i64 v2,.int .i64 s2,.int .i64 k2]) _ ⟨HX8.out,HX9.out,HXs.out,HXo.out,HB.out,HG8.out,HG9.out,Ns8.out,No8.out,Ns9.out,No9.out,(Ne.symm N98.out),A1,n1,d1,v1,s1,k1,A2,n2,d2,v2,s2,k2,rfl,rfl,rfl⟩)
    ·skip
     refine value_ (w1 := ?_) (v := ?_) (by rfl) rfl ?_ ?_
     rotate_left 2
     ·go_simp
      constructor
      ·rfl
      ·rfl
     obtain ⟨wf2,hW⟩ : ∃ W_,W_ = wf1.alloc (.cells #[.slice none 0 0,.int .i64 0,.int .i64 0,.int .i64 0] 25) := ⟨_,rfl⟩
     rw [← hW]
     obtain ⟨g8,hg⟩ : ∃ g,g = wf1.heap.size := ⟨_,rfl⟩
     rw [← hg]
     have hb : Below wf1.heap.size wf1 wf2 := by rw [hW]; exact below_alloc (Below.refl _ _) _
     have hx_ : wf2.heap[g8]? = some (.cells #[.slice none 0 0,.int .i64 0,.int .i64 0,.int .i64 0] 25 (0,0)) := by rw [hW,hg]; exact blk_new _ _
     have HG8 : Aside0 (w.heap.size ≤ g8) := ⟨by rw [hg]; exact below_size HB.out⟩
     have Ns8 : Aside0 (gs ≠ g8) := ⟨by rw [hg]; exact Nat.ne_of_lt (blk_lt HXs.out)⟩
     have No8 : Aside0 (go ≠ g8) := ⟨by rw [hg]; exact Nat.ne_of_lt (blk_lt HXo.out)⟩
     have N98 : Aside0 (g9 ≠ g8) := ⟨by rw [hg]; exact Nat.ne_of_lt (blk_lt HX9.out)⟩
     replace HXs := Aside0.mk (blk_below HXs.out hb)
     replace HXo := Aside0.mk (blk_below HXo.out hb)
     replace HX9 := Aside0.mk (blk_below HX9.out hb)
     replace HB := Aside0.mk (below_step HB.out hb)
     have HX8 := Aside0.mk hx_
     clear hx_ hb hg hW
     refine hK.out _ _ ⟨((blk_cell HXs.out 0).trans rfl),((blk_cell HXs.out 1).trans rfl),((blk_cell HXs.out 2).trans rfl),((blk_cell HXs.out 3).trans rfl),((blk_cell HXo.out 0).trans rfl),((blk_cell HXo.out 1).trans rfl),((blk_cell HXo.out 2).trans rfl),((blk_cell HXo.out 3).trans rfl)⟩ (fun hHeld => ?_)
     clear hK K
     refine norm_ (a' := ?_) ?_ ?_
     rotate_left
     ·show Act.put _ (some 8) _ = _
      simp only [Act.put,zoI,zos0,zos1,i64_w,i32_w]
      rfl
     refine one_ (i := 2) (N := some 30) zo25 rfl rfl (one_of HT_.out (by kernel_rfl)) (by decide) (fun K hK => ?_)
     refine goes_ Try.func21 (by kernel_rfl) rfl #[.agg #[.slice A0 l.length c0,.int .i64 (v),.int .i64 (s),.int .i64 (n)]] (by rfl) rfl rfl (by simp only [List.map_toArray,List.map_cons,List.map_nil]; rfl) ?_
     with_reducible refine (lodgerlaw15_Ref.calls A0 c0 l v s n _).mono ?_
     rintro e_ wf3 ⟨rfl,hb⟩
     refine ⟨_,rfl,?_⟩
     replace HXs := Aside0.mk (blk_below HXs.out hb)
     replace HXo := Aside0.mk (blk_below HXo.out hb)
     replace HX8 := Aside0.mk (blk_below HX8.out hb)
     replace HX9 := Aside0.mk (blk_below HX9.out hb)
     replace HB := Aside0.mk (below_step HB.out hb)
     clear hb
     refine hK.out _ _ ⟨((blk_cell HXs.out 0).trans rfl),((blk_cell HXs.out 1).trans rfl),((blk_cell HXs.out 2).trans rfl),((blk_cell HXs.out 3).trans rfl),((blk_cell HXo.out 0).trans rfl),((blk_cell HXo.out 1).trans rfl),((blk_cell HXo.out 2).trans rfl),((blk_cell HXo.out 3).trans rfl)⟩ (fun hHeld => ?_)
     clear hK K
     refine norm_ (a' := ?_) ?_ ?_
     rotate_left
     ·show Act.put _ (some 30) _ = _
      simp only [Act.put,zoI,zos0,zos1,i64_w,i32_w]
      rfl
     refine one_ (i := 4) (N := some 32) zo29 rfl rfl (one_of HT_.out (by kernel_rfl)) (by decide) (fun K hK => ?_)
     refine goes_ Try.func10 (by kernel_rfl) rfl #[.agg #[.slice A0 l.length c0,.int .i64 (v),.int .i64 (s),.int .i64 (n)],.agg #[.slice A0 l.length c0,.int .i64 (v),.int .i64 (s),.int .i64 (n)],.agg #[.int .i64 (kind),.int .i64 (seg),.int .i64 (nn),.slice Ao q.length co]] (by rfl) rfl rfl (by simp only [List.map_toArray,List.map_cons,List.map_nil]; rfl) ?_
     with_reducible refine (do_is A0 c0 A0 c0 l v s n kind seg nn Ao co q _ (Kd.C_below HCl.out HB.out) Hcl.out (Kd.C_below HCl.out HB.out) Hcl.out (Kd.C_below HCo.out HB.out) Hco.out HRT.out).mono ?_
     rintro e_ wf4 ⟨hV,hb⟩
     obtain ⟨A1,n1,d1,v1,s1,k1,A2,n2,d2,v2,s2,k2,rfl⟩ := hV
     refine ⟨_,rfl,?_⟩
     replace HXs := Aside0.mk (blk_below HXs.out hb)
     replace HXo := Aside0.mk (blk_below HXo.out hb)
     replace HX8 := Aside0.mk (blk_below HX8.out hb)
     replace HX9 := Aside0.mk (blk_below HX9.out hb)
     replace HB := Aside0.mk (below_step HB.out hb)
     clear hb
     refine hK.out _ _ ⟨((blk_cell HXs.out 0).trans rfl),((blk_cell HXs.out 1).trans rfl),((blk_cell HXs.out 2).trans rfl),((blk_cell HXs.out 3).trans rfl),((blk_cell HXo.out 0).trans rfl),((blk_cell HXo.out 1).trans rfl),((blk_cell HXo.out 2).trans rfl),((blk_cell HXo.out 3).trans rfl)⟩ (fun hHeld => ?_)
     clear hK K
     refine norm_ (a' := ?_) ?_ ?_
     rotate_left
     ·show Act.put _ (some 32) _ = _
      simp only [Act.put,zoI,zos0,zos1,i64_w,i32_w]
      rfl
     refine pure_ (i := 5) (N := some 27) (v := ?_) (a' := ?_) zo30 rfl rfl (any_of HT_.out (by kernel_rfl)) (fun _ _ _ h => h) (Or.inl ⟨by rfl,?_⟩) ?_ ?_
     rotate_left
     ·intro w'
      go_simp
      with_reducible rfl
     rotate_left
     ·simp only [Act.put,zoI,zos0,zos1,i64_w,i32_w]
      rfl
     refine pure_ (i := 6) (N := some 33) (v := ?_) (a' := ?_) zo31 rfl rfl (any_of HT_.out (by kernel_rfl)) (fun _ _ _ h => h) (Or.inl ⟨by rfl,?_⟩) ?_ ?_
     rotate_left
     ·intro w'
      go_simp
      with_reducible rfl
     rotate_left
     ·simp only [Act.put,zoI,zos0,zos1,i64_w,i32_w]
      rfl
     refine pure_ (i := 7) (N := some 34) (v := ?_) (a' := ?_) zo32 rfl rfl (any_of HT_.out (by kernel_rfl)) (fun _ _ _ h => h) (Or.inl ⟨by rfl,?_⟩) ?_ ?_
     rotate_left
     ·intro w'
      go_simp
      with_reducible rfl
     rotate_left
     ·simp only [Act.put,zoI,zos0,zos1,i64_w,i32_w]
      rfl
     refine pure_ (i := 8) (N := some 35) (v := ?_) (a' := ?_) zo11 rfl rfl (any_of HT_.out (by kernel_rfl)) (fun _ _ _ h => h) (Or.inl ⟨by rfl,?_⟩) ?_ ?_
     rotate_left
     ·intro w'
      go_simp
      with_reducible rfl
     rotate_left
     ·simp only [Act.put,zoI,zos0,zos1,i64_w,i32_w]
      rfl
     exact norm_ (by first | (simp only [putAll,Act.put,zoI,zos0,zos1]; done) | (simp only [putAll,Act.put,zoI,zos0,zos1]; rfl)) (hCont (g8,g9,.tuple #[.agg #[.slice A1 n1 d1,.int .i64 v1,.int .i64 s1,.int .i64 k1],.agg #[.slice A2 n2 d2,.int .i64 v2,.int .i64 s2,.int .i64 k2],.bool true],.agg #[.slice A1 n1 d1,.int .i64 v1,.int .i64 s1,.int .i64 k1],.agg #[.slice A2 n2 d2,.int .i64 v2,.int .i64 s2,.int .i64 k2]) _ ⟨HX8.out,HX9.out,HXs.out,HXo.out,HB.out,HG8.out,HG9.out,Ns8.out,No8.out,Ns9.out,No9.out,(Ne.symm N98.out),A1,n1,d1,v1,s1,k1,A2,n2,d2,v2,s2,k2,rfl,rfl,rfl⟩)
  rintro ⟨g8,g9,V,VX,VY⟩ w9 ⟨h8,h9,hs,ho,hb,hl8,hl9,ns8,no8,ns9,no9,n89,A1,n1,d1,v1,s1,k1,A2,n2,d2,v2,s2,k2,hV,hVX,hVY⟩
  dsimp only at h8 h9 hl8 hl9 ns8 no8 ns9 no9 n89 hV hVX hVY
  subst hV hVX hVY
  clear HXs HXo HB
  have HX8 := Aside0.mk h8
  have HX9 := Aside0.mk h9
  have HXs := Aside0.mk hs
  have HXo := Aside0.mk ho
  have HB := Aside0.mk hb
  have HG8 := Aside0.mk hl8
  have HG9 := Aside0.mk hl9
  have Ns8 := Aside0.mk ns8
  have No8 := Aside0.mk no8
  have Ns9 := Aside0.mk ns9
  have No9 := Aside0.mk no9
  have N89 := Aside0.mk n89
  have N98 := Aside0.mk (Ne.symm n89)
  clear h8 h9 hs ho hb hl8 hl9 ns8 no8 ns9 no9 n89
  have hHeld : (fun w' => w'.cell? ⟨gs,0,none⟩ = some (.slice A0 l.length c0) ∧ w'.cell? ⟨gs,1,none⟩ = some (.int .i64 (v)) ∧ w'.cell? ⟨gs,2,none⟩ = some (.int .i64 (s)) ∧ w'.cell? ⟨gs,3,none⟩ = some (.int .i64 (n)) ∧ w'.cell? ⟨go,0,none⟩ = some (.int .i64 (kind)) ∧ w'.cell? ⟨go,1,none⟩ = some (.int .i64 (seg)) ∧ w'.cell? ⟨go,2,none⟩ = some (.int .i64 (nn)) ∧ w'.cell? ⟨go,3,none⟩ = some (.slice Ao q.length co)) w9 := ⟨((blk_cell HXs.out 0).trans rfl),((blk_cell HXs.out 1).trans rfl),((blk_cell HXs.out 2).trans rfl),((blk_cell HXs.out 3).trans rfl),((blk_cell HXo.out 0).trans rfl),((blk_cell HXo.out 1).trans rfl),((blk_cell HXo.out 2).trans rfl),((blk_cell HXo.out 3).trans rfl)⟩
  refine norm_ (a' := ?_) ?_ ?_
  rotate_left
  ·simp only [putAll,Act.put,zoI,zos0,zos1]
   rfl
  refine one_ (i := 11) (N := none) zo38 rfl rfl (one_of HT_.out (by kernel_rfl)) (by decide) (fun K hK => ?_)
  have z_0 : w9.cell? ⟨g8,0,none⟩ = some (.slice none 0 0) := (blk_cell HX8.out 0).trans rfl
  have z_1 : w9.cell? ⟨g8,1,none⟩ = some (.int .i64 0) := (blk_cell HX8.out 1).trans rfl
  have z_2 : w9.cell? ⟨g8,2,none⟩ = some (.int .i64 0) := (blk_cell HX8.out 2).trans rfl
  have z_3 : w9.cell? ⟨g8,3,none⟩ = some (.int .i64 0) := (blk_cell HX8.out 3).trans rfl
  have zf_0 := blk_frozen HX8.out 0
  have zf_1 := blk_frozen HX8.out 1
  have zf_2 := blk_frozen HX8.out 2
  have zf_3 := blk_frozen HX8.out 3
  refine skip_ (w1 := ?_) (by rfl) rfl ?_ ?_
  rotate_left
  ·go_simp
   rfl
  clear z_0 z_1 z_2 z_3 zf_0 zf_1 zf_2 zf_3
  obtain ⟨w10,hW⟩ : ∃ W_,W_ = ((((w9.setCell ⟨g8,0,none⟩ (.slice A1 n1 d1)).setCell ⟨g8,1,none⟩ (.int .i64 (v1))).setCell ⟨g8,2,none⟩ (.int .i64 (s1))).setCell ⟨g8,3,none⟩ (.int .i64 (k1))) := ⟨_,rfl⟩
  rw [← hW]
  replace HXs := Aside0.mk (far4 hW HXs.out Ns8.out)
  replace HXo := Aside0.mk (far4 hW HXo.out No8.out)
  replace HX9 := Aside0.mk (far4 hW HX9.out N98.out)
  replace HX8 := Aside0.mk (set4 hW HX8.out)
  replace HB := Aside0.mk (below4 hW HB.out HG8.out)
  clear hW
  refine hK.out _ _ ⟨((blk_cell HXs.out 0).trans rfl),((blk_cell HXs.out 1).trans rfl),((blk_cell HXs.out 2).trans rfl),((blk_cell HXs.out 3).trans rfl),((blk_cell HXo.out 0).trans rfl),((blk_cell HXo.out 1).trans rfl),((blk_cell HXo.out 2).trans rfl),((blk_cell HXo.out 3).trans rfl)⟩ (fun hHeld => ?_)
  clear hK K
  refine one_ (i := 12) (N := none) zo39 rfl rfl (one_of HT_.out (by kernel_rfl)) (by decide) (fun K hK => ?_)
  have z_0 : w10.cell? ⟨g9,0,none⟩ = some (.slice none 0 0) := (blk_cell HX9.out 0).trans rfl
  have z_1 : w10.cell? ⟨g9,1,none⟩ = some (.int .i64 0) := (blk_cell HX9.out 1).trans rfl
  have z_2 : w10.cell? ⟨g9,2,none⟩ = some (.int .i64 0) := (blk_cell HX9.out 2).trans rfl
  have z_3 : w10.cell? ⟨g9,3,none⟩ = some (.int .i64 0) := (blk_cell HX9.out 3).trans rfl
  have zf_0 := blk_frozen HX9.out 0
  have zf_1 := blk_frozen HX9.out 1
  have zf_2 := blk_frozen HX9.out 2
  have zf_3 := blk_frozen HX9.out 3
  refine skip_ (w1 := ?_) (by rfl) rfl ?_ ?_
  rotate_left
  ·go_simp
   rfl
  clear z_0 z_1 z_2 z_3 zf_0 zf_1 zf_2 zf_3
  obtain ⟨w11,hW⟩ : ∃ W_,W_ = ((((w10.setCell ⟨g9,0,none⟩ (.slice A2 n2 d2)).setCell ⟨g9,1,none⟩ (.int .i64 (v2))).setCell ⟨g9,2,none⟩ (.int .i64 (s2))).setCell ⟨g9,3,none⟩ (.int .i64 (k2))) := ⟨_,rfl⟩
  rw [← hW]
  replace HXs := Aside0.mk (far4 hW HXs.out Ns9.out)
  replace HXo := Aside0.mk (far4 hW HXo.out No9.out)
  replace HX8 := Aside0.mk (far4 hW HX8.out N89.out)
  replace HX9 := Aside0.mk (set4 hW HX9.out)
  replace HB := Aside0.mk (below4 hW HB.out HG9.out)
  clear hW
  refine hK.out _ _ ⟨((blk_cell HXs.out 0).trans rfl),((blk_cell HXs.out 1).trans rfl),((blk_cell HXs.out 2).trans rfl),((blk_cell HXs.out 3).trans rfl),((blk_cell HXo.out 0).trans rfl),((blk_cell HXo.out 1).trans rfl),((blk_cell HXo.out 2).trans rfl),((blk_cell HXo.out 3).trans rfl)⟩ (fun hHeld => ?_)
  clear hK K
  refine pure_ (i := 13) (N := some 10) (v := ?_) (a' := ?_) zo40 rfl rfl (any_of HT_.out (by kernel_rfl)) (fun _ _ _ h => h) (Or.inl ⟨by rfl,?_⟩) ?_ ?_
  rotate_left
  ·intro w'
   go_simp
   with_reducible rfl
  rotate_left
  ·simp only [Act.put,zoI,zos0,zos1,i64_w,i32_w]
   rfl
  refine done_ (done_of HT_.out (by kernel_rfl)) ?_
  clear HT_ HW_ hHeld
  clear HX8 HX9
  clear HXo
  obtain ⟨x1,hx1,hy1⟩ := need_eq HRT.out e
  obtain ⟨x2,hx2,hy2⟩ := left_eq HRT.out e
  obtain ⟨x3,hx3,hy3,_⟩ := next_is HRT.out true
  obtain ⟨x4,hx4,hy4,_⟩ := next_is HRT.out false
  have Hx1 := Aside0.mk hx1
  have Hy1 := Aside0.mk hy1
  have Hx2 := Aside0.mk hx2
  have Hy2 := Aside0.mk hy2
  have Hx3 := Aside0.mk hx3
  have Hy3 := Aside0.mk hy3
  have Hx4 := Aside0.mk hx4
  have Hy4 := Aside0.mk hy4
  clear hx1 hy1 hx2 hy2 hx3 hy3 hx4 hy4
  go_wp2_with fail
  refine start_ (n := 41) (S := fun w' => w'.cell? ⟨gs,0,none⟩ = some (.slice A0 l.length c0) ∧ w'.cell? ⟨gs,1,none⟩ = some (.int .i64 (v)) ∧ w'.cell? ⟨gs,2,none⟩ = some (.int .i64 (s)) ∧ w'.cell? ⟨gs,3,none⟩ = some (.int .i64 (n))) (ds := []) zo41 (by kernel_rfl) rfl rfl ⟨((blk_cell (blk_drew HXs.out) 0).trans rfl),((blk_cell (blk_drew HXs.out) 1).trans rfl),((blk_cell (blk_drew HXs.out) 2).trans rfl),((blk_cell (blk_drew HXs.out) 3).trans rfl)⟩ (fun hHeld => ?_)
  refine with_tabW sweep_once.tab8 sweep_once.bits8 (fun HT_ HW_ => ?_)
  replace HXs := Aside0.mk (blk_drew HXs.out)
  replace HB := Aside0.mk (below_drew HB.out)
  generalize w11.drew = wd8 at *
  refine pure_ (i := 0) (N := some 36) (v := ?_) (a' := ?_) zo42 rfl rfl (any_of HT_.out (by kernel_rfl)) (fun _ _ _ h => h) (Or.inl ⟨by rfl,?_⟩) ?_ ?_
  rotate_left
  ·intro w'
   go_simp
   with_reducible rfl
  rotate_left
  ·simp only [Act.put,zoI,zos0,zos1,i64_w,i32_w]
   rfl
  refine pure_ (i := 1) (N := some 37) (v := ?_) (a' := ?_) zo43 rfl rfl (any_of HT_.out (by kernel_rfl)) (fun _ _ _ h => h) (Or.inl ⟨by rfl,?_⟩) ?_ ?_
  rotate_left
  ·intro w'
   go_simp
   with_reducible rfl
  rotate_left
  ·simp only [Act.put,zoI,zos0,zos1,i64_w,i32_w]
   rfl
  refine pure_ (i := 3) (N := some 39) (v := ?_) (a' := ?_) zo44 rfl rfl (any_of HT_.out (by kernel_rfl)) (fun _ _ _ h => h) (Or.inl ⟨by rfl,?_⟩) ?_ ?_
  rotate_left
  ·intro w'
   go_simp
   with_reducible rfl
  rotate_left
  ·simp only [Act.put,zoI,zos0,zos1,i64_w,i32_w]
   rfl
  refine pure_ (i := 7) (N := some 43) (v := ?_) (a' := ?_) zo45 rfl rfl (any_of HT_.out (by kernel_rfl)) (fun _ _ _ h => h) (Or.inl ⟨by rfl,?_⟩) ?_ ?_
  rotate_left
  ·intro w'
   go_simp
   with_reducible rfl
  rotate_left
  ·simp only [Act.put,zoI,zos0,zos1,i64_w,i32_w]
   rfl
  refine take_ (i := 2) (N := some 38) (v := ?_) (a' := ?_) zo46 rfl rfl (take_ofW HT_.out HW_.out (by kernel_rfl)) (fun _ _ _ h => h) (Or.inl ⟨by rfl,?_⟩) hHeld ?_ ?_
  rotate_left
  ·rintro w' ⟨s0,s1,s2,s3⟩
   go_simp
   with_reducible rfl
  rotate_left
  ·simp only [Act.put,zoI,zos0,zos1,i64_w,i32_w]
   rfl
  refine take_ (i := 5) (N := some 41) (v := ?_) (a' := ?_) zo47 rfl rfl (take_ofW HT_.out HW_.out (by kernel_rfl)) (fun _ _ _ h => h) (Or.inl ⟨by rfl,?_⟩) hHeld ?_ ?_
  rotate_left
  ·rintro w' ⟨s0,s1,s2,s3⟩
   go_simp
   with_reducible rfl
  rotate_left
  ·simp only [Act.put,zoI,zos0,zos1,i64_w,i32_w]
   rfl
  refine one_ (i := 4) (N := some 40) zo48 rfl rfl (one_of HT_.out (by kernel_rfl)) (by decide) (fun K hK => ?_)
  refine goes_ Try.func12 (by kernel_rfl) rfl #[.agg #[.slice A0 l.length c0,.int .i64 (v),.int .i64 (s),.int .i64 (n)],.int .i64 e] (by rfl) rfl rfl (by simp only [List.map_toArray,List.map_cons,List.map_nil]; rfl) ?_
  with_reducible refine (sweep_Need.calls A0 c0 l v s n e x1 _ (Kd.C_below HCl.out HB.out) Hcl.out Hx1.out).mono ?_
  rintro e_ wr1 ⟨rfl,hb⟩
  refine ⟨_,rfl,?_⟩
  replace HXs := Aside0.mk (blk_below HXs.out hb)
  replace HB := Aside0.mk (below_step HB.out hb)
  clear hb
  refine hK.out _ _ ⟨((blk_cell HXs.out 0).trans rfl),((blk_cell HXs.out 1).trans rfl),((blk_cell HXs.out 2).trans rfl),((blk_cell HXs.out 3).trans rfl)⟩ (fun hHeld => ?_)
  clear hK K
  refine norm_ (a' := ?_) ?_ ?_
  rotate_left
  ·show Act.put _ (some 40) _ = _
   simp only [Act.put,zoI,zos0,zos1,i64_w,i32_w]
   rfl
  refine one_ (i := 6) (N := some 42) zo49 rfl rfl (one_of HT_.out (by kernel_rfl)) (by decide) (fun K hK => ?_)
  refine goes_ Try.func21 (by kernel_rfl) rfl #[.agg #[.slice A0 l.length c0,.int .i64 (v),.int .i64 (s),.int .i64 (n)]] (by rfl) rfl rfl (by simp only [List.map_toArray,List.map_cons,List.map_nil]; rfl) ?_
  with_reducible refine (lodgerlaw15_Ref.calls A0 c0 l v s n _).mono ?_
  rintro e_ wr2 ⟨rfl,hb⟩
  refine ⟨_,rfl,?_⟩
  replace HXs := Aside0.mk (blk_below HXs.out hb)
  replace HB := Aside0.mk (below_step HB.out hb)
  clear hb
  refine hK.out _ _ ⟨((blk_cell HXs.out 0).trans rfl),((blk_cell HXs.out 1).trans rfl),((blk_cell HXs.out 2).trans rfl),((blk_cell HXs.out 3).trans rfl)⟩ (fun hHeld => ?_)
  clear hK K
  refine norm_ (a' := ?_) ?_ ?_
  rotate_left
  ·show Act.put _ (some 42) _ = _
   simp only [Act.put,zoI,zos0,zos1,i64_w,i32_w]
   rfl
  refine one_ (i := 8) (N := some 44) zo50 rfl rfl (one_of HT_.out (by kernel_rfl)) (by decide) (fun K hK => ?_)
  refine goes_ Try.func13 (by kernel_rfl) rfl #[.agg #[.slice A0 l.length c0,.int .i64 (v),.int .i64 (s),.int .i64 (n)],.int .i64 e] (by rfl) rfl rfl (by simp only [List.map_toArray,List.map_cons,List.map_nil]; rfl) ?_
  with_reducible refine (lodgerref15_Need.calls A0 c0 l v s n e x1 _ (Kd.C_below HCl.out HB.out) Hcl.out Hy1.out).mono ?_
  rintro e_ wr3 ⟨rfl,hb⟩
  refine ⟨_,rfl,?_⟩
  replace HXs := Aside0.mk (blk_below HXs.out hb)
  replace HB := Aside0.mk (below_step HB.out hb)
  clear hb
  refine hK.out _ _ ⟨((blk_cell HXs.out 0).trans rfl),((blk_cell HXs.out 1).trans rfl),((blk_cell HXs.out 2).trans rfl),((blk_cell HXs.out 3).trans rfl)⟩ (fun hHeld => ?_)
  clear hK K
  refine norm_ (a' := ?_) ?_ ?_
  rotate_left
  ·show Act.put _ (some 44) _ = _
   simp only [Act.put,zoI,zos0,zos1,i64_w,i32_w]
   rfl
  refine pure_ (i := 9) (N := some 45) (v := ?_) (a' := ?_) zo51 rfl rfl (any_of HT_.out (by kernel_rfl)) (fun _ _ _ h => h) (Or.inl ⟨by rfl,?_⟩) ?_ ?_
  rotate_left
  ·intro w'
   go_simp
   with_reducible rfl
  rotate_left
  ·simp only [Act.put,zoI,zos0,zos1,i64_w,i32_w]
   rfl
  refine pure_ (i := 10) (N := some 46) (v := ?_) (a' := ?_) zo52 rfl rfl (any_of HT_.out (by kernel_rfl)) (fun _ _ _ h => h) (Or.inl ⟨by rfl,?_⟩) ?_ ?_
  rotate_left
  ·intro w'
   go_simp
   with_reducible rfl
  rotate_left
  ·simp only [Act.put,zoI,zos0,zos1,i64_w,i32_w]
   rfl
  refine pure_ (i := 11) (N := some 47) (v := ?_) (a' := ?_) zo53 rfl rfl (any_of HT_.out (by kernel_rfl)) (fun _ _ _ h => h) (Or.inl ⟨by rfl,?_⟩) ?_ ?_
  rotate_left
  ·intro w'
   go_simp
   with_reducible rfl
  rotate_left
  ·simp only [Act.put,zoI,zos0,zos1,i64_w,i32_w]
   rfl
  refine pure_ (i := 13) (N := some 49) (v := ?_) (a' := ?_) zo54 rfl rfl (any_of HT_.out (by kernel_rfl)) (fun _ _ _ h => h) (Or.inl ⟨by rfl,?_⟩) ?_ ?_
  rotate_left
  ·intro w'
   go_simp
   with_reducible rfl
  rotate_left
  ·simp only [Act.put,zoI,zos0,zos1,i64_w,i32_w]
   rfl
  refine pure_ (i := 17) (N := some 53) (v := ?_) (a' := ?_) zo55 rfl rfl (any_of HT_.out (by kernel_rfl)) (fun _ _ _ h => h) (Or.inl ⟨by rfl,?_⟩) ?_ ?_
  rotate_left
  ·intro w'
   go_simp
   with_reducible rfl
  rotate_left
  ·simp only [Act.put,zoI,zos0,zos1,i64_w,i32_w]
   rfl
  refine take_ (i := 12) (N := some 48) (v := ?_) (a' := ?_) zo56 rfl rfl (take_ofW HT_.out HW_.out (by kernel_rfl)) (fun _ _ _ h => h) (Or.inl ⟨by rfl,?_⟩) hHeld ?_ ?_
  rotate_left
  ·rintro w' ⟨s0,s1,s2,s3⟩
   go_simp
   with_reducible rfl
  rotate_left
  ·simp only [Act.put,zoI,zos0,zos1,i64_w,i32_w]
   rfl
  refine take_ (i := 15) (N := some 51) (v := ?_) (a' := ?_) zo57 rfl rfl (take_ofW HT_.out HW_.out (by kernel_rfl)) (fun _ _ _ h => h) (Or.inl ⟨by rfl,?_⟩) hHeld ?_ ?_
  rotate_left
  ·rintro w' ⟨s0,s1,s2,s3⟩
   go_simp
   with_reducible rfl
  rotate_left
  ·simp only [Act.put,zoI,zos0,zos1,i64_w,i32_w]
   rfl
  refine one_ (i := 14) (N := some 50) zo58 rfl rfl (one_of HT_.out (by kernel_rfl)) (by decide) (fun K hK => ?_)
  refine goes_ Try.func14 (by kernel_rfl) rfl #[.agg #[.slice A0 l.length c0,.int .i64 (v),.int .i64 (s),.int .i64 (n)],.int .i64 e] (by rfl) rfl rfl (by simp only [List.map_toArray,List.map_cons,List.map_nil]; rfl) ?_
  with_reducible refine (sweep_Left.calls A0 c0 l v s n e x2 _ (Kd.C_below HCl.out HB.out) Hcl.out Hx2.out).mono ?_
  rintro e_ wr4 ⟨rfl,hb⟩
  refine ⟨_,rfl,?_⟩
  replace HXs := Aside0.mk (blk_below HXs.out hb)
  replace HB := Aside0.mk (below_step HB.out hb)
  clear hb
  refine hK.out _ _ ⟨((blk_cell HXs.out 0).trans rfl),((blk_cell HXs.out 1).trans rfl),((blk_cell HXs.out 2).trans rfl),((blk_cell HXs.out 3).trans rfl)⟩ (fun hHeld => ?_)
  clear hK K
  refine norm_ (a' := ?_) ?_ ?_
  rotate_left
  ·show Act.put _ (some 50) _ = _
   simp only [Act.put,zoI,zos0,zos1,i64_w,i32_w]
   rfl
  refine one_ (i := 16) (N := some 52) zo59 rfl rfl (one_of HT_.out (by kernel_rfl)) (by decide) (fun K hK => ?_)
  refine goes_ Try.func21 (by kernel_rfl) rfl #[.agg #[.slice A0 l.length c0,.int .i64 (v),.int .i64 (s),.int .i64 (n)]] (by rfl) rfl rfl (by simp only [List.map_toArray,List.map_cons,List.map_nil]; rfl) ?_
  with_reducible refine (lodgerlaw15_Ref.calls A0 c0 l v s n _).mono ?_
  rintro e_ wr5 ⟨rfl,hb⟩
  refine ⟨_,rfl,?_⟩
  replace HXs := Aside0.mk (blk_below HXs.out hb)
  replace HB := Aside0.mk (below_step HB.out hb)
  clear hb
  refine hK.out _ _ ⟨((blk_cell HXs.out 0).trans rfl),((blk_cell HXs.out 1).trans rfl),((blk_cell HXs.out 2).trans rfl),((blk_cell HXs.out 3).trans rfl)⟩ (fun hHeld => ?_)
  clear hK K
  refine norm_ (a' := ?_) ?_ ?_
  rotate_left
  ·show Act.put _ (some 52) _ = _
   simp only [Act.put,zoI,zos0,zos1,i64_w,i32_w]
   rfl
  refine one_ (i := 18) (N := some 54) zo60 rfl rfl (one_of HT_.out (by kernel_rfl)) (by decide) (fun K hK => ?_)
  refine goes_ Try.func15 (by kernel_rfl) rfl #[.agg #[.slice A0 l.length c0,.int .i64 (v),.int .i64 (s),.int .i64 (n)],.int .i64 e] (by rfl) rfl rfl (by simp only [List.map_toArray,List.map_cons,List.map_nil]; rfl) ?_
  with_reducible refine (lodgerref15_Left.calls A0 c0 l v s n e x2 _ (Kd.C_below HCl.out HB.out) Hcl.out Hy2.out).mono ?_
  rintro e_ wr6 ⟨rfl,hb⟩
  refine ⟨_,rfl,?_⟩
  replace HXs := Aside0.mk (blk_below HXs.out hb)
  replace HB := Aside0.mk (below_step HB.out hb)
  clear hb
  refine hK.out _ _ ⟨((blk_cell HXs.out 0).trans rfl),((blk_cell HXs.out 1).trans rfl),((blk_cell HXs.out 2).trans rfl),((blk_cell HXs.out 3).trans rfl)⟩ (fun hHeld => ?_)
  clear hK K
  refine norm_ (a' := ?_) ?_ ?_
  rotate_left
  ·show Act.put _ (some 54) _ = _
   simp only [Act.put,zoI,zos0,zos1,i64_w,i32_w]
   rfl
  refine pure_ (i := 19) (N := some 55) (v := ?_) (a' := ?_) zo61 rfl rfl (any_of HT_.out (by kernel_rfl)) (fun _ _ _ h => h) (Or.inl ⟨by rfl,?_⟩) ?_ ?_
  rotate_left
  ·intro w'
   go_simp
   with_reducible rfl
  rotate_left
  ·simp only [Act.put,zoI,zos0,zos1,i64_w,i32_w]
   rfl
  refine pure_ (i := 20) (N := some 56) (v := ?_) (a' := ?_) zo62 rfl rfl (any_of HT_.out (by kernel_rfl)) (fun _ _ _ h => h) (Or.inl ⟨by rfl,?_⟩) ?_ ?_
  rotate_left
  ·intro w'
   go_simp
   with_reducible rfl
  rotate_left
  ·simp only [Act.put,zoI,zos0,zos1,i64_w,i32_w]
   rfl
  refine pure_ (i := 21) (N := some 57) (v := ?_) (a' := ?_) zo63 rfl rfl (any_of HT_.out (by kernel_rfl)) (fun _ _ _ h => h) (Or.inl ⟨by rfl,?_⟩) ?_ ?_
  rotate_left
  ·intro w'
   go_simp
   with_reducible rfl
  rotate_left
  ·simp only [Act.put,zoI,zos0,zos1,i64_w,i32_w]
   rfl
  refine take_ (i := 22) (N := some 58) (v := ?_) (a' := ?_) zo64 rfl rfl (take_ofW HT_.out HW_.out (by kernel_rfl)) (fun _ _ _ h => h) (Or.inl ⟨by rfl,?_⟩) hHeld ?_ ?_
  rotate_left
  ·rintro w' ⟨s0,s1,s2,s3⟩
   go_simp
   with_reducible rfl
  rotate_left
  ·simp only [Act.put,zoI,zos0,zos1,i64_w,i32_w]
   rfl
  refine take_ (i := 24) (N := some 60) (v := ?_) (a' := ?_) zo65 rfl rfl (take_ofW HT_.out HW_.out (by kernel_rfl)) (fun _ _ _ h => h) (Or.inl ⟨by rfl,?_⟩) hHeld ?_ ?_
  rotate_left
  ·rintro w' ⟨s0,s1,s2,s3⟩
   go_simp
   with_reducible rfl
  rotate_left
  ·simp only [Act.put,zoI,zos0,zos1,i64_w,i32_w]
   rfl
  refine one_ (i := 23) (N := some 59) zo66 rfl rfl (one_of HT_.out (by kernel_rfl)) (by decide) (fun K hK => ?_)
  refine goes_ Try.func16 (by kernel_rfl) rfl #[.agg #[.slice A0 l.length c0,.int .i64 (v),.int .i64 (s),.int .i64 (n)],.bool true] (by rfl) rfl rfl (by simp only [List.map_toArray,List.map_cons,List.map_nil]; rfl) ?_
  with_reducible refine (sweep_Next.calls 61 A0 c0 l v s n true x3 _ (Kd.C_below HCl.out HB.out) Hcl.out Hx3.out).mono ?_
  rintro e_ wr7 ⟨rfl,hb⟩
  refine ⟨_,rfl,?_⟩
  replace HXs := Aside0.mk (blk_below HXs.out hb)
  replace HB := Aside0.mk (below_step HB.out hb)
  clear hb
  refine hK.out _ _ ⟨((blk_cell HXs.out 0).trans rfl),((blk_cell HXs.out 1).trans rfl),((blk_cell HXs.out 2).trans rfl),((blk_cell HXs.out 3).trans rfl)⟩ (fun hHeld => ?_)
  clear hK K
  refine norm_ (a' := ?_) ?_ ?_
  rotate_left
  ·show Act.put _ (some 59) _ = _
   simp only [Act.put,zoI,zos0,zos1,i64_w,i32_w]
   rfl
  refine one_ (i := 25) (N := some 61) zo67 rfl rfl (one_of HT_.out (by kernel_rfl)) (by decide) (fun K hK => ?_)
  refine goes_ Try.func21 (by kernel_rfl) rfl #[.agg #[.slice A0 l.length c0,.int .i64 (v),.int .i64 (s),.int .i64 (n)]] (by rfl) rfl rfl (by simp only [List.map_toArray,List.map_cons,List.map_nil]; rfl) ?_
  with_reducible refine (lodgerlaw15_Ref.calls A0 c0 l v s n _).mono ?_
  rintro e_ wr8 ⟨rfl,hb⟩
  refine ⟨_,rfl,?_⟩
  replace HXs := Aside0.mk (blk_below HXs.out hb)
  replace HB := Aside0.mk (below_step HB.out hb)
  clear hb
  refine hK.out _ _ ⟨((blk_cell HXs.out 0).trans rfl),((blk_cell HXs.out 1).trans rfl),((blk_cell HXs.out 2).trans rfl),((blk_cell HXs.out 3).trans rfl)⟩ (fun hHeld => ?_)
  clear hK K
  refine norm_ (a' := ?_) ?_ ?_
  rotate_left
  ·show Act.put _ (some 61) _ = _
   simp only [Act.put,zoI,zos0,zos1,i64_w,i32_w]
   rfl
  refine one_ (i := 26) (N := some 62) zo68 rfl rfl (one_of HT_.out (by kernel_rfl)) (by decide) (fun K hK => ?_)
  refine goes_ Try.func17 (by kernel_rfl) rfl #[.agg #[.slice A0 l.length c0,.int .i64 (v),.int .i64 (s),.int .i64 (n)],.bool true] (by rfl) rfl rfl (by simp only [List.map_toArray,List.map_cons,List.map_nil]; rfl) ?_
  with_reducible refine (lodgerref15_Next.calls 61 A0 c0 l v s n true x3 _ (Kd.C_below HCl.out HB.out) Hcl.out Hy3.out).mono ?_
  rintro e_ wr9 ⟨rfl,hb⟩
  refine ⟨_,rfl,?_⟩
  replace HXs := Aside0.mk (blk_below HXs.out hb)
  replace HB := Aside0.mk (below_step HB.out hb)
  clear hb
  refine hK.out _ _ ⟨((blk_cell HXs.out 0).trans rfl),((blk_cell HXs.out 1).trans rfl),((blk_cell HXs.out 2).trans rfl),((blk_cell HXs.out 3).trans rfl)⟩ (fun hHeld => ?_)
  clear hK K
  refine norm_ (a' := ?_) ?_ ?_
  rotate_left
  ·show Act.put _ (some 62) _ = _
   simp only [Act.put,zoI,zos0,zos1,i64_w,i32_w]
   rfl
  refine pure_ (i := 27) (N := some 63) (v := ?_) (a' := ?_) zo69 rfl rfl (any_of HT_.out (by kernel_rfl)) (fun _ _ _ h => h) (Or.inl ⟨by rfl,?_⟩) ?_ ?_
  rotate_left
  ·intro w'
   go_simp
   with_reducible rfl
  rotate_left
  ·simp only [Act.put,zoI,zos0,zos1,i64_w,i32_w]
   rfl
  refine pure_ (i := 28) (N := some 64) (v := ?_) (a' := ?_) zo70 rfl rfl (any_of HT_.out (by kernel_rfl)) (fun _ _ _ h => h) (Or.inl ⟨by rfl,?_⟩) ?_ ?_
  rotate_left
  ·intro w'
   go_simp
   with_reducible rfl
  rotate_left
  ·simp only [Act.put,zoI,zos0,zos1,i64_w,i32_w]
   rfl
  refine pure_ (i := 29) (N := some 65) (v := ?_) (a' := ?_) zo71 rfl rfl (any_of HT_.out (by kernel_rfl)) (fun _ _ _ h => h) (Or.inl ⟨by rfl,?_⟩) ?_ ?_
  rotate_left
  ·intro w'
   go_simp
   with_reducible rfl
  rotate_left
  ·simp only [Act.put,zoI,zos0,zos1,i64_w,i32_w]
   rfl
  refine take_ (i := 30) (N := some 66) (v := ?_) (a' := ?_) zo72 rfl rfl (take_ofW HT_.out HW_.out (by kernel_rfl)) (fun _ _ _ h => h) (Or.inl ⟨by rfl,?_⟩) hHeld ?_ ?_
  rotate_left
  ·rintro w' ⟨s0,s1,s2,s3⟩
   go_simp
   with_reducible rfl
  rotate_left
  ·simp only [Act.put,zoI,zos0,zos1,i64_w,i32_w]
   rfl
  refine take_ (i := 32) (N := some 68) (v := ?_) (a' := ?_) zo73 rfl rfl (take_ofW HT_.out HW_.out (by kernel_rfl)) (fun _ _ _ h => h) (Or.inl ⟨by rfl,?_⟩) hHeld ?_ ?_
  rotate_left
  ·rintro w' ⟨s0,s1,s2,s3⟩
   go_simp
   with_reducible rfl
  rotate_left
  ·simp only [Act.put,zoI,zos0,zos1,i64_w,i32_w]
   rfl
  refine one_ (i := 31) (N := some 67) zo74 rfl rfl (one_of HT_.out (by kernel_rfl)) (by decide) (fun K hK => ?_)
  refine goes_ Try.func16 (by kernel_rfl) rfl #[.agg #[.slice A0 l.length c0,.int .i64 (v),.int .i64 (s),.int .i64 (n)],.bool false] (by rfl) rfl rfl (by simp only [List.map_toArray,List.map_cons,List.map_nil]; rfl) ?_
  with_reducible refine (sweep_Next.calls 61 A0 c0 l v s n false x4 _ (Kd.C_below HCl.out HB.out) Hcl.out Hx4.out).mono ?_
  rintro e_ wr10 ⟨rfl,hb⟩
  refine ⟨_,rfl,?_⟩
  replace HXs := Aside0.mk (blk_below HXs.out hb)
  replace HB := Aside0.mk (below_step HB.out hb)
  clear hb
  refine hK.out _ _ ⟨((blk_cell HXs.out 0).trans rfl),((blk_cell HXs.out 1).trans rfl),((blk_cell HXs.out 2).trans rfl),((blk_cell HXs.out 3).trans rfl)⟩ (fun hHeld => ?_)
  clear hK K
  refine norm_ (a' := ?_) ?_ ?_
  rotate_left
  ·show Act.put _ (some 67) _ = _
   simp only [Act.put,zoI,zos0,zos1,i64_w,i32_w]
   rfl
  refine one_ (i := 33) (N := some 69) zo75 rfl rfl (one_of HT_.out (by kernel_rfl)) (by decide) (fun K hK => ?_)
  refine goes_ Try.func21 (by kernel_rfl) rfl #[.agg #[.slice A0 l.length c0,.int .i64 (v),.int .i64 (s),.int .i64 (n)]] (by rfl) rfl rfl (by simp only [List.map_toArray,List.map_cons,List.map_nil]; rfl) ?_
  with_reducible refine (lodgerlaw15_Ref.calls A0 c0 l v s n _).mono ?_
  rintro e_ wr11 ⟨rfl,hb⟩
  refine ⟨_,rfl,?_⟩
  replace HXs := Aside0.mk (blk_below HXs.out hb)
  replace HB := Aside0.mk (below_step HB.out hb)
  clear hb
  refine hK.out _ _ ⟨((blk_cell HXs.out 0).trans rfl),((blk_cell HXs.out 1).trans rfl),((blk_cell HXs.out 2).trans rfl),((blk_cell HXs.out 3).trans rfl)⟩ (fun hHeld => ?_)
  clear hK K
  refine norm_ (a' := ?_) ?_ ?_
  rotate_left
  ·show Act.put _ (some 69) _ = _
   simp only [Act.put,zoI,zos0,zos1,i64_w,i32_w]
   rfl
  refine one_ (i := 34) (N := some 70) zo76 rfl rfl (one_of HT_.out (by kernel_rfl)) (by decide) (fun K hK => ?_)
  refine goes_ Try.func17 (by kernel_rfl) rfl #[.agg #[.slice A0 l.length c0,.int .i64 (v),.int .i64 (s),.int .i64 (n)],.bool false] (by rfl) rfl rfl (by simp only [List.map_toArray,List.map_cons,List.map_nil]; rfl) ?_
  with_reducible refine (lodgerref15_Next.calls 61 A0 c0 l v s n false x4 _ (Kd.C_below HCl.out HB.out) Hcl.out Hy4.out).mono ?_
  rintro e_ wr12 ⟨rfl,hb⟩
  refine ⟨_,rfl,?_⟩
  replace HXs := Aside0.mk (blk_below HXs.out hb)
  replace HB := Aside0.mk (below_step HB.out hb)
  clear hb
  refine hK.out _ _ ⟨((blk_cell HXs.out 0).trans rfl),((blk_cell HXs.out 1).trans rfl),((blk_cell HXs.out 2).trans rfl),((blk_cell HXs.out 3).trans rfl)⟩ (fun hHeld => ?_)
  clear hK K
  refine norm_ (a' := ?_) ?_ ?_
  rotate_left
  ·show Act.put _ (some 70) _ = _
   simp only [Act.put,zoI,zos0,zos1,i64_w,i32_w]
   rfl
  refine pure_ (i := 35) (N := some 71) (v := ?_) (a' := ?_) zo77 rfl rfl (any_of HT_.out (by kernel_rfl)) (fun _ _ _ h => h) (Or.inl ⟨by rfl,?_⟩) ?_ ?_
  rotate_left
  ·intro w'
   go_simp
   with_reducible rfl
  rotate_left
  ·simp only [Act.put,zoI,zos0,zos1,i64_w,i32_w]
   rfl
  refine pure_ (i := 36) (N := some 72) (v := ?_) (a' := ?_) zo78 rfl rfl (any_of HT_.out (by kernel_rfl)) (fun _ _ _ h => h) (Or.inl ⟨by rfl,?_⟩) ?_ ?_
  rotate_left
  ·intro w'
   go_simp
   with_reducible rfl
  rotate_left
  ·simp only [Act.put,zoI,zos0,zos1,i64_w,i32_w]
   rfl
  refine pure_ (i := 37) (N := some 73) (v := ?_) (a' := ?_) zo79 rfl rfl (any_of HT_.out (by kernel_rfl)) (fun _ _ _ h => h) (Or.inl ⟨by rfl,?_⟩) ?_ ?_
  rotate_left
  ·intro w'
   go_simp
   with_reducible rfl
  rotate_left
  ·simp only [Act.put,zoI,zos0,zos1,i64_w,i32_w]
   rfl
  refine one_ (i := 38) (N := some 74) zo80 rfl rfl (one_of HT_.out (by kernel_rfl)) (by decide) (fun K hK => ?_)
  refine goes_ Try.func18 (by kernel_rfl) rfl #[] (by rfl) rfl rfl (by simp) ?_
  with_reducible refine (lodgerlaw15_fixed.calls _).mono ?_
  rintro e_ wr13 ⟨rfl,hb⟩
  refine ⟨_,rfl,?_⟩
  replace HXs := Aside0.mk (blk_below HXs.out hb)
  replace HB := Aside0.mk (below_step HB.out hb)
  clear hb
  refine hK.out _ _ ⟨((blk_cell HXs.out 0).trans rfl),((blk_cell HXs.out 1).trans rfl),((blk_cell HXs.out 2).trans rfl),((blk_cell HXs.out 3).trans rfl)⟩ (fun hHeld => ?_)
  clear hK K
  refine norm_ (a' := ?_) ?_ ?_
  rotate_left
  ·show Act.put _ (some 74) _ = _
   simp only [Act.put,zoI,zos0,zos1,i64_w,i32_w]
   rfl
  refine pure_ (i := 39) (N := some 75) (v := ?_) (a' := ?_) zo81 rfl rfl (any_of HT_.out (by kernel_rfl)) (fun _ _ _ h => h) (Or.inl ⟨by rfl,?_⟩) ?_ ?_
  rotate_left
  ·intro w'
   go_simp
   with_reducible rfl
  rotate_left
  ·simp only [Act.put,zoI,zos0,zos1,i64_w,i32_w]
   rfl
  refine pure_ (i := 40) (N := some 6) (v := ?_) (a' := ?_) zo82 rfl rfl (any_of HT_.out (by kernel_rfl)) (fun _ _ _ h => h) (Or.inl ⟨by rfl,?_⟩) ?_ ?_
  rotate_left
  ·intro w'
   go_simp
   with_reducible rfl
  rotate_left
  ·simp only [Act.put,zoI,zos0,zos1,i64_w,i32_w]
   rfl
  refine done_ (done_of HT_.out (by kernel_rfl)) ?_
  clear HT_ HW_ hHeld
  go_wp2
  go_ret
  exact ⟨rfl,HB.out⟩
end Go.Proofs.Ytbcmjbjhjnojjaa.H
