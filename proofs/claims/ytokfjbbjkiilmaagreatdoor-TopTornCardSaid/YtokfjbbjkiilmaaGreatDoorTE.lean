/-
TopTorn: part of its walk (Rec2, Rec3).
-/
import Derived.Test.YtokfjbbjkiilmaaGreatDoorTC
import Derived.Test.YtokfjbbjkiilmaaGreatDoorTD
set_option linter.unusedVariables false
set_option linter.unusedSimpArgs false
namespace Go.Proofs.YtokfjbbjkiilmaaGreatDoor.H
open Go.RowKit Go.Proofs.YtokfjbbjkiilmaaGreatDoorW.PrintWords Go.Proofs.YtokfjbbjkiilmaaGreatDoorW.PrintLast Go.Proofs.YtokfjbbjkiilmaaGreatDoorW.PrintMore
set_option maxHeartbeats 8000000
set_option maxRecDepth 100000
attribute [local go_sem] max2_int min2_int min_two max_two
theorem put8_calls (n : Int) (w : World) (hn : 0 ≤ n ∧ n < 18446744073709551616) : Calls Tryz.prog 222 #[.int .u64 n,.int .i64 8] w fun e w' => e = .returned (.string (strOfNums (le n 8))) ∧ Below w.heap.size w w' := put_calls n 8 w ⟨hn.1,by omega⟩ (.inr rfl)
theorem put4_calls (n : Int) (w : World) (hn : 0 ≤ n ∧ n < 4294967296) : Calls Tryz.prog 222 #[.int .u64 n,.int .i64 4] w fun e w' => e = .returned (.string (strOfNums (le n 4))) ∧ Below w.heap.size w w' := put_calls n 4 w ⟨hn.1,by omega⟩ (.inl rfl)
theorem zer_rep (n : Nat) : (⟨(Lib.repeatL [(0 : UInt8)] n).toArray⟩ : ByteArray) = zer n := by
 unfold zer
 congr 2
 induction n with
 | zero => rfl
 | succ n ih => rw [List.replicate_succ,← ih]; simp [Lib.repeatL]
def enc.T3 : Bool × List (List Nat × List Nat) := (true,[([],[]),([0],[0]),([1],[1]),([],[]),([3],[3]),([4],[4]),([5,2],[5]),([2,6],[2,6]),([],[]),([8],[8]),([9],[9]),([],[]),([11],[11]),([12],[12]),([13],[13]),([],[]),([15],[15]),([16],[16]),([17],[17]),([10,14,18],[10,14,18]),([19],[19]),([7,20],[7,20]),([],[]),([22],[22]),([23,6],[23]),([21,24],[21,24]),([],[]),([26],[26]),([27,24],[27]),([25,28],[25,28]),([],[]),([30],[30]),([29,31],[29,31]),([],[]),([33],[33]),([32,34],[32,34]),([35,28,0,1,2,3,4,5,6,7,8,9,10,11,12,13,14,15,16,17,18,19,20,21,22,23,24,25,26,27,28,29,30,31,32,33,34,35],[35])])
def enc.B3 : List Nat := [0,1,3,0,8,24,63,127,0,256,768,0,2048,6144,14336,0,32768,98304,229376,524032,1048320,2097151,0,4194304,12583039,33554431,0,67108864,230686847,536870911,0,1073741824,4294967295,0,8589934592,34359738367,68719476735]
theorem enc.tab3 : rtab .any (opsOf Tryz.f207 3) = enc.T3 := by kernel_rfl
theorem enc.bits3 : waitsOk enc.T3.2 enc.B3 = true := by kernel_rfl
def enc.T5 : Bool × List (List Nat × List Nat) := (true,[([],[]),([],[]),([1],[1]),([2],[2]),([3,2],[3]),([0,4],[0,4]),([],[]),([6],[6]),([7,4],[7]),([5,8],[5,8]),([],[]),([10],[10]),([11],[11]),([12,8],[12]),([9,13],[9,13]),([14,13,0,1,2,3,4,5,6,7,8,9,10,11,12,13,14],[14]),([15,0,1,2,3,4,5,6,7,8,9,10,11,12,13,14,15],[])])
def enc.B5 : List Nat := [0,0,2,6,14,31,0,64,222,511,0,1024,3072,7646,16383,32767,65535]
theorem enc.tab5 : rtab .any (opsOf Tryz.f207 5) = enc.T5 := by kernel_rfl
theorem enc.bits5 : waitsOk enc.T5.2 enc.B5 = true := by kernel_rfl
theorem enc_calls (r : Rec) (P N : Prop) (w : World) (ho : P → r.ok) (hR : ∀ W,Below w.heap.size w W → Calls Tryz.prog 227 #[.agg #[.int .u64 r.lsn,.int .u32 r.ep,.int .i64 r.kd,.int .u64 r.ver,.int .u64 r.dl,.string r.id,.string r.v]] W fun e w' => (e = .returned (.bool false) ∧ Below W.heap.size W w' ∧ N) ∨ (e = .returned (.bool true) ∧ Below W.heap.size W w' ∧ P)) :
 Calls Tryz.prog 207 #[.agg #[.int .u64 r.lsn,.int .u32 r.ep,.int .i64 r.kd,.int .u64 r.ver,.int .u64 r.dl,.string r.id,.string r.v]] w fun e w' => (e = .returned (.tuple #[.string r.enc,.int .i64 0]) ∧ P ∨ e = .returned (.tuple #[.string { data := #[] },.int .i64 5]) ∧ N) ∧ Below w.heap.size w w' := by
 have HO := Aside0.mk ho
 have HR := Aside0.mk hR
 clear hR ho
 go_enter Tryz.func207,Tryz.ntmps207
 go_upto_region 1 with fail
 obtain ⟨W1,g,hW_,hg,HX,hb_⟩ := new1 w #[.int .u64 r.lsn,.int .u32 r.ep,.int .i64 r.kd,.int .u64 r.ver,.int .u64 r.dl,.string r.id,.string r.v] 188
 rw [← hW_,← hg.out]
 have HB := Aside0.mk hb_
 clear hW_ hb_
 have y0 : W1.cell? ⟨g,0,none⟩ = some (.int .u64 r.lsn) := cL HX 0 rfl
 have y1 : W1.cell? ⟨g,1,none⟩ = some (.int .u32 r.ep) := cL HX 1 rfl
 have y2 : W1.cell? ⟨g,2,none⟩ = some (.int .i64 r.kd) := cL HX 2 rfl
 have y3 : W1.cell? ⟨g,3,none⟩ = some (.int .u64 r.ver) := cL HX 3 rfl
 have y4 : W1.cell? ⟨g,4,none⟩ = some (.int .u64 r.dl) := cL HX 4 rfl
 have y5 : W1.cell? ⟨g,5,none⟩ = some (.string r.id) := cL HX 5 rfl
 have y6 : W1.cell? ⟨g,6,none⟩ = some (.string r.v) := cL HX 6 rfl
 go_wp2_with (refine lr_ 1 HX.out Tryz.underlying188 ?_)
 refine (HR.out _ HB.out).mono ?_
 rintro e_ w2 (⟨rfl,hb,hn⟩ | ⟨rfl,hb,hp⟩)
 ·have HN := Aside0.mk hn
  clear hn
  go_wp2_with fail
  exact ret2 rfl rfl ⟨.inr ⟨rfl,HN.out⟩,below_step HB.out hb⟩
 have HPP := Aside0.mk hp
 replace HO := Aside0.mk (HO.out hp)
 clear hp
 replace HX := mB HX hb
 replace HB := mS HB hb
 clear hb HR y0 y1 y2 y3 y4 y5 y6
 have e1 : IntKind.u8.wrap r.kd = r.kd := by have := HO.out.kd; rw [IntKind.wrap_u8]; omega
 have e2 : IntKind.u8.wrap (r.id.size : Int) = (r.id.size : Int) := by have := HO.out.len; rw [IntKind.wrap_u8]; omega
 have e3 : IntKind.u8.wrap (r.v.size : Int) = (r.v.size : Int) := by have := HO.out.len; rw [IntKind.wrap_u8]; omega
 have e4 : IntKind.u64.wrap r.ep = r.ep := by have := HO.out.ep; rw [IntKind.wrap_u64]; omega
 have q1 : (9223372036854775807 < (strOfNums (le r.lsn 8)).size + (strOfNums (le r.ep 4)).size) = False := eq_false (by have := HO.out.len; simp only [ByteArray.size_append,strOfNums_size,zer_size,le,List.length_map,List.length_range,List.length_cons,List.length_nil]; omega)
 have q2 : (9223372036854775807 < (strOfNums (le r.lsn 8)).size + (strOfNums (le r.ep 4)).size + (strOfNums [r.kd,(r.id.size : Int),(r.v.size : Int)]).size) = False := eq_false (by have := HO.out.len; simp only [ByteArray.size_append,strOfNums_size,zer_size,le,List.length_map,List.length_range,List.length_cons,List.length_nil]; omega)
 have q3 : (9223372036854775807 < (strOfNums (le r.lsn 8)).size + (strOfNums (le r.ep 4)).size + (strOfNums [r.kd,(r.id.size : Int),(r.v.size : Int)]).size + (strOfNums (le r.ver 8)).size) = False := eq_false (by have := HO.out.len; simp only [ByteArray.size_append,strOfNums_size,zer_size,le,List.length_map,List.length_range,List.length_cons,List.length_nil]; omega)
 have q4 : (9223372036854775807 < (strOfNums (le r.lsn 8)).size + (strOfNums (le r.ep 4)).size + (strOfNums [r.kd,(r.id.size : Int),(r.v.size : Int)]).size + (strOfNums (le r.ver 8)).size + (strOfNums (le r.dl 8)).size) = False := eq_false (by have := HO.out.len; simp only [ByteArray.size_append,strOfNums_size,zer_size,le,List.length_map,List.length_range,List.length_cons,List.length_nil]; omega)
 have q5 : (9223372036854775807 < (strOfNums (le r.lsn 8)).size + (strOfNums (le r.ep 4)).size + (strOfNums [r.kd,(r.id.size : Int),(r.v.size : Int)]).size + (strOfNums (le r.ver 8)).size + (strOfNums (le r.dl 8)).size + (r.id).size) = False := eq_false (by have := HO.out.len; simp only [ByteArray.size_append,strOfNums_size,zer_size,le,List.length_map,List.length_range,List.length_cons,List.length_nil]; omega)
 have q6 : (9223372036854775807 < (strOfNums (le r.lsn 8)).size + (strOfNums (le r.ep 4)).size + (strOfNums [r.kd,(r.id.size : Int),(r.v.size : Int)]).size + (strOfNums (le r.ver 8)).size + (strOfNums (le r.dl 8)).size + (r.id).size + (r.v).size) = False := eq_false (by have := HO.out.len; simp only [ByteArray.size_append,strOfNums_size,zer_size,le,List.length_map,List.length_range,List.length_cons,List.length_nil]; omega)
 go_upto_region 3 with fail
 refine st_ 37 (fun w' => w'.cell? ⟨g,0,none⟩ = some (.int .u64 r.lsn) ∧ w'.cell? ⟨g,1,none⟩ = some (.int .u32 r.ep) ∧ w'.cell? ⟨g,2,none⟩ = some (.int .i64 r.kd) ∧ w'.cell? ⟨g,3,none⟩ = some (.int .u64 r.ver) ∧ w'.cell? ⟨g,4,none⟩ = some (.int .u64 r.dl) ∧ w'.cell? ⟨g,5,none⟩ = some (.string r.id) ∧ w'.cell? ⟨g,6,none⟩ = some (.string r.v)) [] ⟨(cD HX 0 rfl),(cD HX 1 rfl),(cD HX 2 rfl),(cD HX 3 rfl),(cD HX 4 rfl),(cD HX 5 rfl),(cD HX 6 rfl)⟩ fun hHeld => ?_
 refine with_tabW enc.tab3 enc.bits3 (fun HT_ HW_ => ?_)
 replace HX := mD HX
 replace HB := bD HB
 generalize w2.drew = wd1 at *
 refine pa_ 0 8 HT_ ?_
 refine pa_ 3 11 HT_ ?_
 refine pa_ 8 16 HT_ ?_
 refine pa_ 11 19 HT_ ?_
 refine pa_ 15 23 HT_ ?_
 refine pa_ 22 30 HT_ ?_
 refine pa_ 26 34 HT_ ?_
 refine pa_ 30 38 HT_ ?_
 refine pa_ 33 41 HT_ ?_
 refine ta_ 1 9 HT_ HW_ hHeld ?_
 refine ta_ 4 12 HT_ HW_ hHeld ?_
 refine pa_ 5 13 HT_ ?_
 refine ta_ 9 17 HT_ HW_ hHeld ?_
 refine pa_ 10 18 HT_ ?_
 refine ta_ 12 20 HT_ HW_ hHeld ?_
 refine pa_ 13 21 HT_ ?_
 refine pa_ 14 22 HT_ ?_
 refine ta_ 16 24 HT_ HW_ hHeld ?_
 refine pa_ 17 25 HT_ ?_
 refine pa_ 18 26 HT_ ?_
 refine ta_ 23 31 HT_ HW_ hHeld ?_
 refine ta_ 27 35 HT_ HW_ hHeld ?_
 refine ta_ 31 39 HT_ HW_ hHeld ?_
 refine ta_ 34 42 HT_ HW_ hHeld ?_
 refine jn_ (σ := Nat) 4 [29,1,2,1,2,2] (fun s_ => [(10,.string (strOfNums (le r.lsn 8))),(14,.string (strOfNums (le r.ep 4))),(27,.slice (some ⟨s_,0,none⟩) 3 3),(28,.string (strOfNums [r.kd,(r.id.size : Int),(r.v.size : Int)])),(32,.string (strOfNums (le r.ver 8))),(36,.string (strOfNums (le r.dl 8))),(15,.string (strOfNums (le r.lsn 8) ++ strOfNums (le r.ep 4))),(29,.string (strOfNums (le r.lsn 8) ++ strOfNums (le r.ep 4) ++ strOfNums [r.kd,(r.id.size : Int),(r.v.size : Int)])),(33,.string (strOfNums (le r.lsn 8) ++ strOfNums (le r.ep 4) ++ strOfNums [r.kd,(r.id.size : Int),(r.v.size : Int)] ++ strOfNums (le r.ver 8)))]) (fun s_ w' => w'.heap[g]? = some (.cells #[.int .u64 r.lsn,.int .u32 r.ep,.int .i64 r.kd,.int .u64 r.ver,.int .u64 r.dl,.string r.id,.string r.v] 188 (0,0)) ∧ w'.heap[s_]? = some (.cells #[.int .u8 r.kd,.int .u8 (r.id.size : Int),.int .u8 (r.v.size : Int)] 5 (0,0)) ∧ w.heap.size ≤ s_ ∧ Below w.heap.size w w') ?_ ?_
 rotate_left
 ·intro hJ2_6_19_20_24_28
  refine jn_ (σ := Nat) 5 [28,2,2,1,2,2] (fun s_ => [(10,.string (strOfNums (le r.lsn 8))),(14,.string (strOfNums (le r.ep 4))),(27,.slice (some ⟨s_,0,none⟩) 3 3),(28,.string (strOfNums [r.kd,(r.id.size : Int),(r.v.size : Int)])),(32,.string (strOfNums (le r.ver 8))),(15,.string (strOfNums (le r.lsn 8) ++ strOfNums (le r.ep 4))),(29,.string (strOfNums (le r.lsn 8) ++ strOfNums (le r.ep 4) ++ strOfNums [r.kd,(r.id.size : Int),(r.v.size : Int)])),(33,.string (strOfNums (le r.lsn 8) ++ strOfNums (le r.ep 4) ++ strOfNums [r.kd,(r.id.size : Int),(r.v.size : Int)] ++ strOfNums (le r.ver 8)))]) (fun s_ w' => w'.heap[g]? = some (.cells #[.int .u64 r.lsn,.int .u32 r.ep,.int .i64 r.kd,.int .u64 r.ver,.int .u64 r.dl,.string r.id,.string r.v] 188 (0,0)) ∧ w'.heap[s_]? = some (.cells #[.int .u8 r.kd,.int .u8 (r.id.size : Int),.int .u8 (r.v.size : Int)] 5 (0,0)) ∧ w.heap.size ≤ s_ ∧ Below w.heap.size w w') ?_ ?_
  rotate_left
  ·intro hJ2_6_19_20_24
   refine jn_ (σ := Nat) 7 [20,2,3,1,3,1,2,1,2,2] (fun s_ => [(10,.string (strOfNums (le r.lsn 8))),(14,.string (strOfNums (le r.ep 4))),(27,.slice (some ⟨s_,0,none⟩) 3 3),(32,.string (strOfNums (le r.ver 8))),(36,.string (strOfNums (le r.dl 8))),(15,.string (strOfNums (le r.lsn 8) ++ strOfNums (le r.ep 4)))]) (fun s_ w' => w'.heap[g]? = some (.cells #[.int .u64 r.lsn,.int .u32 r.ep,.int .i64 r.kd,.int .u64 r.ver,.int .u64 r.dl,.string r.id,.string r.v] 188 (0,0)) ∧ w'.heap[s_]? = some (.cells #[.int .u8 r.kd,.int .u8 (r.id.size : Int),.int .u8 (r.v.size : Int)] 5 (0,0)) ∧ w.heap.size ≤ s_ ∧ Below w.heap.size w w') ?_ ?_
   rotate_left
   ·intro hJ2_6_19_24_28
    refine jn_ (σ := Nat) 7 [24,2,2,2,2,1,2,2] (fun s_ => [(10,.string (strOfNums (le r.lsn 8))),(14,.string (strOfNums (le r.ep 4))),(27,.slice (some ⟨s_,0,none⟩) 3 3),(28,.string (strOfNums [r.kd,(r.id.size : Int),(r.v.size : Int)])),(15,.string (strOfNums (le r.lsn 8) ++ strOfNums (le r.ep 4))),(29,.string (strOfNums (le r.lsn 8) ++ strOfNums (le r.ep 4) ++ strOfNums [r.kd,(r.id.size : Int),(r.v.size : Int)]))]) (fun s_ w' => w'.heap[g]? = some (.cells #[.int .u64 r.lsn,.int .u32 r.ep,.int .i64 r.kd,.int .u64 r.ver,.int .u64 r.dl,.string r.id,.string r.v] 188 (0,0)) ∧ w'.heap[s_]? = some (.cells #[.int .u8 r.kd,.int .u8 (r.id.size : Int),.int .u8 (r.v.size : Int)] 5 (0,0)) ∧ w.heap.size ≤ s_ ∧ Below w.heap.size w w') ?_ ?_
    rotate_left
    ·intro hJ2_6_19_20
     refine jn_ (σ := Nat) 8 [20,2,3,1,2,2,2,1,2,2] (fun s_ => [(10,.string (strOfNums (le r.lsn 8))),(14,.string (strOfNums (le r.ep 4))),(27,.slice (some ⟨s_,0,none⟩) 3 3),(32,.string (strOfNums (le r.ver 8))),(15,.string (strOfNums (le r.lsn 8) ++ strOfNums (le r.ep 4)))]) (fun s_ w' => w'.heap[g]? = some (.cells #[.int .u64 r.lsn,.int .u32 r.ep,.int .i64 r.kd,.int .u64 r.ver,.int .u64 r.dl,.string r.id,.string r.v] 188 (0,0)) ∧ w'.heap[s_]? = some (.cells #[.int .u8 r.kd,.int .u8 (r.id.size : Int),.int .u8 (r.v.size : Int)] 5 (0,0)) ∧ w.heap.size ≤ s_ ∧ Below w.heap.size w w') ?_ ?_
     rotate_left
     ·intro hJ2_6_19_24
      refine jn_ (σ := Unit) 8 [19,3,3,1,3,1,2,1,2,2] (fun s_ => [(10,.string (strOfNums (le r.lsn 8))),(14,.string (strOfNums (le r.ep 4))),(32,.string (strOfNums (le r.ver 8))),(36,.string (strOfNums (le r.dl 8))),(15,.string (strOfNums (le r.lsn 8) ++ strOfNums (le r.ep 4)))]) (fun s_ w' => w'.heap[g]? = some (.cells #[.int .u64 r.lsn,.int .u32 r.ep,.int .i64 r.kd,.int .u64 r.ver,.int .u64 r.dl,.string r.id,.string r.v] 188 (0,0)) ∧ Below w.heap.size w w') ?_ ?_
      rotate_left
      ·intro hJ2_6_24_28
       refine jn_ (σ := Nat) 9 [20,2,2,2,2,2,2,1,2,2] (fun s_ => [(10,.string (strOfNums (le r.lsn 8))),(14,.string (strOfNums (le r.ep 4))),(27,.slice (some ⟨s_,0,none⟩) 3 3),(15,.string (strOfNums (le r.lsn 8) ++ strOfNums (le r.ep 4)))]) (fun s_ w' => w'.heap[g]? = some (.cells #[.int .u64 r.lsn,.int .u32 r.ep,.int .i64 r.kd,.int .u64 r.ver,.int .u64 r.dl,.string r.id,.string r.v] 188 (0,0)) ∧ w'.heap[s_]? = some (.cells #[.int .u8 r.kd,.int .u8 (r.id.size : Int),.int .u8 (r.v.size : Int)] 5 (0,0)) ∧ w.heap.size ≤ s_ ∧ Below w.heap.size w w') ?_ ?_
       rotate_left
       ·intro hJ2_6_19
        refine jn_ (σ := Unit) 9 [19,3,3,1,2,2,2,1,2,2] (fun s_ => [(10,.string (strOfNums (le r.lsn 8))),(14,.string (strOfNums (le r.ep 4))),(32,.string (strOfNums (le r.ver 8))),(15,.string (strOfNums (le r.lsn 8) ++ strOfNums (le r.ep 4)))]) (fun s_ w' => w'.heap[g]? = some (.cells #[.int .u64 r.lsn,.int .u32 r.ep,.int .i64 r.kd,.int .u64 r.ver,.int .u64 r.dl,.string r.id,.string r.v] 188 (0,0)) ∧ Below w.heap.size w w') ?_ ?_
        rotate_left
        ·intro hJ2_6_24
         refine jn_ (σ := Nat) 10 [6,2,13,1,2,2,2,2,2,1,2,2] (fun s_ => [(10,.string (strOfNums (le r.lsn 8))),(27,.slice (some ⟨s_,0,none⟩) 3 3),(28,.string (strOfNums [r.kd,(r.id.size : Int),(r.v.size : Int)]))]) (fun s_ w' => w'.heap[g]? = some (.cells #[.int .u64 r.lsn,.int .u32 r.ep,.int .i64 r.kd,.int .u64 r.ver,.int .u64 r.dl,.string r.id,.string r.v] 188 (0,0)) ∧ w'.heap[s_]? = some (.cells #[.int .u8 r.kd,.int .u8 (r.id.size : Int),.int .u8 (r.v.size : Int)] 5 (0,0)) ∧ w.heap.size ≤ s_ ∧ Below w.heap.size w w') ?_ ?_
         rotate_left
         ·intro hJ2_19_20
          refine jn_ (σ := Unit) 10 [19,3,2,2,2,2,2,1,2,2] (fun s_ => [(10,.string (strOfNums (le r.lsn 8))),(14,.string (strOfNums (le r.ep 4))),(15,.string (strOfNums (le r.lsn 8) ++ strOfNums (le r.ep 4)))]) (fun s_ w' => w'.heap[g]? = some (.cells #[.int .u64 r.lsn,.int .u32 r.ep,.int .i64 r.kd,.int .u64 r.ver,.int .u64 r.dl,.string r.id,.string r.v] 188 (0,0)) ∧ Below w.heap.size w w') ?_ ?_
          rotate_left
          ·intro hJ2_6
           refine jn_ (σ := Nat) 11 [6,2,12,2,2,2,2,2,2,1,2,2] (fun s_ => [(10,.string (strOfNums (le r.lsn 8))),(27,.slice (some ⟨s_,0,none⟩) 3 3)]) (fun s_ w' => w'.heap[g]? = some (.cells #[.int .u64 r.lsn,.int .u32 r.ep,.int .i64 r.kd,.int .u64 r.ver,.int .u64 r.dl,.string r.id,.string r.v] 188 (0,0)) ∧ w'.heap[s_]? = some (.cells #[.int .u8 r.kd,.int .u8 (r.id.size : Int),.int .u8 (r.v.size : Int)] 5 (0,0)) ∧ w.heap.size ≤ s_ ∧ Below w.heap.size w w') ?_ ?_
           rotate_left
           ·intro hJ2_19
            refine jn_ (σ := Nat) 11 [2,1,3,2,13,1,2,2,2,2,2,1,2,2] (fun s_ => [(27,.slice (some ⟨s_,0,none⟩) 3 3),(28,.string (strOfNums [r.kd,(r.id.size : Int),(r.v.size : Int)]))]) (fun s_ w' => w'.heap[g]? = some (.cells #[.int .u64 r.lsn,.int .u32 r.ep,.int .i64 r.kd,.int .u64 r.ver,.int .u64 r.dl,.string r.id,.string r.v] 188 (0,0)) ∧ w'.heap[s_]? = some (.cells #[.int .u8 r.kd,.int .u8 (r.id.size : Int),.int .u8 (r.v.size : Int)] 5 (0,0)) ∧ w.heap.size ≤ s_ ∧ Below w.heap.size w w') ?_ ?_
            rotate_left
            ·intro hJ19_20
             refine jn_ (σ := Unit) 12 [6,2,11,3,2,2,2,2,2,1,2,2] (fun s_ => [(10,.string (strOfNums (le r.lsn 8)))]) (fun s_ w' => w'.heap[g]? = some (.cells #[.int .u64 r.lsn,.int .u32 r.ep,.int .i64 r.kd,.int .u64 r.ver,.int .u64 r.dl,.string r.id,.string r.v] 188 (0,0)) ∧ Below w.heap.size w w') ?_ ?_
             rotate_left
             ·intro hJ2
              refine jn_ (σ := Nat) 12 [2,1,3,2,12,2,2,2,2,2,2,1,2,2] (fun s_ => [(27,.slice (some ⟨s_,0,none⟩) 3 3)]) (fun s_ w' => w'.heap[g]? = some (.cells #[.int .u64 r.lsn,.int .u32 r.ep,.int .i64 r.kd,.int .u64 r.ver,.int .u64 r.dl,.string r.id,.string r.v] 188 (0,0)) ∧ w'.heap[s_]? = some (.cells #[.int .u8 r.kd,.int .u8 (r.id.size : Int),.int .u8 (r.v.size : Int)] 5 (0,0)) ∧ w.heap.size ≤ s_ ∧ Below w.heap.size w w') ?_ ?_
              rotate_left
              ·intro hJ19
               refine tw_ 2 19 HT_ (fun K hK => ?_) fun K hK => ?_
               ·skip
                refine gc_ Tryz.func222 #[.int .u64 r.lsn,.int .i64 8] ?_
                with_reducible refine (put8_calls r.lsn _ HO.out.lsn).mono ?_
                rintro e_ wk ⟨rfl,hb⟩
                refine ⟨_,rfl,?_⟩
                replace HX := mb HX hb
                replace HB := mS HB hb
                clear hb
                refine hK.out _ _ ⟨(cL HX 0 rfl),(cL HX 1 rfl),(cL HX 2 rfl),(cL HX 3 rfl),(cL HX 4 rfl),(cL HX 5 rfl),(cL HX 6 rfl)⟩ (fun hHeld => ?_)
                clear hK K
                refine no_ 10 ?_
                exact nx_ (hJ2 () _ ⟨HX.out,HB.out⟩)
               ·skip
                refine va_ ?_
                obtain ⟨wk,hW⟩ : ∃ W_,W_ = wd1.alloc (.cells #[.int .u8 r.kd,.int .u8 (r.id.size : Int),.int .u8 (r.v.size : Int)] 5) := ⟨_,rfl⟩
                obtain ⟨b7,hh⟩ : ∃ g_,g_ = wd1.heap.size := ⟨_,rfl⟩
                rw [← hW,← hh]
                have HGb7 : Aside0 (w.heap.size ≤ b7) := ⟨by rw [hh]; exact HB.out.size⟩
                have hb_ : Below wd1.heap.size wd1 wk := by rw [hW]; exact below_alloc (Below.refl _ _) _
                replace HX := mb HX hb_
                replace HB := mS HB hb_
                have HRb7 : Aside0 (wk.heap[b7]? = some (.cells #[.int .u8 r.kd,.int .u8 (r.id.size : Int),.int .u8 (r.v.size : Int)] 5 (0,0))) := ⟨by rw [hW,hh]; exact blk_new _ _⟩
                clear hW hh hb_
                refine hK.out _ _ ⟨(cL HX 0 rfl),(cL HX 1 rfl),(cL HX 2 rfl),(cL HX 3 rfl),(cL HX 4 rfl),(cL HX 5 rfl),(cL HX 6 rfl)⟩ (fun hHeld => ?_)
                clear hK K
                refine no_ 27 ?_
                exact nx_ (hJ19 b7 _ ⟨HX.out,HRb7.out,HGb7.out,HB.out⟩)
              ·skip
               rintro b7 wj ⟨h_0,h_1,h_2,h_3⟩
               try dsimp only at h_0 h_1 h_2 h_3
               clear HX HB
               have HX := Aside0.mk h_0
               have HRb7 := Aside0.mk h_1
               have HGb7 := Aside0.mk h_2
               have HB := Aside0.mk h_3
               clear h_0 h_1 h_2 h_3
               refine hd_ ⟨(cL HX 0 rfl),(cL HX 1 rfl),(cL HX 2 rfl),(cL HX 3 rfl),(cL HX 4 rfl),(cL HX 5 rfl),(cL HX 6 rfl)⟩ fun hHeld => ?_
               refine na_ ?_
               refine tw_ 2 20 HT_ (fun K hK => ?_) fun K hK => ?_
               ·skip
                refine gc_ Tryz.func222 #[.int .u64 r.lsn,.int .i64 8] ?_
                with_reducible refine (put8_calls r.lsn _ HO.out.lsn).mono ?_
                rintro e_ wk ⟨rfl,hb⟩
                refine ⟨_,rfl,?_⟩
                replace HX := mb HX hb
                replace HRb7 := mb HRb7 hb
                replace HB := mS HB hb
                clear hb
                refine hK.out _ _ ⟨(cL HX 0 rfl),(cL HX 1 rfl),(cL HX 2 rfl),(cL HX 3 rfl),(cL HX 4 rfl),(cL HX 5 rfl),(cL HX 6 rfl)⟩ (fun hHeld => ?_)
                clear hK K
                refine no_ 10 ?_
                exact nx_ (hJ2_19 b7 _ ⟨HX.out,HRb7.out,HGb7.out,HB.out⟩)
               ·skip
                have hcv := run_convert_bytes_arg (P := Tryz.prog) wj 320 5 (by kernel_rfl) (by kernel_rfl) b7 0 3 3 [r.kd,(r.id.size : Int),(r.v.size : Int)] rfl (fun i hi => by rcases i with _ | _ | _ | i <;> first | (exact (blk_cell HRb7.out _).trans rfl) | (exfalso; omega)) 9 (by kernel_rfl)
                refine va_ ?_
                clear hcv
                refine hK.out _ _ ⟨(cL HX 0 rfl),(cL HX 1 rfl),(cL HX 2 rfl),(cL HX 3 rfl),(cL HX 4 rfl),(cL HX 5 rfl),(cL HX 6 rfl)⟩ (fun hHeld => ?_)
                clear hK K
                refine no_ 28 ?_
                exact nx_ (hJ19_20 b7 _ ⟨HX.out,HRb7.out,HGb7.out,HB.out⟩)
             ·skip
              rintro ⟨⟩ wj ⟨h_0,h_1⟩
              try dsimp only at h_0 h_1
              clear HX HB
              have HX := Aside0.mk h_0
              have HB := Aside0.mk h_1
              clear h_0 h_1
              refine hd_ ⟨(cL HX 0 rfl),(cL HX 1 rfl),(cL HX 2 rfl),(cL HX 3 rfl),(cL HX 4 rfl),(cL HX 5 rfl),(cL HX 6 rfl)⟩ fun hHeld => ?_
              refine na_ ?_
              refine tw_ 6 19 HT_ (fun K hK => ?_) fun K hK => ?_
              ·skip
               refine gc_ Tryz.func222 #[.int .u64 r.ep,.int .i64 4] ?_
               with_reducible refine (put4_calls r.ep _ HO.out.ep).mono ?_
               rintro e_ wk ⟨rfl,hb⟩
               refine ⟨_,rfl,?_⟩
               replace HX := mb HX hb
               replace HB := mS HB hb
               clear hb
               refine hK.out _ _ ⟨(cL HX 0 rfl),(cL HX 1 rfl),(cL HX 2 rfl),(cL HX 3 rfl),(cL HX 4 rfl),(cL HX 5 rfl),(cL HX 6 rfl)⟩ (fun hHeld => ?_)
               clear hK K
               refine no_ 14 ?_
               refine pa_ 7 15 HT_ ?_
               exact nx_ (hJ2_6 () _ ⟨HX.out,HB.out⟩)
              ·skip
               refine va_ ?_
               obtain ⟨wk,hW⟩ : ∃ W_,W_ = wj.alloc (.cells #[.int .u8 r.kd,.int .u8 (r.id.size : Int),.int .u8 (r.v.size : Int)] 5) := ⟨_,rfl⟩
               obtain ⟨b7,hh⟩ : ∃ g_,g_ = wj.heap.size := ⟨_,rfl⟩
               rw [← hW,← hh]
               have HGb7 : Aside0 (w.heap.size ≤ b7) := ⟨by rw [hh]; exact HB.out.size⟩
               have hb_ : Below wj.heap.size wj wk := by rw [hW]; exact below_alloc (Below.refl _ _) _
               replace HX := mb HX hb_
               replace HB := mS HB hb_
               have HRb7 : Aside0 (wk.heap[b7]? = some (.cells #[.int .u8 r.kd,.int .u8 (r.id.size : Int),.int .u8 (r.v.size : Int)] 5 (0,0))) := ⟨by rw [hW,hh]; exact blk_new _ _⟩
               clear hW hh hb_
               refine hK.out _ _ ⟨(cL HX 0 rfl),(cL HX 1 rfl),(cL HX 2 rfl),(cL HX 3 rfl),(cL HX 4 rfl),(cL HX 5 rfl),(cL HX 6 rfl)⟩ (fun hHeld => ?_)
               clear hK K
               refine no_ 27 ?_
               exact nx_ (hJ2_19 b7 _ ⟨HX.out,HRb7.out,HGb7.out,HB.out⟩)
            ·skip
             rintro b7 wj ⟨h_0,h_1,h_2,h_3⟩
             try dsimp only at h_0 h_1 h_2 h_3
             clear HX HB
             have HX := Aside0.mk h_0
             have HRb7 := Aside0.mk h_1
             have HGb7 := Aside0.mk h_2
             have HB := Aside0.mk h_3
             clear h_0 h_1 h_2 h_3
             refine hd_ ⟨(cL HX 0 rfl),(cL HX 1 rfl),(cL HX 2 rfl),(cL HX 3 rfl),(cL HX 4 rfl),(cL HX 5 rfl),(cL HX 6 rfl)⟩ fun hHeld => ?_
             refine na_ ?_
             refine on_ 2 HT_ fun K hK => ?_
             refine gc_ Tryz.func222 #[.int .u64 r.lsn,.int .i64 8] ?_
             with_reducible refine (put8_calls r.lsn _ HO.out.lsn).mono ?_
             rintro e_ wk ⟨rfl,hb⟩
             refine ⟨_,rfl,?_⟩
             replace HX := mb HX hb
             replace HRb7 := mb HRb7 hb
             replace HB := mS HB hb
             clear hb
             refine hK.out _ _ ⟨(cL HX 0 rfl),(cL HX 1 rfl),(cL HX 2 rfl),(cL HX 3 rfl),(cL HX 4 rfl),(cL HX 5 rfl),(cL HX 6 rfl)⟩ (fun hHeld => ?_)
             clear hK K
             refine no_ 10 ?_
             exact nx_ (hJ2_19_20 b7 _ ⟨HX.out,HRb7.out,HGb7.out,HB.out⟩)
           ·skip
            rintro b7 wj ⟨h_0,h_1,h_2,h_3⟩
            try dsimp only at h_0 h_1 h_2 h_3
            clear HX HB
            have HX := Aside0.mk h_0
            have HRb7 := Aside0.mk h_1
            have HGb7 := Aside0.mk h_2
            have HB := Aside0.mk h_3
            clear h_0 h_1 h_2 h_3
            refine hd_ ⟨(cL HX 0 rfl),(cL HX 1 rfl),(cL HX 2 rfl),(cL HX 3 rfl),(cL HX 4 rfl),(cL HX 5 rfl),(cL HX 6 rfl)⟩ fun hHeld => ?_
            refine na_ ?_
            refine tw_ 6 20 HT_ (fun K hK => ?_) fun K hK => ?_
            ·skip
             refine gc_ Tryz.func222 #[.int .u64 r.ep,.int .i64 4] ?_
             with_reducible refine (put4_calls r.ep _ HO.out.ep).mono ?_
             rintro e_ wk ⟨rfl,hb⟩
             refine ⟨_,rfl,?_⟩
             replace HX := mb HX hb
             replace HRb7 := mb HRb7 hb
             replace HB := mS HB hb
             clear hb
             refine hK.out _ _ ⟨(cL HX 0 rfl),(cL HX 1 rfl),(cL HX 2 rfl),(cL HX 3 rfl),(cL HX 4 rfl),(cL HX 5 rfl),(cL HX 6 rfl)⟩ (fun hHeld => ?_)
             clear hK K
             refine no_ 14 ?_
             refine pa_ 7 15 HT_ ?_
             exact nx_ (hJ2_6_19 b7 _ ⟨HX.out,HRb7.out,HGb7.out,HB.out⟩)
            ·skip
             have hcv := run_convert_bytes_arg (P := Tryz.prog) wj 320 5 (by kernel_rfl) (by kernel_rfl) b7 0 3 3 [r.kd,(r.id.size : Int),(r.v.size : Int)] rfl (fun i hi => by rcases i with _ | _ | _ | i <;> first | (exact (blk_cell HRb7.out _).trans rfl) | (exfalso; omega)) 9 (by kernel_rfl)
             refine va_ ?_
             clear hcv
             refine hK.out _ _ ⟨(cL HX 0 rfl),(cL HX 1 rfl),(cL HX 2 rfl),(cL HX 3 rfl),(cL HX 4 rfl),(cL HX 5 rfl),(cL HX 6 rfl)⟩ (fun hHeld => ?_)
             clear hK K
             refine no_ 28 ?_
             exact nx_ (hJ2_19_20 b7 _ ⟨HX.out,HRb7.out,HGb7.out,HB.out⟩)
          ·skip
           rintro ⟨⟩ wj ⟨h_0,h_1⟩
           try dsimp only at h_0 h_1
           clear HX HB
           have HX := Aside0.mk h_0
           have HB := Aside0.mk h_1
           clear h_0 h_1
           refine hd_ ⟨(cL HX 0 rfl),(cL HX 1 rfl),(cL HX 2 rfl),(cL HX 3 rfl),(cL HX 4 rfl),(cL HX 5 rfl),(cL HX 6 rfl)⟩ fun hHeld => ?_
           refine na_ ?_
           refine tw_ 19 24 HT_ (fun K hK => ?_) fun K hK => ?_
           ·skip
            refine va_ ?_
            obtain ⟨wk,hW⟩ : ∃ W_,W_ = wj.alloc (.cells #[.int .u8 r.kd,.int .u8 (r.id.size : Int),.int .u8 (r.v.size : Int)] 5) := ⟨_,rfl⟩
            obtain ⟨b7,hh⟩ : ∃ g_,g_ = wj.heap.size := ⟨_,rfl⟩
            rw [← hW,← hh]
            have HGb7 : Aside0 (w.heap.size ≤ b7) := ⟨by rw [hh]; exact HB.out.size⟩
            have hb_ : Below wj.heap.size wj wk := by rw [hW]; exact below_alloc (Below.refl _ _) _
            replace HX := mb HX hb_
            replace HB := mS HB hb_
            have HRb7 : Aside0 (wk.heap[b7]? = some (.cells #[.int .u8 r.kd,.int .u8 (r.id.size : Int),.int .u8 (r.v.size : Int)] 5 (0,0))) := ⟨by rw [hW,hh]; exact blk_new _ _⟩
            clear hW hh hb_
            refine hK.out _ _ ⟨(cL HX 0 rfl),(cL HX 1 rfl),(cL HX 2 rfl),(cL HX 3 rfl),(cL HX 4 rfl),(cL HX 5 rfl),(cL HX 6 rfl)⟩ (fun hHeld => ?_)
            clear hK K
            refine no_ 27 ?_
            exact nx_ (hJ2_6_19 b7 _ ⟨HX.out,HRb7.out,HGb7.out,HB.out⟩)
           ·skip
            refine gc_ Tryz.func222 #[.int .u64 r.ver,.int .i64 8] ?_
            with_reducible refine (put8_calls r.ver _ HO.out.ver).mono ?_
            rintro e_ wk ⟨rfl,hb⟩
            refine ⟨_,rfl,?_⟩
            replace HX := mb HX hb
            replace HB := mS HB hb
            clear hb
            refine hK.out _ _ ⟨(cL HX 0 rfl),(cL HX 1 rfl),(cL HX 2 rfl),(cL HX 3 rfl),(cL HX 4 rfl),(cL HX 5 rfl),(cL HX 6 rfl)⟩ (fun hHeld => ?_)
            clear hK K
            refine no_ 32 ?_
            exact nx_ (hJ2_6_24 () _ ⟨HX.out,HB.out⟩)
         ·skip
          rintro b7 wj ⟨h_0,h_1,h_2,h_3⟩
          try dsimp only at h_0 h_1 h_2 h_3
          clear HX HB
          have HX := Aside0.mk h_0
          have HRb7 := Aside0.mk h_1
          have HGb7 := Aside0.mk h_2
          have HB := Aside0.mk h_3
          clear h_0 h_1 h_2 h_3
          refine hd_ ⟨(cL HX 0 rfl),(cL HX 1 rfl),(cL HX 2 rfl),(cL HX 3 rfl),(cL HX 4 rfl),(cL HX 5 rfl),(cL HX 6 rfl)⟩ fun hHeld => ?_
          refine na_ ?_
          refine on_ 6 HT_ fun K hK => ?_
          refine gc_ Tryz.func222 #[.int .u64 r.ep,.int .i64 4] ?_
          with_reducible refine (put4_calls r.ep _ HO.out.ep).mono ?_
          rintro e_ wk ⟨rfl,hb⟩
          refine ⟨_,rfl,?_⟩
          replace HX := mb HX hb
          replace HRb7 := mb HRb7 hb
          replace HB := mS HB hb
          clear hb
          refine hK.out _ _ ⟨(cL HX 0 rfl),(cL HX 1 rfl),(cL HX 2 rfl),(cL HX 3 rfl),(cL HX 4 rfl),(cL HX 5 rfl),(cL HX 6 rfl)⟩ (fun hHeld => ?_)
          clear hK K
          refine no_ 14 ?_
          refine pa_ 7 15 HT_ ?_
          refine pa_ 21 29 HT_ ?_
          exact nx_ (hJ2_6_19_20 b7 _ ⟨HX.out,HRb7.out,HGb7.out,HB.out⟩)
        ·skip
         rintro ⟨⟩ wj ⟨h_0,h_1⟩
         try dsimp only at h_0 h_1
         clear HX HB
         have HX := Aside0.mk h_0
         have HB := Aside0.mk h_1
         clear h_0 h_1
         refine hd_ ⟨(cL HX 0 rfl),(cL HX 1 rfl),(cL HX 2 rfl),(cL HX 3 rfl),(cL HX 4 rfl),(cL HX 5 rfl),(cL HX 6 rfl)⟩ fun hHeld => ?_
         refine na_ ?_
         refine tw_ 19 28 HT_ (fun K hK => ?_) fun K hK => ?_
         ·skip
          refine va_ ?_
          obtain ⟨wk,hW⟩ : ∃ W_,W_ = wj.alloc (.cells #[.int .u8 r.kd,.int .u8 (r.id.size : Int),.int .u8 (r.v.size : Int)] 5) := ⟨_,rfl⟩
          obtain ⟨b7,hh⟩ : ∃ g_,g_ = wj.heap.size := ⟨_,rfl⟩
          rw [← hW,← hh]
          have HGb7 : Aside0 (w.heap.size ≤ b7) := ⟨by rw [hh]; exact HB.out.size⟩
          have hb_ : Below wj.heap.size wj wk := by rw [hW]; exact below_alloc (Below.refl _ _) _
          replace HX := mb HX hb_
          replace HB := mS HB hb_
          have HRb7 : Aside0 (wk.heap[b7]? = some (.cells #[.int .u8 r.kd,.int .u8 (r.id.size : Int),.int .u8 (r.v.size : Int)] 5 (0,0))) := ⟨by rw [hW,hh]; exact blk_new _ _⟩
          clear hW hh hb_
          refine hK.out _ _ ⟨(cL HX 0 rfl),(cL HX 1 rfl),(cL HX 2 rfl),(cL HX 3 rfl),(cL HX 4 rfl),(cL HX 5 rfl),(cL HX 6 rfl)⟩ (fun hHeld => ?_)
          clear hK K
          refine no_ 27 ?_
          exact nx_ (hJ2_6_19_24 b7 _ ⟨HX.out,HRb7.out,HGb7.out,HB.out⟩)
         ·skip
          refine gc_ Tryz.func222 #[.int .u64 r.dl,.int .i64 8] ?_
          with_reducible refine (put8_calls r.dl _ HO.out.dl).mono ?_
          rintro e_ wk ⟨rfl,hb⟩
          refine ⟨_,rfl,?_⟩
          replace HX := mb HX hb
          replace HB := mS HB hb
          clear hb
          refine hK.out _ _ ⟨(cL HX 0 rfl),(cL HX 1 rfl),(cL HX 2 rfl),(cL HX 3 rfl),(cL HX 4 rfl),(cL HX 5 rfl),(cL HX 6 rfl)⟩ (fun hHeld => ?_)
          clear hK K
          refine no_ 36 ?_
          exact nx_ (hJ2_6_24_28 () _ ⟨HX.out,HB.out⟩)
       ·skip
        rintro b7 wj ⟨h_0,h_1,h_2,h_3⟩
        try dsimp only at h_0 h_1 h_2 h_3
        clear HX HB
        have HX := Aside0.mk h_0
        have HRb7 := Aside0.mk h_1
        have HGb7 := Aside0.mk h_2
        have HB := Aside0.mk h_3
        clear h_0 h_1 h_2 h_3
        refine hd_ ⟨(cL HX 0 rfl),(cL HX 1 rfl),(cL HX 2 rfl),(cL HX 3 rfl),(cL HX 4 rfl),(cL HX 5 rfl),(cL HX 6 rfl)⟩ fun hHeld => ?_
        refine na_ ?_
        refine tw_ 20 24 HT_ (fun K hK => ?_) fun K hK => ?_
        ·skip
         have hcv := run_convert_bytes_arg (P := Tryz.prog) wj 320 5 (by kernel_rfl) (by kernel_rfl) b7 0 3 3 [r.kd,(r.id.size : Int),(r.v.size : Int)] rfl (fun i hi => by rcases i with _ | _ | _ | i <;> first | (exact (blk_cell HRb7.out _).trans rfl) | (exfalso; omega)) 9 (by kernel_rfl)
         refine va_ ?_
         clear hcv
         refine hK.out _ _ ⟨(cL HX 0 rfl),(cL HX 1 rfl),(cL HX 2 rfl),(cL HX 3 rfl),(cL HX 4 rfl),(cL HX 5 rfl),(cL HX 6 rfl)⟩ (fun hHeld => ?_)
         clear hK K
         refine no_ 28 ?_
         refine pa_ 21 29 HT_ ?_
         exact nx_ (hJ2_6_19_20 b7 _ ⟨HX.out,HRb7.out,HGb7.out,HB.out⟩)
        ·skip
         refine gc_ Tryz.func222 #[.int .u64 r.ver,.int .i64 8] ?_
         with_reducible refine (put8_calls r.ver _ HO.out.ver).mono ?_
         rintro e_ wk ⟨rfl,hb⟩
         refine ⟨_,rfl,?_⟩
         replace HX := mb HX hb
         replace HRb7 := mb HRb7 hb
         replace HB := mS HB hb
         clear hb
         refine hK.out _ _ ⟨(cL HX 0 rfl),(cL HX 1 rfl),(cL HX 2 rfl),(cL HX 3 rfl),(cL HX 4 rfl),(cL HX 5 rfl),(cL HX 6 rfl)⟩ (fun hHeld => ?_)
         clear hK K
         refine no_ 32 ?_
         exact nx_ (hJ2_6_19_24 b7 _ ⟨HX.out,HRb7.out,HGb7.out,HB.out⟩)
      ·skip
       rintro ⟨⟩ wj ⟨h_0,h_1⟩
       try dsimp only at h_0 h_1
       clear HX HB
       have HX := Aside0.mk h_0
       have HB := Aside0.mk h_1
       clear h_0 h_1
       refine hd_ ⟨(cL HX 0 rfl),(cL HX 1 rfl),(cL HX 2 rfl),(cL HX 3 rfl),(cL HX 4 rfl),(cL HX 5 rfl),(cL HX 6 rfl)⟩ fun hHeld => ?_
       refine na_ ?_
       refine on_ 19 HT_ fun K hK => ?_
       refine va_ ?_
       obtain ⟨wk,hW⟩ : ∃ W_,W_ = wj.alloc (.cells #[.int .u8 r.kd,.int .u8 (r.id.size : Int),.int .u8 (r.v.size : Int)] 5) := ⟨_,rfl⟩
       obtain ⟨b7,hh⟩ : ∃ g_,g_ = wj.heap.size := ⟨_,rfl⟩
       rw [← hW,← hh]
       have HGb7 : Aside0 (w.heap.size ≤ b7) := ⟨by rw [hh]; exact HB.out.size⟩
       have hb_ : Below wj.heap.size wj wk := by rw [hW]; exact below_alloc (Below.refl _ _) _
       replace HX := mb HX hb_
       replace HB := mS HB hb_
       have HRb7 : Aside0 (wk.heap[b7]? = some (.cells #[.int .u8 r.kd,.int .u8 (r.id.size : Int),.int .u8 (r.v.size : Int)] 5 (0,0))) := ⟨by rw [hW,hh]; exact blk_new _ _⟩
       clear hW hh hb_
       refine hK.out _ _ ⟨(cL HX 0 rfl),(cL HX 1 rfl),(cL HX 2 rfl),(cL HX 3 rfl),(cL HX 4 rfl),(cL HX 5 rfl),(cL HX 6 rfl)⟩ (fun hHeld => ?_)
       clear hK K
       refine no_ 27 ?_
       exact nx_ (hJ2_6_19_24_28 b7 _ ⟨HX.out,HRb7.out,HGb7.out,HB.out⟩)
     ·skip
      rintro b7 wj ⟨h_0,h_1,h_2,h_3⟩
      try dsimp only at h_0 h_1 h_2 h_3
      clear HX HB
      have HX := Aside0.mk h_0
      have HRb7 := Aside0.mk h_1
      have HGb7 := Aside0.mk h_2
      have HB := Aside0.mk h_3
      clear h_0 h_1 h_2 h_3
      refine hd_ ⟨(cL HX 0 rfl),(cL HX 1 rfl),(cL HX 2 rfl),(cL HX 3 rfl),(cL HX 4 rfl),(cL HX 5 rfl),(cL HX 6 rfl)⟩ fun hHeld => ?_
      refine na_ ?_
      refine tw_ 20 28 HT_ (fun K hK => ?_) fun K hK => ?_
      ·skip
       have hcv := run_convert_bytes_arg (P := Tryz.prog) wj 320 5 (by kernel_rfl) (by kernel_rfl) b7 0 3 3 [r.kd,(r.id.size : Int),(r.v.size : Int)] rfl (fun i hi => by rcases i with _ | _ | _ | i <;> first | (exact (blk_cell HRb7.out _).trans rfl) | (exfalso; omega)) 9 (by kernel_rfl)
       refine va_ ?_
       clear hcv
       refine hK.out _ _ ⟨(cL HX 0 rfl),(cL HX 1 rfl),(cL HX 2 rfl),(cL HX 3 rfl),(cL HX 4 rfl),(cL HX 5 rfl),(cL HX 6 rfl)⟩ (fun hHeld => ?_)
       clear hK K
       refine no_ 28 ?_
       refine pa_ 21 29 HT_ ?_
       refine pa_ 25 33 HT_ ?_
       exact nx_ (hJ2_6_19_20_24 b7 _ ⟨HX.out,HRb7.out,HGb7.out,HB.out⟩)
      ·skip
       refine gc_ Tryz.func222 #[.int .u64 r.dl,.int .i64 8] ?_
       with_reducible refine (put8_calls r.dl _ HO.out.dl).mono ?_
       rintro e_ wk ⟨rfl,hb⟩
       refine ⟨_,rfl,?_⟩
       replace HX := mb HX hb
       replace HRb7 := mb HRb7 hb
       replace HB := mS HB hb
       clear hb
       refine hK.out _ _ ⟨(cL HX 0 rfl),(cL HX 1 rfl),(cL HX 2 rfl),(cL HX 3 rfl),(cL HX 4 rfl),(cL HX 5 rfl),(cL HX 6 rfl)⟩ (fun hHeld => ?_)
       clear hK K
       refine no_ 36 ?_
       exact nx_ (hJ2_6_19_24_28 b7 _ ⟨HX.out,HRb7.out,HGb7.out,HB.out⟩)
    ·skip
     rintro b7 wj ⟨h_0,h_1,h_2,h_3⟩
     try dsimp only at h_0 h_1 h_2 h_3
     clear HX HB
     have HX := Aside0.mk h_0
     have HRb7 := Aside0.mk h_1
     have HGb7 := Aside0.mk h_2
     have HB := Aside0.mk h_3
     clear h_0 h_1 h_2 h_3
     refine hd_ ⟨(cL HX 0 rfl),(cL HX 1 rfl),(cL HX 2 rfl),(cL HX 3 rfl),(cL HX 4 rfl),(cL HX 5 rfl),(cL HX 6 rfl)⟩ fun hHeld => ?_
     refine na_ ?_
     refine on_ 24 HT_ fun K hK => ?_
     refine gc_ Tryz.func222 #[.int .u64 r.ver,.int .i64 8] ?_
     with_reducible refine (put8_calls r.ver _ HO.out.ver).mono ?_
     rintro e_ wk ⟨rfl,hb⟩
     refine ⟨_,rfl,?_⟩
     replace HX := mb HX hb
     replace HRb7 := mb HRb7 hb
     replace HB := mS HB hb
     clear hb
     refine hK.out _ _ ⟨(cL HX 0 rfl),(cL HX 1 rfl),(cL HX 2 rfl),(cL HX 3 rfl),(cL HX 4 rfl),(cL HX 5 rfl),(cL HX 6 rfl)⟩ (fun hHeld => ?_)
     clear hK K
     refine no_ 32 ?_
     refine pa_ 25 33 HT_ ?_
     exact nx_ (hJ2_6_19_20_24 b7 _ ⟨HX.out,HRb7.out,HGb7.out,HB.out⟩)
   ·skip
    rintro b7 wj ⟨h_0,h_1,h_2,h_3⟩
    try dsimp only at h_0 h_1 h_2 h_3
    clear HX HB
    have HX := Aside0.mk h_0
    have HRb7 := Aside0.mk h_1
    have HGb7 := Aside0.mk h_2
    have HB := Aside0.mk h_3
    clear h_0 h_1 h_2 h_3
    refine hd_ ⟨(cL HX 0 rfl),(cL HX 1 rfl),(cL HX 2 rfl),(cL HX 3 rfl),(cL HX 4 rfl),(cL HX 5 rfl),(cL HX 6 rfl)⟩ fun hHeld => ?_
    refine na_ ?_
    refine on_ 20 HT_ fun K hK => ?_
    have hcv := run_convert_bytes_arg (P := Tryz.prog) wj 320 5 (by kernel_rfl) (by kernel_rfl) b7 0 3 3 [r.kd,(r.id.size : Int),(r.v.size : Int)] rfl (fun i hi => by rcases i with _ | _ | _ | i <;> first | (exact (blk_cell HRb7.out _).trans rfl) | (exfalso; omega)) 9 (by kernel_rfl)
    refine va_ ?_
    clear hcv
    refine hK.out _ _ ⟨(cL HX 0 rfl),(cL HX 1 rfl),(cL HX 2 rfl),(cL HX 3 rfl),(cL HX 4 rfl),(cL HX 5 rfl),(cL HX 6 rfl)⟩ (fun hHeld => ?_)
    clear hK K
    refine no_ 28 ?_
    refine pa_ 21 29 HT_ ?_
    refine pa_ 25 33 HT_ ?_
    exact nx_ (hJ2_6_19_20_24_28 b7 _ ⟨HX.out,HRb7.out,HGb7.out,HB.out⟩)
  ·skip
   rintro b7 wj ⟨h_0,h_1,h_2,h_3⟩
   try dsimp only at h_0 h_1 h_2 h_3
   clear HX HB
   have HX := Aside0.mk h_0
   have HRb7 := Aside0.mk h_1
   have HGb7 := Aside0.mk h_2
   have HB := Aside0.mk h_3
   clear h_0 h_1 h_2 h_3
   refine hd_ ⟨(cL HX 0 rfl),(cL HX 1 rfl),(cL HX 2 rfl),(cL HX 3 rfl),(cL HX 4 rfl),(cL HX 5 rfl),(cL HX 6 rfl)⟩ fun hHeld => ?_
   refine na_ ?_
   refine on_ 28 HT_ fun K hK => ?_
   refine gc_ Tryz.func222 #[.int .u64 r.dl,.int .i64 8] ?_
   with_reducible refine (put8_calls r.dl _ HO.out.dl).mono ?_
   rintro e_ wk ⟨rfl,hb⟩
   refine ⟨_,rfl,?_⟩
   replace HX := mb HX hb
   replace HRb7 := mb HRb7 hb
   replace HB := mS HB hb
   clear hb
   refine hK.out _ _ ⟨(cL HX 0 rfl),(cL HX 1 rfl),(cL HX 2 rfl),(cL HX 3 rfl),(cL HX 4 rfl),(cL HX 5 rfl),(cL HX 6 rfl)⟩ (fun hHeld => ?_)
   clear hK K
   refine no_ 36 ?_
   exact nx_ (hJ2_6_19_20_24_28 b7 _ ⟨HX.out,HRb7.out,HGb7.out,HB.out⟩)
 rintro b7 wj ⟨h_0,h_1,h_2,h_3⟩
 try dsimp only at h_0 h_1 h_2 h_3
 clear HX HB
 have HX := Aside0.mk h_0
 have HRb7 := Aside0.mk h_1
 have HGb7 := Aside0.mk h_2
 have HB := Aside0.mk h_3
 clear h_0 h_1 h_2 h_3
 refine hd_ ⟨(cL HX 0 rfl),(cL HX 1 rfl),(cL HX 2 rfl),(cL HX 3 rfl),(cL HX 4 rfl),(cL HX 5 rfl),(cL HX 6 rfl)⟩ fun hHeld => ?_
 refine na_ ?_
 refine pa_ 29 37 HT_ ?_
 refine pa_ 32 40 HT_ ?_
 refine pa_ 35 43 HT_ ?_
 refine pa_ 36 4 HT_ ?_
 refine dn_ HT_ ?_
 clear HT_ HW_ hHeld
 have HH : Aside0 (r.head.size = 31 + r.id.size + r.v.size) := ⟨r.head_size⟩
 rw [show strOfNums (le r.lsn 8) ++ strOfNums (le r.ep 4) ++ strOfNums [r.kd,(r.id.size : Int),(r.v.size : Int)] ++ strOfNums (le r.ver 8) ++ strOfNums (le r.dl 8) ++ r.id ++ r.v = r.head from rfl]
 clear q1 q2 q3 q4 q5 q6 e1 e2 e3
 have hz1 : (r.head.size : Int) ≤ 112 := by have := HO.out.len; have := HH.out; omega
 have hz2 : 0 ≤ (r.head.size : Int) := by omega
 go_wp2_with fail
 rw [show (112 : Int) - (r.head.size : Int) = ((112 - r.head.size : Nat) : Int) from by omega]
 refine (Tryz.strings_Repeat { data := #[0] } (112 - r.head.size) _ (by omega) (by show 1 * (112 - r.head.size) ≤ 140737488355328; omega)).mono ?_
 rintro e_ w3 ⟨rfl,hb⟩
 rw [show (⟨(Lib.repeatL ({ data := #[0] } : ByteArray).data.toList (112 - r.head.size)).toArray⟩ : ByteArray) = zer (112 - r.head.size) from zer_rep _]
 replace HX := mB HX hb
 replace HB := mS HB hb
 clear hb
 have q1 : (9223372036854775807 < r.head.size + (zer (112 - r.head.size)).size) = False := eq_false (by rw [zer_size]; omega)
 go_upto_region 5 with fail
 rw [show r.head ++ zer (112 - r.head.size) = r.body from rfl]
 clear q1
 have hbs : Aside0 (r.body.size = 112) := ⟨r.body_size HO.out.len⟩
 have hcs : Aside0 (0 ≤ crcSum r.body ∧ crcSum r.body < 4294967296) := ⟨notU_lt _⟩
 have e5 : IntKind.u64.wrap (crcSum r.body) = crcSum r.body := by have := hcs.out; rw [IntKind.wrap_u64]; omega
 have q1 : (9223372036854775807 < (r.body).size + (strOfNums (le (crcSum r.body) 4)).size) = False := eq_false (by rw [hbs.out]; simp only [strOfNums_size,le,List.length_map,List.length_range]; omega)
 have q2 : (9223372036854775807 < (r.body).size + (strOfNums (le (crcSum r.body) 4)).size + (strOfNums (le r.lsn 8)).size) = False := eq_false (by rw [hbs.out]; simp only [strOfNums_size,le,List.length_map,List.length_range]; omega)
 have q3 : (9223372036854775807 < (r.body).size + (strOfNums (le (crcSum r.body) 4)).size + (strOfNums (le r.lsn 8)).size + (strOfNums (le r.ep 4)).size) = False := eq_false (by rw [hbs.out]; simp only [strOfNums_size,le,List.length_map,List.length_range]; omega)
 refine st_ 17 (fun w' => w'.cell? ⟨g,0,none⟩ = some (.int .u64 r.lsn) ∧ w'.cell? ⟨g,1,none⟩ = some (.int .u32 r.ep) ∧ w'.cell? ⟨g,2,none⟩ = some (.int .i64 r.kd) ∧ w'.cell? ⟨g,3,none⟩ = some (.int .u64 r.ver) ∧ w'.cell? ⟨g,4,none⟩ = some (.int .u64 r.dl) ∧ w'.cell? ⟨g,5,none⟩ = some (.string r.id) ∧ w'.cell? ⟨g,6,none⟩ = some (.string r.v)) [] ⟨(cD HX 0 rfl),(cD HX 1 rfl),(cD HX 2 rfl),(cD HX 3 rfl),(cD HX 4 rfl),(cD HX 5 rfl),(cD HX 6 rfl)⟩ fun hHeld => ?_
 refine with_tabW enc.tab5 enc.bits5 (fun HT_ HW_ => ?_)
 replace HX := mD HX
 replace HB := bD HB
 generalize w3.drew = wd2 at *
 refine pa_ 0 50 HT_ ?_
 refine pa_ 1 51 HT_ ?_
 refine pa_ 6 56 HT_ ?_
 refine pa_ 10 60 HT_ ?_
 refine ta_ 7 57 HT_ HW_ hHeld ?_
 refine ta_ 11 61 HT_ HW_ hHeld ?_
 refine pa_ 12 62 HT_ ?_
 refine on_ 2 HT_ fun K hK => ?_
 refine gc_ Tryz.func223 #[.string r.body] ?_
 with_reducible refine (sum_calls r.body _ (by rw [hbs.out]; decide)).mono ?_
 rintro e_ w4 ⟨rfl,hb⟩
 refine ⟨_,rfl,?_⟩
 replace HX := mb HX hb
 replace HB := mS HB hb
 clear hb
 refine hK.out _ _ ⟨(cL HX 0 rfl),(cL HX 1 rfl),(cL HX 2 rfl),(cL HX 3 rfl),(cL HX 4 rfl),(cL HX 5 rfl),(cL HX 6 rfl)⟩ (fun hHeld => ?_)
 clear hK K
 refine no_ 52 ?_
 refine pa_ 3 53 HT_ ?_
 refine on_ 4 HT_ fun K hK => ?_
 refine gc_ Tryz.func222 #[.int .u64 (crcSum r.body),.int .i64 4] ?_
 with_reducible refine (put4_calls (crcSum r.body) _ hcs.out).mono ?_
 rintro e_ w5 ⟨rfl,hb⟩
 refine ⟨_,rfl,?_⟩
 replace HX := mb HX hb
 replace HB := mS HB hb
 clear hb
 refine hK.out _ _ ⟨(cL HX 0 rfl),(cL HX 1 rfl),(cL HX 2 rfl),(cL HX 3 rfl),(cL HX 4 rfl),(cL HX 5 rfl),(cL HX 6 rfl)⟩ (fun hHeld => ?_)
 clear hK K
 refine no_ 54 ?_
 refine pa_ 5 55 HT_ ?_
 refine on_ 8 HT_ fun K hK => ?_
 refine gc_ Tryz.func222 #[.int .u64 r.lsn,.int .i64 8] ?_
 with_reducible refine (put8_calls r.lsn _ HO.out.lsn).mono ?_
 rintro e_ w6 ⟨rfl,hb⟩
 refine ⟨_,rfl,?_⟩
 replace HX := mb HX hb
 replace HB := mS HB hb
 clear hb
 refine hK.out _ _ ⟨(cL HX 0 rfl),(cL HX 1 rfl),(cL HX 2 rfl),(cL HX 3 rfl),(cL HX 4 rfl),(cL HX 5 rfl),(cL HX 6 rfl)⟩ (fun hHeld => ?_)
 clear hK K
 refine no_ 58 ?_
 refine pa_ 9 59 HT_ ?_
 refine on_ 13 HT_ fun K hK => ?_
 refine gc_ Tryz.func222 #[.int .u64 r.ep,.int .i64 4] ?_
 with_reducible refine (put4_calls r.ep _ HO.out.ep).mono ?_
 rintro e_ w7 ⟨rfl,hb⟩
 refine ⟨_,rfl,?_⟩
 replace HX := mb HX hb
 replace HB := mS HB hb
 clear hb
 refine hK.out _ _ ⟨(cL HX 0 rfl),(cL HX 1 rfl),(cL HX 2 rfl),(cL HX 3 rfl),(cL HX 4 rfl),(cL HX 5 rfl),(cL HX 6 rfl)⟩ (fun hHeld => ?_)
 clear hK K
 refine no_ 63 ?_
 refine pa_ 14 64 HT_ ?_
 refine pa_ 15 2 HT_ ?_
 refine pa_ 16 3 HT_ ?_
 refine dn_ HT_ ?_
 clear HT_ HW_ hHeld
 go_wp2_with fail
 exact ret2 rfl rfl ⟨.inl ⟨rfl,HPP.out⟩,HB.out⟩
end Go.Proofs.YtokfjbbjkiilmaaGreatDoor.H
namespace Go.Proofs.YtokfjbbjkiilmaaGreatDoor.H
open Go.RowKit Go.Proofs.YtokfjbbjkiilmaaGreatDoorW.PrintWords Go.Proofs.YtokfjbbjkiilmaaGreatDoorW.PrintLast Go.Proofs.YtokfjbbjkiilmaaGreatDoorW.PrintMore
set_option maxHeartbeats 8000000
set_option maxRecDepth 100000
attribute [local go_sem] max2_int min2_int min_two max_two
theorem tk_all {s : ByteArray} {n : Nat} (h : s.size ≤ n) : tk s n = s := ba_ext (by rw [tk_list,List.take_of_length_le (by rw [ba_len]; exact h)])
theorem dr_all {s : ByteArray} {n : Nat} (h : s.size ≤ n) : dr s n = ByteArray.empty := ba_ext (by rw [dr_list,List.drop_eq_nil_of_le (by rw [ba_len]; exact h)]; rfl)
theorem tk_le {s : ByteArray} {n : Nat} (h : n ≤ s.size) : tk s n = s.extract 0 n := by rw [tk,Nat.min_eq_left h]
theorem dr_le {s : ByteArray} {n : Nat} (h : n ≤ s.size) : dr s n = s.extract n s.size := by rw [dr,Nat.min_eq_left h]
theorem dr_size (s : ByteArray) (n : Nat) : (dr s n).size ≤ s.size := by rw [← ba_len,← ba_len,dr_list]; simp
theorem take_calls (s : ByteArray) (n gr : Nat) (w : World) (hr : w.heap[gr]? = some (.cells #[.string s] 9 (0,0))) (hn : n ≤ 1000) (hs : s.size ≤ 1000) :
 Calls Tryz.prog 204 #[.int .i64 (n : Int),.pointer (some ⟨gr,0,none⟩)] w fun e w' => e = .returned (.string (tk s n)) ∧ w' = w.setRow gr #[.string (dr s n)] := by
 have HX := Aside0.mk hr
 have y0 : w.cell? ⟨gr,0,none⟩ = some (.string s) := cL HX 0 rfl
 have f0 := blk_frozen HX.out 0
 clear hr
 go_enter Tryz.func204,Tryz.ntmps204
 go_wp2_with fail
 ·go_ret
  rw [setCell_eq_setRow w gr 0 _ _ _ _ HX.out,tk_all (by omega),dr_all (by omega)]
  exact ⟨rfl,rfl⟩
 ·go_ret
  rw [setCell_eq_setRow w gr 0 _ _ _ _ HX.out,tk_le (by omega),dr_le (by omega)]
  exact ⟨rfl,rfl⟩
theorem number_calls (s : ByteArray) (n gr gt : Nat) (w : World) (hr : w.heap[gr]? = some (.cells #[.string s] 9 (0,0))) (ht : w.heap[gt]? = some (.cells #[.func (.func 204) #[] #[.pointer (some ⟨gr,0,none⟩)]] 307 (0,0))) (hn : n ≤ 1000) (hs : s.size ≤ 1000) :
 Calls Tryz.prog 205 #[.int .i64 (n : Int),.pointer (some ⟨gt,0,none⟩)] w fun e w' => e = .returned (.int .u64 (acc (tk s n) 8)) ∧ w'.heap[gr]? = some (.cells #[.string (dr s n)] 9 (0,0)) ∧ Keep [gr] w w' := by
 have HX := Aside0.mk hr
 have HT := Aside0.mk ht
 have HN := Aside0.mk hn
 have HS := Aside0.mk hs
 have y0 : w.cell? ⟨gt,0,none⟩ = some (.func (.func 204) #[] #[.pointer (some ⟨gr,0,none⟩)]) := cL HT 0 rfl
 clear hr ht hn hs
 go_enter Tryz.func205,Tryz.ntmps205
 go_wp2_with fail
 refine (take_calls s n gr _ HX.out HN.out HS.out).mono ?_
 rintro e_ w2 ⟨rfl,hw2⟩
 have H2 : Aside0 (w2.heap[gr]? = some (.cells #[.string (dr s n)] 9 (0,0))) := ⟨by rw [hw2]; exact setRow_heap _ _ _ _ _ _ HX.out⟩
 have HK : Aside0 (Keep [gr] w w2) := ⟨by rw [hw2]; exact (Keep.refl _ _).setRow _ (.inl (List.mem_singleton.2 rfl))⟩
 clear hw2 y0
 go_wp2_with fail
 refine (get_calls (tk s n) _).mono ?_
 rintro e_ w3 ⟨rfl,hb⟩
 have H3 := mB H2 hb
 have HK3 : Aside0 (Keep [gr] w w3) := ⟨HK.out.behind (Keep.below (L := []) hb) (fun q hq => by cases hq)⟩
 clear hb
 go_wp2_with fail
 go_ret
 exact ⟨rfl,H3.out,HK3.out⟩
end Go.Proofs.YtokfjbbjkiilmaaGreatDoor.H
