/-
TopTorn: part of its walk (Lg7, Mo, Fr, Ro, Sm).
-/
import Derived.Test.YtokfjbbjkiilmaaGreatDoorTK
import Derived.Test.YtokfjbbjkiilmaaGreatDoorWWords
import Derived.Test.YtokfjbbjkiilmaaGreatDoorWLast
set_option linter.unusedVariables false
set_option linter.unusedSimpArgs false
namespace Go.Proofs.YtokfjbbjkiilmaaGreatDoor.H
open Go.RowKit Go.Proofs.YtokfjbbjkiilmaaGreatDoorW.PrintWords Go.Proofs.YtokfjbbjkiilmaaGreatDoorW.PrintLast Go.Proofs.YtokfjbbjkiilmaaGreatDoorW.PrintMore
set_option maxHeartbeats 8000000
set_option maxRecDepth 100000
attribute [local go_sem] max2_int min2_int min_two max_two
def lread.T1 : Bool × List (List Nat × List Nat) := (true,[([],[]),([0],[0]),([1],[1]),([2],[2]),([3],[3]),([],[]),([5],[5]),([4,6],[4,6]),([7],[7]),([8,7],[8]),([9],[9]),([10,9],[9,10]),([11,9],[9,11]),([9,12],[9,12]),([13,9],[13]),([14],[14]),([15,14],[14,15]),([14],[14]),([17,14],[14,17]),([18,14],[14,18]),([19,14],[14,19]),([14],[14]),([21,14],[14,21]),([20,22,14,14],[14,20,22]),([16,23,14],[14,16,23]),([14,24],[14,24])])
def lread.B1 : List Nat := [0,1,3,7,15,0,32,127,255,511,1023,2047,4095,8191,16383,32767,65535,32767,163839,425983,950271,32767,2129919,8290303,16777215,33554431]
theorem lread.tab1 : rtab .any (opsOf Tryz.f118 1) = lread.T1 := by kernel_rfl
theorem lread.bits1 : waitsOk lread.T1.2 lread.B1 = true := by kernel_rfl
def lread.T3 : Bool × List (List Nat × List Nat) := (true,[([],[]),([0],[0]),([1],[1]),([2],[2]),([],[]),([4],[4]),([5],[5]),([6],[6]),([7],[7]),([],[]),([8,9],[8,9]),([3,10,10],[3,10]),([11],[11]),([12],[12]),([12],[12]),([13,11,0,1,2,3,4,5,6,7,8,9,10,11,12,13],[13]),([14,15,0,1,2,3,4,5,6,7,8,9,10,11,12,13,14,15],[14])])
def lread.B3 : List Nat := [0,1,3,7,0,16,48,112,240,0,1008,2047,4095,8191,8191,16383,65535]
theorem lread.tab3 : rtab .any (opsOf Tryz.f118 3) = lread.T3 := by kernel_rfl
theorem lread.bits3 : waitsOk lread.T3.2 lread.B3 = true := by kernel_rfl
theorem lread_calls (l d m oo ln ff : Nat) (left : Int) (es : Array MapEntry) (c q : Nat) (k x lsn ep gen j a e0 ver dl : Int) (v : ByteArray) (w : World) (h : Lst w l d m oo ln ff left (.slice none 0 0) es c k x lsn ep gen) (hlk : lok a e0 ver dl v) (hj : 0 ≤ j ∧ j < k ∧ j < 2) (hf : Instr.findNow (.int .i64) (.int .i64 (2 + j)) es.toList 0 = some (some (q,.agg #[.int .i64 (2 + j),.string (lrec a e0 ver dl v).enc]))) :
 Calls Tryz.prog 118 #[.pointer (some ⟨l,0,none⟩),.agg #[.int .i64 0,.int .i64 j]] w fun e w' => e = .returned (.tuple #[.agg #[.int .u64 a,.int .u32 e0,.int .i64 1,.int .u64 ver,.int .u64 dl,.string idA,.string v],.int .i64 0]) ∧ Below w.heap.size w w' := by
 have H := Aside0.mk h
 have HLK := Aside0.mk hlk
 have HJ := Aside0.mk hj
 have HF := Aside0.mk hf
 have t0 : decide (j < 0) = false := decide_eq_false (by omega)
 have t1 : decide (k ≤ j) = false := decide_eq_false (by omega)
 have t2 : (j < 0) = False := eq_false (by omega)
 have t3 : (k ≤ j) = False := eq_false (by omega)
 clear h hlk hj hf
 obtain ⟨s,hs⟩ : ∃ s,s = (lrec a e0 ver dl v).enc := ⟨_,rfl⟩
 have HS := Aside0.mk hs
 clear hs
 go_enter Tryz.func118,Tryz.ntmps118
 go_upto_region 1 with fail
 obtain ⟨W1,g3,g4,hW_,hg3,hg4,HX,H4,hb_⟩ := new2 w #[.int .i64 0,.int .i64 j] 177 #[.int .u64 0,.int .u32 0,.int .i64 0,.int .u64 0,.int .u64 0,.string { data := #[] },.string { data := #[] }] 188
 rw [← hW_,← hg4.out,← hg3.out]
 have HB := Aside0.mk hb_
 clear hW_ hb_
 have G4 : Aside0 (w.heap.size ≤ g4) := ⟨by have := hg4.out; omega⟩
 refine st_ 26 (fun w' => w'.cell? ⟨l,1,none⟩ = some (.int .i64 4) ∧ w'.cell? ⟨l,2,none⟩ = some (.int .i64 2) ∧ w'.cell? ⟨l,3,none⟩ = some (.slice (some ⟨oo,0,none⟩) 1 1) ∧ w'.cell? ⟨l,4,none⟩ = some (.slice (some ⟨ln,0,none⟩) 1 1) ∧ w'.cell? ⟨l,5,none⟩ = some (.slice (some ⟨ff,0,none⟩) 1 1) ∧ w'.cell? ⟨g3,0,none⟩ = some (.int .i64 0) ∧ w'.cell? ⟨g3,1,none⟩ = some (.int .i64 j)) [] ⟨((blk_cell (blk_below H.out.hl (below_drew HB.out)) 1).trans rfl),((blk_cell (blk_below H.out.hl (below_drew HB.out)) 2).trans rfl),((blk_cell (blk_below H.out.hl (below_drew HB.out)) 3).trans rfl),((blk_cell (blk_below H.out.hl (below_drew HB.out)) 4).trans rfl),((blk_cell (blk_below H.out.hl (below_drew HB.out)) 5).trans rfl),(cD HX 0 rfl),(cD HX 1 rfl)⟩ fun hHeld => ?_
 refine with_tabW lread.tab1 lread.bits1 (fun HT_ HW_ => ?_)
 replace HX := mD HX
 replace H4 := mD H4
 replace HB := bD HB
 generalize W1.drew = wd1 at *
 refine pa_ 0 8 HT_ ?_
 refine pa_ 1 9 HT_ ?_
 refine pa_ 2 10 HT_ ?_
 refine pa_ 3 11 HT_ ?_
 refine pa_ 5 13 HT_ ?_
 refine ta_ 4 12 HT_ HW_ hHeld ?_
 refine ta_ 6 14 HT_ HW_ hHeld ?_
 refine on_ 7 HT_ fun K hK => ?_
 refine gc_ Tryz.func163 #[.slice (some ⟨oo,0,none⟩) 1 1,.int .i64 0] ?_
 with_reducible refine (Tryz.slices_Contains_int oo 0 1 1 [0] 0 _ (by decide) (by decide) (fun j hj => by rcases j with _ | j; exact ((blk_cell (blk_below H.out.ho HB.out) 0).trans rfl); simp at hj)).mono ?_
 rintro e_ Wa ⟨rfl,rfl⟩
 rw [show (List.take 1 [(0 : Int)]).contains 0 = true from by rfl]
 refine ⟨_,rfl,?_⟩
 refine hK.out _ _ ⟨((blk_cell (blk_below H.out.hl HB.out) 1).trans rfl),((blk_cell (blk_below H.out.hl HB.out) 2).trans rfl),((blk_cell (blk_below H.out.hl HB.out) 3).trans rfl),((blk_cell (blk_below H.out.hl HB.out) 4).trans rfl),((blk_cell (blk_below H.out.hl HB.out) 5).trans rfl),(cL HX 0 rfl),(cL HX 1 rfl)⟩ (fun hHeld => ?_)
 clear hK K
 refine no_ 15 ?_
 refine pa_ 8 16 HT_ ?_
 refine pa_ 9 17 HT_ ?_
 refine pa_ 10 18 HT_ ?_
 refine ta_ 11 19 HT_ HW_ hHeld ?_
 refine pa_ 12 20 HT_ ?_
 refine pa_ 13 21 HT_ ?_
 refine pa_ 14 22 HT_ ?_
 refine pa_ 15 23 HT_ ?_
 refine pa_ 17 25 HT_ ?_
 refine pa_ 18 26 HT_ ?_
 refine pa_ 19 27 HT_ ?_
 refine pa_ 21 29 HT_ ?_
 refine ta_ 16 24 HT_ HW_ hHeld ?_
 refine ta_ 20 28 HT_ HW_ hHeld ?_
 refine ta_ 22 30 HT_ HW_ hHeld ?_
 refine on_ 23 HT_ fun K hK => ?_
 refine gc_ Tryz.func164 #[.agg #[.int .i64 4,.int .i64 2,.slice (some ⟨oo,0,none⟩) 1 1,.slice (some ⟨ln,0,none⟩) 1 1,.slice (some ⟨ff,0,none⟩) 1 1],.int .i64 0] ?_
 with_reducible refine (tlen_calls oo 1 ln 1 ff 1 k _ ((blk_cell (blk_below H.out.ho HB.out) 0).trans rfl) ((blk_cell (blk_below H.out.hn HB.out) 0).trans rfl)).mono ?_
 rintro e_ Wb ⟨rfl,hb⟩
 refine ⟨_,rfl,?_⟩
 replace HX := mb HX hb
 replace H4 := mb H4 hb
 replace HB := mS HB hb
 clear hb
 refine hK.out _ _ ⟨((blk_cell (blk_below H.out.hl HB.out) 1).trans rfl),((blk_cell (blk_below H.out.hl HB.out) 2).trans rfl),((blk_cell (blk_below H.out.hl HB.out) 3).trans rfl),((blk_cell (blk_below H.out.hl HB.out) 4).trans rfl),((blk_cell (blk_below H.out.hl HB.out) 5).trans rfl),(cL HX 0 rfl),(cL HX 1 rfl)⟩ (fun hHeld => ?_)
 clear hK K
 refine no_ 31 ?_
 refine pa_ 24 32 HT_ ?_
 refine pa_ 25 33 HT_ ?_
 refine dn_ HT_ ?_
 clear HT_ HW_ hHeld
 go_upto_region 3 with fail
 refine st_ 17 (fun w' => w'.cell? ⟨l,0,none⟩ = some (.pointer (some ⟨d,0,none⟩)) ∧ w'.cell? ⟨l,2,none⟩ = some (.int .i64 2) ∧ w'.cell? ⟨g3,0,none⟩ = some (.int .i64 0) ∧ w'.cell? ⟨g3,1,none⟩ = some (.int .i64 j)) [] ⟨((blk_cell (blk_below H.out.hl (below_drew HB.out)) 0).trans rfl),((blk_cell (blk_below H.out.hl (below_drew HB.out)) 2).trans rfl),(cD HX 0 rfl),(cD HX 1 rfl)⟩ fun hHeld => ?_
 refine with_tabW lread.tab3 lread.bits3 (fun HT_ HW_ => ?_)
 replace HX := mD HX
 replace H4 := mD H4
 replace HB := bD HB
 generalize Wb.drew = wd2 at *
 refine pa_ 0 36 HT_ ?_
 refine pa_ 1 37 HT_ ?_
 refine pa_ 2 38 HT_ ?_
 refine pa_ 4 40 HT_ ?_
 refine pa_ 5 41 HT_ ?_
 refine pa_ 6 42 HT_ ?_
 refine pa_ 7 43 HT_ ?_
 refine ta_ 3 39 HT_ HW_ hHeld ?_
 refine ta_ 8 44 HT_ HW_ hHeld ?_
 refine ta_ 9 45 HT_ HW_ hHeld ?_
 refine on_ 10 HT_ fun K hK => ?_
 refine gc_ Tryz.func166 #[.int .i64 2,.agg #[.int .i64 0,.int .i64 j]] ?_
 with_reducible refine (tsector_calls j _ (by have := HJ.out; omega)).mono ?_
 rintro e_ Wc ⟨rfl,hb⟩
 refine ⟨_,rfl,?_⟩
 replace HX := mb HX hb
 replace H4 := mb H4 hb
 replace HB := mS HB hb
 clear hb
 refine hK.out _ _ ⟨((blk_cell (blk_below H.out.hl HB.out) 0).trans rfl),((blk_cell (blk_below H.out.hl HB.out) 2).trans rfl),(cL HX 0 rfl),(cL HX 1 rfl)⟩ (fun hHeld => ?_)
 clear hK K
 refine no_ 46 ?_
 refine on_ 11 HT_ fun K hK => ?_
 refine gc_ Tryz.func165 #[.pointer (some ⟨d,0,none⟩),.int .i64 (2 + j)] ?_
 with_reducible refine (dread_calls d m left (2 + j) s _ (blk_below H.out.hd HB.out) (by have := HJ.out; omega) (fun W hW => dholds_calls d m left (.slice none 0 0) (2 + j) s es c q W (blk_below (blk_below H.out.hd HB.out) hW) (blk_below (blk_below H.out.hm HB.out) hW) (by rw [HS.out]; exact HF.out))).mono ?_
 rintro e_ Wd ⟨rfl,hb⟩
 refine ⟨_,rfl,?_⟩
 replace HX := mb HX hb
 replace H4 := mb H4 hb
 replace HB := mS HB hb
 clear hb
 refine hK.out _ _ ⟨((blk_cell (blk_below H.out.hl HB.out) 0).trans rfl),((blk_cell (blk_below H.out.hl HB.out) 2).trans rfl),(cL HX 0 rfl),(cL HX 1 rfl)⟩ (fun hHeld => ?_)
 clear hK K
 refine no_ 47 ?_
 refine pa_ 12 35 HT_ ?_
 refine pa_ 13 48 HT_ ?_
 refine pa_ 14 49 HT_ ?_
 refine pa_ 15 6 HT_ ?_
 refine pa_ 16 7 HT_ ?_
 refine dn_ HT_ ?_
 clear HT_ HW_ hHeld
 go_wp2_with fail
 rw [HS.out]
 refine (declive_calls a e0 ver dl v _ HLK.out).mono ?_
 rintro e_ We ⟨rfl,hb⟩
 replace HX := mb HX hb
 replace H4 := mb H4 hb
 replace HB := mS HB hb
 clear hb
 go_wp2_with (refine sr_ 4 52 #[.int .u64 a,.int .u32 e0,.int .i64 1,.int .u64 ver,.int .u64 dl,.string idA,.string v] H4.out ?_)
 refine bodyPost_ret (results_ct rfl _ _ g4 188 #[.int .u64 a,.int .u32 e0,.int .i64 1,.int .u64 ver,.int .u64 dl,.string idA,.string v] (0,0) _ rfl (setRow_heap _ _ _ _ _ _ H4.out) Tryz.underlying188 rfl (by kernel_rfl)) rfl ?_
 exact ⟨rfl,below_setRow HB.out G4.out _⟩
end Go.Proofs.YtokfjbbjkiilmaaGreatDoor.H
namespace Go.Proofs.YtokfjbbjkiilmaaGreatDoorW.PrintWords
open Go.RowKit
theorem gate_builtin {P : Program} {ops : Array Oper} {rest : List Oper} {o : Oper} {a : Act} {Q : Exit → Act → World → Prop} {W : World} {b : Builtin} {xs : Array Operand} {ts : Array TypeId} (_ : o.op = .call { callee := .builtin b,args := xs,argTypes := ts }) (h : wpList P ops Q (o :: rest) a W) : wpList P ops Q (o :: rest) a W := h
end Go.Proofs.YtokfjbbjkiilmaaGreatDoorW.PrintWords
namespace Go.Proofs.YtokfjbbjkiilmaaGreatDoor.H
open Go.RowKit Go.Shelf Go.Proofs.YtokfjbbjkiilmaaGreatDoorW.PrintWords Go.Proofs.YtokfjbbjkiilmaaGreatDoorW.PrintLast Go.Proofs.YtokfjbbjkiilmaaGreatDoorW.PrintMore Go.Proofs.YtokfjbbjkiilmaaGreatDoor.Rf
attribute [local go_sem] Oper.semAt_some
/-- The free ones of the first k segments. -/
def frk (k : Nat) (o : List Int) : List Int := ((List.range k).map (fun i : Nat => (i : Int))).filter (fun z => !decide (z ∈ o))
theorem frk_succ (k : Nat) (o : List Int) : frk (k + 1) o = if (k : Int) ∈ o then frk k o else frk k o ++ [(k : Int)] := by
 unfold frk
 rw [List.range_succ,List.map_append,List.filter_append]
 by_cases h : (k : Int) ∈ o
 ·rw [if_pos h]; simp [h]
 ·rw [if_neg h]; simp [h]
theorem frk_len (k : Nat) (o : List Int) : (frk k o).length ≤ k := by
 unfold frk
 refine Nat.le_trans (List.length_filter_le _ _) ?_
 simp
theorem frk_pre {k m : Nat} (o : List Int) (h : k ≤ m) : frk k o <+: frk m o := by
 obtain ⟨d,rfl⟩ : ∃ d,m = k + d := ⟨m - k,by omega⟩
 induction d with
 | zero => exact List.prefix_refl _
 | succ d ih =>
  have h2 := frk_succ (k + d) o
  rw [Nat.add_assoc] at h2
  rw [h2]
  split
  ·exact ih (by omega)
  ·exact (ih (by omega)).trans (List.prefix_append _ _)
theorem info3 : (Tryz.prog.info? 3).map (fun i => (i.zero,i.size,i.bytes)) = some (some (.int .i64 0),1,8) := by kernel_rfl
theorem contains_top (oo co : Nat) (o : List Int) (x : Int) (b : Bool) (w : World) (ho : o.length ≤ 20) (hC : ∀ j,j < o.length → w.cell? ⟨oo,j,none⟩ = some (.int .i64 (o.getD j 0))) (hb : o.contains x = b) :
 Calls Tryz.prog 163 #[.slice (some ⟨oo,0,none⟩) o.length co,.int .i64 x] w fun e w' => e = .returned (.bool b) ∧ Below w.heap.size w w' := by
 refine (Tryz.slices_Contains_int oo 0 o.length co o x w (Nat.le_refl _) (by omega) (fun j hj => by rw [Nat.zero_add]; exact hC j hj)).mono ?_
 rintro e w' ⟨rfl,rfl⟩
 rw [List.take_length,hb]
 exact ⟨rfl,Below.refl _ _⟩
theorem below_abides {β : Type} {J : β → World → Prop} {B : Nat} (hJ : AbidesFrom B J) {s : β} {W W' : World} (h : J s W) (hb : Below W.heap.size W W') : J s W' :=
 hJ s W W' none h (grown_of_below hb none) (fun r e => by cases e)
theorem call_F {F : Fence} {n : Nat} {P : Program} {f : FuncId} {args : Array Value} {w : World} {R : Ending → World → Prop} (hF : F = Fence.wide) (h : Calls P f args w R) : F.fn f ∧ (F.depth.isSome = true → 1 ≤ n) ∧ CallsIn F (n - 1) P f args w R := by
 subst hF
 exact ⟨trivial,fun h => (by cases h),callsIn_wide.2 h⟩
theorem gate_in {F : Fence} {n : Nat} {P : Program} {ops : Array Oper} {Q : Exit → Act → World → Prop} {a : Act} {w : World} {rest : List Oper} {o : Oper} {N : Tmp} (_ : o.dst = some N) (h : wpListIn F n P ops Q (o :: rest) a w) : wpListIn F n P ops Q (o :: rest) a w := h
theorem skip_F {F : Fence} {n : Nat} {P : Program} {ops : Array Oper} {Q : Exit → Act → World → Prop} {a : Act} {w : World} {rest : List Oper} {o : Oper} (hF : F = Fence.wide) (hw : Region.wanted o (yielded ops a.tmps) = false) (h : wpListIn F n P ops Q rest (a.put o.dst undef) w) : wpListIn F n P ops Q (o :: rest) a w := by
 subst hF
 simp only [wpListIn,hw]
 exact ⟨fun _ _ => trivial,h⟩
theorem depth_F {F : Fence} {n : Nat} (hF : F = Fence.wide) : F.depth.isSome = true → 1 ≤ n := by
 subst hF
 exact fun h => by cases h
set_option maxRecDepth 100000 in
set_option maxHeartbeats 2000000 in
theorem free1_in (F : Fence) (HF_ : Aside0 (F = Fence.wide)) (hro : F.round = none) (h194 : F.fn 194) (n : Nat) (l : Nat) (w0 : World) (Bt : Nat) (g s : Int) (oo : Nat) (co : Nat) (o : List Int) (v3 v4 : Value) (hbx : w0.heap[Bt]? = some (.cells #[.int .i64 g,.int .i64 s,.slice (some ⟨oo,0,none⟩) o.length co,v3,v4] 162 (0,0)))
 (hC : ∀ j,j < o.length → w0.cell? ⟨oo,j,none⟩ = some (.int .i64 (o.getD j 0))) (hc : o.length ≤ co) (hg0 : 0 ≤ g) (hg16 : g ≤ 16) (ho : o.length ≤ 20) (J Jx : List Int → World → Prop) (W : World) (hW : Below w0.heap.size w0 W) (hJ : AbidesFrom W.heap.size J)
 (hY : ∀ pre x W1,J pre W1 → pre.length < 17 → YieldAt F (n - 1) Tryz.prog l #[.int .i64 x] W1 fun e W' =>
  (e = .returned (.bool true) ∧ J (pre ++ [x]) W' ∧ Below w0.heap.size W1 W') ∨ (e = .returned (.bool false) ∧ Jx (pre ++ [x]) W')) (h0 : J [] W) :
 CallsIn F n Tryz.prog 194 #[.func (.yield l) #[] #[],.pointer (some ⟨Bt,0,none⟩)] W fun e W' => (∃ v,e = .returned v) ∧
  ((∃ ys,ys = frk g.toNat o ∧ J ys W') ∨ (∃ pre,pre <+: frk g.toNat o ∧ Jx pre W')) := by
 obtain ⟨gn,rfl⟩ := Int.eq_ofNat_of_zero_le hg0
 rw [Int.toNat_natCast]
 have HX := Aside0.mk hbx
 have HC := Aside0.mk hC
 have Hc := Aside0.mk hc
 have HO := Aside0.mk ho
 have HW := Aside0.mk hW
 have HJ := Aside0.mk hJ
 have HY := Aside0.mk hY
 have H0 := Aside0.mk h0
 have HG : Aside0 (gn ≤ 16) := ⟨by omega⟩
 have hbl := blk_lt hbx
 have HBL := Aside0.mk hbl
 clear hbx hC hc ho hJ hY h0 hg0 hg16
 refine callsIn_of_wp Tryz.func194 rfl h194 ?_ hro
 simp only [Tryz.ntmps194,List.size_toArray,List.length_cons,List.length_nil,Nat.reduceAdd,Nat.reduceSub,Array.replicate_succ,Array.replicate_zero,List.push_toArray,List.append_toArray,List.nil_append,List.cons_append]
 have z0 : W.cell? ⟨Bt,0,none⟩ = some (.int .i64 (gn : Int)) := (hW.cell (p := ⟨Bt,0,none⟩) hbl).trans (cL HX 0 rfl)
 clear hbl hW
 gi_wp2
 gi_loopw [6] (fun i wr => ∃ k : Nat,k ≤ gn ∧ i = .int .i64 (k : Int) ∧ Aside0 (J (frk k o) wr) ∧ Aside0 (Below w0.heap.size w0 wr)) (fun i _ => gn - (intOf i).toNat)
 case atStart => exact ⟨0,Nat.zero_le _,rfl,⟨by have e : frk 0 o = [] := rfl; rw [e]; exact H0.out⟩,HW⟩
 case round =>
  obtain ⟨k,hk,rfl,HJk,HB⟩ := hrel
  have z2 : wr.cell? ⟨Bt,2,none⟩ = some (.slice (some ⟨oo,0,none⟩) o.length co) := (HB.out.cell (p := ⟨Bt,2,none⟩) HBL.out).trans (cL HX 2 rfl)
  have hk64 : (k : Int) + 1 ≤ 9223372036854775807 := by have := HG.out; omega
  by_cases hlt : k < gn
  ·have hlt2 : decide ((k : Int) < (gn : Int)) = true := decide_eq_true (by omega)
   clear z0
   gi_wp2_with fail
   clear z2
   by_cases hin : (k : Int) ∈ o
   ·have HF : Aside0 (frk (k + 1) o = frk k o) := ⟨by rw [frk_succ,if_pos hin]⟩
    have HCT : Aside0 (o.contains (k : Int) = true) := ⟨by simp [hin]⟩
    clear hin
    refine call_F HF_.out ((contains_top oo co o (k : Int) true wr HO.out (fun j hj => by have h_ := HC.out j hj; exact (HB.out.cell (p := ⟨oo,j,none⟩) (World.block_lt_of_cell? _ _ h_)).trans h_) HCT.out).mono ?_)
    rintro e w2 ⟨rfl,hb⟩
    have HJ2 := Aside0.mk (below_abides HJ.out HJk.out hb)
    have HB2 := Aside0.mk (below_step HB.out hb)
    clear hb HJk HB HCT
    gi_wp2_with ((with_reducible refine gate_in (N := 17) rfl ?_); refine skip_F HF_.out rfl ?_)
    go_roundw
    case rel => exact ⟨k + 1,by omega,by go_num,⟨by rw [HF.out]; exact HJ2.out⟩,HB2⟩
    case measure => simp [intOf]; omega
   ·have HF : Aside0 (frk (k + 1) o = frk k o ++ [(k : Int)]) := ⟨by rw [frk_succ,if_neg hin]⟩
    have HCT : Aside0 (o.contains (k : Int) = false) := ⟨by simp [hin]⟩
    clear hin
    refine call_F HF_.out ((contains_top oo co o (k : Int) false wr HO.out (fun j hj => by have h_ := HC.out j hj; exact (HB.out.cell (p := ⟨oo,j,none⟩) (World.block_lt_of_cell? _ _ h_)).trans h_) HCT.out).mono ?_)
    rintro e w2 ⟨rfl,hb⟩
    have HJ2 := Aside0.mk (below_abides HJ.out HJk.out hb)
    have HB2 := Aside0.mk (below_step HB.out hb)
    clear hb HJk HB HCT
    obtain ⟨fn,tmps,assign,body,hy,hR⟩ := HY.out (frk k o) k w2 HJ2.out (by have := frk_len k o; have := HG.out; omega)
    have HR := Aside0.mk hR
    clear hR
    gi_wp2
    refine ⟨depth_F HF_.out,HR.out.mono ?_⟩
    rintro e W3 (⟨rfl,hJ3,hk3⟩ | ⟨rfl,hJx3⟩)
    ·have HJ3 := Aside0.mk hJ3
     have HB3 := Aside0.mk (HB2.out.trans hk3)
     clear hJ3 hk3 HR hy
     gi_wp2
     go_roundw
     case rel => exact ⟨k + 1,by omega,by go_num,⟨by rw [HF.out]; exact HJ3.out⟩,HB3⟩
     case measure => simp [intOf]; omega
    ·have HJx3 := Aside0.mk hJx3
     clear hJx3 HR hy
     gi_wp2
     refine bodyPost_ret (results_none rfl _ _ _) rfl ?_
     exact ⟨⟨_,rfl⟩,.inr ⟨frk (k + 1) o,frk_pre o (by omega),by rw [HF.out]; exact HJx3.out⟩⟩
  ·obtain rfl : gn = k := by omega
   have hlt2 : decide ((gn : Int) < (gn : Int)) = false := decide_eq_false (by omega)
   have hlt3 : decide (gn < gn) = false := decide_eq_false (by omega)
   gi_wp2
   go_end0
   exact ⟨⟨_,rfl⟩,.inl ⟨_,rfl,HJk.out⟩⟩
theorem free_stops (n : Nat) (w0 : World) (Bt : Nat) (g s : Int) (oo : Nat) (co : Nat) (o : List Int) (v3 v4 : Value) (hbx : w0.heap[Bt]? = some (.cells #[.int .i64 g,.int .i64 s,.slice (some ⟨oo,0,none⟩) o.length co,v3,v4] 162 (0,0)))
 (hC : ∀ j,j < o.length → w0.cell? ⟨oo,j,none⟩ = some (.int .i64 (o.getD j 0))) (hc : o.length ≤ co) (hg0 : 0 ≤ g) (hg16 : g ≤ 16) (ho : o.length ≤ 20) :
 SeqStopsK Fence.wide n Tryz.prog 194 #[.pointer (some ⟨Bt,0,none⟩)] (fun x : Int => #[Value.int .i64 x]) (Below w0.heap.size) (fun ys => ys = frk g.toNat o) (fun pre => pre <+: frk g.toNat o) 17 w0 := fun l J Jx W hW hJ _ hY h0 =>
 free1_in Fence.wide ⟨rfl⟩ rfl trivial n l w0 Bt g s oo co o v3 v4 hbx hC hc hg0 hg16 ho J Jx W hW hJ hY h0
set_option maxHeartbeats 2000000 in
theorem free_calls (g s : Int) (v2 v3 v4 : Value) (w : World) : Calls Tryz.prog 147 #[.agg #[.int .i64 g,.int .i64 s,v2,v3,v4]] w fun e w' => e = .returned (.func (.func 194) #[] #[.pointer (some ⟨w.heap.size,0,none⟩)]) ∧ w' = w.alloc (.cells #[.int .i64 g,.int .i64 s,v2,v3,v4] 162) := by
 go_enter Tryz.func147,Tryz.ntmps147
 go_wp2
 go_ret
 exact ⟨rfl,rfl⟩
theorem blk_own {W W' : World} {row : Option Nat} {g t : Nat} {cs : Array Value} (h : W.heap[g]? = some (.cells cs t (0,0))) (hg : W.grownBy W' row) (hr : ∀ r,row = some r → ∃ o : Obj,W.heap[r]? = some o ∧ o.isCells = false) : W'.heap[g]? = some (.cells cs t (0,0)) :=
 (grownBy_keeps_cells hg hr h rfl).trans h
theorem R_own' {α : Type} {d : Kd α} {e base : Nat} {W W' : World} {row : Option Nat} {v : Value} {xs : List α} (h : d.R e W base (fun _ => True) v xs) (hg : W.grownBy W' row) (hr : ∀ r,row = some r → ∃ o : Obj,W.heap[r]? = some o ∧ o.isCells = false) : d.R e W' base (fun _ => True) v xs :=
 Kd.R_mono (Kd.R_step (Kd.R_bound h) (fun k hk _ => by
  obtain ⟨_,_,_,q,_,cs,hc⟩ := hk
  exact grownBy_keeps_cells hg hr hc rfl)) (fun _ _ => trivial)
theorem R_cells {α : Type} {d : Kd α} {e base : Nat} {W : World} {ok : Nat → Prop} {v : Value} {xs : List α} (h : d.R e W base ok v xs) : ∀ (j : Nat) (o : Obj),v.ownBlock = some j → W.heap[j]? = some o → o.isCells = true := fun j o hj ho => by
 obtain ⟨cs,hc⟩ := Kd.R_typed h j hj
 rw [hc] at ho
 cases ho
 rfl
theorem region_inQ {P : Program} {l0 nn id : Nat} {os : List Oper} {a : Act} {w : World} {Q : Exit → Act → World → Prop} (hd : os.all noDefer = true) (h : wpList P os.toArray (QN (fun a w => Q .normal a w)) os a w) : (Code.region id os.toArray false).wpIn (Fence.wide.inRound l0) nn P Q a w :=
 wpIn_mono (region_in (Q := fun _ _ _ => False) hd h) (fun e a w q => by cases e <;> first | exact q | exact False.elim q)
set_option maxRecDepth 100000 in
set_option maxHeartbeats 4000000 in
theorem appendSeq_in (w : World) (Bt : Nat) (g s : Int) (oo : Nat) (co : Nat) (o : List Int) (v3 v4 : Value) (hbx : w.heap[Bt]? = some (.cells #[.int .i64 g,.int .i64 s,.slice (some ⟨oo,0,none⟩) o.length co,v3,v4] 162 (0,0)))
 (hC : ∀ j,j < o.length → w.cell? ⟨oo,j,none⟩ = some (.int .i64 (o.getD j 0))) (hc : o.length ≤ co) (hg0 : 0 ≤ g) (hg16 : g ≤ 16) (ho : o.length ≤ 20) :
 Calls Tryz.prog 193 #[.slice none 0 0,.func (.func 194) #[] #[.pointer (some ⟨Bt,0,none⟩)]] w fun e w' => ∃ v : Value,e = .returned v ∧ Kd.R (Kd.int .i64) 3 w' w.heap.size (fun _ => True) v (frk g.toNat o) ∧ Below w.heap.size w w' := by
 have hseq := free_stops (5 - 1) w Bt g s oo co o v3 v4 hbx hC hc hg0 hg16 ho
 have HSEQ := Aside0.mk hseq
 have HG : Aside0 (g.toNat ≤ 16) := ⟨by omega⟩
 clear hbx hC hc hg0 hg16 ho hseq
 refine (callsIn_wide (n := 5)).1 ?_
 refine callsIn_of_wp_marks Tryz.func193 rfl trivial ?_ rfl
 simp only [Tryz.ntmps193,List.size_toArray,List.length_cons,List.length_nil,Nat.reduceAdd,Nat.reduceSub,Array.replicate_succ,Array.replicate_zero,List.push_toArray,List.append_toArray,List.nil_append,List.cons_append]
 gi_wp2
 obtain ⟨W1,hW1⟩ : ∃ W1,W1 = w.alloc (.cells #[.slice none 0 0] 113) := ⟨_,rfl⟩
 rw [← hW1]
 obtain ⟨Bs,hBs⟩ : ∃ b,b = w.heap.size := ⟨_,rfl⟩
 rw [← hBs]
 have HX : Aside0 (W1.heap[Bs]? = some (.cells #[.slice none 0 0] 113 (0,0))) := ⟨by rw [hW1,hBs]; exact blk_new _ _⟩
 have HB : Aside0 (Below w.heap.size w W1) := ⟨by rw [hW1]; exact below_alloc (Below.refl _ _) _⟩
 have HBS : Aside0 (w.heap.size ≤ Bs) := ⟨Nat.le_of_eq hBs.symm⟩
 clear hW1 hBs
 refine wpIn_rangeFunc_ownF rfl (by decide) (gf := 194) (lb := #[.pointer (some ⟨Bt,0,none⟩)]) rfl trivial (enters_of Tryz.func194 (by kernel_rfl) rfl) HSEQ.out belowK_t (belowK_b (below_size HB.out)) HB.out (fun _ => rfl)
  (fun pre W => (∃ v,W.heap[Bs]? = some (.cells #[v] 113 (0,0)) ∧ Kd.R (Kd.int .i64) 3 W w.heap.size (fun _ => True) v pre) ∧ Below w.heap.size w W)
  (fun _ _ _ => False)
  (OwnFrom.and (Own.from (fun s A B row hs hg hr => ?own) _) (ownFrom_below (Nat.le_refl _) (below_size HB.out)))
  (fun _ _ _ _ _ hs _ _ => hs)
  ⟨⟨_,HX.out,Kd.R_nil _ _ _ _ _⟩,HB.out⟩
  (fun x => { tmps := #[.slice none 0 0,.func (.func 194) #[] #[.pointer (some ⟨Bt,0,none⟩)],.pointer (some ⟨Bs,0,none⟩),undef,.slice none 0 0,.int .i64 x,.func (.func 194) #[] #[.pointer (some ⟨Bt,0,none⟩)],.int .i64 x,undef,undef,undef,undef,undef],defers := [] }) ?assign ?body ?done ?stop
 case own =>
  obtain ⟨v,hv,hR⟩ := hs
  exact ⟨v,blk_own hv hg hr,R_own' hR hg hr⟩
 case assign =>
  intro l x W K hK
  gi_wp2
  exact hK
 case body =>
  rintro l pre x W ⟨⟨v,hv,hR⟩,hB⟩ hlen
  have HV := Aside0.mk hR
  have HXB := Aside0.mk hv
  have HBW := Aside0.mk hB
  have HLN := Aside0.mk hlen
  have z0 : W.cell? ⟨Bs,0,none⟩ = some v := (blk_cell hv 0).trans rfl
  clear hR hB hlen hv HX HB
  refine wpIn_block ?_
  refine region_inQ (by kernel_rfl) ?_
  go_wp2_with ((with_reducible refine gate_builtin (b := .append) (xs := #[.tmp 8,.tmp 10]) rfl ?_); at_builtin; refine Kd.R_append (Kd.int .i64) (w0 := w) w.heap.size rfl (.tmp 8) (.tmp 10) 113 3 (.int .i64 0) 8 rfl Tryz.underlying113 info3 rfl (by decide) (by omega) v pre x [.int .i64 x] (fun _ => True) (fun _ => False) rfl (by first | (go_simp; done) | (go_simp; rfl)) ?aP (fun _ hk => hk.elim) ?aF ?aO ?aB ?aS ?aL ?_; (case aP => exact rfl); (case aB => exact HBW.out); (case aF => exact (fun _ _ => trivial)); (case aO => exact HV.out); (case aS => exact below_size HBW.out); (case aL => have := HLN.out; omega); intro v2 w2 ho hb hg hat; have q1 := Aside0.mk ho; have q2 := Aside0.mk (blk_grown HXB.out hg (Kd.R_ne HV.out HXB.out (by decide))); have q3 := Aside0.mk hb; have q4 : Aside0 (KeepsOthers W w2) := ⟨KeepsOthers.of_grownBy hg (R_cells HV.out)⟩; have q5 : Aside0 (Below w.heap.size W w2) := ⟨(Below.refl _ _).grown hg (below_size HBW.out) (fun k hk => Kd.R_base HV.out k hk)⟩; clear ho hb hg hat z0; obtain ⟨A2,c2,e2⟩ := Kd.R_slice q1.out; rw [List.length_append,List.length_singleton] at e2; subst e2; have z0 : w2.cell? ⟨Bs,0,none⟩ = some v := (blk_cell q2.out 0).trans rfl; have zf := blk_frozen q2.out 0)
  exact ⟨KeepsOthers.trans q4.out (KeepsOthers.setCell _ _ _),q5.out.setCell HBS.out _,⟨_,blk_set q2.out 0 _,Kd.R_set q1.out q2.out (by decide) 0 _⟩,below_set q3.out HBS.out⟩
 case done =>
  rintro D ys W hD rfl ⟨⟨v,hv,hR⟩,hB⟩ hK
  have z0 : W.cell? ⟨Bs,0,none⟩ = some v := (blk_cell hv 0).trans rfl
  have HV := Aside0.mk hR
  have HBW := Aside0.mk hB
  have HK := Aside0.mk hK
  have HD := Aside0.mk hD
  clear hR hB hv hK hD
  gi_wp2
  refine ⟨by simp,.inl ⟨_,_,rfl,run_takeDeferred HK.out,?_⟩⟩
  exact ⟨_,results_tmp rfl _ _ _,v,rfl,R_own' HV.out (grownBy_putObj' W D (.deferred none)) (fun r e => by cases e; exact ⟨_,HK.out,rfl⟩),HBW.out.trans (belowK_b (w := W1) (below_size HB.out) W D _ _ HD.out HK.out rfl rfl)⟩
 case stop =>
  rintro D c pre W _ _ h _
  exact h.elim
set_option maxHeartbeats 2000000 in
theorem collect_in (w : World) (Bt : Nat) (g s : Int) (oo : Nat) (co : Nat) (o : List Int) (v3 v4 : Value) (hbx : w.heap[Bt]? = some (.cells #[.int .i64 g,.int .i64 s,.slice (some ⟨oo,0,none⟩) o.length co,v3,v4] 162 (0,0)))
 (hC : ∀ j,j < o.length → w.cell? ⟨oo,j,none⟩ = some (.int .i64 (o.getD j 0))) (hc : o.length ≤ co) (hg0 : 0 ≤ g) (hg16 : g ≤ 16) (ho : o.length ≤ 20) :
 Calls Tryz.prog 146 #[.func (.func 194) #[] #[.pointer (some ⟨Bt,0,none⟩)]] w fun e w' => ∃ v : Value,e = .returned v ∧ Kd.R (Kd.int .i64) 3 w' w.heap.size (fun _ => True) v (frk g.toNat o) ∧ Below w.heap.size w w' := by
 have H := Aside0.mk (appendSeq_in w Bt g s oo co o v3 v4 hbx hC hc hg0 hg16 ho)
 clear hbx hC hc hg0 hg16 ho
 go_enter Tryz.func146,Tryz.ntmps146
 go_wp2_with fail
 refine H.out.mono ?_
 rintro e w1 ⟨v,rfl,hR,hB⟩
 have HR := Aside0.mk hR
 have HB := Aside0.mk hB
 clear hR hB
 go_wp2
 go_ret
 exact ⟨v,rfl,HR.out,HB.out⟩
set_option maxHeartbeats 2000000 in
theorem Free_calls (g s : Int) (oo : Nat) (co : Nat) (o : List Int) (v3 v4 : Value) (w : World) (hC : ∀ j,j < o.length → w.cell? ⟨oo,j,none⟩ = some (.int .i64 (o.getD j 0))) (hc : o.length ≤ co) (hg0 : 0 ≤ g) (hg16 : g ≤ 16) (ho : o.length ≤ 20) :
 Calls Tryz.prog 102 #[.agg #[.int .i64 g,.int .i64 s,.slice (some ⟨oo,0,none⟩) o.length co,v3,v4]] w fun e w' => ∃ v : Value,e = .returned v ∧ Kd.R (Kd.int .i64) 3 w' w.heap.size (fun _ => True) v (frk g.toNat o) ∧ Below w.heap.size w w' := by
 have HC := Aside0.mk hC
 have Hc := Aside0.mk hc
 have HG := Aside0.mk (And.intro hg0 hg16)
 have HO := Aside0.mk ho
 clear hC hc hg0 hg16 ho
 go_enter Tryz.func102,Tryz.ntmps102
 go_wp2_with fail
 refine (free_calls g s (.slice (some ⟨oo,0,none⟩) o.length co) v3 v4 _).mono ?_
 rintro e w2 ⟨rfl,hw2⟩
 obtain ⟨W1,hW1⟩ : ∃ W1,W1 = w.alloc (.cells #[.int .i64 g,.int .i64 s,.slice (some ⟨oo,0,none⟩) o.length co,v3,v4] 162) := ⟨_,rfl⟩
 rw [← hW1] at hw2 ⊢
 have HB1 : Aside0 (Below w.heap.size w W1) := ⟨by rw [hW1]; exact below_alloc (Below.refl _ _) _⟩
 obtain ⟨Bt,hBt⟩ : ∃ b,b = W1.heap.size := ⟨_,rfl⟩
 rw [← hBt]
 have HX : Aside0 (w2.heap[Bt]? = some (.cells #[.int .i64 g,.int .i64 s,.slice (some ⟨oo,0,none⟩) o.length co,v3,v4] 162 (0,0))) := ⟨by rw [hw2,hBt]; exact blk_new _ _⟩
 have HB2 : Aside0 (Below w.heap.size w w2) := ⟨by rw [hw2]; exact below_alloc HB1.out _⟩
 clear hw2 hW1 hBt HB1
 go_wp2_with fail
 refine (collect_in w2 Bt g s oo co o v3 v4 HX.out (fun j hj => pw_cell_below HB2.out (HC.out j hj)) Hc.out HG.out.1 HG.out.2 HO.out).mono ?_
 rintro e w3 ⟨v,rfl,hR,hB⟩
 have HR := Aside0.mk (Kd.R_lower hR (below_size HB2.out))
 have HB := Aside0.mk (below_step HB2.out hB)
 clear hR hB
 go_wp2
 go_ret
 exact ⟨v,rfl,HR.out,HB.out⟩
end Go.Proofs.YtokfjbbjkiilmaaGreatDoor.H
namespace Go.Proofs.YtokfjbbjkiilmaaGreatDoor.H
open Go.RowKit Go.Proofs.YtokfjbbjkiilmaaGreatDoorW.PrintWords Go.Proofs.YtokfjbbjkiilmaaGreatDoorW.PrintLast Go.Proofs.YtokfjbbjkiilmaaGreatDoorW.PrintMore
set_option maxHeartbeats 8000000
set_option maxRecDepth 100000
attribute [local go_sem] max2_int min2_int min_two max_two
/-- What a sector of a disk is told to hold. -/
def Rd (w : World) (d : Nat) (i : Int) (s : ByteArray) : Prop := ∀ W,Below w.heap.size w W → Calls Tryz.prog 203 #[.pointer (some ⟨d,0,none⟩),.int .i64 i] W fun e w' => e = .returned (.string s) ∧ Below W.heap.size W w'
theorem Rd.below {w w' : World} {d : Nat} {i : Int} {s : ByteArray} (h : Rd w d i s) (hb : Below w.heap.size w w') : Rd w' d i s := fun W hW => h W (below_step hb hW)
theorem rsector_calls (d m : Nat) (left j : Int) (s : ByteArray) (w : World) (hd : w.heap[d]? = some (.cells (dkc left m (.slice none 0 0)) 108 (0,0))) (hr : Rd w d (2 + j) s) (hj : j = 0 ∨ j = 1 ∨ j = 2) :
 Calls Tryz.prog 302 #[.pointer (some ⟨d,0,none⟩),.int .i64 2,.agg #[.int .i64 0,.int .i64 j]] w fun e w' => e = .returned (.string s) ∧ Below w.heap.size w w' := by
 have HD := Aside0.mk hd
 have HR := Aside0.mk hr
 have HJ := Aside0.mk hj
 clear hd hr hj
 go_enter Tryz.func302,Tryz.ntmps302
 go_upto_region 1 with fail
 obtain ⟨W1,g5,hW_,hg5,HX,hb_⟩ := new1 w #[.int .i64 0,.int .i64 j] 177
 rw [← hW_,← hg5.out]
 replace HD := mb HD hb_
 have HB := Aside0.mk hb_
 clear hW_ hb_
 go_wp2_with (refine lr_ 5 HX.out Tryz.underlying177 ?_)
 refine (tsector_calls j _ HJ.out).mono ?_
 rintro e_ W2 ⟨rfl,hb⟩
 replace HD := mb HD hb
 replace HB := mS HB hb
 clear hb
 go_wp2_with fail
 refine (dread_calls d m left (2 + j) s _ HD.out (by have := HJ.out; omega) (HR.out.below HB.out)).mono ?_
 rintro e_ W3 ⟨rfl,hb⟩
 go_wp2_with fail
 go_ret
 exact ⟨rfl,below_step HB.out hb⟩
def rbest.T9 : Bool × List (List Nat × List Nat) := (true,[([],[]),([],[]),([1],[1]),([0,2],[0,2]),([3],[3]),([4],[4]),([5,4],[4,5]),([4],[4]),([6,7,4],[4,6,7]),([8,4],[4,8]),([4],[4]),([10,4],[4,10]),([9,11,4],[4,9,11]),([4,12],[4,12])])
def rbest.B9 : List Nat := [0,0,2,7,15,31,63,31,255,511,31,1055,4095,8191]
theorem rbest.tab9 : rtab .any (opsOf Tryz.f277 9) = rbest.T9 := by kernel_rfl
theorem rbest.bits9 : waitsOk rbest.T9.2 rbest.B9 = true := by kernel_rfl
theorem rbest_calls (d m : Nat) (left gn ep ls vr k : Int) (w : World) (hd : w.heap[d]? = some (.cells (dkc left m (.slice none 0 0)) 108 (0,0))) (h0 : Rd w d 0 zsec) (h1 : Rd w d 1 (ckS gn ep ls vr k)) (hn : (0 < gn ∧ gn < 18446744073709551616) ∧ (0 ≤ ep ∧ ep < 4294967296) ∧ (0 < ls ∧ ls < 18446744073709551616) ∧ (0 ≤ vr ∧ vr < 18446744073709551616) ∧ (0 ≤ k ∧ k ≤ 2)) :
 Calls Tryz.prog 277 #[.pointer (some ⟨d,0,none⟩),.agg cnf] w fun e w' => ∃ oo co ln cl : Nat,e = .returned (.tuple #[.agg #[.int .u64 gn,.int .u32 ep,.int .u64 ls,.int .u64 vr,.slice (some ⟨oo,0,none⟩) 1 co,.slice (some ⟨ln,0,none⟩) 1 cl],.int .i64 0]) ∧ w'.cell? ⟨oo,0,none⟩ = some (.int .i64 0) ∧ w'.cell? ⟨ln,0,none⟩ = some (.int .i64 k) ∧ Below w.heap.size w w' := by
 have HD := Aside0.mk hd
 have HR0 := Aside0.mk h0
 have HR1 := Aside0.mk h1
 have HN := Aside0.mk hn
 clear hd h0 h1 hn
 unfold cnf
 go_enter Tryz.func277,Tryz.ntmps277
 go_upto_region 1 with fail
 obtain ⟨W1,g3,g4,hW_,hg3,hg4,HX,HZ,hb_⟩ := new2 w #[.int .i64 4,.int .i64 2,.float .f64 4607182418800017408,.int .i64 0] 24 #[.int .u64 0,.int .u32 0,.int .u64 0,.int .u64 0,.slice none 0 0,.slice none 0 0] 292
 rw [← hW_,← hg4.out,← hg3.out]
 replace HD := mb HD hb_
 have HB := Aside0.mk hb_
 clear hW_ hb_
 have G4 : Aside0 (w.heap.size ≤ g4) := ⟨by have := hg4.out; omega⟩
 go_wp2_with fail
 refine (dread_calls d m left 0 zsec _ HD.out (by decide) (HR0.out.below HB.out)).mono ?_
 rintro e_ W2 ⟨rfl,hb⟩
 replace HD := mb HD hb
 replace HX := mb HX hb
 replace HZ := mb HZ hb
 replace HB := mS HB hb
 clear hb
 go_wp2_with fail
 refine (dread_calls d m left 1 (ckS gn ep ls vr k) _ HD.out (by decide) (HR1.out.below HB.out)).mono ?_
 rintro e_ W3 ⟨rfl,hb⟩
 replace HD := mb HD hb
 replace HX := mb HX hb
 replace HZ := mb HZ hb
 replace HB := mS HB hb
 clear hb
 have HNN : Aside0 ((0 < gn ∧ gn < 18446744073709551616) ∧ (0 ≤ ep ∧ ep < 4294967296) ∧ (0 < ls ∧ ls < 18446744073709551616) ∧ (0 ≤ vr ∧ vr < 18446744073709551616) ∧ (0 ≤ k ∧ k ≤ 30)) := ⟨by have := HN.out; omega⟩
 go_wp2_with fail
 refine (best0_calls (ckS gn ep ls vr k) gn ep ls vr k _ HNN.out (fun W => ckdecs_calls gn ep ls vr k W HNN.out)).mono ?_
 rintro e_ W4 ⟨oo,co,ln,cl,rfl,hc1,hc2,hb⟩
 replace HD := mb HD hb
 replace HX := mb HX hb
 replace HZ := mb HZ hb
 replace HB := mS HB hb
 clear hb
 have HC1 := Aside0.mk hc1
 have HC2 := Aside0.mk hc2
 clear hc1 hc2
 go_upto_region 4 with fail
 replace HC1 := Aside0.mk (pw_cell_below (below_alloc (Below.refl _ _) (.cells #[.int .u64 gn,.int .u32 ep,.int .u64 ls,.int .u64 vr,.slice (some ⟨oo,0,none⟩) 1 co,.slice (some ⟨ln,0,none⟩) 1 cl] 292)) HC1.out)
 replace HC2 := Aside0.mk (pw_cell_below (below_alloc (Below.refl _ _) (.cells #[.int .u64 gn,.int .u32 ep,.int .u64 ls,.int .u64 vr,.slice (some ⟨oo,0,none⟩) 1 co,.slice (some ⟨ln,0,none⟩) 1 cl] 292)) HC2.out)
 have HLT := Aside0.mk (blk_lt HZ.out)
 obtain ⟨W5,g10,hW_,hg10,HY,hb_⟩ := new1 W4 #[.int .u64 gn,.int .u32 ep,.int .u64 ls,.int .u64 vr,.slice (some ⟨oo,0,none⟩) 1 co,.slice (some ⟨ln,0,none⟩) 1 cl] 292
 rw [← hW_,← hg10.out]
 rw [← hW_] at HC1 HC2
 replace HD := mb HD hb_
 replace HX := mb HX hb_
 replace HZ := mb HZ hb_
 replace HB := Aside0.mk (below_step (HB.out) hb_)
 clear hW_ hb_
 have NZY : Aside0 (g4 ≠ g10) := ⟨by rw [hg10.out]; exact Nat.ne_of_lt HLT.out⟩
 have NC : Aside0 (oo ≠ g4 ∧ ln ≠ g4) := ⟨by constructor <;> (intro e_; subst e_; first | (have a_ := HC1.out; rw [blk_cell HZ.out] at a_; cases a_; done) | (have a_ := HC2.out; rw [blk_cell HZ.out] at a_; cases a_))⟩
 have y0 : W5.cell? ⟨g10,0,none⟩ = some (.int .u64 gn) := cL HY 0 rfl
 have y1 : W5.cell? ⟨g10,1,none⟩ = some (.int .u32 ep) := cL HY 1 rfl
 have y2 : W5.cell? ⟨g10,2,none⟩ = some (.int .u64 ls) := cL HY 2 rfl
 have y3 : W5.cell? ⟨g10,3,none⟩ = some (.int .u64 vr) := cL HY 3 rfl
 have y4 : W5.cell? ⟨g10,4,none⟩ = some (.slice (some ⟨oo,0,none⟩) 1 co) := cL HY 4 rfl
 have y5 : W5.cell? ⟨g10,5,none⟩ = some (.slice (some ⟨ln,0,none⟩) 1 cl) := cL HY 5 rfl
 go_wp2_with fail
 clear y0 y1 y2 y3 y4 y5
 go_loopw [39] (fun v wr => (v = .int .i64 0 ∨ v = .int .i64 1) ∧ Aside0 (wr.heap[g4]? = some (.cells #[.int .u64 0,.int .u32 0,.int .u64 0,.int .u64 0,.slice none 0 0,.slice none 0 0] 292 (0,0))) ∧ Aside0 (wr.heap[g10]? = some (.cells #[.int .u64 gn,.int .u32 ep,.int .u64 ls,.int .u64 vr,.slice (some ⟨oo,0,none⟩) 1 co,.slice (some ⟨ln,0,none⟩) 1 cl] 292 (0,0))) ∧ Aside0 (wr.heap[g3]? = some (.cells #[.int .i64 4,.int .i64 2,.float .f64 4607182418800017408,.int .i64 0] 24 (0,0))) ∧ Aside0 (wr.cell? ⟨oo,0,none⟩ = some (.int .i64 0)) ∧ Aside0 (wr.cell? ⟨ln,0,none⟩ = some (.int .i64 k)) ∧ Aside0 (Below w.heap.size w wr)) (fun v _ => 1 - (intOf v).toNat)
 case atStart => exact ⟨.inl rfl,HZ,HY,HX,HC1,HC2,HB⟩
 case round =>
  clear HZ HY HX HC1 HC2 HB HD
  obtain ⟨hv,HZ,HY,HX,HC1,HC2,HB⟩ := hrel
  rcases hv with rfl | rfl
  ·have q0 := HC1.out
   have t2 : decide (2 < k) = false := decide_eq_false (by have := HN.out; omega)
   have t3 : (2 < k) = False := eq_false (by have := HN.out; omega)
   have u0 : wrap64 0 = 0 := by kernel_rfl
   go_upto_region 9 with fail
   refine st_ 14 (fun w' => w'.cell? ⟨g10,5,none⟩ = some (.slice (some ⟨ln,0,none⟩) 1 cl) ∧ w'.cell? ⟨g3,0,none⟩ = some (.int .i64 4) ∧ w'.cell? ⟨g3,1,none⟩ = some (.int .i64 2) ∧ w'.cell? ⟨ln,0,none⟩ = some (.int .i64 k)) [] ⟨(cD HY 5 rfl),(cD HX 0 rfl),(cD HX 1 rfl),(pw_cell_below (below_drew (Below.refl _ _)) HC2.out)⟩ fun hHeld => ?_
   refine with_tabW rbest.tab9 rbest.bits9 (fun HT_ HW_ => ?_)
   replace HY := mD HY
   replace HX := mD HX
   replace HZ := mD HZ
   replace HC1 := Aside0.mk (pw_cell_below (below_drew (Below.refl _ _)) HC1.out)
   replace HC2 := Aside0.mk (pw_cell_below (below_drew (Below.refl _ _)) HC2.out)
   replace HB := bD HB
   generalize wr.drew = wd1 at *
   refine pa_ 0 44 HT_ ?_
   refine pa_ 1 45 HT_ ?_
   refine ta_ 2 46 HT_ HW_ hHeld ?_
   refine pa_ 3 47 HT_ ?_
   refine pa_ 4 48 HT_ ?_
   refine pa_ 5 49 HT_ ?_
   refine pa_ 7 51 HT_ ?_
   refine pa_ 10 54 HT_ ?_
   refine ta_ 6 50 HT_ HW_ hHeld ?_
   refine pa_ 8 52 HT_ ?_
   refine ta_ 9 53 HT_ HW_ hHeld ?_
   refine ta_ 11 55 HT_ HW_ hHeld ?_
   refine pa_ 12 56 HT_ ?_
   refine pa_ 13 57 HT_ ?_
   refine dn_ HT_ ?_
   clear HT_ HW_ hHeld
   go_wp2_with fail
   exact ⟨⟨.inr rfl,HZ,HY,HX,HC1,HC2,HB⟩,by decide⟩
  ·go_wp2_with (first | (refine lr_ 10 HY.out Tryz.underlying292 ?_) | (refine sr_ 4 60 #[.int .u64 gn,.int .u32 ep,.int .u64 ls,.int .u64 vr,.slice (some ⟨oo,0,none⟩) 1 co,.slice (some ⟨ln,0,none⟩) 1 cl] HZ.out ?_))
   refine bodyPost_ret (results_ct rfl _ _ g4 292 #[.int .u64 gn,.int .u32 ep,.int .u64 ls,.int .u64 vr,.slice (some ⟨oo,0,none⟩) 1 co,.slice (some ⟨ln,0,none⟩) 1 cl] (0,0) _ rfl (setRow_heap _ _ _ _ _ _ HZ.out) Tryz.underlying292 rfl (by kernel_rfl)) rfl ?_
   exact ⟨oo,co,ln,cl,rfl,(cell_setRow_other _ _ _ _ NC.out.1).trans HC1.out,(cell_setRow_other _ _ _ _ NC.out.2).trans HC2.out,below_setRow HB.out G4.out _⟩
end Go.Proofs.YtokfjbbjkiilmaaGreatDoor.H
namespace Go.Proofs.YtokfjbbjkiilmaaGreatDoor.H
open Go.RowKit Go.Proofs.YtokfjbbjkiilmaaGreatDoorW.PrintWords Go.Proofs.YtokfjbbjkiilmaaGreatDoorW.PrintLast Go.Proofs.YtokfjbbjkiilmaaGreatDoorW.PrintMore
set_option maxHeartbeats 8000000
set_option maxRecDepth 100000
attribute [local go_sem] max2_int min2_int min_two max_two
/-- A core's block, a desk's, a cleaner's at rest. -/
def coc (ix d l wh : Nat) (ver : Int) : Array Value := #[.pointer (some ⟨ix,0,none⟩),.pointer (some ⟨d,0,none⟩),.pointer (some ⟨l,0,none⟩),.pointer (some ⟨wh,0,none⟩),.int .u64 ver]
def dsc (co cl : Nat) : Array Value := #[.pointer (some ⟨co,0,none⟩),.int .i64 4,.int .i64 2,.float .f64 4607182418800017408,.int .i64 0,.pointer (some ⟨cl,0,none⟩),.int .i64 0,.bool false]
def clc : Array Value := #[.slice none 0 0,.int .i64 (-1),.int .i64 0,.int .i64 0,.int .i64 0]
theorem within64 (w : World) :
 Calls Tryz.prog 131 #[.int .i64 0,.int .i64 64] w fun e w' => e = .returned (.int .i64 0) ∧ w' = w := by
 go_enter Tryz.func131,Tryz.ntmps131
 go_wp2_with fail
 go_ret
 exact ⟨rfl,rfl⟩
theorem within8 (w : World) :
 Calls Tryz.prog 131 #[.int .i64 0,.int .i64 8] w fun e w' => e = .returned (.int .i64 0) ∧ w' = w := by
 go_enter Tryz.func131,Tryz.ntmps131
 go_wp2_with fail
 go_ret
 exact ⟨rfl,rfl⟩
theorem cut0 (w : World) :
 Calls Tryz.prog 130 #[.int .i64 0] w fun e w' => e = .returned (.int .i64 0) ∧ w' = w := by
 go_enter Tryz.func130,Tryz.ntmps130
 go_wp2_with fail
 refine (within64 _).mono ?_
 rintro e_ w2 ⟨rfl,rfl⟩
 go_wp2_with fail
 go_ret
 exact ⟨rfl,rfl⟩
theorem earn0 (w : World) :
 Calls Tryz.prog 72 #[.int .i64 0,.int .i64 0] w fun e w' => e = .returned (.tuple #[.int .i64 0,.int .i64 0]) ∧ w' = w := by
 go_enter Tryz.func72,Tryz.ntmps72
 go_wp2_with fail
 refine (cut0 _).mono ?_
 rintro e_ w2 ⟨rfl,rfl⟩
 go_wp2_with fail
 refine (within8 _).mono ?_
 rintro e_ w2 ⟨rfl,rfl⟩
 go_wp2_with fail
 exact ret2 rfl rfl ⟨rfl,rfl⟩
theorem take0 (w : World) :
 Calls Tryz.prog 73 #[.int .i64 0,.int .i64 0] w fun e w' => e = .returned (.tuple #[.int .i64 0,.int .i64 0]) ∧ w' = w := by
 go_enter Tryz.func73,Tryz.ntmps73
 go_wp2_with fail
 refine (cut0 _).mono ?_
 rintro e_ w2 ⟨rfl,rfl⟩
 go_wp2_with fail
 refine (within8 _).mono ?_
 rintro e_ w2 ⟨rfl,rfl⟩
 go_wp2_with fail
 refine (cut0 _).mono ?_
 rintro e_ w2 ⟨rfl,rfl⟩
 go_wp2_with fail
 exact ret2 rfl rfl ⟨rfl,rfl⟩
theorem Earn0 (w : World) :
 Calls Tryz.prog 33 #[.int .i64 0,.int .i64 0] w fun e w' => e = .returned (.tuple #[.int .i64 0,.int .i64 0]) ∧ w' = w := by
 go_enter Tryz.func33,Tryz.ntmps33
 go_wp2_with fail
 refine (earn0 _).mono ?_
 rintro e_ w2 ⟨rfl,rfl⟩
 go_wp2_with fail
 exact ret2 rfl rfl ⟨rfl,rfl⟩
theorem Take0 (w : World) :
 Calls Tryz.prog 35 #[.int .i64 0,.int .i64 0] w fun e w' => e = .returned (.tuple #[.int .i64 0,.int .i64 0]) ∧ w' = w := by
 go_enter Tryz.func35,Tryz.ntmps35
 go_wp2_with fail
 refine (take0 _).mono ?_
 rintro e_ w2 ⟨rfl,rfl⟩
 go_wp2_with fail
 exact ret2 rfl rfl ⟨rfl,rfl⟩
theorem steps0 (k : Nat) (w : World) :
 Calls Tryz.prog 34 #[.pointer (some ⟨k,0,none⟩),.int .i64 0] w fun e w' => e = .returned (.tuple #[]) ∧ w' = w := by
 go_enter Tryz.func34,Tryz.ntmps34
 go_wp2_with fail
 go_loopw [5] (fun v wr => v = .int .i64 0 ∧ wr = w) (fun v _ => 1 - (intOf v).toNat)
 case atStart => exact ⟨rfl,rfl⟩
 case round =>
  obtain ⟨rfl,rfl⟩ := hrel
  go_wp2_with fail
  exact end0 rfl rfl ⟨rfl,rfl⟩
theorem dead0 (k co cl : Nat) (w : World) (hk : w.heap[k]? = some (.cells (dsc co cl) 76 (0,0))) :
 Calls Tryz.prog 45 #[.pointer (some ⟨k,0,none⟩)] w fun e w' => e = .returned (.bool false) ∧ w' = w := by
 have HX := Aside0.mk hk
 clear hk
 have y0 : w.cell? ⟨k,0,none⟩ = some (.pointer (some ⟨co,0,none⟩)) := cL HX 0 rfl
 have y1 : w.cell? ⟨k,1,none⟩ = some (.int .i64 4) := cL HX 1 rfl
 have y2 : w.cell? ⟨k,2,none⟩ = some (.int .i64 2) := cL HX 2 rfl
 have y3 : w.cell? ⟨k,3,none⟩ = some (.float .f64 4607182418800017408) := cL HX 3 rfl
 have y4 : w.cell? ⟨k,4,none⟩ = some (.int .i64 0) := cL HX 4 rfl
 have y5 : w.cell? ⟨k,5,none⟩ = some (.pointer (some ⟨cl,0,none⟩)) := cL HX 5 rfl
 have y6 : w.cell? ⟨k,6,none⟩ = some (.int .i64 0) := cL HX 6 rfl
 have y7 : w.cell? ⟨k,7,none⟩ = some (.bool false) := cL HX 7 rfl
 go_enter Tryz.func45,Tryz.ntmps45
 go_wp2_with fail
 go_ret
 exact ⟨rfl,rfl⟩
theorem number0 (g : Nat) (w : World) :
 Calls Tryz.prog 64 #[.nilIface,.iface 134 (.pointer (some ⟨g,0,none⟩))] w fun e w' => e = .returned (.bool false) ∧ w' = w := by
 go_enter Tryz.func64,Tryz.ntmps64
 go_wp2_with fail
 go_ret
 exact ⟨rfl,rfl⟩
theorem dnumber_calls (w : World) :
 Calls Tryz.prog 29 #[.nilIface] w fun e w' => e = .returned (.int .i64 0) ∧ Below w.heap.size w w' := by
 go_enter Tryz.func29,Tryz.ntmps29
 go_wp2_with fail
 refine (number0 _ _).mono ?_
 rintro e_ w2 ⟨rfl,rfl⟩
 have hb := below_alloc (Below.refl w.heap.size w) (.cells #[.string { data := #[] },.int .i64 0] 123)
 go_wp2_with fail
 go_ret
 exact ⟨rfl,hb⟩
theorem idle_calls (w : World) :
 Calls Tryz.prog 142 #[] w fun e w' => e = .returned (.agg #[.slice none 0 0,.int .i64 (-1),.int .i64 0,.int .i64 0]) ∧ Below w.heap.size w w' := by
 go_enter Tryz.func142,Tryz.ntmps142
 go_wp2_with fail
 refine rr_ (blk_new w (.cells #[.slice none 0 0,.int .i64 (-1),.int .i64 0,.int .i64 0] 115)) Tryz.underlying115 ?_
 exact ⟨rfl,below_alloc (Below.refl _ _) _⟩
theorem cnew_calls (w : World) :
 Calls Tryz.prog 98 #[] w fun e w' => ∃ g : Nat,e = .returned (.pointer (some ⟨g,0,none⟩)) ∧ w.heap.size ≤ g ∧ w'.heap[g]? = some (.cells clc 117 (0,0)) ∧ Below w.heap.size w w' := by
 go_enter Tryz.func98,Tryz.ntmps98
 go_wp2_with fail
 refine (idle_calls _).mono ?_
 rintro e_ w2 ⟨rfl,hb⟩
 have HB := Aside0.mk hb
 clear hb
 go_wp2_with fail
 go_ret
 exact ⟨w2.heap.size,rfl,HB.out.size,blk_new _ _,below_alloc HB.out _⟩
theorem sneed_calls (w : World) :
 Calls Tryz.prog 172 #[.agg #[.slice none 0 0,.int .i64 (-1),.int .i64 0,.int .i64 0],.int .i64 2] w fun e w' => e = .returned (.int .i64 2) ∧ Below w.heap.size w w' := by
 go_enter Tryz.func172,Tryz.ntmps172
 go_upto_region 1 with fail
 obtain ⟨W1,g,hW_,hg,HX,hb_⟩ := new1 w #[.slice none 0 0,.int .i64 (-1),.int .i64 0,.int .i64 0] 115
 rw [← hW_,← hg.out]
 have HB := Aside0.mk hb_
 clear hW_ hb_
 have y0 : W1.cell? ⟨g,0,none⟩ = some (.slice none 0 0) := cL HX 0 rfl
 have y1 : W1.cell? ⟨g,1,none⟩ = some (.int .i64 (-1)) := cL HX 1 rfl
 have y2 : W1.cell? ⟨g,2,none⟩ = some (.int .i64 0) := cL HX 2 rfl
 have y3 : W1.cell? ⟨g,3,none⟩ = some (.int .i64 0) := cL HX 3 rfl
 go_wp2_with fail
 go_ret
 exact ⟨rfl,HB.out⟩
theorem wnow_calls (wh : Nat) (now : Int) (w : World) (hw : w.cell? ⟨wh,0,none⟩ = some (.int .u64 now)) :
 Calls Tryz.prog 128 #[.pointer (some ⟨wh,0,none⟩)] w fun e w' => e = .returned (.int .u64 now) ∧ w' = w := by
 go_enter Tryz.func128,Tryz.ntmps128
 go_wp2_with fail
 go_ret
 exact ⟨rfl,rfl⟩
theorem now_calls (co ix d l wh : Nat) (ver : Int) (now : Int) (w : World) (hc : w.heap[co]? = some (.cells (coc ix d l wh ver) 132 (0,0))) (hw : w.cell? ⟨wh,0,none⟩ = some (.int .u64 now)) :
 Calls Tryz.prog 67 #[.pointer (some ⟨co,0,none⟩)] w fun e w' => e = .returned (.int .u64 now) ∧ w' = w := by
 have HC := Aside0.mk hc
 clear hc
 have y0 : w.cell? ⟨co,0,none⟩ = some (.pointer (some ⟨ix,0,none⟩)) := cL HC 0 rfl
 have y1 : w.cell? ⟨co,1,none⟩ = some (.pointer (some ⟨d,0,none⟩)) := cL HC 1 rfl
 have y2 : w.cell? ⟨co,2,none⟩ = some (.pointer (some ⟨l,0,none⟩)) := cL HC 2 rfl
 have y3 : w.cell? ⟨co,3,none⟩ = some (.pointer (some ⟨wh,0,none⟩)) := cL HC 3 rfl
 have y4 : w.cell? ⟨co,4,none⟩ = some (.int .u64 ver) := cL HC 4 rfl
 have HW := Aside0.mk hw
 clear hw
 go_enter Tryz.func67,Tryz.ntmps67
 go_wp2_with fail
 refine (wnow_calls wh now _ HW.out).mono ?_
 rintro e_ w2 ⟨rfl,rfl⟩
 go_wp2_with fail
 go_ret
 exact ⟨rfl,rfl⟩
theorem ver_calls (co ix d l wh : Nat) (ver : Int) (w : World) (hc : w.heap[co]? = some (.cells (coc ix d l wh ver) 132 (0,0))) :
 Calls Tryz.prog 46 #[.pointer (some ⟨co,0,none⟩)] w fun e w' => e = .returned (.int .u64 ver) ∧ w' = w := by
 have HC := Aside0.mk hc
 clear hc
 have y0 : w.cell? ⟨co,0,none⟩ = some (.pointer (some ⟨ix,0,none⟩)) := cL HC 0 rfl
 have y1 : w.cell? ⟨co,1,none⟩ = some (.pointer (some ⟨d,0,none⟩)) := cL HC 1 rfl
 have y2 : w.cell? ⟨co,2,none⟩ = some (.pointer (some ⟨l,0,none⟩)) := cL HC 2 rfl
 have y3 : w.cell? ⟨co,3,none⟩ = some (.pointer (some ⟨wh,0,none⟩)) := cL HC 3 rfl
 have y4 : w.cell? ⟨co,4,none⟩ = some (.int .u64 ver) := cL HC 4 rfl
 go_enter Tryz.func46,Tryz.ntmps46
 go_wp2_with fail
 go_ret
 exact ⟨rfl,rfl⟩
theorem room_calls (co ix d l wh : Nat) (ver : Int) (m oo ln ff : Nat) (left : Int) (es : Array MapEntry) (c : Nat) (k1 x lsn ep gen : Int) (w : World) (hc : w.heap[co]? = some (.cells (coc ix d l wh ver) 132 (0,0))) (h : Lst w l d m oo ln ff left (.slice none 0 0) es c k1 x lsn ep gen) (hk1 : k1 = 0 ∨ k1 = 1 ∨ k1 = 2) :
 Calls Tryz.prog 62 #[.pointer (some ⟨co,0,none⟩)] w fun e w' => e = .returned (.int .i64 (8 - k1)) ∧ Below w.heap.size w w' := by
 have HC := Aside0.mk hc
 clear hc
 have y0 : w.cell? ⟨co,0,none⟩ = some (.pointer (some ⟨ix,0,none⟩)) := cL HC 0 rfl
 have y1 : w.cell? ⟨co,1,none⟩ = some (.pointer (some ⟨d,0,none⟩)) := cL HC 1 rfl
 have y2 : w.cell? ⟨co,2,none⟩ = some (.pointer (some ⟨l,0,none⟩)) := cL HC 2 rfl
 have y3 : w.cell? ⟨co,3,none⟩ = some (.pointer (some ⟨wh,0,none⟩)) := cL HC 3 rfl
 have y4 : w.cell? ⟨co,4,none⟩ = some (.int .u64 ver) := cL HC 4 rfl
 have H := Aside0.mk h
 have HK := Aside0.mk hk1
 have HB := Aside0.mk (Below.refl w.heap.size w)
 clear h hk1
 go_enter Tryz.func62,Tryz.ntmps62
 go_wp2_with fail
 refine (ltable_calls l d oo 1 ln 1 ff 1 lsn ep gen k1 x _ (blk_below H.out.hl HB.out) ((blk_cell (blk_below H.out.ho HB.out) 0).trans rfl) ((blk_cell (blk_below H.out.hn HB.out) 0).trans rfl) ((blk_cell (blk_below H.out.hf HB.out) 0).trans rfl)).mono ?_
 rintro e_ W2 ⟨a1,c1,a2,c2,a3,c3,rfl,q1,q2,q3,hb⟩
 have Q2 := Aside0.mk q2
 replace HB := Aside0.mk hb
 clear q1 q2 q3 hb y0 y1 y2 y3 y4
 go_wp2_with fail
 refine (troom_calls a1 c1 a2 c2 a3 c3 k1 _ Q2.out HK.out).mono ?_
 rintro e_ W3 ⟨rfl,hb⟩
 replace HB := mS HB hb
 clear hb
 go_wp2_with fail
 go_ret
 exact ⟨rfl,HB.out⟩
theorem ctable_calls (co ix d l wh : Nat) (ver : Int) (m oo ln ff : Nat) (left : Int) (es : Array MapEntry) (c : Nat) (k1 x lsn ep gen : Int) (w : World) (hc : w.heap[co]? = some (.cells (coc ix d l wh ver) 132 (0,0))) (h : Lst w l d m oo ln ff left (.slice none 0 0) es c k1 x lsn ep gen) :
 Calls Tryz.prog 101 #[.pointer (some ⟨co,0,none⟩)] w fun e w' => ∃ a1 c1 a2 c2 a3 c3 : Nat,e = .returned (.agg #[.int .i64 4,.int .i64 2,.slice (some ⟨a1,0,none⟩) 1 c1,.slice (some ⟨a2,0,none⟩) 1 c2,.slice (some ⟨a3,0,none⟩) 1 c3]) ∧ Below w.heap.size w w' := by
 have HC := Aside0.mk hc
 clear hc
 have y0 : w.cell? ⟨co,0,none⟩ = some (.pointer (some ⟨ix,0,none⟩)) := cL HC 0 rfl
 have y1 : w.cell? ⟨co,1,none⟩ = some (.pointer (some ⟨d,0,none⟩)) := cL HC 1 rfl
 have y2 : w.cell? ⟨co,2,none⟩ = some (.pointer (some ⟨l,0,none⟩)) := cL HC 2 rfl
 have y3 : w.cell? ⟨co,3,none⟩ = some (.pointer (some ⟨wh,0,none⟩)) := cL HC 3 rfl
 have y4 : w.cell? ⟨co,4,none⟩ = some (.int .u64 ver) := cL HC 4 rfl
 have H := Aside0.mk h
 clear h y0 y1 y2 y3 y4
 go_enter Tryz.func101,Tryz.ntmps101
 go_upto_region 1 with fail
 obtain ⟨W1,g2,hW_,hg2,HZ,hb_⟩ := new1 w #[.int .i64 0,.int .i64 0,.slice none 0 0,.slice none 0 0,.slice none 0 0] 162
 rw [← hW_,← hg2.out]
 replace HC := mb HC hb_
 have HB := Aside0.mk hb_
 clear hW_ hb_
 have G2 : Aside0 (w.heap.size ≤ g2) := ⟨by have := hg2.out; omega⟩
 have y0 : W1.cell? ⟨co,0,none⟩ = some (.pointer (some ⟨ix,0,none⟩)) := cL HC 0 rfl
 have y1 : W1.cell? ⟨co,1,none⟩ = some (.pointer (some ⟨d,0,none⟩)) := cL HC 1 rfl
 have y2 : W1.cell? ⟨co,2,none⟩ = some (.pointer (some ⟨l,0,none⟩)) := cL HC 2 rfl
 have y3 : W1.cell? ⟨co,3,none⟩ = some (.pointer (some ⟨wh,0,none⟩)) := cL HC 3 rfl
 have y4 : W1.cell? ⟨co,4,none⟩ = some (.int .u64 ver) := cL HC 4 rfl
 go_wp2_with fail
 refine (ltable_calls l d oo 1 ln 1 ff 1 lsn ep gen k1 x _ (blk_below H.out.hl HB.out) ((blk_cell (blk_below H.out.ho HB.out) 0).trans rfl) ((blk_cell (blk_below H.out.hn HB.out) 0).trans rfl) ((blk_cell (blk_below H.out.hf HB.out) 0).trans rfl)).mono ?_
 rintro e_ W2 ⟨a1,c1,a2,c2,a3,c3,rfl,q1,q2,q3,hb⟩
 clear y0 y1 y2 y3 y4
 replace HZ := mb HZ hb
 replace HB := mS HB hb
 have Q1 := Aside0.mk q1
 have Q2 := Aside0.mk q2
 have Q3 := Aside0.mk q3
 have hne : ∀ (a : Nat) (v_ : Value),W2.cell? ⟨a,0,none⟩ = some v_ → v_ ≠ .int .i64 0 ∨ True := fun _ _ _ => .inr trivial
 clear q1 q2 q3 hb hne
 go_wp2_with (refine sr_ 2 7 #[.int .i64 4,.int .i64 2,.slice (some ⟨a1,0,none⟩) 1 c1,.slice (some ⟨a2,0,none⟩) 1 c2,.slice (some ⟨a3,0,none⟩) 1 c3] HZ.out ?_)
 refine rr_ (setRow_heap _ _ _ _ _ _ HZ.out) Tryz.underlying162 ?_
 exact ⟨a1,c1,a2,c2,a3,c3,rfl,below_setRow HB.out G2.out _⟩
def cneed.T1 : Bool × List (List Nat × List Nat) := (true,[([],[]),([0],[0]),([1],[1]),([2],[2]),([],[]),([4],[4]),([5],[5]),([3,6,5],[3,6]),([7,7,0,1,2,3,4,5,6,7],[7])])
def cneed.B1 : List Nat := [0,1,3,7,0,16,48,127,255]
theorem cneed.tab1 : rtab .any (opsOf Tryz.f120 1) = cneed.T1 := by kernel_rfl
theorem cneed.bits1 : waitsOk cneed.T1.2 cneed.B1 = true := by kernel_rfl
theorem cneed_calls (co ix d l wh : Nat) (ver : Int) (cl : Nat) (m oo ln ff : Nat) (left : Int) (es : Array MapEntry) (c : Nat) (k1 x lsn ep gen : Int) (w : World) (hc : w.heap[co]? = some (.cells (coc ix d l wh ver) 132 (0,0))) (hw : w.heap[cl]? = some (.cells clc 117 (0,0))) (h : Lst w l d m oo ln ff left (.slice none 0 0) es c k1 x lsn ep gen) :
 Calls Tryz.prog 120 #[.pointer (some ⟨cl,0,none⟩),.pointer (some ⟨co,0,none⟩)] w fun e w' => e = .returned (.int .i64 2) ∧ Below w.heap.size w w' := by
 have HC := Aside0.mk hc
 have H := Aside0.mk h
 have HW := Aside0.mk hw
 have HB := Aside0.mk (Below.refl w.heap.size w)
 clear hc h hw
 go_enter Tryz.func120,Tryz.ntmps120
 go_upto_region 1 with fail
 refine st_ 9 (fun w' => w'.cell? ⟨cl,0,none⟩ = some (.slice none 0 0) ∧ w'.cell? ⟨cl,1,none⟩ = some (.int .i64 (-1)) ∧ w'.cell? ⟨cl,2,none⟩ = some (.int .i64 0) ∧ w'.cell? ⟨cl,3,none⟩ = some (.int .i64 0)) [] ⟨((blk_cell (blk_below HW.out (below_drew HB.out)) 0).trans rfl),((blk_cell (blk_below HW.out (below_drew HB.out)) 1).trans rfl),((blk_cell (blk_below HW.out (below_drew HB.out)) 2).trans rfl),((blk_cell (blk_below HW.out (below_drew HB.out)) 3).trans rfl)⟩ fun hHeld => ?_
 refine with_tabW cneed.tab1 cneed.bits1 (fun HT_ HW_ => ?_)
 obtain ⟨wd1,hwd⟩ : ∃ W_,W_ = w.drew := ⟨_,rfl⟩
 have q_ := below_drew HB.out
 rw [← hwd] at hHeld q_ ⊢
 replace HB := Aside0.mk q_
 clear q_ hwd
 refine pa_ 0 5 HT_ ?_
 refine pa_ 1 6 HT_ ?_
 refine pa_ 2 7 HT_ ?_
 refine pa_ 4 9 HT_ ?_
 refine ta_ 3 8 HT_ HW_ hHeld ?_
 refine on_ 5 HT_ fun K hK => ?_
 refine gc_ Tryz.func101 #[.pointer (some ⟨co,0,none⟩)] ?_
 with_reducible refine (ctable_calls co ix d l wh ver m oo ln ff left es c k1 x lsn ep gen _ (blk_below HC.out HB.out) (H.out.below HB.out)).mono ?_
 rintro e_ wa ⟨a1,c1,a2,c2,a3,c3,rfl,hb⟩
 refine ⟨_,rfl,?_⟩
 have hfd : ∀ W,(Instr.field 162 (.agg #[.int .i64 4,.int .i64 2,.slice (some ⟨a1,0,none⟩) 1 c1,.slice (some ⟨a2,0,none⟩) 1 c2,.slice (some ⟨a3,0,none⟩) 1 c3]) 1).run Tryz.prog W = .ok (.int .i64 2) W := fun W => by kernel_rfl
 replace HB := mS HB hb
 clear hb
 refine hK.out _ _ ⟨((blk_cell (blk_below HW.out HB.out) 0).trans rfl),((blk_cell (blk_below HW.out HB.out) 1).trans rfl),((blk_cell (blk_below HW.out HB.out) 2).trans rfl),((blk_cell (blk_below HW.out HB.out) 3).trans rfl)⟩ (fun hHeld => ?_)
 clear hK K
 refine no_ 10 ?_
 refine pa_ 6 11 HT_ ?_
 refine on_ 7 HT_ fun K hK => ?_
 refine gc_ Tryz.func172 #[.agg #[.slice none 0 0,.int .i64 (-1),.int .i64 0,.int .i64 0],.int .i64 2] ?_
 with_reducible refine (sneed_calls _).mono ?_
 rintro e_ wb ⟨rfl,hb⟩
 refine ⟨_,rfl,?_⟩
 replace HB := mS HB hb
 clear hb
 refine hK.out _ _ ⟨((blk_cell (blk_below HW.out HB.out) 0).trans rfl),((blk_cell (blk_below HW.out HB.out) 1).trans rfl),((blk_cell (blk_below HW.out HB.out) 2).trans rfl),((blk_cell (blk_below HW.out HB.out) 3).trans rfl)⟩ (fun hHeld => ?_)
 clear hK K
 refine no_ 12 ?_
 refine pa_ 8 4 HT_ ?_
 refine dn_ HT_ ?_
 clear HT_ HW_ hHeld
 go_wp2_with fail
 go_ret
 exact ⟨rfl,HB.out⟩
def dneed.T1 : Bool × List (List Nat × List Nat) := (true,[([],[]),([0],[0]),([1],[1]),([2],[2]),([],[]),([4],[4]),([5],[5]),([6],[6]),([3,7],[3,7]),([8,8,0,1,2,3,4,5,6,7,8],[8])])
def dneed.B1 : List Nat := [0,1,3,7,0,16,48,112,255,511]
theorem dneed.tab1 : rtab .any (opsOf Tryz.f63 1) = dneed.T1 := by kernel_rfl
theorem dneed.bits1 : waitsOk dneed.T1.2 dneed.B1 = true := by kernel_rfl
theorem dneed_calls (k : Nat) (co ix d l wh : Nat) (ver : Int) (cl : Nat) (m oo ln ff : Nat) (left : Int) (es : Array MapEntry) (c : Nat) (k1 x lsn ep gen : Int) (w : World) (hk : w.heap[k]? = some (.cells (dsc co cl) 76 (0,0))) (hc : w.heap[co]? = some (.cells (coc ix d l wh ver) 132 (0,0))) (hw : w.heap[cl]? = some (.cells clc 117 (0,0))) (h : Lst w l d m oo ln ff left (.slice none 0 0) es c k1 x lsn ep gen) :
 Calls Tryz.prog 63 #[.pointer (some ⟨k,0,none⟩)] w fun e w' => e = .returned (.int .i64 2) ∧ Below w.heap.size w w' := by
 have HK := Aside0.mk hk
 have HC := Aside0.mk hc
 have H := Aside0.mk h
 have HW := Aside0.mk hw
 have HB := Aside0.mk (Below.refl w.heap.size w)
 clear hk hc h hw
 go_enter Tryz.func63,Tryz.ntmps63
 go_upto_region 1 with fail
 refine st_ 10 (fun w' => w'.cell? ⟨k,5,none⟩ = some (.pointer (some ⟨cl,0,none⟩)) ∧ w'.cell? ⟨k,0,none⟩ = some (.pointer (some ⟨co,0,none⟩))) [] ⟨((blk_cell (blk_below HK.out (below_drew HB.out)) 5).trans rfl),((blk_cell (blk_below HK.out (below_drew HB.out)) 0).trans rfl)⟩ fun hHeld => ?_
 refine with_tabW dneed.tab1 dneed.bits1 (fun HT_ HW_ => ?_)
 obtain ⟨wd1,hwd⟩ : ∃ W_,W_ = w.drew := ⟨_,rfl⟩
 have q_ := below_drew HB.out
 rw [← hwd] at hHeld q_ ⊢
 replace HB := Aside0.mk q_
 clear q_ hwd
 refine pa_ 0 3 HT_ ?_
 refine pa_ 1 4 HT_ ?_
 refine pa_ 2 5 HT_ ?_
 refine pa_ 4 7 HT_ ?_
 refine pa_ 5 8 HT_ ?_
 refine pa_ 6 9 HT_ ?_
 refine ta_ 3 6 HT_ HW_ hHeld ?_
 refine ta_ 7 10 HT_ HW_ hHeld ?_
 refine on_ 8 HT_ fun K hK => ?_
 refine gc_ Tryz.func120 #[.pointer (some ⟨cl,0,none⟩),.pointer (some ⟨co,0,none⟩)] ?_
 with_reducible refine (cneed_calls co ix d l wh ver cl m oo ln ff left es c k1 x lsn ep gen _ (blk_below HC.out HB.out) (blk_below HW.out HB.out) (H.out.below HB.out)).mono ?_
 rintro e_ wa ⟨rfl,hb⟩
 refine ⟨_,rfl,?_⟩
 replace HB := mS HB hb
 clear hb
 refine hK.out _ _ ⟨((blk_cell (blk_below HK.out HB.out) 5).trans rfl),((blk_cell (blk_below HK.out HB.out) 0).trans rfl)⟩ (fun hHeld => ?_)
 clear hK K
 refine no_ 11 ?_
 refine pa_ 9 2 HT_ ?_
 refine dn_ HT_ ?_
 clear HT_ HW_ hHeld
 go_wp2_with fail
 go_ret
 exact ⟨rfl,HB.out⟩
end Go.Proofs.YtokfjbbjkiilmaaGreatDoor.H
