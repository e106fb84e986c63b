/-
TopTorn: part of its walk (Rec4, Rec5, Rf, Dk3, Pb).
-/
import Derived.Test.YtokfjbbjkiilmaaGreatDoorTE
import Derived.WalkLawsBesides
import Derived.Laws.EntriesVeiled
import Derived.Recover
import Derived.RangeFuncNested
import Derived.RangeFuncBound
import Derived.RangeFuncCalls
import Derived.RangeFuncLeaves
import Derived.OrdersIn
import Derived.TacticsIn
import Derived.Tactics
import Derived.Test.YtokfjbbjkiilmaaGreatDoorWLast
import Derived.Shelf.Abstract
import Derived.OwnWalkIn
import Derived.TacticsInMore
import Derived.LoopNIn
import Derived.LoopIn
import Derived.Test.YtokfjbbjkiilmaaGreatDoorTC
set_option linter.unusedVariables false
set_option linter.unusedSimpArgs false
namespace Go.Proofs.YtokfjbbjkiilmaaGreatDoor.H
open Go.RowKit Go.Proofs.YtokfjbbjkiilmaaGreatDoorW.PrintWords Go.Proofs.YtokfjbbjkiilmaaGreatDoorW.PrintLast Go.Proofs.YtokfjbbjkiilmaaGreatDoorW.PrintMore
set_option maxHeartbeats 8000000
set_option maxRecDepth 100000
attribute [local go_sem] max2_int min2_int min_two max_two
def dec.T9 : Bool × List (List Nat × List Nat) := (true,[([],[]),([],[]),([0,1],[0,1]),([],[]),([],[]),([3,4,2],[3,4]),([0,1,2],[]),([6,2,5,0,1,2],[2,6]),([0,1,2,3,4,5,6,7],[]),([8,5,7,0,1,2,3,4,5,6,7],[5,8])])
def dec.B9 : List Nat := [0,0,3,0,0,31,7,127,255,511]
theorem dec.tab9 : rtab .any (opsOf Tryz.f167 9) = dec.T9 := by kernel_rfl
theorem dec.bits9 : waitsOk dec.T9.2 dec.B9 = true := by kernel_rfl
theorem below_keep {L : List Nat} {w a b : World} (h : Below w.heap.size w a) (k : Keep L a b) (hL : ∀ q ∈ L,w.heap.size ≤ q) : Below w.heap.size w b :=
 ⟨k.os.trans h.os,k.tape.trans h.tape,k.output.trans h.output,Nat.le_trans h.size k.size,fun i hi => (k.block i (Nat.lt_of_lt_of_le hi h.size) (fun hm => by have := hL i hm; omega)).trans (h.block i hi)⟩
theorem dec_calls (s t : ByteArray) (r : Rec) (P1 N1 P N : Prop) (w : World) (hr : r = decRec s) (hs : s.size = 128) (hR : ∀ W,Below w.heap.size w W → Calls Tryz.prog 207 #[.agg #[.int .u64 r.lsn,.int .u32 r.ep,.int .i64 r.kd,.int .u64 r.ver,.int .u64 r.dl,.string r.id,.string r.v]] W fun e w' => (e = .returned (.tuple #[.string t,.int .i64 0]) ∧ P1 ∨ e = .returned (.tuple #[.string { data := #[] },.int .i64 5]) ∧ N1) ∧ Below W.heap.size W w') (hP : P1 → (t.toList == s.toList) = true → P) (ho : (P1 → (t.toList == s.toList) = false → N) ∧ (N1 → N)) :
 Calls Tryz.prog 167 #[.string s] w fun e w' => (e = .returned (.tuple #[.agg #[.int .u64 r.lsn,.int .u32 r.ep,.int .i64 r.kd,.int .u64 r.ver,.int .u64 r.dl,.string r.id,.string r.v],.int .i64 0]) ∧ P ∨ e = .returned (.tuple #[.agg #[.int .u64 0,.int .u32 0,.int .i64 0,.int .u64 0,.int .u64 0,.string { data := #[] },.string { data := #[] }],.int .i64 5]) ∧ N) ∧ Below w.heap.size w w' := by
 have HS := Aside0.mk hs
 have HR := Aside0.mk hR
 have HO := Aside0.mk ho
 have HP := Aside0.mk hP
 have t0 : decide ((s.size : Int) = 128) = true := by simp [hs]
 have t1 : ((s.size : Int) != 128) = false := by simp [hs]
 have t2 : (s.size : Int) = 128 := by omega
 clear hs hR ho hP
 go_enter Tryz.func167,Tryz.ntmps167
 go_upto_region 6 with fail
 obtain ⟨W1,g2,gr,gt,hW_,hg2,hgr,hgt,HZ,HX,HT,hb_⟩ := new3 w #[.int .u64 0,.int .u32 0,.int .i64 0,.int .u64 0,.int .u64 0,.string { data := #[] },.string { data := #[] }] 188 #[.string s] 9 #[.func (.func 204) #[] #[.pointer (some ⟨w.heap.size + 1,0,none⟩)]] 307
 rw [← hW_,← hgt.out,← hgr.out,← hg2.out]
 have HB := Aside0.mk hb_
 clear hW_ hb_
 replace HT : Aside0 (W1.heap[gt]? = some (.cells #[.func (.func 204) #[] #[.pointer (some ⟨gr,0,none⟩)]] 307 (0,0))) := ⟨by rw [hgr.out]; exact HT.out⟩
 have HN1 : Aside0 (gt ≠ gr) := ⟨tne HT.out HX.out (by decide)⟩
 have HN2 : Aside0 (g2 ≠ gr) := ⟨tne HZ.out HX.out (by decide)⟩
 have HL : Aside0 (w.heap.size ≤ gr) := ⟨by have := hgr.out; omega⟩
 obtain ⟨i,hi⟩ : ∃ i,i = (acc (tk (dr (dr (dr s 8) 4) 1) 1) 8).toNat := ⟨_,rfl⟩
 obtain ⟨j,hj⟩ : ∃ j,j = (acc (tk (dr (dr (dr (dr s 8) 4) 1) 1) 1) 8).toNat := ⟨_,rfl⟩
 have e0 : acc (tk s 8) 8 = r.lsn := by rw [hr]; rfl
 have e1 : acc (tk (dr s 8) 4) 8 = r.ep := by rw [hr]; rfl
 have e2 : acc (tk (dr (dr s 8) 4) 1) 8 = r.kd := by rw [hr]; rfl
 have e3 : acc (tk (dr (dr (dr s 8) 4) 1) 1) 8 = (i : Int) := by rw [hi]; have := (acc_tk (dr (dr (dr s 8) 4) 1) 1 (by decide)).1; omega
 have e4 : acc (tk (dr (dr (dr (dr s 8) 4) 1) 1) 1) 8 = (j : Int) := by rw [hj]; have := (acc_tk (dr (dr (dr (dr s 8) 4) 1) 1) 1 (by decide)).1; omega
 have e5 : acc (tk (dr (dr (dr (dr (dr s 8) 4) 1) 1) 1) 8) 8 = r.ver := by rw [hr]; rfl
 have e6 : acc (tk (dr (dr (dr (dr (dr (dr s 8) 4) 1) 1) 1) 8) 8) 8 = r.dl := by rw [hr]; rfl
 have b0 : 0 ≤ r.lsn ∧ r.lsn < 18446744073709551616 := by rw [← e0]; exact acc_tk _ _ (by decide)
 have b1 : 0 ≤ r.ep ∧ r.ep < 4294967296 := by rw [← e1]; exact acc_tk _ _ (by decide)
 have b2 : 0 ≤ r.kd ∧ r.kd < 256 := by rw [← e2]; exact acc_tk _ _ (by decide)
 have b3 : 0 ≤ (i : Int) ∧ (i : Int) < 256 := by rw [← e3]; exact acc_tk _ _ (by decide)
 have b4 : 0 ≤ (j : Int) ∧ (j : Int) < 256 := by rw [← e4]; exact acc_tk _ _ (by decide)
 have b5 : 0 ≤ r.ver ∧ r.ver < 18446744073709551616 := by rw [← e5]; exact acc_tk _ _ (by decide)
 have b6 : 0 ≤ r.dl ∧ r.dl < 18446744073709551616 := by rw [← e6]; exact acc_tk _ _ (by decide)
 have ez : r.id = tk (dr (dr (dr (dr (dr (dr (dr s 8) 4) 1) 1) 1) 8) 8) i := by rw [hr,hi]; rfl
 have ev : r.v = tk (dr (dr (dr (dr (dr (dr (dr (dr s 8) 4) 1) 1) 1) 8) 8) i) j := by rw [hr,hi,hj]; rfl
 have E0 := Aside0.mk e0
 have E1 := Aside0.mk e1
 have E2 := Aside0.mk e2
 have E3 := Aside0.mk e3
 have E4 := Aside0.mk e4
 have E5 := Aside0.mk e5
 have E6 := Aside0.mk e6
 have B0 := Aside0.mk b0
 have B1 := Aside0.mk b1
 have B2 := Aside0.mk b2
 have B3 := Aside0.mk b3
 have B4 := Aside0.mk b4
 have B5 := Aside0.mk b5
 have B6 := Aside0.mk b6
 have EZ := Aside0.mk ez
 have EV := Aside0.mk ev
 have HRR := Aside0.mk hr
 clear hi hj hr ez ev e0 b0 e1 b1 e2 b2 e3 b3 e4 b4 e5 b5 e6 b6
 have w1_ : IntKind.u32.wrap r.ep = r.ep := by have := B1.out; rw [IntKind.wrap_u32]; omega
 have w2_ : IntKind.i64.wrap r.kd = r.kd := by have := B2.out; rw [IntKind.wrap_i64]; omega
 have w3_ : IntKind.i64.wrap (i : Int) = (i : Int) := by have := B3.out; rw [IntKind.wrap_i64]; omega
 have w4_ : IntKind.i64.wrap (j : Int) = (j : Int) := by have := B4.out; rw [IntKind.wrap_i64]; omega
 go_wp2_with fail
 refine (number_calls s 8 gr gt _ HX.out HT.out (by decide) (by rw [HS.out]; decide)).mono ?_
 rintro e_ W2 ⟨rfl,hx,hk⟩
 rw [E0.out]
 replace HT := Aside0.mk (blk_keep HT.out hk (by simp [HN1.out]))
 replace HZ := Aside0.mk (blk_keep HZ.out hk (by simp [HN2.out]))
 replace HX := Aside0.mk hx
 replace HB : Aside0 (Below w.heap.size w W2) := ⟨below_keep HB.out hk (by simpa using HL.out)⟩
 clear hx hk
 go_wp2_with fail
 refine (number_calls (dr s 8) 4 gr gt _ HX.out HT.out (by decide) (by exact Nat.le_trans (dr_size _ _) (by rw [HS.out]; decide))).mono ?_
 rintro e_ W3 ⟨rfl,hx,hk⟩
 rw [E1.out]
 replace HT := Aside0.mk (blk_keep HT.out hk (by simp [HN1.out]))
 replace HZ := Aside0.mk (blk_keep HZ.out hk (by simp [HN2.out]))
 replace HX := Aside0.mk hx
 replace HB : Aside0 (Below w.heap.size w W3) := ⟨below_keep HB.out hk (by simpa using HL.out)⟩
 clear hx hk
 go_wp2_with fail
 refine (number_calls (dr (dr s 8) 4) 1 gr gt _ HX.out HT.out (by decide) (by exact Nat.le_trans (dr_size _ _) (by exact Nat.le_trans (dr_size _ _) (by rw [HS.out]; decide)))).mono ?_
 rintro e_ W4 ⟨rfl,hx,hk⟩
 rw [E2.out]
 replace HT := Aside0.mk (blk_keep HT.out hk (by simp [HN1.out]))
 replace HZ := Aside0.mk (blk_keep HZ.out hk (by simp [HN2.out]))
 replace HX := Aside0.mk hx
 replace HB : Aside0 (Below w.heap.size w W4) := ⟨below_keep HB.out hk (by simpa using HL.out)⟩
 clear hx hk
 go_wp2_with fail
 have LT2 := Aside0.mk (blk_lt HZ.out)
 have SZ4 := Aside0.mk HB.out.size
 obtain ⟨W5,g7,hW_,hg7,H7,hb_⟩ := new1 W4 #[.int .u64 r.lsn,.int .u32 r.ep,.int .i64 r.kd,.int .u64 0,.int .u64 0,.string { data := #[] },.string { data := #[] }] 188
 rw [← hW_,← hg7.out]
 replace HX := mb HX hb_
 replace HT := mb HT hb_
 replace HZ := mb HZ hb_
 replace HB := Aside0.mk (below_step (HB.out) hb_)
 clear hW_ hb_
 have HN3 : Aside0 (g7 ≠ gr) := ⟨tne H7.out HX.out (by decide)⟩
 have HN4 : Aside0 (g2 ≠ g7) := ⟨by rw [hg7.out]; exact Nat.ne_of_lt LT2.out⟩
 refine (number_calls (dr (dr (dr s 8) 4) 1) 1 gr gt _ HX.out HT.out (by decide) (by exact Nat.le_trans (dr_size _ _) (by exact Nat.le_trans (dr_size _ _) (by exact Nat.le_trans (dr_size _ _) (by rw [HS.out]; decide))))).mono ?_
 rintro e_ W6 ⟨rfl,hx,hk⟩
 rw [E3.out]
 replace HT := Aside0.mk (blk_keep HT.out hk (by simp [HN1.out]))
 replace HZ := Aside0.mk (blk_keep HZ.out hk (by simp [HN2.out]))
 replace H7 := Aside0.mk (blk_keep H7.out hk (by simp [HN3.out]))
 replace HX := Aside0.mk hx
 replace HB : Aside0 (Below w.heap.size w W6) := ⟨below_keep HB.out hk (by simpa using HL.out)⟩
 clear hx hk
 go_wp2_with fail
 refine (number_calls (dr (dr (dr (dr s 8) 4) 1) 1) 1 gr gt _ HX.out HT.out (by decide) (by exact Nat.le_trans (dr_size _ _) (by exact Nat.le_trans (dr_size _ _) (by exact Nat.le_trans (dr_size _ _) (by exact Nat.le_trans (dr_size _ _) (by rw [HS.out]; decide)))))).mono ?_
 rintro e_ W7 ⟨rfl,hx,hk⟩
 rw [E4.out]
 replace HT := Aside0.mk (blk_keep HT.out hk (by simp [HN1.out]))
 replace HZ := Aside0.mk (blk_keep HZ.out hk (by simp [HN2.out]))
 replace H7 := Aside0.mk (blk_keep H7.out hk (by simp [HN3.out]))
 replace HX := Aside0.mk hx
 replace HB : Aside0 (Below w.heap.size w W7) := ⟨below_keep HB.out hk (by simpa using HL.out)⟩
 clear hx hk
 go_wp2_with fail
 refine (number_calls (dr (dr (dr (dr (dr s 8) 4) 1) 1) 1) 8 gr gt _ HX.out HT.out (by decide) (by exact Nat.le_trans (dr_size _ _) (by exact Nat.le_trans (dr_size _ _) (by exact Nat.le_trans (dr_size _ _) (by exact Nat.le_trans (dr_size _ _) (by exact Nat.le_trans (dr_size _ _) (by rw [HS.out]; decide))))))).mono ?_
 rintro e_ W8 ⟨rfl,hx,hk⟩
 rw [E5.out]
 replace HT := Aside0.mk (blk_keep HT.out hk (by simp [HN1.out]))
 replace HZ := Aside0.mk (blk_keep HZ.out hk (by simp [HN2.out]))
 replace H7 := Aside0.mk (blk_keep H7.out hk (by simp [HN3.out]))
 replace HX := Aside0.mk hx
 replace HB : Aside0 (Below w.heap.size w W8) := ⟨below_keep HB.out hk (by simpa using HL.out)⟩
 clear hx hk
 go_wp2_with fail
 refine (number_calls (dr (dr (dr (dr (dr (dr s 8) 4) 1) 1) 1) 8) 8 gr gt _ HX.out HT.out (by decide) (by exact Nat.le_trans (dr_size _ _) (by exact Nat.le_trans (dr_size _ _) (by exact Nat.le_trans (dr_size _ _) (by exact Nat.le_trans (dr_size _ _) (by exact Nat.le_trans (dr_size _ _) (by exact Nat.le_trans (dr_size _ _) (by rw [HS.out]; decide)))))))).mono ?_
 rintro e_ W9 ⟨rfl,hx,hk⟩
 rw [E6.out]
 replace HT := Aside0.mk (blk_keep HT.out hk (by simp [HN1.out]))
 replace HZ := Aside0.mk (blk_keep HZ.out hk (by simp [HN2.out]))
 replace H7 := Aside0.mk (blk_keep H7.out hk (by simp [HN3.out]))
 replace HX := Aside0.mk hx
 replace HB : Aside0 (Below w.heap.size w W9) := ⟨below_keep HB.out hk (by simpa using HL.out)⟩
 clear hx hk
 have f3 := blk_frozen H7.out 3
 have f4 := blk_frozen H7.out 4
 have y0 : W9.cell? ⟨g7,0,none⟩ = some (.int .u64 r.lsn) := cL H7 0 rfl
 have y1 : W9.cell? ⟨g7,1,none⟩ = some (.int .u32 r.ep) := cL H7 1 rfl
 have y2 : W9.cell? ⟨g7,2,none⟩ = some (.int .i64 r.kd) := cL H7 2 rfl
 have y3 : W9.cell? ⟨g7,3,none⟩ = some (.int .u64 0) := cL H7 3 rfl
 have y4 : W9.cell? ⟨g7,4,none⟩ = some (.int .u64 0) := cL H7 4 rfl
 have y5 : W9.cell? ⟨g7,5,none⟩ = some (.string { data := #[] }) := cL H7 5 rfl
 have y6 : W9.cell? ⟨g7,6,none⟩ = some (.string { data := #[] }) := cL H7 6 rfl
 go_wp2_with fail
 clear f3 f4 y0 y1 y2 y3 y4 y5 y6
 have HG7 : Aside0 (w.heap.size ≤ g7) := ⟨by rw [hg7.out]; exact SZ4.out⟩
 obtain ⟨W10,hW_⟩ : ∃ W_,W_ = ((W9.setCell ⟨g7,3,none⟩ (.int .u64 r.ver)).setCell ⟨g7,4,none⟩ (.int .u64 r.dl)) := ⟨_,rfl⟩
 rw [← hW_]
 have q_ := (blk_far (blk_far HX.out (p := ⟨g7,3,none⟩) HN3.out.symm (.int .u64 r.ver)) (p := ⟨g7,4,none⟩) HN3.out.symm (.int .u64 r.dl))
 rw [← hW_] at q_
 replace HX := Aside0.mk q_
 clear q_
 have q_ := (blk_far (blk_far HT.out (p := ⟨g7,3,none⟩) (tne HT.out H7.out (by decide)) (.int .u64 r.ver)) (p := ⟨g7,4,none⟩) (tne HT.out H7.out (by decide)) (.int .u64 r.dl))
 rw [← hW_] at q_
 replace HT := Aside0.mk q_
 clear q_
 have q_ := (blk_far (blk_far HZ.out (p := ⟨g7,3,none⟩) HN4.out (.int .u64 r.ver)) (p := ⟨g7,4,none⟩) HN4.out (.int .u64 r.dl))
 rw [← hW_] at q_
 replace HZ := Aside0.mk q_
 clear q_
 have q_ : W10.heap[g7]? = some (.cells #[.int .u64 r.lsn,.int .u32 r.ep,.int .i64 r.kd,.int .u64 r.ver,.int .u64 r.dl,.string { data := #[] },.string { data := #[] }] 188 (0,0)) := by rw [hW_]; exact (blk_set (blk_set H7.out 3 (.int .u64 r.ver)) 4 (.int .u64 r.dl))
 replace H7 := Aside0.mk q_
 clear q_
 have q_ : Below w.heap.size w W10 := by rw [hW_]; exact (below_set (below_set HB.out HG7.out) HG7.out)
 replace HB := Aside0.mk q_
 clear q_
 clear hW_
 refine st_ 10 (fun w' => w'.cell? ⟨gt,0,none⟩ = some (.func (.func 204) #[] #[.pointer (some ⟨gr,0,none⟩)])) [7,9] ((cD HT 0 rfl)) fun hHeld => ?_
 refine with_tabW dec.tab9 dec.bits9 (fun HT_ HW_ => ?_)
 replace HX := mD HX
 replace HT := mD HT
 replace HZ := mD HZ
 replace H7 := mD H7
 replace HB := bD HB
 generalize W10.drew = wd1 at *
 refine pa_ 1 41 HT_ ?_
 refine pa_ 4 44 HT_ ?_
 refine ta_ 0 40 HT_ HW_ hHeld ?_
 refine ta_ 3 43 HT_ HW_ hHeld ?_
 refine on_ 2 HT_ fun K hK => ?_
 refine goesv_ #[] #[.pointer (some ⟨gr,0,none⟩)] Tryz.func204 (by kernel_rfl) rfl #[.int .i64 (i : Int),.pointer (some ⟨gr,0,none⟩)] (by rfl) rfl rfl rfl (by first | rfl | (simp; done) | (simp; rfl)) ?_
 with_reducible refine (take_calls (dr (dr (dr (dr (dr (dr (dr s 8) 4) 1) 1) 1) 8) 8) i gr _ HX.out (by have := B3.out; omega) (by exact Nat.le_trans (dr_size _ _) (by exact Nat.le_trans (dr_size _ _) (by exact Nat.le_trans (dr_size _ _) (by exact Nat.le_trans (dr_size _ _) (by exact Nat.le_trans (dr_size _ _) (by exact Nat.le_trans (dr_size _ _) (by exact Nat.le_trans (dr_size _ _) (by rw [HS.out]; decide))))))))).mono ?_
 rintro e_ W11 ⟨rfl,hw_⟩
 have hx : W11.heap[gr]? = some (.cells #[.string (dr (dr (dr (dr (dr (dr (dr (dr s 8) 4) 1) 1) 1) 8) 8) i)] 9 (0,0)) := by rw [hw_]; exact setRow_heap _ _ _ _ _ _ HX.out
 have hk : Keep [gr] wd1 W11 := by rw [hw_]; exact (Keep.refl _ _).setRow _ (.inl (List.mem_singleton.2 rfl))
 clear hw_
 rw [← EZ.out]
 refine ⟨_,rfl,?_⟩
 replace HT := Aside0.mk (blk_keep HT.out hk (by simp [HN1.out]))
 replace HZ := Aside0.mk (blk_keep HZ.out hk (by simp [HN2.out]))
 replace H7 := Aside0.mk (blk_keep H7.out hk (by simp [HN3.out]))
 replace HX := Aside0.mk hx
 replace HB : Aside0 (Below w.heap.size w W11) := ⟨below_keep HB.out hk (by simpa using HL.out)⟩
 clear hx hk
 refine hK.out _ _ ((cL HT 0 rfl)) (fun hHeld => ?_)
 clear hK K
 refine no_ 42 ?_
 refine pa_ 6 46 HT_ ?_
 refine on_ 5 HT_ fun K hK => ?_
 refine goesv_ #[] #[.pointer (some ⟨gr,0,none⟩)] Tryz.func204 (by kernel_rfl) rfl #[.int .i64 (j : Int),.pointer (some ⟨gr,0,none⟩)] (by rfl) rfl rfl rfl (by first | rfl | (simp; done) | (simp; rfl)) ?_
 with_reducible refine (take_calls (dr (dr (dr (dr (dr (dr (dr (dr s 8) 4) 1) 1) 1) 8) 8) i) j gr _ HX.out (by have := B4.out; omega) (by exact Nat.le_trans (dr_size _ _) (by exact Nat.le_trans (dr_size _ _) (by exact Nat.le_trans (dr_size _ _) (by exact Nat.le_trans (dr_size _ _) (by exact Nat.le_trans (dr_size _ _) (by exact Nat.le_trans (dr_size _ _) (by exact Nat.le_trans (dr_size _ _) (by exact Nat.le_trans (dr_size _ _) (by rw [HS.out]; decide)))))))))).mono ?_
 rintro e_ W12 ⟨rfl,hw_⟩
 have hx : W12.heap[gr]? = some (.cells #[.string (dr (dr (dr (dr (dr (dr (dr (dr (dr s 8) 4) 1) 1) 1) 8) 8) i) j)] 9 (0,0)) := by rw [hw_]; exact setRow_heap _ _ _ _ _ _ HX.out
 have hk : Keep [gr] W11 W12 := by rw [hw_]; exact (Keep.refl _ _).setRow _ (.inl (List.mem_singleton.2 rfl))
 clear hw_
 rw [← EV.out]
 refine ⟨_,rfl,?_⟩
 replace HT := Aside0.mk (blk_keep HT.out hk (by simp [HN1.out]))
 replace HZ := Aside0.mk (blk_keep HZ.out hk (by simp [HN2.out]))
 replace H7 := Aside0.mk (blk_keep H7.out hk (by simp [HN3.out]))
 replace HX := Aside0.mk hx
 replace HB : Aside0 (Below w.heap.size w W12) := ⟨below_keep HB.out hk (by simpa using HL.out)⟩
 clear hx hk
 refine hK.out _ _ ((cL HT 0 rfl)) (fun hHeld => ?_)
 clear hK K
 refine no_ 45 ?_
 refine la_ 7 HT_ fun K hK => ?_
 have f5 := blk_frozen H7.out 5
 have y0 : W12.cell? ⟨g7,0,none⟩ = some (.int .u64 r.lsn) := cL H7 0 rfl
 have y1 : W12.cell? ⟨g7,1,none⟩ = some (.int .u32 r.ep) := cL H7 1 rfl
 have y2 : W12.cell? ⟨g7,2,none⟩ = some (.int .i64 r.kd) := cL H7 2 rfl
 have y3 : W12.cell? ⟨g7,3,none⟩ = some (.int .u64 r.ver) := cL H7 3 rfl
 have y4 : W12.cell? ⟨g7,4,none⟩ = some (.int .u64 r.dl) := cL H7 4 rfl
 have y5 : W12.cell? ⟨g7,5,none⟩ = some (.string { data := #[] }) := cL H7 5 rfl
 have y6 : W12.cell? ⟨g7,6,none⟩ = some (.string { data := #[] }) := cL H7 6 rfl
 refine skip_ (w1 := ?_) (by rfl) rfl ?_ ?_
 rotate_left
 ·go_simp
  rfl
 clear f5
 clear y0 y1 y2 y3 y4 y5 y6
 obtain ⟨W13,hW_⟩ : ∃ W_,W_ = (W12.setCell ⟨g7,5,none⟩ (.string r.id)) := ⟨_,rfl⟩
 rw [← hW_]
 have q_ := (blk_far HX.out (p := ⟨g7,5,none⟩) HN3.out.symm (.string r.id))
 rw [← hW_] at q_
 replace HX := Aside0.mk q_
 clear q_
 have q_ := (blk_far HT.out (p := ⟨g7,5,none⟩) (tne HT.out H7.out (by decide)) (.string r.id))
 rw [← hW_] at q_
 replace HT := Aside0.mk q_
 clear q_
 have q_ := (blk_far HZ.out (p := ⟨g7,5,none⟩) HN4.out (.string r.id))
 rw [← hW_] at q_
 replace HZ := Aside0.mk q_
 clear q_
 have q_ : W13.heap[g7]? = some (.cells #[.int .u64 r.lsn,.int .u32 r.ep,.int .i64 r.kd,.int .u64 r.ver,.int .u64 r.dl,.string r.id,.string { data := #[] }] 188 (0,0)) := by rw [hW_]; exact (blk_set H7.out 5 (.string r.id))
 replace H7 := Aside0.mk q_
 clear q_
 have q_ : Below w.heap.size w W13 := by rw [hW_]; exact (below_set HB.out HG7.out)
 replace HB := Aside0.mk q_
 clear q_
 clear hW_
 refine hK.out _ _ ?_
 clear hK K
 refine pa_ 8 47 HT_ ?_
 refine la_ 9 HT_ fun K hK => ?_
 have f6 := blk_frozen H7.out 6
 have y0 : W13.cell? ⟨g7,0,none⟩ = some (.int .u64 r.lsn) := cL H7 0 rfl
 have y1 : W13.cell? ⟨g7,1,none⟩ = some (.int .u32 r.ep) := cL H7 1 rfl
 have y2 : W13.cell? ⟨g7,2,none⟩ = some (.int .i64 r.kd) := cL H7 2 rfl
 have y3 : W13.cell? ⟨g7,3,none⟩ = some (.int .u64 r.ver) := cL H7 3 rfl
 have y4 : W13.cell? ⟨g7,4,none⟩ = some (.int .u64 r.dl) := cL H7 4 rfl
 have y5 : W13.cell? ⟨g7,5,none⟩ = some (.string r.id) := cL H7 5 rfl
 have y6 : W13.cell? ⟨g7,6,none⟩ = some (.string { data := #[] }) := cL H7 6 rfl
 refine skip_ (w1 := ?_) (by rfl) rfl ?_ ?_
 rotate_left
 ·go_simp
  rfl
 clear f6
 clear y0 y1 y2 y3 y4 y5 y6
 obtain ⟨W14,hW_⟩ : ∃ W_,W_ = (W13.setCell ⟨g7,6,none⟩ (.string r.v)) := ⟨_,rfl⟩
 rw [← hW_]
 have q_ := (blk_far HX.out (p := ⟨g7,6,none⟩) HN3.out.symm (.string r.v))
 rw [← hW_] at q_
 replace HX := Aside0.mk q_
 clear q_
 have q_ := (blk_far HT.out (p := ⟨g7,6,none⟩) (tne HT.out H7.out (by decide)) (.string r.v))
 rw [← hW_] at q_
 replace HT := Aside0.mk q_
 clear q_
 have q_ := (blk_far HZ.out (p := ⟨g7,6,none⟩) HN4.out (.string r.v))
 rw [← hW_] at q_
 replace HZ := Aside0.mk q_
 clear q_
 have q_ : W14.heap[g7]? = some (.cells #[.int .u64 r.lsn,.int .u32 r.ep,.int .i64 r.kd,.int .u64 r.ver,.int .u64 r.dl,.string r.id,.string r.v] 188 (0,0)) := by rw [hW_]; exact (blk_set H7.out 6 (.string r.v))
 replace H7 := Aside0.mk q_
 clear q_
 have q_ : Below w.heap.size w W14 := by rw [hW_]; exact (below_set HB.out HG7.out)
 replace HB := Aside0.mk q_
 clear q_
 clear hW_
 refine hK.out _ _ ?_
 clear hK K
 refine dn_ HT_ ?_
 clear HT_ HW_ hHeld
 have HG2 : Aside0 (w.heap.size ≤ g2) := ⟨by have := hg2.out; omega⟩
 go_wp2_with (refine lr_ 7 H7.out Tryz.underlying188 ?_)
 refine (HR.out _ HB.out).mono ?_
 rintro e_ W15 ⟨hq0,hb⟩
 replace H7 := mb H7 hb
 replace HZ := mb HZ hb
 replace HB := mS HB hb
 clear hb HX HT
 rcases hq0 with ⟨rfl,h1⟩ | ⟨rfl,h1⟩
 ·have H1 := Aside0.mk h1
  clear h1
  rcases hq : (t.toList == s.toList) with _ | _
  ·go_wp2_with (first | (refine lr_ 7 H7.out Tryz.underlying188 ?_) | (refine sr_ 2 61 #[.int .u64 r.lsn,.int .u32 r.ep,.int .i64 r.kd,.int .u64 r.ver,.int .u64 r.dl,.string r.id,.string r.v] HZ.out ?_) | (refine sr_ 2 60 #[.int .u64 0,.int .u32 0,.int .i64 0,.int .u64 0,.int .u64 0,.string { data := #[] },.string { data := #[] }] HZ.out ?_))
   refine bodyPost_ret (results_ct rfl _ _ g2 188 #[.int .u64 0,.int .u32 0,.int .i64 0,.int .u64 0,.int .u64 0,.string { data := #[] },.string { data := #[] }] (0,0) _ rfl (setRow_heap _ _ _ _ _ _ HZ.out) Tryz.underlying188 rfl (by kernel_rfl)) rfl ?_
   exact ⟨.inr ⟨rfl,HO.out.1 H1.out hq⟩,below_setRow HB.out HG2.out _⟩
  ·go_wp2_with (first | (refine lr_ 7 H7.out Tryz.underlying188 ?_) | (refine sr_ 2 61 #[.int .u64 r.lsn,.int .u32 r.ep,.int .i64 r.kd,.int .u64 r.ver,.int .u64 r.dl,.string r.id,.string r.v] HZ.out ?_) | (refine sr_ 2 60 #[.int .u64 0,.int .u32 0,.int .i64 0,.int .u64 0,.int .u64 0,.string { data := #[] },.string { data := #[] }] HZ.out ?_))
   refine bodyPost_ret (results_ct rfl _ _ g2 188 #[.int .u64 r.lsn,.int .u32 r.ep,.int .i64 r.kd,.int .u64 r.ver,.int .u64 r.dl,.string r.id,.string r.v] (0,0) _ rfl (setRow_heap _ _ _ _ _ _ HZ.out) Tryz.underlying188 rfl (by kernel_rfl)) rfl ?_
   exact ⟨.inl ⟨rfl,HP.out H1.out hq⟩,below_setRow HB.out HG2.out _⟩
 ·have H1 := Aside0.mk h1
  clear h1
  go_wp2_with (first | (refine lr_ 7 H7.out Tryz.underlying188 ?_) | (refine sr_ 2 61 #[.int .u64 r.lsn,.int .u32 r.ep,.int .i64 r.kd,.int .u64 r.ver,.int .u64 r.dl,.string r.id,.string r.v] HZ.out ?_) | (refine sr_ 2 60 #[.int .u64 0,.int .u32 0,.int .i64 0,.int .u64 0,.int .u64 0,.string { data := #[] },.string { data := #[] }] HZ.out ?_))
  refine bodyPost_ret (results_ct rfl _ _ g2 188 #[.int .u64 0,.int .u32 0,.int .i64 0,.int .u64 0,.int .u64 0,.string { data := #[] },.string { data := #[] }] (0,0) _ rfl (setRow_heap _ _ _ _ _ _ HZ.out) Tryz.underlying188 rfl (by kernel_rfl)) rfl ?_
  exact ⟨.inr ⟨rfl,HO.out.2 H1.out⟩,below_setRow HB.out HG2.out _⟩
end Go.Proofs.YtokfjbbjkiilmaaGreatDoor.H
namespace Go.Proofs.YtokfjbbjkiilmaaGreatDoor.H
open Go.RowKit Go.Proofs.YtokfjbbjkiilmaaGreatDoorW.PrintWords Go.Proofs.YtokfjbbjkiilmaaGreatDoorW.PrintLast Go.Proofs.YtokfjbbjkiilmaaGreatDoorW.PrintMore
set_option maxHeartbeats 8000000
set_option maxRecDepth 100000
attribute [local go_sem] max2_int min2_int min_two max_two
theorem decRec_bounds (s : ByteArray) : (0 ≤ (decRec s).lsn ∧ (decRec s).lsn < 18446744073709551616) ∧ (0 ≤ (decRec s).ep ∧ (decRec s).ep < 4294967296) ∧ (0 ≤ (decRec s).ver ∧ (decRec s).ver < 18446744073709551616) ∧ (0 ≤ (decRec s).dl ∧ (decRec s).dl < 18446744073709551616) ∧ (decRec s).id.size ≤ 1000 ∧ (decRec s).v.size ≤ 1000 := by
 have h3 := acc_tk (dr (dr (dr s 8) 4) 1) 1 (by decide)
 have h4 := acc_tk (dr (dr (dr (dr s 8) 4) 1) 1) 1 (by decide)
 refine ⟨acc_tk _ 8 (by decide),acc_tk _ 4 (by decide),acc_tk _ 8 (by decide),acc_tk _ 8 (by decide),Nat.le_trans (tk_size _ _) (by omega),Nat.le_trans (tk_size _ _) (by omega)⟩
theorem beq_bytes {a b : ByteArray} (h : (a.toList == b.toList) = true) : a = b := by
 rw [← beq_toListBytes] at h
 exact (Go.MapKept.bytes_beq a b).1 h
/-- A record that lives, and its sector. -/
def lrec (lsn ep ver dl : Int) (v : ByteArray) : Rec := ⟨lsn,ep,1,ver,dl,idA,v⟩
structure lok (lsn ep ver dl : Int) (v : ByteArray) : Prop where
 lsn : 0 < lsn ∧ lsn < 18446744073709551616
 ep : 0 ≤ ep ∧ ep < 4294967296
 ver : 0 ≤ ver ∧ ver < 18446744073709551616
 dl : 0 ≤ dl ∧ dl < 18446744073709551616
 len : v.size ≤ 64
theorem lok.ok {lsn ep ver dl : Int} {v : ByteArray} (h : lok lsn ep ver dl v) : (lrec lsn ep ver dl v).ok := ⟨⟨by have := h.lsn; simp only [lrec]; omega,h.lsn.2⟩,h.ep,⟨by simp [lrec],by simp [lrec]⟩,h.ver,h.dl,by have := h.len; show 1 + v.size ≤ 81; omega⟩
theorem enclive_calls (lsn ep ver dl : Int) (v : ByteArray) (w : World) (h : lok lsn ep ver dl v) : Calls Tryz.prog 207 #[.agg #[.int .u64 lsn,.int .u32 ep,.int .i64 1,.int .u64 ver,.int .u64 dl,.string idA,.string v]] w fun e w' => (e = .returned (.tuple #[.string (lrec lsn ep ver dl v).enc,.int .i64 0]) ∧ True ∨ e = .returned (.tuple #[.string { data := #[] },.int .i64 5]) ∧ False) ∧ Below w.heap.size w w' :=
 enc_calls (lrec lsn ep ver dl v) True False w (fun _ => h.ok) fun W _ => (rightlive_calls lsn ep ver dl v W (by have := h.lsn; omega) h.len).mono fun e w' q => .inr ⟨q.1,q.2,trivial⟩
theorem declive_calls (lsn ep ver dl : Int) (v : ByteArray) (w : World) (h : lok lsn ep ver dl v) : Calls Tryz.prog 167 #[.string (lrec lsn ep ver dl v).enc] w fun e w' => e = .returned (.tuple #[.agg #[.int .u64 lsn,.int .u32 ep,.int .i64 1,.int .u64 ver,.int .u64 dl,.string idA,.string v],.int .i64 0]) ∧ Below w.heap.size w w' :=
 (dec_calls (lrec lsn ep ver dl v).enc (lrec lsn ep ver dl v).enc (lrec lsn ep ver dl v) True False True False w (decRec_enc _ h.ok).symm (Rec.enc_size _ h.ok.len) (fun W _ => enclive_calls lsn ep ver dl v W h) (fun _ _ => trivial) ⟨fun _ q => by simp at q,id⟩).mono fun e w' q => ⟨q.1.elim (fun z => z.1) (fun z => z.2.elim),q.2⟩
/-- Of any sector: nothing, or a record of which this is the sector. -/
theorem decany_calls (s : ByteArray) (w : World) (hs : s.size = 128) (r : Rec) (hr : r = decRec s) : Calls Tryz.prog 167 #[.string s] w fun e w' => (e = .returned (.tuple #[.agg #[.int .u64 r.lsn,.int .u32 r.ep,.int .i64 r.kd,.int .u64 r.ver,.int .u64 r.dl,.string r.id,.string r.v],.int .i64 0]) ∧ (s = r.enc ∧ r.ok) ∨ e = .returned (.tuple #[.agg #[.int .u64 0,.int .u32 0,.int .i64 0,.int .u64 0,.int .u64 0,.string { data := #[] },.string { data := #[] }],.int .i64 5]) ∧ True) ∧ Below w.heap.size w w' := by
 have hb := decRec_bounds s
 rw [← hr] at hb
 have hok : r.may → r.ok := fun h => ⟨hb.1,hb.2.1,by have := h.1; omega,hb.2.2.1,hb.2.2.2.1,by have := h.2; omega⟩
 exact dec_calls s r.enc r r.may True (s = r.enc ∧ r.ok) True w hr hs (fun W _ => enc_calls r r.may True W hok fun W2 _ => (rightany_calls r W2 hb.2.2.2.2).mono fun e w' q => q.elim (fun z => .inl ⟨z.1,z.2,trivial⟩) (fun z => .inr ⟨z.1,z.2.1,z.2.2⟩)) (fun h q => ⟨(beq_bytes q).symm,hok h⟩) ⟨fun _ _ => trivial,id⟩
theorem ep_not (s : ByteArray) (r : Rec) (h0 : sb s 124 = 0) (h : s = r.enc ∧ r.ok) : r.ep ≠ 1 := fun e => by
 have h1 := enc_tail r h.2.len 0 (by decide)
 rw [← h.1] at h1
 have h2 : sb s 124 = byt r.ep 0 := h1
 rw [h0,e] at h2
 exact absurd h2 (by decide)
theorem next_no (s : ByteArray) (lsn : Int) (w : World) (hs : s.size = 128) (h0 : sb s 124 = 0) :
 Calls Tryz.prog 304 #[.string s,.int .u64 lsn,.int .u32 1] w fun e w' => e = .returned (.tuple #[.agg #[.int .u64 0,.int .u32 0,.int .i64 0,.int .u64 0,.int .u64 0,.string { data := #[] },.string { data := #[] }],.bool false]) ∧ Below w.heap.size w w' := by
 have H0 := Aside0.mk h0
 have HS := Aside0.mk hs
 clear h0 hs
 obtain ⟨r,hr⟩ : ∃ r,r = decRec s := ⟨_,rfl⟩
 have HRR := Aside0.mk hr
 clear hr
 go_enter Tryz.func304,Tryz.ntmps304
 go_upto_region 1 with fail
 obtain ⟨W1,g6,hW_,hg6,HX,hb_⟩ := new1 w #[.int .u64 0,.int .u32 0,.int .i64 0,.int .u64 0,.int .u64 0,.string { data := #[] },.string { data := #[] }] 188
 rw [← hW_,← hg6.out]
 have HB := Aside0.mk hb_
 clear hW_ hb_
 have HG6 : Aside0 (w.heap.size ≤ g6) := ⟨by have := hg6.out; omega⟩
 go_wp2_with fail
 refine (decany_calls s _ HS.out r HRR.out).mono ?_
 rintro e_ W2 ⟨(⟨rfl,hp⟩ | ⟨rfl,hn⟩),hb⟩
 ·have HP := Aside0.mk hp
  have hne := ep_not s r H0.out hp
  clear hp
  replace HX := mB HX hb
  replace HB := mS HB hb
  clear hb
  go_upto_region 2 with fail
  obtain ⟨W3,g8,hW_,hg8,HY,hb_⟩ := new1 W2 #[.int .u64 r.lsn,.int .u32 r.ep,.int .i64 r.kd,.int .u64 r.ver,.int .u64 r.dl,.string r.id,.string r.v] 188
  rw [← hW_,← hg8.out]
  replace HX := mb HX hb_
  replace HB := Aside0.mk (below_step (HB.out) hb_)
  clear hW_ hb_
  have y0 : W3.cell? ⟨g8,0,none⟩ = some (.int .u64 r.lsn) := cL HY 0 rfl
  have y1 : W3.cell? ⟨g8,1,none⟩ = some (.int .u32 r.ep) := cL HY 1 rfl
  have y2 : W3.cell? ⟨g8,2,none⟩ = some (.int .i64 r.kd) := cL HY 2 rfl
  have y3 : W3.cell? ⟨g8,3,none⟩ = some (.int .u64 r.ver) := cL HY 3 rfl
  have y4 : W3.cell? ⟨g8,4,none⟩ = some (.int .u64 r.dl) := cL HY 4 rfl
  have y5 : W3.cell? ⟨g8,5,none⟩ = some (.string r.id) := cL HY 5 rfl
  have y6 : W3.cell? ⟨g8,6,none⟩ = some (.string r.v) := cL HY 6 rfl
  have e1 : (r.ep == 1) = false := by simp [hne]
  have e2 : (r.ep != 1) = true := by simp [hne]
  have e3 : (r.ep = 1) = False := eq_false hne
  go_wp2_with (first | (refine lr_ 8 HY.out Tryz.underlying188 ?_) | (refine sr_ 6 34 #[.int .u64 0,.int .u32 0,.int .i64 0,.int .u64 0,.int .u64 0,.string { data := #[] },.string { data := #[] }] HX.out ?_))
  all_goals (refine bodyPost_ret (results_ct rfl _ _ g6 188 #[.int .u64 0,.int .u32 0,.int .i64 0,.int .u64 0,.int .u64 0,.string { data := #[] },.string { data := #[] }] (0,0) _ rfl (setRow_heap _ _ _ _ _ _ HX.out) Tryz.underlying188 rfl (by kernel_rfl)) rfl ?_; exact ⟨rfl,below_setRow HB.out HG6.out _⟩)
 ·replace HX := mB HX hb
  replace HB := mS HB hb
  clear hb
  go_upto_region 2 with fail
  obtain ⟨W3,g8,hW_,hg8,HY,hb_⟩ := new1 W2 #[.int .u64 0,.int .u32 0,.int .i64 0,.int .u64 0,.int .u64 0,.string { data := #[] },.string { data := #[] }] 188
  rw [← hW_,← hg8.out]
  replace HX := mb HX hb_
  replace HB := Aside0.mk (below_step (HB.out) hb_)
  clear hW_ hb_
  have y0 : W3.cell? ⟨g8,0,none⟩ = some (.int .u64 0) := cL HY 0 rfl
  have y1 : W3.cell? ⟨g8,1,none⟩ = some (.int .u32 0) := cL HY 1 rfl
  have y2 : W3.cell? ⟨g8,2,none⟩ = some (.int .i64 0) := cL HY 2 rfl
  have y3 : W3.cell? ⟨g8,3,none⟩ = some (.int .u64 0) := cL HY 3 rfl
  have y4 : W3.cell? ⟨g8,4,none⟩ = some (.int .u64 0) := cL HY 4 rfl
  have y5 : W3.cell? ⟨g8,5,none⟩ = some (.string { data := #[] }) := cL HY 5 rfl
  have y6 : W3.cell? ⟨g8,6,none⟩ = some (.string { data := #[] }) := cL HY 6 rfl
  go_wp2_with (first | (refine lr_ 8 HY.out Tryz.underlying188 ?_) | (refine sr_ 6 34 #[.int .u64 0,.int .u32 0,.int .i64 0,.int .u64 0,.int .u64 0,.string { data := #[] },.string { data := #[] }] HX.out ?_))
  all_goals (refine bodyPost_ret (results_ct rfl _ _ g6 188 #[.int .u64 0,.int .u32 0,.int .i64 0,.int .u64 0,.int .u64 0,.string { data := #[] },.string { data := #[] }] (0,0) _ rfl (setRow_heap _ _ _ _ _ _ HX.out) Tryz.underlying188 rfl (by kernel_rfl)) rfl ?_; exact ⟨rfl,below_setRow HB.out HG6.out _⟩)
theorem next_live (lsn ep ver dl : Int) (v : ByteArray) (w : World) (h : lok lsn ep ver dl v) :
 Calls Tryz.prog 304 #[.string (lrec lsn ep ver dl v).enc,.int .u64 lsn,.int .u32 ep] w fun e w' => e = .returned (.tuple #[.agg #[.int .u64 lsn,.int .u32 ep,.int .i64 1,.int .u64 ver,.int .u64 dl,.string idA,.string v],.bool true]) ∧ Below w.heap.size w w' := by
 have HL := Aside0.mk h
 have hl1 : (lsn = 0) = False := eq_false (by have := h.lsn; omega)
 have hl2 : (lsn == 0) = false := by have := h.lsn; simp; omega
 clear h
 obtain ⟨s,hs⟩ : ∃ s,s = (lrec lsn ep ver dl v).enc := ⟨_,rfl⟩
 rw [← hs]
 have HD : Aside0 (∀ W,Calls Tryz.prog 167 #[.string s] W fun e w' => e = .returned (.tuple #[.agg #[.int .u64 lsn,.int .u32 ep,.int .i64 1,.int .u64 ver,.int .u64 dl,.string idA,.string v],.int .i64 0]) ∧ Below W.heap.size W w') := ⟨fun W => by rw [hs]; exact declive_calls lsn ep ver dl v W HL.out⟩
 clear hs
 go_enter Tryz.func304,Tryz.ntmps304
 go_upto_region 1 with fail
 obtain ⟨W1,g6,hW_,hg6,HX,hb_⟩ := new1 w #[.int .u64 0,.int .u32 0,.int .i64 0,.int .u64 0,.int .u64 0,.string { data := #[] },.string { data := #[] }] 188
 rw [← hW_,← hg6.out]
 have HB := Aside0.mk hb_
 clear hW_ hb_
 have HG6 : Aside0 (w.heap.size ≤ g6) := ⟨by have := hg6.out; omega⟩
 go_wp2_with fail
 refine (HD.out _).mono ?_
 rintro e_ W2 ⟨rfl,hb⟩
 replace HX := mB HX hb
 replace HB := mS HB hb
 clear hb
 go_upto_region 2 with fail
 obtain ⟨W3,g8,hW_,hg8,HY,hb_⟩ := new1 W2 #[.int .u64 lsn,.int .u32 ep,.int .i64 1,.int .u64 ver,.int .u64 dl,.string idA,.string v] 188
 rw [← hW_,← hg8.out]
 replace HX := mb HX hb_
 replace HB := Aside0.mk (below_step (HB.out) hb_)
 clear hW_ hb_
 have y0 : W3.cell? ⟨g8,0,none⟩ = some (.int .u64 lsn) := cL HY 0 rfl
 have y1 : W3.cell? ⟨g8,1,none⟩ = some (.int .u32 ep) := cL HY 1 rfl
 have y2 : W3.cell? ⟨g8,2,none⟩ = some (.int .i64 1) := cL HY 2 rfl
 have y3 : W3.cell? ⟨g8,3,none⟩ = some (.int .u64 ver) := cL HY 3 rfl
 have y4 : W3.cell? ⟨g8,4,none⟩ = some (.int .u64 dl) := cL HY 4 rfl
 have y5 : W3.cell? ⟨g8,5,none⟩ = some (.string idA) := cL HY 5 rfl
 have y6 : W3.cell? ⟨g8,6,none⟩ = some (.string v) := cL HY 6 rfl
 go_wp2_with (first | (refine lr_ 8 HY.out Tryz.underlying188 ?_) | (refine sr_ 6 35 #[.int .u64 lsn,.int .u32 ep,.int .i64 1,.int .u64 ver,.int .u64 dl,.string idA,.string v] HX.out ?_))
 refine bodyPost_ret (results_ct rfl _ _ g6 188 #[.int .u64 lsn,.int .u32 ep,.int .i64 1,.int .u64 ver,.int .u64 dl,.string idA,.string v] (0,0) _ rfl (setRow_heap _ _ _ _ _ _ HX.out) Tryz.underlying188 rfl (by kernel_rfl)) rfl ?_
 exact ⟨rfl,below_setRow HB.out HG6.out _⟩
end Go.Proofs.YtokfjbbjkiilmaaGreatDoor.H
namespace Go.Proofs.YtokfjbbjkiilmaaGreatDoor.Rf
open Go Go.RowKit
/-- Left as ever, and in no other way. -/
def QN (K : Act → World → Prop) : Exit → Act → World → Prop
 | .normal,a,w => K a w
 | _,_,_ => False
theorem no_out {K : Act → World → Prop} : ¬ LetsOut (QN K) := fun ⟨_,_,h⟩ => h
def noDefer (o : Oper) : Bool := match o.op with
 | .defer _ => false
 | _ => true
theorem noDefer_is {o : Oper} (h : noDefer o = true) : ∀ c,o.op ≠ .defer c := fun c e => by
 unfold noDefer at h
 rw [e] at h
 cases h
section
variable {P : Program} {l n : Nat} {K0 : Act → World → Prop} {Q : Exit → Act → World → Prop}
theorem upon_in {o : Oper} {a : Act} {K : Act → World → Prop} (r : Result Next) (h : o.upon P a K (QN K0) r) : o.uponIn (Fence.wide.inRound l) n P a K Q r := by
 cases r with
 | ok x w' =>
  cases x with
  | value v => exact h
  | skip => exact h
  | defer d => exact h
  | enter f args =>
   refine ⟨fun hd => (by cases hd),CallsIn.inRound l (callsIn_wide.2 (Calls.mono h fun e w'' he => ?_))⟩
   cases e with
   | returned v => exact he
   | panicked c => exact False.elim he
   | outgrown => exact (no_out he).elim
  | row row args =>
   refine ⟨fun hd => (by cases hd),fun c cs _ => ?_⟩
   obtain ⟨v,w2,hr,hs⟩ := h c cs
   exact ⟨v,w2,hr,stepsIn_wide.2 hs⟩
  | _ => exact False.elim h
 | halt x w' =>
  cases x with
  | panic v => exact False.elim h
  | _ => exact False.elim h
theorem wp_in {o : Oper} {a : Act} {w : World} {K : Act → World → Prop} (hd : noDefer o = true) (h : o.wp P a w K (QN K0)) : o.wpIn (Fence.wide.inRound l) n P a w K Q := by
 refine ⟨fun _ _ => trivial,?_⟩
 rw [Oper.semAt_eq _ _ _ (noDefer_is hd)]
 exact upon_in _ h
theorem list_in {ops : Array Oper} : ∀ (os : List Oper) (a : Act) (w : World),os.all noDefer = true → wpList P ops (QN K0) os a w → wpListIn (Fence.wide.inRound l) n P ops (Exit.then K0 Q) os a w
 | [],_,_,_,h => h
 | o :: rest,a,w,hd,h => by
  simp only [List.all_cons,Bool.and_eq_true] at hd
  unfold wpListIn
  unfold wpList at h
  by_cases hw : Region.wanted o (yielded ops a.tmps) = true
  ·rw [if_pos hw] at h ⊢
   rcases h with h | h
   ·exact wp_in hd.1 (Oper.wp_mono (fun a' w' h' => list_in rest a' w' hd.2 h') h)
   ·exact (no_out h.2).elim
  ·rw [if_neg hw] at h ⊢
   exact ⟨fun _ _ => trivial,list_in rest _ _ hd.2 h⟩
end
section
open Go.Proofs.YtokfjbbjkiilmaaGreatDoorW.PrintLast
variable {P : Program} {l0 nn : Nat} {K : Act → World → Prop} {Q : Exit → Act → World → Prop}
/-- A region that draws no order, in a round. -/
theorem region_in {id : Nat} {os : List Oper} {a : Act} {w : World} (hd : os.all noDefer = true) (h : wpList P os.toArray (QN K) os a w) : (Code.region id os.toArray false).wpIn (Fence.wide.inRound l0) nn P (Exit.then K Q) a w :=
 wpIn_region_lit (list_in os a w hd h)
end
end Go.Proofs.YtokfjbbjkiilmaaGreatDoor.Rf
namespace Go.Proofs.YtokfjbbjkiilmaaGreatDoor.H
open Go.RowKit Go.Proofs.YtokfjbbjkiilmaaGreatDoorW.PrintWords Go.Proofs.YtokfjbbjkiilmaaGreatDoorW.PrintLast Go.Proofs.YtokfjbbjkiilmaaGreatDoorW.PrintMore
set_option maxHeartbeats 8000000
set_option maxRecDepth 100000
attribute [local go_sem] max2_int min2_int min_two max_two
theorem put_far {w : World} {a b : Nat} {o q : Obj} (h : w.heap[a]? = some q) (hn : a ≠ b) : (w.putObj b o).heap[a]? = some q := by
 unfold World.putObj
 show (w.heap.setIfInBounds b o)[a]? = _
 rw [Array.getElem?_setIfInBounds_ne (Ne.symm hn),h]
theorem back0_stops (n : Nat) (w0 : World) (Bt : Nat) (hbx : w0.heap[Bt]? = some (.cells #[.slice none 0 0] 106 (0,0))) :
 SeqStopsK Fence.wide n Tryz.prog 232 #[.pointer (some ⟨Bt,0,none⟩)] (fun x : Empty => (x.elim : Array Value)) (Below w0.heap.size) (fun _ => True) (fun _ => True) 0 w0 := by
 intro l J Jx W hW _ _ _ h0
 have z0 : W.cell? ⟨Bt,0,none⟩ = some (.slice none 0 0) := (hW.cell (p := ⟨Bt,0,none⟩) (blk_lt hbx)).trans ((blk_cell hbx 0).trans rfl)
 have H0 := Aside0.mk h0
 clear hW hbx h0
 refine callsIn_of_wp Tryz.func232 rfl trivial ?_ rfl
 simp only [Tryz.ntmps232,List.size_toArray,List.length_cons,List.length_nil,Nat.reduceAdd,Nat.reduceSub,Array.replicate_succ,Array.replicate_zero,List.push_toArray,List.append_toArray,List.nil_append,List.cons_append]
 gi_wp2
 gi_loopw [3] (fun i wr => i = .int .i64 (-1) ∧ Aside0 (J [] wr)) (fun i _ => 1)
 case atStart => exact ⟨rfl,H0⟩
 case round =>
  obtain ⟨rfl,HJ⟩ := hrel
  gi_wp2
  go_end0
  exact ⟨⟨_,rfl⟩,.inl ⟨[],trivial,HJ.out⟩⟩
theorem back_calls (w : World) :
 Calls Tryz.prog 202 #[.slice none 0 0] w fun e w' => e = .returned (.func (.func 232) #[] #[.pointer (some ⟨w.heap.size,0,none⟩)]) ∧ w' = w.alloc (.cells #[.slice none 0 0] 106) := by
 go_enter Tryz.func202,Tryz.ntmps202
 go_wp2
 go_ret
 exact ⟨rfl,rfl⟩
theorem dread_calls (d m : Nat) (left i : Int) (s : ByteArray) (w : World) (hd : w.heap[d]? = some (.cells (dkc left m (.slice none 0 0)) 108 (0,0))) (hi : 0 ≤ i ∧ i < 14) (hH : ∀ W,Below w.heap.size w W → Calls Tryz.prog 203 #[.pointer (some ⟨d,0,none⟩),.int .i64 i] W fun e w' => e = .returned (.string s) ∧ Below W.heap.size W w') :
 Calls Tryz.prog 165 #[.pointer (some ⟨d,0,none⟩),.int .i64 i] w fun e w' => e = .returned (.tuple #[.string s,.int .i64 0]) ∧ Below w.heap.size w w' := by
 have HX := Aside0.mk hd
 have HI := Aside0.mk hi
 have HH := Aside0.mk hH
 clear hd hi hH
 refine (callsIn_wide (n := 5)).1 ?_
 refine callsIn_of_wp_marks Tryz.func165 rfl trivial ?_ rfl
 simp only [Tryz.ntmps165,List.size_toArray,List.length_cons,List.length_nil,Nat.reduceAdd,Nat.reduceSub,Array.replicate_succ,Array.replicate_zero,List.push_toArray,List.append_toArray,List.nil_append,List.cons_append]
 gi_wp2
 obtain ⟨W1,g3,g4,g5,hW_,hg3,hg4,hg5,H3,H4,H5,hb_⟩ := new3 w #[.int .i64 i] 3 #[.string { data := #[] }] 9 #[.int .i64 0] 39
 rw [← hW_,← hg5.out,← hg4.out,← hg3.out]
 replace HX := mb HX hb_
 have HB := Aside0.mk hb_
 clear hW_ hb_
 refine ⟨trivial,callsIn_wide.2 ((dhas_calls d m left (.slice none 0 0) i _ HX.out HI.out).mono ?_)⟩
 rintro e_ w2 ⟨rfl,rfl⟩
 have z0 : w2.cell? ⟨d,0,none⟩ = some (.bool false) := cL HX 0 rfl
 have z1 : w2.cell? ⟨d,1,none⟩ = some (.int .i64 left) := cL HX 1 rfl
 have z2 : w2.cell? ⟨d,2,none⟩ = some (.int .i64 14) := cL HX 2 rfl
 have z3 : w2.cell? ⟨d,3,none⟩ = some (.map (some m)) := cL HX 3 rfl
 have z4 : w2.cell? ⟨d,4,none⟩ = some (.slice none 0 0) := cL HX 4 rfl
 gi_wp2
 refine ⟨trivial,callsIn_wide.2 ((back_calls _).mono ?_)⟩
 rintro e_ w3 ⟨rfl,hw3⟩
 obtain ⟨gb,hgb⟩ : ∃ g_,g_ = w2.heap.size := ⟨_,rfl⟩
 rw [← hgb]
 have HBX : Aside0 (w3.heap[gb]? = some (.cells #[.slice none 0 0] 106 (0,0))) := ⟨by rw [hw3,hgb]; exact blk_new _ _⟩
 have hb3 : Below w2.heap.size w2 w3 := by rw [hw3]; exact below_alloc (Below.refl _ _) _
 clear hw3 hgb z0 z1 z2 z3 z4
 replace HX := mb HX hb3
 replace H3 := mb H3 hb3
 replace H4 := mb H4 hb3
 replace H5 := mb H5 hb3
 replace HB := mS HB hb3
 clear hb3
 gi_wp2
 refine wpIn_rangeFunc_ownF rfl (by decide) (gf := 232) (lb := #[.pointer (some ⟨gb,0,none⟩)]) rfl trivial (enters_of Tryz.func232 (by kernel_rfl) rfl) (back0_stops _ w3 gb HBX.out) belowK_t (belowK_b (Nat.le_refl _)) (Below.refl _ _) (fun x => x.elim) (fun _ W => Below w3.heap.size w3 W) (fun _ _ _ => False) (ownFrom_below (Nat.le_refl _) (Nat.le_refl _)) (fun _ _ _ _ _ hs _ _ => hs) (Below.refl _ _) (fun x => x.elim) (fun _ x => x.elim) (fun _ _ x => x.elim) ?done (fun _ _ _ _ _ _ h _ => h.elim)
 have HB0 := HB
 case done =>
  rintro D ys W hD - hB hK
  have HK := Aside0.mk hK
  have HD := Aside0.mk hD
  replace HX := mb HX hB
  replace H3 := mb H3 hB
  replace H4 := mb H4 hB
  replace H5 := mb H5 hB
  replace HB := mS HB hB
  clear hB hK hD
  have z3 : W.cell? ⟨g3,0,none⟩ = some (.int .i64 i) := cL H3 0 rfl
  gi_wp2
  refine ⟨trivial,callsIn_wide.2 ((HH.out W HB.out).mono ?_)⟩
  rintro e_ w4 ⟨rfl,hb⟩
  replace H4 := mb H4 hb
  replace H5 := mb H5 hb
  replace HB := mS HB hb
  replace HK := mb HK hb
  have N45 : Aside0 (g4 ≠ g5) := ⟨tne H4.out H5.out (by decide)⟩
  clear hb z3
  have z4 : w4.cell? ⟨g4,0,none⟩ = some (.string { data := #[] }) := cL H4 0 rfl
  have z5 : w4.cell? ⟨g5,0,none⟩ = some (.int .i64 0) := cL H5 0 rfl
  have f4 := blk_frozen H4.out 0
  have f5 := blk_frozen H5.out 0
  have n1_ := N45.out
  have n2_ := N45.out.symm
  gi_wp2
  rw [setCell_eq_setRow w4 g4 0 _ _ _ _ H4.out,setCell_eq_setRow _ g5 0 _ _ _ _ (mR _ H5.out N45.out.symm)]
  have N4D : Aside0 (g4 ≠ D) := ⟨fun e_ => by have a_ := HK.out; have b_ := H4.out; rw [e_,a_] at b_; cases b_⟩
  have N5D : Aside0 (g5 ≠ D) := ⟨fun e_ => by have a_ := HK.out; have b_ := H5.out; rw [e_,a_] at b_; cases b_⟩
  have HKF := mR #[.int .i64 0] (mR #[.string s] HK.out N4D.out.symm) N5D.out.symm
  have H4F : ((w4.setRow g4 #[.string s]).setRow g5 #[.int .i64 0]).heap[g4]? = some (.cells #[.string s] 9 (0,0)) := mR _ (setRow_heap _ _ _ _ _ _ H4.out) N45.out
  have H5F : ((w4.setRow g4 #[.string s]).setRow g5 #[.int .i64 0]).heap[g5]? = some (.cells #[.int .i64 0] 39 (0,0)) := setRow_heap _ _ _ _ _ _ (mR _ H5.out N45.out.symm)
  have HBF : Below w.heap.size w ((w4.setRow g4 #[.string s]).setRow g5 #[.int .i64 0]) := below_setRow (below_setRow HB.out (by have := hg4.out; omega) _) (by have := hg5.out; omega) _
  show (bodyPostM Fence.wide 5 Tryz.prog Tryz.f165 _ _ _ ((w4.setRow g4 #[.string s]).setRow g5 #[.int .i64 0]))
  generalize (w4.setRow g4 #[.string s]).setRow g5 #[.int .i64 0] = W9 at *
  refine ⟨by simp,.inl ⟨_,_,rfl,run_takeDeferred HKF,?_⟩⟩
  have c4 : (W9.putObj D (.deferred none)).cell? ⟨g4,0,none⟩ = some (.string s) := (blk_cell (put_far H4F N4D.out) 0).trans rfl
  have c5 : (W9.putObj D (.deferred none)).cell? ⟨g5,0,none⟩ = some (.int .i64 0) := (blk_cell (put_far H5F N5D.out) 0).trans rfl
  refine ⟨.tuple #[.string s,.int .i64 0],?_,rfl,?_⟩
  ·simp [results,Tryz.results165,asAddr,go_sem,c4,c5]
  ·exact HBF.trans (belowK_b (w := w) (Nat.le_refl _) W9 D _ _ (Nat.le_trans (below_size HB0.out) HD.out) HKF rfl rfl)
end Go.Proofs.YtokfjbbjkiilmaaGreatDoor.H
namespace Go.Proofs.YtokfjbbjkiilmaaGreatDoor.H
open Go.RowKit Go.Proofs.YtokfjbbjkiilmaaGreatDoorW.PrintWords Go.Proofs.YtokfjbbjkiilmaaGreatDoorW.PrintLast Go.Proofs.YtokfjbbjkiilmaaGreatDoorW.PrintMore
theorem copy_str (x : ByteArray) (W : World) (g o l c : Nat) (hx : x.size ≤ l) (hc : ∀ j,j < x.size → (W.cell? ⟨g,o + j,none⟩).isSome = true) (hf : ∀ j,j < x.size → W.frozen? ⟨g,o + j,none⟩ = false) :
 (Builtin.copy_ #[320,9] 3 #[.slice (some ⟨g,o,none⟩) l c,.string x]).run Tryz.prog W = .ok (.int .i64 (x.size : Nat)) (W.setCells g o (Lib.byteCells x.data.toList)) := by
 have hi : (Tryz.prog.info? 5).map (·.size) = some 1 := by kernel_rfl
 have hl : (Lib.byteCells x.data.toList).length = x.size := by rw [Lib.byteCells_length,ba_len]
 have hst := run_storeCells_cells (P := Tryz.prog) g o (Lib.byteCells x.data.toList) 0 W (by rw [hl]; simpa using hc) (by rw [hl]; simpa using hf) (Lib.byteCells_one _)
 rw [Nat.add_zero] at hst
 cases hq : Tryz.prog.info? 5 with
 | none => simp [hq] at hi
 | some i =>
  have hs : i.size = 1 := by simpa [hq] using hi
  have e1 : List.take x.size (List.map (fun b : UInt8 => Value.int IntKind.u8 (b.toNat : Int)) x.data.toList) = Lib.byteCells x.data.toList := by
   have e0 : List.map (fun b : UInt8 => Value.int IntKind.u8 (b.toNat : Int)) x.data.toList = Lib.byteCells x.data.toList := rfl
   rw [e0,List.take_of_length_le (by rw [hl]; exact Nat.le_refl _)]
  have e2 : Nat.min x.size l = x.size := Nat.min_eq_left hx
  simp [Builtin.copy_,run_underlying Tryz.underlying320,Builtin.lenOf,Builtin.firstCells,sizeOf,typeInfo,hq,hs,e2]
  rw [e1,hst]
  rfl
theorem below_setB {B : Nat} {w0 w : World} {g j : Nat} {v : Value} (h : Below B w0 w) (hg : B ≤ g) : Below B w0 (w.setCell ⟨g,j,none⟩ v) := h.trans ((Below.refl B w).setCell (by exact hg) v)
theorem below_setCells {w0 : World} {g B : Nat} : ∀ (vs : List Value) (o : Nat) {w : World},Below B w0 w → B ≤ g → Below B w0 (w.setCells g o vs)
 | [],_,_,h,_ => h
 | v :: r,o,w,h,hg => below_setCells r (o + 1) (below_setB h hg) hg
theorem setCells_eq {W : World} {g t : Nat} {cur : Array Value} {o : Nat} {vs : List Value} (h : W.heap[g]? = some (.cells cur t (0,0))) (hl : o + vs.length ≤ cur.size) (h1 : ∀ v ∈ vs,v.oneCell' = true) :
 W.setCells g o vs = W.setRow g (cur.toList.take o ++ vs ++ cur.toList.drop (o + vs.length)).toArray := by
 have a := run_storeCells_at Tryz.prog g o t vs 0 cur W h (by omega) h1
 have b := run_storeCells_cells (P := Tryz.prog) g o vs 0 W (fun j hj => by rw [Nat.add_zero,blk_cell h]; simp; omega) (fun j hj => by rw [Nat.add_zero]; exact blk_frozen h _) h1
 rw [a] at b
 simp only [Nat.add_zero] at b
 injection b with _ b
 exact b.symm
/-- A text's bytes as a row. -/
def rowB (s : ByteArray) : Array Value := (Lib.byteCells s.data.toList).toArray
theorem rowB_size (s : ByteArray) : (rowB s).size = s.size := by simp [rowB,Lib.byteCells_length]
theorem rowB_at (s : ByteArray) (j : Nat) (h : j < s.size) : (rowB s)[j]? = some (.int .u8 (sb s j)) := by
 have h2 : j < s.data.toList.length := by rw [ba_len]; exact h
 have h3 : j < s.data.size := h
 simp only [rowB,Lib.byteCells,sb,List.getElem?_toArray,List.getElem?_map,List.getD,List.getElem?_eq_getElem h2]
 rfl
theorem rowB_ovr {W : World} {g t : Nat} {s x : ByteArray} {o : Nat} (h : W.heap[g]? = some (.cells (rowB s) t (0,0))) (hl : o + x.size ≤ s.size) :
 W.setCells g o (Lib.byteCells x.data.toList) = W.setRow g (rowB (ovr s o x)) := by
 have hxl : (Lib.byteCells x.data.toList).length = x.size := by rw [Lib.byteCells_length,ba_len]
 rw [setCells_eq h (by rw [hxl,rowB_size]; exact hl) (Lib.byteCells_one _),hxl]
 congr 1
 unfold rowB ovr
 rw [ba_app,ba_app,tk_list,dr_list,Lib.byteCells_append,Lib.byteCells_append]
 simp [Lib.byteCells,List.map_take,List.map_drop]
theorem rowB_set (s : ByteArray) (j : Nat) (n : Int) (hj : j < s.size) (hn : 0 ≤ n ∧ n < 256) : (rowB s).setIfInBounds j (.int .u8 n) = rowB (ovr s j (strOfNums [n])) := by
 have e1 : (strOfNums [n]).size = 1 := strOfNums_size _
 refine Array.ext (by rw [Array.size_setIfInBounds,rowB_size,rowB_size,ovr_size _ _ _ (by omega)]) fun i h1 h2 => ?_
 rw [rowB_size,ovr_size _ _ _ (by omega)] at h2
 refine Option.some.inj ?_
 rw [← Array.getElem?_eq_getElem,← Array.getElem?_eq_getElem,rowB_at _ _ (by rw [ovr_size _ _ _ (by omega)]; exact h2)]
 have htk : (tk s j).size = j := by rw [← ba_len,tk_list,List.length_take,ba_len]; omega
 rcases Nat.lt_trichotomy i j with h | rfl | h
 ·rw [Array.getElem?_setIfInBounds_ne (by omega),rowB_at _ _ h2]
  unfold ovr
  rw [sb_app1 _ _ _ (by omega)]
  unfold sb
  rw [tk_list,List.getD,List.getD,List.getElem?_take_of_lt h]
 ·rw [Array.getElem?_setIfInBounds_self_of_lt (by rw [rowB_size]; exact hj)]
  unfold ovr
  have := sb_mid (tk s i) (strOfNums [n]) (dr s (i + (strOfNums [n]).size)) htk (j := 0) (by omega)
  rw [Nat.add_zero] at this
  rw [this,sb_num [n] 0 n rfl hn]
 ·rw [Array.getElem?_setIfInBounds_ne (by omega),rowB_at _ _ h2]
  unfold ovr
  rw [← ByteArray.append_assoc]
  have e2 : (tk s j ++ strOfNums [n]).size = j + 1 := by rw [ByteArray.size_append,htk,e1]
  have := sb_app2 (tk s j ++ strOfNums [n]) (dr s (j + (strOfNums [n]).size)) (i - (j + 1))
  rw [e2,show j + 1 + (i - (j + 1)) = i by omega] at this
  rw [this]
  unfold sb
  rw [dr_list,List.getD,List.getD,List.getElem?_drop,e1,show j + 1 + (i - (j + 1)) = i by omega]
/-- The numbers of a text's bytes. -/
def nums (s : ByteArray) : List Int := s.data.toList.map fun b => (b.toNat : Int)
theorem nums_str (s : ByteArray) : strOfNums (nums s) = s := ba_ext (by
 rw [strOfNums_data]
 unfold nums
 rw [List.map_map]
 refine (List.map_congr_left (g := id) fun b _ => ?_).trans (List.map_id _)
 simp)
theorem nums_len (s : ByteArray) : (nums s).length = s.size := by unfold nums; rw [List.length_map,ba_len]
theorem nums_at (s : ByteArray) (i : Nat) : (nums s).getD i 0 = sb s i := by
 unfold nums sb
 rw [List.getD,List.getD,List.getElem?_map]
 cases s.data.toList[i]? <;> rfl
/-- Bytes read out of a row, as a text. -/
theorem str_of {W : World} {g o l c : Nat} (s : ByteArray) (hl : s.size = l) (hc : ∀ i,i < l → W.cell? ⟨g,o + i,none⟩ = some (.int .u8 (sb s i))) :
 (convert 320 9 (.slice (some ⟨g,o,none⟩) l c)).run Tryz.prog W = .ok (.string s) W := by
 have h := run_convert_bytes_arg (P := Tryz.prog) W 320 5 (by kernel_rfl) (by kernel_rfl) g o l c (nums s) (by rw [nums_len]; exact hl) (fun i hi => by rw [nums_at]; exact hc i hi) 9 (by kernel_rfl)
 rw [nums_str] at h
 exact h
end Go.Proofs.YtokfjbbjkiilmaaGreatDoor.H
