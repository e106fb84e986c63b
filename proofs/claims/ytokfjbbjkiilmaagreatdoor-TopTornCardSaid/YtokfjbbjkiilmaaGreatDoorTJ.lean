/-
TopTorn: part of its walk (Lg2, Lg3, Lg4).
-/
import Derived.Test.YtokfjbbjkiilmaaGreatDoorTI
set_option linter.unusedVariables false
set_option linter.unusedSimpArgs false
namespace Go.Proofs.YtokfjbbjkiilmaaGreatDoor.H
open Go.RowKit Go.Proofs.YtokfjbbjkiilmaaGreatDoorW.PrintWords Go.Proofs.YtokfjbbjkiilmaaGreatDoorW.PrintLast Go.Proofs.YtokfjbbjkiilmaaGreatDoorW.PrintMore
set_option maxHeartbeats 8000000
set_option maxRecDepth 100000
attribute [local go_sem] max2_int min2_int min_two max_two
def ltable.T2 : Bool × List (List Nat × List Nat) := (true,[([],[]),([0],[0]),([1],[1]),([],[]),([3],[3]),([4,2],[4]),([],[]),([6],[6]),([7,5],[7]),([0,1,2,3,4,6,7],[]),([9,2,8,0,1,2,3,4,6,7],[2,9]),([0,1,2,3,4,5,6,7,9,10],[]),([11,5,10,0,1,2,3,4,5,6,7,9,10],[5,11]),([0,1,2,3,4,5,6,7,8,9,10,11,12],[]),([13,8,12,0,1,2,3,4,5,6,7,8,9,10,11,12],[8,13])])
def ltable.B2 : List Nat := [0,1,3,0,8,31,0,64,255,223,1023,2047,4095,8191,16383]
theorem ltable.tab2 : rtab .any (opsOf Tryz.f99 2) = ltable.T2 := by kernel_rfl
theorem ltable.bits2 : waitsOk ltable.T2.2 ltable.B2 = true := by kernel_rfl
theorem ltable_calls (l d oo co ln cl ff cf : Nat) (lsn ep gen : Int) (k x : Int) (w : World) (hl : w.heap[l]? = some (.cells #[.pointer (some ⟨d,0,none⟩),.int .i64 4,.int .i64 2,.slice (some ⟨oo,0,none⟩) 1 co,.slice (some ⟨ln,0,none⟩) 1 cl,.slice (some ⟨ff,0,none⟩) 1 cf,.int .u64 lsn,.int .u32 ep,.int .u64 gen] 242 (0,0))) (ho : w.cell? ⟨oo,0,none⟩ = some (.int .i64 0)) (hn : w.cell? ⟨ln,0,none⟩ = some (.int .i64 k)) (hf : w.cell? ⟨ff,0,none⟩ = some (.int .u64 x)) :
 Calls Tryz.prog 99 #[.pointer (some ⟨l,0,none⟩)] w fun e w' => ∃ a1 c1 a2 c2 a3 c3 : Nat,e = .returned (.agg #[.int .i64 4,.int .i64 2,.slice (some ⟨a1,0,none⟩) 1 c1,.slice (some ⟨a2,0,none⟩) 1 c2,.slice (some ⟨a3,0,none⟩) 1 c3]) ∧ w'.cell? ⟨a1,0,none⟩ = some (.int .i64 0) ∧ w'.cell? ⟨a2,0,none⟩ = some (.int .i64 k) ∧ w'.cell? ⟨a3,0,none⟩ = some (.int .u64 x) ∧ Below w.heap.size w w' := by
 have HX := Aside0.mk hl
 have HO := Aside0.mk ho
 have HN := Aside0.mk hn
 have HF := Aside0.mk hf
 clear hl ho hn hf
 go_enter Tryz.func99,Tryz.ntmps99
 go_upto_region 1 with fail
 obtain ⟨W0,g2,hW_,hg2,HZ,hb_⟩ := new1 w #[.int .i64 0,.int .i64 0,.slice none 0 0,.slice none 0 0,.slice none 0 0] 162
 rw [← hW_,← hg2.out]
 replace HX := mb HX hb_
 have HB := Aside0.mk hb_
 clear hW_ hb_
 have G2 : Aside0 (w.heap.size ≤ g2) := ⟨by have := hg2.out; omega⟩
 have y0 : W0.cell? ⟨l,0,none⟩ = some (.pointer (some ⟨d,0,none⟩)) := cL HX 0 rfl
 have y1 : W0.cell? ⟨l,1,none⟩ = some (.int .i64 4) := cL HX 1 rfl
 have y2 : W0.cell? ⟨l,2,none⟩ = some (.int .i64 2) := cL HX 2 rfl
 have y3 : W0.cell? ⟨l,3,none⟩ = some (.slice (some ⟨oo,0,none⟩) 1 co) := cL HX 3 rfl
 have y4 : W0.cell? ⟨l,4,none⟩ = some (.slice (some ⟨ln,0,none⟩) 1 cl) := cL HX 4 rfl
 have y5 : W0.cell? ⟨l,5,none⟩ = some (.slice (some ⟨ff,0,none⟩) 1 cf) := cL HX 5 rfl
 have y6 : W0.cell? ⟨l,6,none⟩ = some (.int .u64 lsn) := cL HX 6 rfl
 have y7 : W0.cell? ⟨l,7,none⟩ = some (.int .u32 ep) := cL HX 7 rfl
 have y8 : W0.cell? ⟨l,8,none⟩ = some (.int .u64 gen) := cL HX 8 rfl
 go_upto_region 2 with fail
 clear y0 y1 y2 y3 y4 y5 y6 y7 y8
 have GB0 := HB
 have LZ := Aside0.mk (blk_lt HZ.out)
 obtain ⟨W1,g3,hW_,hg3,H3,hb_⟩ := new1 W0 #[.int .i64 4,.int .i64 2,.slice (some ⟨oo,0,none⟩) 1 co,.slice (some ⟨ln,0,none⟩) 1 cl,.slice (some ⟨ff,0,none⟩) 1 cf] 162
 rw [← hW_,← hg3.out]
 replace HX := mb HX hb_
 replace HZ := mb HZ hb_
 replace HB := Aside0.mk (below_step (HB.out) hb_)
 clear hW_ hb_
 have N23 : Aside0 (g2 ≠ g3) := ⟨by have := hg3.out; have := LZ.out; omega⟩
 have G3 : Aside0 (w.heap.size ≤ g3) := ⟨by have := hg3.out; have := GB0.out.size; omega⟩
 replace HO := Aside0.mk (pw_cell_below HB.out HO.out)
 replace HN := Aside0.mk (pw_cell_below HB.out HN.out)
 replace HF := Aside0.mk (pw_cell_below HB.out HF.out)
 refine st_ 15 (fun w' => w'.cell? ⟨g3,2,none⟩ = some (.slice (some ⟨oo,0,none⟩) 1 co) ∧ w'.cell? ⟨g3,3,none⟩ = some (.slice (some ⟨ln,0,none⟩) 1 cl) ∧ w'.cell? ⟨g3,4,none⟩ = some (.slice (some ⟨ff,0,none⟩) 1 cf)) [10,12,14] ⟨(cD H3 2 rfl),(cD H3 3 rfl),(cD H3 4 rfl)⟩ fun hHeld => ?_
 refine with_tabW ltable.tab2 ltable.bits2 (fun HT_ HW_ => ?_)
 replace HX := mD HX
 replace HZ := mD HZ
 replace H3 := mD H3
 replace HO := Aside0.mk (pw_cell_below (below_drew (Below.refl _ _)) HO.out)
 replace HN := Aside0.mk (pw_cell_below (below_drew (Below.refl _ _)) HN.out)
 replace HF := Aside0.mk (pw_cell_below (below_drew (Below.refl _ _)) HF.out)
 replace HB := bD HB
 generalize W1.drew = wd1 at *
 refine pa_ 0 8 HT_ ?_
 refine pa_ 3 11 HT_ ?_
 refine pa_ 6 14 HT_ ?_
 refine ta_ 1 9 HT_ HW_ hHeld ?_
 refine ta_ 4 12 HT_ HW_ hHeld ?_
 refine ta_ 7 15 HT_ HW_ hHeld ?_
 refine on_ 2 HT_ fun K hK => ?_
 refine gc_ Tryz.func143 #[.slice (some ⟨oo,0,none⟩) 1 co] ?_
 with_reducible refine (clone113 oo co 0 _ HO.out).mono ?_
 rintro e_ wa ⟨a1,c1,rfl,q_,g_,hb⟩
 refine ⟨_,rfl,?_⟩
 have Na1 : Aside0 (a1 ≠ g3 ∧ a1 ≠ g2) := ⟨by have := blk_lt H3.out; have := blk_lt HZ.out; omega⟩
 replace HX := mb HX hb
 replace HZ := mb HZ hb
 replace H3 := mb H3 hb
 replace HO := Aside0.mk (pw_cell_below hb HO.out)
 replace HN := Aside0.mk (pw_cell_below hb HN.out)
 replace HF := Aside0.mk (pw_cell_below hb HF.out)
 replace HB := mS HB hb
 have Q1 := Aside0.mk q_
 clear q_ g_ hb
 refine hK.out _ _ ⟨(cL H3 2 rfl),(cL H3 3 rfl),(cL H3 4 rfl)⟩ (fun hHeld => ?_)
 clear hK K
 refine no_ 10 ?_
 refine pa_ 9 17 HT_ ?_
 refine on_ 5 HT_ fun K hK => ?_
 refine gc_ Tryz.func143 #[.slice (some ⟨ln,0,none⟩) 1 cl] ?_
 with_reducible refine (clone113 ln cl k _ HN.out).mono ?_
 rintro e_ wb ⟨a2,c2,rfl,q_,g_,hb⟩
 refine ⟨_,rfl,?_⟩
 have Na2 : Aside0 (a2 ≠ g3 ∧ a2 ≠ g2) := ⟨by have := blk_lt H3.out; have := blk_lt HZ.out; omega⟩
 replace HX := mb HX hb
 replace HZ := mb HZ hb
 replace H3 := mb H3 hb
 replace HO := Aside0.mk (pw_cell_below hb HO.out)
 replace HN := Aside0.mk (pw_cell_below hb HN.out)
 replace HF := Aside0.mk (pw_cell_below hb HF.out)
 replace Q1 := Aside0.mk (pw_cell_below hb Q1.out)
 replace HB := mS HB hb
 have Q2 := Aside0.mk q_
 clear q_ g_ hb
 refine hK.out _ _ ⟨(cL H3 2 rfl),(cL H3 3 rfl),(cL H3 4 rfl)⟩ (fun hHeld => ?_)
 clear hK K
 refine no_ 13 ?_
 refine on_ 8 HT_ fun K hK => ?_
 refine gc_ Tryz.func144 #[.slice (some ⟨ff,0,none⟩) 1 cf] ?_
 with_reducible refine (clone160 ff cf x _ HF.out).mono ?_
 rintro e_ wc ⟨a3,c3,rfl,q_,g_,hb⟩
 refine ⟨_,rfl,?_⟩
 have Na3 : Aside0 (a3 ≠ g3 ∧ a3 ≠ g2) := ⟨by have := blk_lt H3.out; have := blk_lt HZ.out; omega⟩
 replace HX := mb HX hb
 replace HZ := mb HZ hb
 replace H3 := mb H3 hb
 replace HO := Aside0.mk (pw_cell_below hb HO.out)
 replace HN := Aside0.mk (pw_cell_below hb HN.out)
 replace HF := Aside0.mk (pw_cell_below hb HF.out)
 replace Q1 := Aside0.mk (pw_cell_below hb Q1.out)
 replace Q2 := Aside0.mk (pw_cell_below hb Q2.out)
 replace HB := mS HB hb
 have Q3 := Aside0.mk q_
 clear q_ g_ hb
 refine hK.out _ _ ⟨(cL H3 2 rfl),(cL H3 3 rfl),(cL H3 4 rfl)⟩ (fun hHeld => ?_)
 clear hK K
 refine no_ 16 ?_
 refine la_ 10 HT_ fun K hK => ?_
 have f2 := blk_frozen H3.out 2
 have y0 : wc.cell? ⟨g3,0,none⟩ = some (.int .i64 4) := cL H3 0 rfl
 have y1 : wc.cell? ⟨g3,1,none⟩ = some (.int .i64 2) := cL H3 1 rfl
 have y2 : wc.cell? ⟨g3,2,none⟩ = some (.slice (some ⟨oo,0,none⟩) 1 co) := cL H3 2 rfl
 have y3 : wc.cell? ⟨g3,3,none⟩ = some (.slice (some ⟨ln,0,none⟩) 1 cl) := cL H3 3 rfl
 have y4 : wc.cell? ⟨g3,4,none⟩ = some (.slice (some ⟨ff,0,none⟩) 1 cf) := cL H3 4 rfl
 refine skip_ (w1 := ?_) (by rfl) rfl ?_ ?_
 rotate_left
 ·go_simp
  rfl
 clear f2
 clear y0 y1 y2 y3 y4
 obtain ⟨we,hW_⟩ : ∃ W_,W_ = (wc.setCell ⟨g3,2,none⟩ (.slice (some ⟨a1,0,none⟩) 1 c1)) := ⟨_,rfl⟩
 rw [← hW_]
 have q_ := (blk_far HZ.out (p := ⟨g3,2,none⟩) N23.out (.slice (some ⟨a1,0,none⟩) 1 c1))
 rw [← hW_] at q_
 replace HZ := Aside0.mk q_
 clear q_
 have q_ := ((cell_far Na1.out.1 (2) (.slice (some ⟨a1,0,none⟩) 1 c1)).trans Q1.out)
 rw [← hW_] at q_
 replace Q1 := Aside0.mk q_
 clear q_
 have q_ := ((cell_far Na2.out.1 (2) (.slice (some ⟨a1,0,none⟩) 1 c1)).trans Q2.out)
 rw [← hW_] at q_
 replace Q2 := Aside0.mk q_
 clear q_
 have q_ := ((cell_far Na3.out.1 (2) (.slice (some ⟨a1,0,none⟩) 1 c1)).trans Q3.out)
 rw [← hW_] at q_
 replace Q3 := Aside0.mk q_
 clear q_
 have q_ : we.heap[g3]? = some (.cells #[.int .i64 4,.int .i64 2,.slice (some ⟨a1,0,none⟩) 1 c1,.slice (some ⟨ln,0,none⟩) 1 cl,.slice (some ⟨ff,0,none⟩) 1 cf] 162 (0,0)) := by rw [hW_]; exact (blk_set H3.out 2 (.slice (some ⟨a1,0,none⟩) 1 c1))
 replace H3 := Aside0.mk q_
 clear q_
 have q_ : Below w.heap.size w we := by rw [hW_]; exact (below_set HB.out G3.out)
 replace HB := Aside0.mk q_
 clear q_
 clear hW_
 refine hK.out _ _ ?_
 clear hK K
 refine pa_ 11 18 HT_ ?_
 refine la_ 12 HT_ fun K hK => ?_
 have f3 := blk_frozen H3.out 3
 have y0 : we.cell? ⟨g3,0,none⟩ = some (.int .i64 4) := cL H3 0 rfl
 have y1 : we.cell? ⟨g3,1,none⟩ = some (.int .i64 2) := cL H3 1 rfl
 have y2 : we.cell? ⟨g3,2,none⟩ = some (.slice (some ⟨a1,0,none⟩) 1 c1) := cL H3 2 rfl
 have y3 : we.cell? ⟨g3,3,none⟩ = some (.slice (some ⟨ln,0,none⟩) 1 cl) := cL H3 3 rfl
 have y4 : we.cell? ⟨g3,4,none⟩ = some (.slice (some ⟨ff,0,none⟩) 1 cf) := cL H3 4 rfl
 refine skip_ (w1 := ?_) (by rfl) rfl ?_ ?_
 rotate_left
 ·go_simp
  rfl
 clear f3
 clear y0 y1 y2 y3 y4
 obtain ⟨wf,hW_⟩ : ∃ W_,W_ = (we.setCell ⟨g3,3,none⟩ (.slice (some ⟨a2,0,none⟩) 1 c2)) := ⟨_,rfl⟩
 rw [← hW_]
 have q_ := (blk_far HZ.out (p := ⟨g3,3,none⟩) N23.out (.slice (some ⟨a2,0,none⟩) 1 c2))
 rw [← hW_] at q_
 replace HZ := Aside0.mk q_
 clear q_
 have q_ := ((cell_far Na1.out.1 (3) (.slice (some ⟨a2,0,none⟩) 1 c2)).trans Q1.out)
 rw [← hW_] at q_
 replace Q1 := Aside0.mk q_
 clear q_
 have q_ := ((cell_far Na2.out.1 (3) (.slice (some ⟨a2,0,none⟩) 1 c2)).trans Q2.out)
 rw [← hW_] at q_
 replace Q2 := Aside0.mk q_
 clear q_
 have q_ := ((cell_far Na3.out.1 (3) (.slice (some ⟨a2,0,none⟩) 1 c2)).trans Q3.out)
 rw [← hW_] at q_
 replace Q3 := Aside0.mk q_
 clear q_
 have q_ : wf.heap[g3]? = some (.cells #[.int .i64 4,.int .i64 2,.slice (some ⟨a1,0,none⟩) 1 c1,.slice (some ⟨a2,0,none⟩) 1 c2,.slice (some ⟨ff,0,none⟩) 1 cf] 162 (0,0)) := by rw [hW_]; exact (blk_set H3.out 3 (.slice (some ⟨a2,0,none⟩) 1 c2))
 replace H3 := Aside0.mk q_
 clear q_
 have q_ : Below w.heap.size w wf := by rw [hW_]; exact (below_set HB.out G3.out)
 replace HB := Aside0.mk q_
 clear q_
 clear hW_
 refine hK.out _ _ ?_
 clear hK K
 refine pa_ 13 19 HT_ ?_
 refine la_ 14 HT_ fun K hK => ?_
 have f4 := blk_frozen H3.out 4
 have y0 : wf.cell? ⟨g3,0,none⟩ = some (.int .i64 4) := cL H3 0 rfl
 have y1 : wf.cell? ⟨g3,1,none⟩ = some (.int .i64 2) := cL H3 1 rfl
 have y2 : wf.cell? ⟨g3,2,none⟩ = some (.slice (some ⟨a1,0,none⟩) 1 c1) := cL H3 2 rfl
 have y3 : wf.cell? ⟨g3,3,none⟩ = some (.slice (some ⟨a2,0,none⟩) 1 c2) := cL H3 3 rfl
 have y4 : wf.cell? ⟨g3,4,none⟩ = some (.slice (some ⟨ff,0,none⟩) 1 cf) := cL H3 4 rfl
 refine skip_ (w1 := ?_) (by rfl) rfl ?_ ?_
 rotate_left
 ·go_simp
  rfl
 clear f4
 clear y0 y1 y2 y3 y4
 obtain ⟨wg,hW_⟩ : ∃ W_,W_ = (wf.setCell ⟨g3,4,none⟩ (.slice (some ⟨a3,0,none⟩) 1 c3)) := ⟨_,rfl⟩
 rw [← hW_]
 have q_ := (blk_far HZ.out (p := ⟨g3,4,none⟩) N23.out (.slice (some ⟨a3,0,none⟩) 1 c3))
 rw [← hW_] at q_
 replace HZ := Aside0.mk q_
 clear q_
 have q_ := ((cell_far Na1.out.1 (4) (.slice (some ⟨a3,0,none⟩) 1 c3)).trans Q1.out)
 rw [← hW_] at q_
 replace Q1 := Aside0.mk q_
 clear q_
 have q_ := ((cell_far Na2.out.1 (4) (.slice (some ⟨a3,0,none⟩) 1 c3)).trans Q2.out)
 rw [← hW_] at q_
 replace Q2 := Aside0.mk q_
 clear q_
 have q_ := ((cell_far Na3.out.1 (4) (.slice (some ⟨a3,0,none⟩) 1 c3)).trans Q3.out)
 rw [← hW_] at q_
 replace Q3 := Aside0.mk q_
 clear q_
 have q_ : wg.heap[g3]? = some (.cells #[.int .i64 4,.int .i64 2,.slice (some ⟨a1,0,none⟩) 1 c1,.slice (some ⟨a2,0,none⟩) 1 c2,.slice (some ⟨a3,0,none⟩) 1 c3] 162 (0,0)) := by rw [hW_]; exact (blk_set H3.out 4 (.slice (some ⟨a3,0,none⟩) 1 c3))
 replace H3 := Aside0.mk q_
 clear q_
 have q_ : Below w.heap.size w wg := by rw [hW_]; exact (below_set HB.out G3.out)
 replace HB := Aside0.mk q_
 clear q_
 clear hW_
 refine hK.out _ _ ?_
 clear hK K
 refine dn_ HT_ ?_
 clear HT_ HW_ hHeld
 go_wp2_with (first | (refine lr_ 3 H3.out Tryz.underlying162 ?_) | (refine sr_ 2 20 #[.int .i64 4,.int .i64 2,.slice (some ⟨a1,0,none⟩) 1 c1,.slice (some ⟨a2,0,none⟩) 1 c2,.slice (some ⟨a3,0,none⟩) 1 c3] HZ.out ?_))
 refine rr_ (setRow_heap _ _ _ _ _ _ HZ.out) Tryz.underlying162 ?_
 exact ⟨a1,c1,a2,c2,a3,c3,rfl,(cell_setRow_other _ _ _ _ Na1.out.2).trans Q1.out,(cell_setRow_other _ _ _ _ Na2.out.2).trans Q2.out,(cell_setRow_other _ _ _ _ Na3.out.2).trans Q3.out,below_setRow HB.out G2.out _⟩
end Go.Proofs.YtokfjbbjkiilmaaGreatDoor.H
namespace Go.Proofs.YtokfjbbjkiilmaaGreatDoor.H
open Go.RowKit Go.Proofs.YtokfjbbjkiilmaaGreatDoorW.PrintWords Go.Proofs.YtokfjbbjkiilmaaGreatDoorW.PrintLast Go.Proofs.YtokfjbbjkiilmaaGreatDoorW.PrintMore
set_option maxHeartbeats 8000000
set_option maxRecDepth 100000
attribute [local go_sem] max2_int min2_int min_two max_two
/-- A log's block. -/
def lgc (d oo ln ff : Nat) (lsn ep gen : Int) : Array Value := #[.pointer (some ⟨d,0,none⟩),.int .i64 4,.int .i64 2,.slice (some ⟨oo,0,none⟩) 1 1,.slice (some ⟨ln,0,none⟩) 1 1,.slice (some ⟨ff,0,none⟩) 1 1,.int .u64 lsn,.int .u32 ep,.int .u64 gen]
/-- A log on its disk: one segment, of k records. -/
structure Lst (w : World) (l d m oo ln ff : Nat) (left : Int) (v : Value) (es : Array MapEntry) (c : Nat) (k x lsn ep gen : Int) : Prop where
 hd : w.heap[d]? = some (.cells (dkc left m v) 108 (0,0))
 hm : w.heap[m]? = some (.map es c)
 hl : w.heap[l]? = some (.cells (lgc d oo ln ff lsn ep gen) 242 (0,0))
 ho : w.heap[oo]? = some (.cells #[.int .i64 0] 3 (0,0))
 hn : w.heap[ln]? = some (.cells #[.int .i64 k] 3 (0,0))
 hf : w.heap[ff]? = some (.cells #[.int .u64 x] 35 (0,0))
 ne : oo ≠ ln
section
variable {w w' : World} {l d m oo ln ff : Nat} {left : Int} {v : Value} {es : Array MapEntry} {c : Nat} {k x lsn ep gen : Int}
theorem Lst.below (h : Lst w l d m oo ln ff left v es c k x lsn ep gen) (hb : Below w.heap.size w w') : Lst w' l d m oo ln ff left v es c k x lsn ep gen :=
 ⟨blk_below h.hd hb,blk_below h.hm hb,blk_below h.hl hb,blk_below h.ho hb,blk_below h.hn hb,blk_below h.hf hb,h.ne⟩
end
theorem own_nil {w : World} {e z : Nat} : w.ownsRow 0 e z (.slice none 0 0) 0 [] := by
 unfold World.ownsRow
 exact ⟨by simp,.inl ⟨rfl,rfl⟩⟩
theorem own_cells {w : World} {e z n : Nat} {v : Value} {xs : List Value} (h : w.ownsRow 0 e z v n xs) (h0 : n ≠ 0) : ∃ g cap cur,v = .slice (some ⟨g,0,none⟩) n cap ∧ w.heap[g]? = some (.cells cur e (0,0)) ∧ ∀ j u,xs[j]? = some u → w.cell? ⟨g,j,none⟩ = some u := by
 obtain ⟨_,h⟩ := h
 rcases h with ⟨_,h⟩ | ⟨g,cap,cur,rfl,hg,hh,c1,c2,c3,c4⟩
 ·exact absurd h h0
 ·refine ⟨g,cap,cur,rfl,hh,fun j u hj => ?_⟩
  rw [blk_cell hh,← Array.getElem?_toList]
  rw [← c4] at hj
  have hlt : j < n * z := by
   rcases Nat.lt_or_ge j (n * z) with h | h
   ·exact h
   ·rw [List.getElem?_eq_none (by rw [List.length_take]; omega)] at hj
    cases hj
  rwa [List.getElem?_take_of_lt hlt] at hj
theorem map_ne {w : World} {a b t : Nat} {es : Array MapEntry} {c : Nat} {cs : Array Value} {f : Nat × Nat} (h1 : w.heap[a]? = some (.map es c)) (h2 : w.heap[b]? = some (.cells cs t f)) : a ≠ b := fun e => by
 subst e
 rw [h1] at h2
 cases h2
def ckpt0.T3 : Bool × List (List Nat × List Nat) := (true,[([],[]),([0],[0]),([1],[1]),([2],[2]),([3],[3]),([],[]),([5],[5]),([6],[6]),([7],[7]),([],[]),([9],[9]),([10],[10]),([11],[11]),([],[]),([],[]),([14],[14]),([15],[15]),([16],[16]),([17],[17]),([],[]),([19],[19]),([20],[20]),([21],[21]),([22],[22]),([4,8,12,13,18,23],[4,8,12,13,18,23]),([24],[24]),([25],[25]),([26],[26]),([26],[26]),([27,25,0,1,2,3,4,5,6,7,8,9,10,11,12,13,14,15,16,17,18,19,20,21,22,23,24,25,26,27],[27]),([28,29,0,1,2,3,4,5,6,7,8,9,10,11,12,13,14,15,16,17,18,19,20,21,22,23,24,25,26,27,28,29],[28])])
def ckpt0.B3 : List Nat := [0,1,3,7,15,0,32,96,224,0,512,1536,3584,0,0,16384,49152,114688,245760,0,524288,1572864,3670016,7864320,16777215,33554431,67108863,134217727,134217727,268435455,1073741823]
theorem ckpt0.tab3 : rtab .any (opsOf Tryz.f141 3) = ckpt0.T3 := by kernel_rfl
theorem ckpt0.bits3 : waitsOk ckpt0.T3.2 ckpt0.B3 = true := by kernel_rfl
def ckpt0.T5 : Bool × List (List Nat × List Nat) := (true,[([],[]),([0],[0]),([1],[1]),([2],[2]),([],[]),([4],[4]),([5],[5]),([6],[6]),([7],[7]),([8],[8]),([9],[9]),([],[]),([3,10,11],[3,10,11]),([12,12],[12])])
def ckpt0.B5 : List Nat := [0,1,3,7,0,16,48,112,240,496,1008,0,4095,8191]
theorem ckpt0.tab5 : rtab .any (opsOf Tryz.f141 5) = ckpt0.T5 := by kernel_rfl
theorem ckpt0.bits5 : waitsOk ckpt0.T5.2 ckpt0.B5 = true := by kernel_rfl
theorem ckpt0_calls (l d m oo ln ff : Nat) (left : Int) (es : Array MapEntry) (c : Nat) (k x lsn ep vr : Int) (w : World) (h : Lst w l d m oo ln ff left (.slice none 0 0) es c k x lsn ep 0) (hn : (0 ≤ ep ∧ ep < 4294967296) ∧ (0 < lsn ∧ lsn < 18446744073709551616) ∧ (0 ≤ vr ∧ vr < 18446744073709551616) ∧ (0 ≤ k ∧ k ≤ 30)) (hlf : (-1000 ≤ left ∧ left ≤ 0) ∧ -900 ≤ left) (hfi : Instr.findNow (.int .i64) (.int .i64 1) es.toList 0 = some none) :
 Calls Tryz.prog 141 #[.pointer (some ⟨l,0,none⟩),.int .u64 vr] w fun e w' => e = .returned (.int .i64 0) ∧ Lst w' l d m oo ln ff (left - 3) (.slice none 0 0) (es.push { key := .int .i64 1,val := .agg #[.int .i64 1,.string (ckS 1 ep lsn vr k)],born := c }) (c + 1) k x lsn ep 1 ∧ Keep [d,m,l] w w' := by
 have HN := Aside0.mk hn
 have HLF := Aside0.mk hlf
 have HFI := Aside0.mk hfi
 obtain ⟨q1,q2,q3,q4,q5,q6,q7⟩ := h
 have HD := Aside0.mk q1
 have HM := Aside0.mk q2
 have HL : Aside0 (w.heap[l]? = some (.cells #[.pointer (some ⟨d,0,none⟩),.int .i64 4,.int .i64 2,.slice (some ⟨oo,0,none⟩) 1 1,.slice (some ⟨ln,0,none⟩) 1 1,.slice (some ⟨ff,0,none⟩) 1 1,.int .u64 lsn,.int .u32 ep,.int .u64 0] 242 (0,0))) := ⟨q3⟩
 have HO := Aside0.mk q4
 have HK := Aside0.mk q5
 have HF := Aside0.mk q6
 have HNE := Aside0.mk q7
 have NMD := Aside0.mk (map_ne q2 q1)
 have NLD := Aside0.mk (tne q3 q1 (by decide))
 have NML := Aside0.mk (map_ne q2 q3)
 have NOD := Aside0.mk (tne q4 q1 (by decide))
 have NKD := Aside0.mk (tne q5 q1 (by decide))
 have NFD := Aside0.mk (tne q6 q1 (by decide))
 have NMO := Aside0.mk (map_ne q2 q4)
 have NMK := Aside0.mk (map_ne q2 q5)
 have NMF := Aside0.mk (map_ne q2 q6)
 have NOL := Aside0.mk (tne q4 q3 (by decide))
 have NKL := Aside0.mk (tne q5 q3 (by decide))
 have NFL := Aside0.mk (tne q6 q3 (by decide))
 clear q1 q2 q3 q4 q5 q6 q7 hn hlf hfi
 go_enter_defers Tryz.func141,Tryz.ntmps141
 go_upto_region 2 with fail
 obtain ⟨W1,g4,hW_,hg4,H4,hb_⟩ := new1 w #[.int .i64 0] 39
 rw [← hW_,← hg4.out]
 replace HD := mb HD hb_
 replace HM := mb HM hb_
 replace HL := mb HL hb_
 replace HO := mb HO hb_
 replace HK := mb HK hb_
 replace HF := mb HF hb_
 have HB := Aside0.mk hb_
 clear hW_ hb_
 have G4 : Aside0 (w.heap.size ≤ g4) := ⟨by have := hg4.out; omega⟩
 have N4 : Aside0 (g4 ≠ d ∧ g4 ≠ l ∧ g4 ≠ m) := ⟨tne H4.out HD.out (by decide),tne H4.out HL.out (by decide),(map_ne HM.out H4.out).symm⟩
 replace HB : Aside0 (Keep [d,m,l] w W1) := ⟨Keep.below HB.out⟩
 have y0 : W1.cell? ⟨l,0,none⟩ = some (.pointer (some ⟨d,0,none⟩)) := cL HL 0 rfl
 have y1 : W1.cell? ⟨l,1,none⟩ = some (.int .i64 4) := cL HL 1 rfl
 have y2 : W1.cell? ⟨l,2,none⟩ = some (.int .i64 2) := cL HL 2 rfl
 have y3 : W1.cell? ⟨l,3,none⟩ = some (.slice (some ⟨oo,0,none⟩) 1 1) := cL HL 3 rfl
 have y4 : W1.cell? ⟨l,4,none⟩ = some (.slice (some ⟨ln,0,none⟩) 1 1) := cL HL 4 rfl
 have y5 : W1.cell? ⟨l,5,none⟩ = some (.slice (some ⟨ff,0,none⟩) 1 1) := cL HL 5 rfl
 have y6 : W1.cell? ⟨l,6,none⟩ = some (.int .u64 lsn) := cL HL 6 rfl
 have y7 : W1.cell? ⟨l,7,none⟩ = some (.int .u32 ep) := cL HL 7 rfl
 have y8 : W1.cell? ⟨l,8,none⟩ = some (.int .u64 0) := cL HL 8 rfl
 go_wp2_with fail
 refine (dflush0_calls d m left _ HD.out HLF.out.1).mono ?_
 rintro e_ W2 ⟨rfl,hd2,hk2⟩
 clear y0 y1 y2 y3 y4 y5 y6 y7 y8
 replace HM := Aside0.mk (blk_keep HM.out hk2 (by simp [NMD.out]))
 replace HL := Aside0.mk (blk_keep HL.out hk2 (by simp [NLD.out]))
 replace HO := Aside0.mk (blk_keep HO.out hk2 (by simp [NOD.out]))
 replace HK := Aside0.mk (blk_keep HK.out hk2 (by simp [NKD.out]))
 replace HF := Aside0.mk (blk_keep HF.out hk2 (by simp [NFD.out]))
 replace H4 := Aside0.mk (blk_keep H4.out hk2 (by simp [N4.out.1]))
 replace HB : Aside0 (Keep [d,m,l] w W2) := ⟨HB.out.trans (hk2.mono (fun q _ h => by simp at h ⊢; omega))⟩
 clear hk2
 replace HD := Aside0.mk hd2
 clear hd2
 go_wp2_with fail
 refine (slmust_ok _).mono ?_
 rintro e_ W3 ⟨rfl,rfl⟩
 go_upto_region 3 with fail
 have u1_ : IntKind.u64.wrap (0 + 1) = 1 := by kernel_rfl
 have u2_ : IntKind.u64.wrap 1 = 1 := by kernel_rfl
 refine noOut' ?_
 refine st_ 31 (fun w' => w'.cell? ⟨l,8,none⟩ = some (.int .u64 0) ∧ w'.cell? ⟨l,7,none⟩ = some (.int .u32 ep) ∧ w'.cell? ⟨l,6,none⟩ = some (.int .u64 lsn) ∧ w'.cell? ⟨l,3,none⟩ = some (.slice (some ⟨oo,0,none⟩) 1 1) ∧ w'.cell? ⟨l,4,none⟩ = some (.slice (some ⟨ln,0,none⟩) 1 1)) [] ⟨(cD HL 8 rfl),(cD HL 7 rfl),(cD HL 6 rfl),(cD HL 3 rfl),(cD HL 4 rfl)⟩ fun hHeld => ?_
 refine with_tabW ckpt0.tab3 ckpt0.bits3 (fun HT_ HW_ => ?_)
 replace HD := mD HD
 replace HM := mD HM
 replace HL := mD HL
 replace HO := mD HO
 replace HK := mD HK
 replace HF := mD HF
 replace H4 := mD H4
 replace HB := Aside0.mk (HB.out.drew)
 generalize W3.drew = wd1 at *
 refine pa_ 0 14 HT_ ?_
 refine pa_ 1 15 HT_ ?_
 refine pa_ 2 16 HT_ ?_
 refine pa_ 5 19 HT_ ?_
 refine pa_ 6 20 HT_ ?_
 refine pa_ 7 21 HT_ ?_
 refine pa_ 9 23 HT_ ?_
 refine pa_ 10 24 HT_ ?_
 refine pa_ 11 25 HT_ ?_
 refine pa_ 13 27 HT_ ?_
 refine pa_ 14 28 HT_ ?_
 refine pa_ 15 29 HT_ ?_
 refine pa_ 16 30 HT_ ?_
 refine pa_ 17 31 HT_ ?_
 refine pa_ 19 33 HT_ ?_
 refine pa_ 20 34 HT_ ?_
 refine pa_ 21 35 HT_ ?_
 refine pa_ 22 36 HT_ ?_
 refine ta_ 3 17 HT_ HW_ hHeld ?_
 refine pa_ 4 18 HT_ ?_
 refine ta_ 8 22 HT_ HW_ hHeld ?_
 refine ta_ 12 26 HT_ HW_ hHeld ?_
 refine ta_ 18 32 HT_ HW_ hHeld ?_
 refine ta_ 23 37 HT_ HW_ hHeld ?_
 refine pa_ 24 38 HT_ ?_
 refine on_ 25 HT_ fun K hK => ?_
 refine gc_ Tryz.func191 #[.agg #[.int .u64 1,.int .u32 ep,.int .u64 lsn,.int .u64 vr,.slice (some ⟨oo,0,none⟩) 1 1,.slice (some ⟨ln,0,none⟩) 1 1]] ?_
 with_reducible refine (ckenc1_calls 1 ep lsn vr k oo 1 ln 1 _ ⟨by decide,HN.out⟩ (cL HO 0 rfl) (cL HK 0 rfl)).mono ?_
 rintro e_ Wa ⟨rfl,hb⟩
 refine ⟨_,rfl,?_⟩
 replace HD := mb HD hb
 replace HM := mb HM hb
 replace HL := mb HL hb
 replace HO := mb HO hb
 replace HK := mb HK hb
 replace HF := mb HF hb
 replace H4 := mb H4 hb
 replace HB : Aside0 (Keep [d,m,l] w Wa) := ⟨HB.out.trans (Keep.below hb)⟩
 clear hb
 refine hK.out _ _ ⟨(cL HL 8 rfl),(cL HL 7 rfl),(cL HL 6 rfl),(cL HL 3 rfl),(cL HL 4 rfl)⟩ (fun hHeld => ?_)
 clear hK K
 refine no_ 39 ?_
 refine pa_ 26 13 HT_ ?_
 refine pa_ 27 40 HT_ ?_
 refine pa_ 28 41 HT_ ?_
 refine pa_ 29 5 HT_ ?_
 refine pa_ 30 6 HT_ ?_
 refine dn_ HT_ ?_
 clear HT_ HW_ hHeld
 dsimp only [Go.Proofs.YtokfjbbjkiilmaaGreatDoor.Rf.QN]
 go_wp2_with fail
 refine (slmust_ok _).mono ?_
 rintro e_ W4 ⟨rfl,rfl⟩
 go_upto_region 5 with fail
 have u3_ : (1 : Int) % 2 = 1 := by decide
 have u4_ : IntKind.i64.wrap 1 = 1 := by kernel_rfl
 have u5_ : wrap64 1 = 1 := by kernel_rfl
 refine noOut' ?_
 refine st_ 14 (fun w' => w'.cell? ⟨l,0,none⟩ = some (.pointer (some ⟨d,0,none⟩)) ∧ w'.cell? ⟨l,8,none⟩ = some (.int .u64 0)) [] ⟨(cD HL 0 rfl),(cD HL 8 rfl)⟩ fun hHeld => ?_
 refine with_tabW ckpt0.tab5 ckpt0.bits5 (fun HT_ HW_ => ?_)
 replace HD := mD HD
 replace HM := mD HM
 replace HL := mD HL
 replace HO := mD HO
 replace HK := mD HK
 replace HF := mD HF
 replace H4 := mD H4
 replace HB := Aside0.mk (HB.out.drew)
 generalize W4.drew = wd2 at *
 refine pa_ 0 44 HT_ ?_
 refine pa_ 1 45 HT_ ?_
 refine pa_ 2 46 HT_ ?_
 refine pa_ 4 48 HT_ ?_
 refine pa_ 5 49 HT_ ?_
 refine pa_ 6 50 HT_ ?_
 refine pa_ 11 55 HT_ ?_
 refine ta_ 3 47 HT_ HW_ hHeld ?_
 refine ta_ 7 51 HT_ HW_ hHeld ?_
 refine pa_ 8 52 HT_ ?_
 refine pa_ 9 53 HT_ ?_
 refine pa_ 10 54 HT_ ?_
 refine on_ 12 HT_ fun K hK => ?_
 refine gc_ Tryz.func192 #[.pointer (some ⟨d,0,none⟩),.int .i64 1,.string (ckS 1 ep lsn vr k)] ?_
 with_reducible refine (dwrite_calls d m (left - 1) (.slice none 0 0) 1 (ckS 1 ep lsn vr k) 0 [] _ HD.out own_nil (ckS_size ..) ⟨by decide,by decide⟩ (by have := HLF.out; omega) (by decide)).mono ?_
 rintro e_ Wb ⟨rfl,v2,hd2,ho2,hk2,hv2⟩
 refine ⟨_,rfl,?_⟩
 have HV := Aside0.mk ho2
 replace hk2 : Keep [d] wd2 Wb := hk2
 clear ho2 hv2
 replace HM := Aside0.mk (blk_keep HM.out hk2 (by simp [NMD.out]))
 replace HL := Aside0.mk (blk_keep HL.out hk2 (by simp [NLD.out]))
 replace HO := Aside0.mk (blk_keep HO.out hk2 (by simp [NOD.out]))
 replace HK := Aside0.mk (blk_keep HK.out hk2 (by simp [NKD.out]))
 replace HF := Aside0.mk (blk_keep HF.out hk2 (by simp [NFD.out]))
 replace H4 := Aside0.mk (blk_keep H4.out hk2 (by simp [N4.out.1]))
 replace HB : Aside0 (Keep [d,m,l] w Wb) := ⟨HB.out.trans (hk2.mono (fun q _ h => by simp at h ⊢; omega))⟩
 clear hk2
 replace HD := Aside0.mk hd2
 clear hd2
 refine hK.out _ _ ⟨(cL HL 0 rfl),(cL HL 8 rfl)⟩ (fun hHeld => ?_)
 clear hK K
 refine no_ 56 ?_
 refine on_ 13 HT_ fun K hK => ?_
 refine gc_ Tryz.func189 #[.int .i64 0] ?_
 with_reducible refine (slmust_ok _).mono ?_
 rintro e_ Wc ⟨rfl,rfl⟩
 refine ⟨_,rfl,?_⟩
 refine hK.out _ _ ⟨(cL HL 0 rfl),(cL HL 8 rfl)⟩ (fun hHeld => ?_)
 clear hK K
 refine no_ 57 ?_
 refine dn_ HT_ ?_
 clear HT_ HW_ hHeld
 dsimp only [Go.Proofs.YtokfjbbjkiilmaaGreatDoor.Rf.QN]
 obtain ⟨g,cap,cur,rfl,hg,hcs⟩ := own_cells HV.out (by decide)
 have HGC := Aside0.mk (And.intro (hcs 0 _ rfl) (hcs 1 _ rfl))
 have NGD := Aside0.mk (tne hg HD.out (by decide))
 clear hg hcs HV
 have y0 : Wc.cell? ⟨l,0,none⟩ = some (.pointer (some ⟨d,0,none⟩)) := cL HL 0 rfl
 have y1 : Wc.cell? ⟨l,1,none⟩ = some (.int .i64 4) := cL HL 1 rfl
 have y2 : Wc.cell? ⟨l,2,none⟩ = some (.int .i64 2) := cL HL 2 rfl
 have y3 : Wc.cell? ⟨l,3,none⟩ = some (.slice (some ⟨oo,0,none⟩) 1 1) := cL HL 3 rfl
 have y4 : Wc.cell? ⟨l,4,none⟩ = some (.slice (some ⟨ln,0,none⟩) 1 1) := cL HL 4 rfl
 have y5 : Wc.cell? ⟨l,5,none⟩ = some (.slice (some ⟨ff,0,none⟩) 1 1) := cL HL 5 rfl
 have y6 : Wc.cell? ⟨l,6,none⟩ = some (.int .u64 lsn) := cL HL 6 rfl
 have y7 : Wc.cell? ⟨l,7,none⟩ = some (.int .u32 ep) := cL HL 7 rfl
 have y8 : Wc.cell? ⟨l,8,none⟩ = some (.int .u64 0) := cL HL 8 rfl
 go_wp2_with fail
 refine (dflush1_calls d m g cap (left - 1 - 1) 1 (ckS 1 ep lsn vr k) es (es.push { key := .int .i64 1,val := .agg #[.int .i64 1,.string (ckS 1 ep lsn vr k)],born := c }) c (c + 1) _ HD.out HM.out HGC.out ⟨NGD.out,NMD.out⟩ (by have := HLF.out; omega) (fun W hW => run_up_no (key := .int .i64 1) (k := 3) (e := 286) (kd := .int .i64) (by kernel_rfl) (by kernel_rfl) rfl hW HFI.out)).mono ?_
 rintro e_ W5 ⟨rfl,hd5,hm5,hk5⟩
 have NM4 := Aside0.mk N4.out.2.2
 replace HL := Aside0.mk (blk_keep HL.out hk5 (by simp [NLD.out,NML.out.symm]))
 replace HO := Aside0.mk (blk_keep HO.out hk5 (by simp [NOD.out,NMO.out.symm]))
 replace HK := Aside0.mk (blk_keep HK.out hk5 (by simp [NKD.out,NMK.out.symm]))
 replace HF := Aside0.mk (blk_keep HF.out hk5 (by simp [NFD.out,NMF.out.symm]))
 replace H4 := Aside0.mk (blk_keep H4.out hk5 (by simp [N4.out.1,N4.out.2.2]))
 replace HB : Aside0 (Keep [d,m,l] w W5) := ⟨HB.out.trans (hk5.mono (fun q _ h => by simp at h ⊢; omega))⟩
 clear hk5
 replace HD := Aside0.mk hd5
 replace HM := Aside0.mk hm5
 clear hd5 hm5 y0 y1 y2 y3 y4 y5 y6 y7 y8
 go_wp2_with fail
 refine (slmust_ok _).mono ?_
 rintro e_ W6 ⟨rfl,rfl⟩
 have y0 : W6.cell? ⟨l,0,none⟩ = some (.pointer (some ⟨d,0,none⟩)) := cL HL 0 rfl
 have y1 : W6.cell? ⟨l,1,none⟩ = some (.int .i64 4) := cL HL 1 rfl
 have y2 : W6.cell? ⟨l,2,none⟩ = some (.int .i64 2) := cL HL 2 rfl
 have y3 : W6.cell? ⟨l,3,none⟩ = some (.slice (some ⟨oo,0,none⟩) 1 1) := cL HL 3 rfl
 have y4 : W6.cell? ⟨l,4,none⟩ = some (.slice (some ⟨ln,0,none⟩) 1 1) := cL HL 4 rfl
 have y5 : W6.cell? ⟨l,5,none⟩ = some (.slice (some ⟨ff,0,none⟩) 1 1) := cL HL 5 rfl
 have y6 : W6.cell? ⟨l,6,none⟩ = some (.int .u64 lsn) := cL HL 6 rfl
 have y7 : W6.cell? ⟨l,7,none⟩ = some (.int .u32 ep) := cL HL 7 rfl
 have y8 : W6.cell? ⟨l,8,none⟩ = some (.int .u64 0) := cL HL 8 rfl
 have f8 := blk_frozen HL.out 8
 have n4_ := N4.out.2.1
 have n5_ := N4.out.2.1.symm
 have y4_ : W6.cell? ⟨g4,0,none⟩ = some (.int .i64 0) := cL H4 0 rfl
 have f4_ := blk_frozen H4.out 0
 go_wp2_with fail
 have h1 := setRow_heap W6 l _ #[.pointer (some ⟨d,0,none⟩),.int .i64 4,.int .i64 2,.slice (some ⟨oo,0,none⟩) 1 1,.slice (some ⟨ln,0,none⟩) 1 1,.slice (some ⟨ff,0,none⟩) 1 1,.int .u64 lsn,.int .u32 ep,.int .u64 1] _ _ HL.out
 have h2 := mR #[.pointer (some ⟨d,0,none⟩),.int .i64 4,.int .i64 2,.slice (some ⟨oo,0,none⟩) 1 1,.slice (some ⟨ln,0,none⟩) 1 1,.slice (some ⟨ff,0,none⟩) 1 1,.int .u64 lsn,.int .u32 ep,.int .u64 1] H4.out N4.out.2.1
 have e_1 : W6.setCell ⟨l,8,none⟩ (.int .u64 1) = W6.setRow l #[.pointer (some ⟨d,0,none⟩),.int .i64 4,.int .i64 2,.slice (some ⟨oo,0,none⟩) 1 1,.slice (some ⟨ln,0,none⟩) 1 1,.slice (some ⟨ff,0,none⟩) 1 1,.int .u64 lsn,.int .u32 ep,.int .u64 1] := setCell_eq_setRow W6 l 8 _ _ _ _ HL.out
 rw [e_1,setCell_eq_setRow _ g4 0 _ _ _ _ h2]
 have q1 : ∀ (a : Nat) (o_ : Obj),W6.heap[a]? = some o_ → a ≠ l → a ≠ g4 → ((W6.setRow l #[.pointer (some ⟨d,0,none⟩),.int .i64 4,.int .i64 2,.slice (some ⟨oo,0,none⟩) 1 1,.slice (some ⟨ln,0,none⟩) 1 1,.slice (some ⟨ff,0,none⟩) 1 1,.int .u64 lsn,.int .u32 ep,.int .u64 1]).setRow g4 #[.int .i64 0]).heap[a]? = some o_ := fun a o_ h_ n_ n2_ => mR _ (mR _ h_ n_) n2_
 have NG : Aside0 ((d ≠ g4 ∧ m ≠ g4) ∧ (oo ≠ g4 ∧ ln ≠ g4) ∧ ff ≠ g4) := ⟨⟨N4.out.1.symm,N4.out.2.2.symm⟩,⟨tne HO.out H4.out (by decide),tne HK.out H4.out (by decide)⟩,tne HF.out H4.out (by decide)⟩
 have hfin : Lst ((W6.setRow l #[.pointer (some ⟨d,0,none⟩),.int .i64 4,.int .i64 2,.slice (some ⟨oo,0,none⟩) 1 1,.slice (some ⟨ln,0,none⟩) 1 1,.slice (some ⟨ff,0,none⟩) 1 1,.int .u64 lsn,.int .u32 ep,.int .u64 1]).setRow g4 #[.int .i64 0]) l d m oo ln ff (left - 3) (.slice none 0 0) (es.push { key := .int .i64 1,val := .agg #[.int .i64 1,.string (ckS 1 ep lsn vr k)],born := c }) (c + 1) k x lsn ep 1 := ⟨by have := q1 d _ HD.out NLD.out.symm NG.out.1.1; rw [show left - 3 = left - 1 - 1 - 1 by omega]; exact this,q1 m _ HM.out NML.out NG.out.1.2,mR _ h1 N4.out.2.1.symm,q1 oo _ HO.out NOL.out NG.out.2.1.1,q1 ln _ HK.out NKL.out NG.out.2.1.2,q1 ff _ HF.out NFL.out NG.out.2.2,HNE.out⟩
 have h4 : ((W6.setRow l #[.pointer (some ⟨d,0,none⟩),.int .i64 4,.int .i64 2,.slice (some ⟨oo,0,none⟩) 1 1,.slice (some ⟨ln,0,none⟩) 1 1,.slice (some ⟨ff,0,none⟩) 1 1,.int .u64 lsn,.int .u32 ep,.int .u64 1]).setRow g4 #[.int .i64 0]).heap[g4]? = some (.cells #[.int .i64 0] 39 (0,0)) := setRow_heap _ _ _ _ _ _ h2
 have hkf : Keep [d,m,l] w ((W6.setRow l #[.pointer (some ⟨d,0,none⟩),.int .i64 4,.int .i64 2,.slice (some ⟨oo,0,none⟩) 1 1,.slice (some ⟨ln,0,none⟩) 1 1,.slice (some ⟨ff,0,none⟩) 1 1,.int .u64 lsn,.int .u32 ep,.int .u64 1]).setRow g4 #[.int .i64 0]) := (HB.out.setRow _ (.inl (by simp))).setRow _ (.inr G4.out)
 show bodyPostD _ _ _ _ _ ((W6.setRow l #[.pointer (some ⟨d,0,none⟩),.int .i64 4,.int .i64 2,.slice (some ⟨oo,0,none⟩) 1 1,.slice (some ⟨ln,0,none⟩) 1 1,.slice (some ⟨ff,0,none⟩) 1 1,.int .u64 lsn,.int .u32 ep,.int .u64 1]).setRow g4 #[.int .i64 0])
 generalize (W6.setRow l #[.pointer (some ⟨d,0,none⟩),.int .i64 4,.int .i64 2,.slice (some ⟨oo,0,none⟩) 1 1,.slice (some ⟨ln,0,none⟩) 1 1,.slice (some ⟨ff,0,none⟩) 1 1,.int .u64 lsn,.int .u32 ep,.int .u64 1]).setRow g4 #[.int .i64 0] = W7 at *
 refine leaves_cons (f := 188) (args := #[.pointer (some ⟨g4,0,none⟩)]) (by simp) (by simp [go_sem]) ?_
 refine (slcaught_idle ⟨g4,0,none⟩ _).mono ?_
 rintro e_ u_ W8 ⟨rfl,rfl,hb⟩
 have c4 : W8.cell? ⟨g4,0,none⟩ = some (.int .i64 0) := (blk_cell (blk_below h4 hb) 0).trans rfl
 simp only [Leaves,settle]
 exact ⟨.int .i64 0,by simp [results,Tryz.results141,asAddr,go_sem,c4],rfl,hfin.below hb,hkf.trans (Keep.below hb)⟩
def ckpt1.T3 : Bool × List (List Nat × List Nat) := (true,[([],[]),([0],[0]),([1],[1]),([2],[2]),([3],[3]),([],[]),([5],[5]),([6],[6]),([7],[7]),([],[]),([9],[9]),([10],[10]),([11],[11]),([],[]),([],[]),([14],[14]),([15],[15]),([16],[16]),([17],[17]),([],[]),([19],[19]),([20],[20]),([21],[21]),([22],[22]),([4,8,12,13,18,23],[4,8,12,13,18,23]),([24],[24]),([25],[25]),([26],[26]),([26],[26]),([27,25,0,1,2,3,4,5,6,7,8,9,10,11,12,13,14,15,16,17,18,19,20,21,22,23,24,25,26,27],[27]),([28,29,0,1,2,3,4,5,6,7,8,9,10,11,12,13,14,15,16,17,18,19,20,21,22,23,24,25,26,27,28,29],[28])])
def ckpt1.B3 : List Nat := [0,1,3,7,15,0,32,96,224,0,512,1536,3584,0,0,16384,49152,114688,245760,0,524288,1572864,3670016,7864320,16777215,33554431,67108863,134217727,134217727,268435455,1073741823]
theorem ckpt1.tab3 : rtab .any (opsOf Tryz.f141 3) = ckpt1.T3 := by kernel_rfl
theorem ckpt1.bits3 : waitsOk ckpt1.T3.2 ckpt1.B3 = true := by kernel_rfl
def ckpt1.T5 : Bool × List (List Nat × List Nat) := (true,[([],[]),([0],[0]),([1],[1]),([2],[2]),([],[]),([4],[4]),([5],[5]),([6],[6]),([7],[7]),([8],[8]),([9],[9]),([],[]),([3,10,11],[3,10,11]),([12,12],[12])])
def ckpt1.B5 : List Nat := [0,1,3,7,0,16,48,112,240,496,1008,0,4095,8191]
theorem ckpt1.tab5 : rtab .any (opsOf Tryz.f141 5) = ckpt1.T5 := by kernel_rfl
theorem ckpt1.bits5 : waitsOk ckpt1.T5.2 ckpt1.B5 = true := by kernel_rfl
theorem ckpt1_calls (l d m oo ln ff : Nat) (left : Int) (es : Array MapEntry) (c : Nat) (k x lsn ep vr : Int) (w : World) (h : Lst w l d m oo ln ff left (.slice none 0 0) es c k x lsn ep 1) (hn : (0 ≤ ep ∧ ep < 4294967296) ∧ (0 < lsn ∧ lsn < 18446744073709551616) ∧ (0 ≤ vr ∧ vr < 18446744073709551616) ∧ (0 ≤ k ∧ k ≤ 30)) (hlf : (-1000 ≤ left ∧ left ≤ 0) ∧ -900 ≤ left) (hfi : Instr.findNow (.int .i64) (.int .i64 0) es.toList 0 = some none) :
 Calls Tryz.prog 141 #[.pointer (some ⟨l,0,none⟩),.int .u64 vr] w fun e w' => e = .returned (.int .i64 0) ∧ Lst w' l d m oo ln ff (left - 3) (.slice none 0 0) (es.push { key := .int .i64 0,val := .agg #[.int .i64 0,.string (ckS 2 ep lsn vr k)],born := c }) (c + 1) k x lsn ep 2 ∧ Keep [d,m,l] w w' := by
 have HN := Aside0.mk hn
 have HLF := Aside0.mk hlf
 have HFI := Aside0.mk hfi
 obtain ⟨q1,q2,q3,q4,q5,q6,q7⟩ := h
 have HD := Aside0.mk q1
 have HM := Aside0.mk q2
 have HL : Aside0 (w.heap[l]? = some (.cells #[.pointer (some ⟨d,0,none⟩),.int .i64 4,.int .i64 2,.slice (some ⟨oo,0,none⟩) 1 1,.slice (some ⟨ln,0,none⟩) 1 1,.slice (some ⟨ff,0,none⟩) 1 1,.int .u64 lsn,.int .u32 ep,.int .u64 1] 242 (0,0))) := ⟨q3⟩
 have HO := Aside0.mk q4
 have HK := Aside0.mk q5
 have HF := Aside0.mk q6
 have HNE := Aside0.mk q7
 have NMD := Aside0.mk (map_ne q2 q1)
 have NLD := Aside0.mk (tne q3 q1 (by decide))
 have NML := Aside0.mk (map_ne q2 q3)
 have NOD := Aside0.mk (tne q4 q1 (by decide))
 have NKD := Aside0.mk (tne q5 q1 (by decide))
 have NFD := Aside0.mk (tne q6 q1 (by decide))
 have NMO := Aside0.mk (map_ne q2 q4)
 have NMK := Aside0.mk (map_ne q2 q5)
 have NMF := Aside0.mk (map_ne q2 q6)
 have NOL := Aside0.mk (tne q4 q3 (by decide))
 have NKL := Aside0.mk (tne q5 q3 (by decide))
 have NFL := Aside0.mk (tne q6 q3 (by decide))
 clear q1 q2 q3 q4 q5 q6 q7 hn hlf hfi
 go_enter_defers Tryz.func141,Tryz.ntmps141
 go_upto_region 2 with fail
 obtain ⟨W1,g4,hW_,hg4,H4,hb_⟩ := new1 w #[.int .i64 0] 39
 rw [← hW_,← hg4.out]
 replace HD := mb HD hb_
 replace HM := mb HM hb_
 replace HL := mb HL hb_
 replace HO := mb HO hb_
 replace HK := mb HK hb_
 replace HF := mb HF hb_
 have HB := Aside0.mk hb_
 clear hW_ hb_
 have G4 : Aside0 (w.heap.size ≤ g4) := ⟨by have := hg4.out; omega⟩
 have N4 : Aside0 (g4 ≠ d ∧ g4 ≠ l ∧ g4 ≠ m) := ⟨tne H4.out HD.out (by decide),tne H4.out HL.out (by decide),(map_ne HM.out H4.out).symm⟩
 replace HB : Aside0 (Keep [d,m,l] w W1) := ⟨Keep.below HB.out⟩
 have y0 : W1.cell? ⟨l,0,none⟩ = some (.pointer (some ⟨d,0,none⟩)) := cL HL 0 rfl
 have y1 : W1.cell? ⟨l,1,none⟩ = some (.int .i64 4) := cL HL 1 rfl
 have y2 : W1.cell? ⟨l,2,none⟩ = some (.int .i64 2) := cL HL 2 rfl
 have y3 : W1.cell? ⟨l,3,none⟩ = some (.slice (some ⟨oo,0,none⟩) 1 1) := cL HL 3 rfl
 have y4 : W1.cell? ⟨l,4,none⟩ = some (.slice (some ⟨ln,0,none⟩) 1 1) := cL HL 4 rfl
 have y5 : W1.cell? ⟨l,5,none⟩ = some (.slice (some ⟨ff,0,none⟩) 1 1) := cL HL 5 rfl
 have y6 : W1.cell? ⟨l,6,none⟩ = some (.int .u64 lsn) := cL HL 6 rfl
 have y7 : W1.cell? ⟨l,7,none⟩ = some (.int .u32 ep) := cL HL 7 rfl
 have y8 : W1.cell? ⟨l,8,none⟩ = some (.int .u64 1) := cL HL 8 rfl
 go_wp2_with fail
 refine (dflush0_calls d m left _ HD.out HLF.out.1).mono ?_
 rintro e_ W2 ⟨rfl,hd2,hk2⟩
 clear y0 y1 y2 y3 y4 y5 y6 y7 y8
 replace HM := Aside0.mk (blk_keep HM.out hk2 (by simp [NMD.out]))
 replace HL := Aside0.mk (blk_keep HL.out hk2 (by simp [NLD.out]))
 replace HO := Aside0.mk (blk_keep HO.out hk2 (by simp [NOD.out]))
 replace HK := Aside0.mk (blk_keep HK.out hk2 (by simp [NKD.out]))
 replace HF := Aside0.mk (blk_keep HF.out hk2 (by simp [NFD.out]))
 replace H4 := Aside0.mk (blk_keep H4.out hk2 (by simp [N4.out.1]))
 replace HB : Aside0 (Keep [d,m,l] w W2) := ⟨HB.out.trans (hk2.mono (fun q _ h => by simp at h ⊢; omega))⟩
 clear hk2
 replace HD := Aside0.mk hd2
 clear hd2
 go_wp2_with fail
 refine (slmust_ok _).mono ?_
 rintro e_ W3 ⟨rfl,rfl⟩
 go_upto_region 3 with fail
 have u1_ : IntKind.u64.wrap (1 + 1) = 2 := by kernel_rfl
 have u2_ : IntKind.u64.wrap 2 = 2 := by kernel_rfl
 refine noOut' ?_
 refine st_ 31 (fun w' => w'.cell? ⟨l,8,none⟩ = some (.int .u64 1) ∧ w'.cell? ⟨l,7,none⟩ = some (.int .u32 ep) ∧ w'.cell? ⟨l,6,none⟩ = some (.int .u64 lsn) ∧ w'.cell? ⟨l,3,none⟩ = some (.slice (some ⟨oo,0,none⟩) 1 1) ∧ w'.cell? ⟨l,4,none⟩ = some (.slice (some ⟨ln,0,none⟩) 1 1)) [] ⟨(cD HL 8 rfl),(cD HL 7 rfl),(cD HL 6 rfl),(cD HL 3 rfl),(cD HL 4 rfl)⟩ fun hHeld => ?_
 refine with_tabW ckpt1.tab3 ckpt1.bits3 (fun HT_ HW_ => ?_)
 replace HD := mD HD
 replace HM := mD HM
 replace HL := mD HL
 replace HO := mD HO
 replace HK := mD HK
 replace HF := mD HF
 replace H4 := mD H4
 replace HB := Aside0.mk (HB.out.drew)
 generalize W3.drew = wd1 at *
 refine pa_ 0 14 HT_ ?_
 refine pa_ 1 15 HT_ ?_
 refine pa_ 2 16 HT_ ?_
 refine pa_ 5 19 HT_ ?_
 refine pa_ 6 20 HT_ ?_
 refine pa_ 7 21 HT_ ?_
 refine pa_ 9 23 HT_ ?_
 refine pa_ 10 24 HT_ ?_
 refine pa_ 11 25 HT_ ?_
 refine pa_ 13 27 HT_ ?_
 refine pa_ 14 28 HT_ ?_
 refine pa_ 15 29 HT_ ?_
 refine pa_ 16 30 HT_ ?_
 refine pa_ 17 31 HT_ ?_
 refine pa_ 19 33 HT_ ?_
 refine pa_ 20 34 HT_ ?_
 refine pa_ 21 35 HT_ ?_
 refine pa_ 22 36 HT_ ?_
 refine ta_ 3 17 HT_ HW_ hHeld ?_
 refine pa_ 4 18 HT_ ?_
 refine ta_ 8 22 HT_ HW_ hHeld ?_
 refine ta_ 12 26 HT_ HW_ hHeld ?_
 refine ta_ 18 32 HT_ HW_ hHeld ?_
 refine ta_ 23 37 HT_ HW_ hHeld ?_
 refine pa_ 24 38 HT_ ?_
 refine on_ 25 HT_ fun K hK => ?_
 refine gc_ Tryz.func191 #[.agg #[.int .u64 2,.int .u32 ep,.int .u64 lsn,.int .u64 vr,.slice (some ⟨oo,0,none⟩) 1 1,.slice (some ⟨ln,0,none⟩) 1 1]] ?_
 with_reducible refine (ckenc1_calls 2 ep lsn vr k oo 1 ln 1 _ ⟨by decide,HN.out⟩ (cL HO 0 rfl) (cL HK 0 rfl)).mono ?_
 rintro e_ Wa ⟨rfl,hb⟩
 refine ⟨_,rfl,?_⟩
 replace HD := mb HD hb
 replace HM := mb HM hb
 replace HL := mb HL hb
 replace HO := mb HO hb
 replace HK := mb HK hb
 replace HF := mb HF hb
 replace H4 := mb H4 hb
 replace HB : Aside0 (Keep [d,m,l] w Wa) := ⟨HB.out.trans (Keep.below hb)⟩
 clear hb
 refine hK.out _ _ ⟨(cL HL 8 rfl),(cL HL 7 rfl),(cL HL 6 rfl),(cL HL 3 rfl),(cL HL 4 rfl)⟩ (fun hHeld => ?_)
 clear hK K
 refine no_ 39 ?_
 refine pa_ 26 13 HT_ ?_
 refine pa_ 27 40 HT_ ?_
 refine pa_ 28 41 HT_ ?_
 refine pa_ 29 5 HT_ ?_
 refine pa_ 30 6 HT_ ?_
 refine dn_ HT_ ?_
 clear HT_ HW_ hHeld
 dsimp only [Go.Proofs.YtokfjbbjkiilmaaGreatDoor.Rf.QN]
 go_wp2_with fail
 refine (slmust_ok _).mono ?_
 rintro e_ W4 ⟨rfl,rfl⟩
 go_upto_region 5 with fail
 have u3_ : (2 : Int) % 2 = 0 := by decide
 have u4_ : IntKind.i64.wrap 0 = 0 := by kernel_rfl
 have u5_ : wrap64 0 = 0 := by kernel_rfl
 refine noOut' ?_
 refine st_ 14 (fun w' => w'.cell? ⟨l,0,none⟩ = some (.pointer (some ⟨d,0,none⟩)) ∧ w'.cell? ⟨l,8,none⟩ = some (.int .u64 1)) [] ⟨(cD HL 0 rfl),(cD HL 8 rfl)⟩ fun hHeld => ?_
 refine with_tabW ckpt1.tab5 ckpt1.bits5 (fun HT_ HW_ => ?_)
 replace HD := mD HD
 replace HM := mD HM
 replace HL := mD HL
 replace HO := mD HO
 replace HK := mD HK
 replace HF := mD HF
 replace H4 := mD H4
 replace HB := Aside0.mk (HB.out.drew)
 generalize W4.drew = wd2 at *
 refine pa_ 0 44 HT_ ?_
 refine pa_ 1 45 HT_ ?_
 refine pa_ 2 46 HT_ ?_
 refine pa_ 4 48 HT_ ?_
 refine pa_ 5 49 HT_ ?_
 refine pa_ 6 50 HT_ ?_
 refine pa_ 11 55 HT_ ?_
 refine ta_ 3 47 HT_ HW_ hHeld ?_
 refine ta_ 7 51 HT_ HW_ hHeld ?_
 refine pa_ 8 52 HT_ ?_
 refine pa_ 9 53 HT_ ?_
 refine pa_ 10 54 HT_ ?_
 refine on_ 12 HT_ fun K hK => ?_
 refine gc_ Tryz.func192 #[.pointer (some ⟨d,0,none⟩),.int .i64 0,.string (ckS 2 ep lsn vr k)] ?_
 with_reducible refine (dwrite_calls d m (left - 1) (.slice none 0 0) 0 (ckS 2 ep lsn vr k) 0 [] _ HD.out own_nil (ckS_size ..) ⟨by decide,by decide⟩ (by have := HLF.out; omega) (by decide)).mono ?_
 rintro e_ Wb ⟨rfl,v2,hd2,ho2,hk2,hv2⟩
 refine ⟨_,rfl,?_⟩
 have HV := Aside0.mk ho2
 replace hk2 : Keep [d] wd2 Wb := hk2
 clear ho2 hv2
 replace HM := Aside0.mk (blk_keep HM.out hk2 (by simp [NMD.out]))
 replace HL := Aside0.mk (blk_keep HL.out hk2 (by simp [NLD.out]))
 replace HO := Aside0.mk (blk_keep HO.out hk2 (by simp [NOD.out]))
 replace HK := Aside0.mk (blk_keep HK.out hk2 (by simp [NKD.out]))
 replace HF := Aside0.mk (blk_keep HF.out hk2 (by simp [NFD.out]))
 replace H4 := Aside0.mk (blk_keep H4.out hk2 (by simp [N4.out.1]))
 replace HB : Aside0 (Keep [d,m,l] w Wb) := ⟨HB.out.trans (hk2.mono (fun q _ h => by simp at h ⊢; omega))⟩
 clear hk2
 replace HD := Aside0.mk hd2
 clear hd2
 refine hK.out _ _ ⟨(cL HL 0 rfl),(cL HL 8 rfl)⟩ (fun hHeld => ?_)
 clear hK K
 refine no_ 56 ?_
 refine on_ 13 HT_ fun K hK => ?_
 refine gc_ Tryz.func189 #[.int .i64 0] ?_
 with_reducible refine (slmust_ok _).mono ?_
 rintro e_ Wc ⟨rfl,rfl⟩
 refine ⟨_,rfl,?_⟩
 refine hK.out _ _ ⟨(cL HL 0 rfl),(cL HL 8 rfl)⟩ (fun hHeld => ?_)
 clear hK K
 refine no_ 57 ?_
 refine dn_ HT_ ?_
 clear HT_ HW_ hHeld
 dsimp only [Go.Proofs.YtokfjbbjkiilmaaGreatDoor.Rf.QN]
 obtain ⟨g,cap,cur,rfl,hg,hcs⟩ := own_cells HV.out (by decide)
 have HGC := Aside0.mk (And.intro (hcs 0 _ rfl) (hcs 1 _ rfl))
 have NGD := Aside0.mk (tne hg HD.out (by decide))
 clear hg hcs HV
 have y0 : Wc.cell? ⟨l,0,none⟩ = some (.pointer (some ⟨d,0,none⟩)) := cL HL 0 rfl
 have y1 : Wc.cell? ⟨l,1,none⟩ = some (.int .i64 4) := cL HL 1 rfl
 have y2 : Wc.cell? ⟨l,2,none⟩ = some (.int .i64 2) := cL HL 2 rfl
 have y3 : Wc.cell? ⟨l,3,none⟩ = some (.slice (some ⟨oo,0,none⟩) 1 1) := cL HL 3 rfl
 have y4 : Wc.cell? ⟨l,4,none⟩ = some (.slice (some ⟨ln,0,none⟩) 1 1) := cL HL 4 rfl
 have y5 : Wc.cell? ⟨l,5,none⟩ = some (.slice (some ⟨ff,0,none⟩) 1 1) := cL HL 5 rfl
 have y6 : Wc.cell? ⟨l,6,none⟩ = some (.int .u64 lsn) := cL HL 6 rfl
 have y7 : Wc.cell? ⟨l,7,none⟩ = some (.int .u32 ep) := cL HL 7 rfl
 have y8 : Wc.cell? ⟨l,8,none⟩ = some (.int .u64 1) := cL HL 8 rfl
 go_wp2_with fail
 refine (dflush1_calls d m g cap (left - 1 - 1) 0 (ckS 2 ep lsn vr k) es (es.push { key := .int .i64 0,val := .agg #[.int .i64 0,.string (ckS 2 ep lsn vr k)],born := c }) c (c + 1) _ HD.out HM.out HGC.out ⟨NGD.out,NMD.out⟩ (by have := HLF.out; omega) (fun W hW => run_up_no (key := .int .i64 0) (k := 3) (e := 286) (kd := .int .i64) (by kernel_rfl) (by kernel_rfl) rfl hW HFI.out)).mono ?_
 rintro e_ W5 ⟨rfl,hd5,hm5,hk5⟩
 have NM4 := Aside0.mk N4.out.2.2
 replace HL := Aside0.mk (blk_keep HL.out hk5 (by simp [NLD.out,NML.out.symm]))
 replace HO := Aside0.mk (blk_keep HO.out hk5 (by simp [NOD.out,NMO.out.symm]))
 replace HK := Aside0.mk (blk_keep HK.out hk5 (by simp [NKD.out,NMK.out.symm]))
 replace HF := Aside0.mk (blk_keep HF.out hk5 (by simp [NFD.out,NMF.out.symm]))
 replace H4 := Aside0.mk (blk_keep H4.out hk5 (by simp [N4.out.1,N4.out.2.2]))
 replace HB : Aside0 (Keep [d,m,l] w W5) := ⟨HB.out.trans (hk5.mono (fun q _ h => by simp at h ⊢; omega))⟩
 clear hk5
 replace HD := Aside0.mk hd5
 replace HM := Aside0.mk hm5
 clear hd5 hm5 y0 y1 y2 y3 y4 y5 y6 y7 y8
 go_wp2_with fail
 refine (slmust_ok _).mono ?_
 rintro e_ W6 ⟨rfl,rfl⟩
 have y0 : W6.cell? ⟨l,0,none⟩ = some (.pointer (some ⟨d,0,none⟩)) := cL HL 0 rfl
 have y1 : W6.cell? ⟨l,1,none⟩ = some (.int .i64 4) := cL HL 1 rfl
 have y2 : W6.cell? ⟨l,2,none⟩ = some (.int .i64 2) := cL HL 2 rfl
 have y3 : W6.cell? ⟨l,3,none⟩ = some (.slice (some ⟨oo,0,none⟩) 1 1) := cL HL 3 rfl
 have y4 : W6.cell? ⟨l,4,none⟩ = some (.slice (some ⟨ln,0,none⟩) 1 1) := cL HL 4 rfl
 have y5 : W6.cell? ⟨l,5,none⟩ = some (.slice (some ⟨ff,0,none⟩) 1 1) := cL HL 5 rfl
 have y6 : W6.cell? ⟨l,6,none⟩ = some (.int .u64 lsn) := cL HL 6 rfl
 have y7 : W6.cell? ⟨l,7,none⟩ = some (.int .u32 ep) := cL HL 7 rfl
 have y8 : W6.cell? ⟨l,8,none⟩ = some (.int .u64 1) := cL HL 8 rfl
 have f8 := blk_frozen HL.out 8
 have n4_ := N4.out.2.1
 have n5_ := N4.out.2.1.symm
 have y4_ : W6.cell? ⟨g4,0,none⟩ = some (.int .i64 0) := cL H4 0 rfl
 have f4_ := blk_frozen H4.out 0
 go_wp2_with fail
 have h1 := setRow_heap W6 l _ #[.pointer (some ⟨d,0,none⟩),.int .i64 4,.int .i64 2,.slice (some ⟨oo,0,none⟩) 1 1,.slice (some ⟨ln,0,none⟩) 1 1,.slice (some ⟨ff,0,none⟩) 1 1,.int .u64 lsn,.int .u32 ep,.int .u64 2] _ _ HL.out
 have h2 := mR #[.pointer (some ⟨d,0,none⟩),.int .i64 4,.int .i64 2,.slice (some ⟨oo,0,none⟩) 1 1,.slice (some ⟨ln,0,none⟩) 1 1,.slice (some ⟨ff,0,none⟩) 1 1,.int .u64 lsn,.int .u32 ep,.int .u64 2] H4.out N4.out.2.1
 have e_1 : W6.setCell ⟨l,8,none⟩ (.int .u64 2) = W6.setRow l #[.pointer (some ⟨d,0,none⟩),.int .i64 4,.int .i64 2,.slice (some ⟨oo,0,none⟩) 1 1,.slice (some ⟨ln,0,none⟩) 1 1,.slice (some ⟨ff,0,none⟩) 1 1,.int .u64 lsn,.int .u32 ep,.int .u64 2] := setCell_eq_setRow W6 l 8 _ _ _ _ HL.out
 rw [e_1,setCell_eq_setRow _ g4 0 _ _ _ _ h2]
 have q1 : ∀ (a : Nat) (o_ : Obj),W6.heap[a]? = some o_ → a ≠ l → a ≠ g4 → ((W6.setRow l #[.pointer (some ⟨d,0,none⟩),.int .i64 4,.int .i64 2,.slice (some ⟨oo,0,none⟩) 1 1,.slice (some ⟨ln,0,none⟩) 1 1,.slice (some ⟨ff,0,none⟩) 1 1,.int .u64 lsn,.int .u32 ep,.int .u64 2]).setRow g4 #[.int .i64 0]).heap[a]? = some o_ := fun a o_ h_ n_ n2_ => mR _ (mR _ h_ n_) n2_
 have NG : Aside0 ((d ≠ g4 ∧ m ≠ g4) ∧ (oo ≠ g4 ∧ ln ≠ g4) ∧ ff ≠ g4) := ⟨⟨N4.out.1.symm,N4.out.2.2.symm⟩,⟨tne HO.out H4.out (by decide),tne HK.out H4.out (by decide)⟩,tne HF.out H4.out (by decide)⟩
 have hfin : Lst ((W6.setRow l #[.pointer (some ⟨d,0,none⟩),.int .i64 4,.int .i64 2,.slice (some ⟨oo,0,none⟩) 1 1,.slice (some ⟨ln,0,none⟩) 1 1,.slice (some ⟨ff,0,none⟩) 1 1,.int .u64 lsn,.int .u32 ep,.int .u64 2]).setRow g4 #[.int .i64 0]) l d m oo ln ff (left - 3) (.slice none 0 0) (es.push { key := .int .i64 0,val := .agg #[.int .i64 0,.string (ckS 2 ep lsn vr k)],born := c }) (c + 1) k x lsn ep 2 := ⟨by have := q1 d _ HD.out NLD.out.symm NG.out.1.1; rw [show left - 3 = left - 1 - 1 - 1 by omega]; exact this,q1 m _ HM.out NML.out NG.out.1.2,mR _ h1 N4.out.2.1.symm,q1 oo _ HO.out NOL.out NG.out.2.1.1,q1 ln _ HK.out NKL.out NG.out.2.1.2,q1 ff _ HF.out NFL.out NG.out.2.2,HNE.out⟩
 have h4 : ((W6.setRow l #[.pointer (some ⟨d,0,none⟩),.int .i64 4,.int .i64 2,.slice (some ⟨oo,0,none⟩) 1 1,.slice (some ⟨ln,0,none⟩) 1 1,.slice (some ⟨ff,0,none⟩) 1 1,.int .u64 lsn,.int .u32 ep,.int .u64 2]).setRow g4 #[.int .i64 0]).heap[g4]? = some (.cells #[.int .i64 0] 39 (0,0)) := setRow_heap _ _ _ _ _ _ h2
 have hkf : Keep [d,m,l] w ((W6.setRow l #[.pointer (some ⟨d,0,none⟩),.int .i64 4,.int .i64 2,.slice (some ⟨oo,0,none⟩) 1 1,.slice (some ⟨ln,0,none⟩) 1 1,.slice (some ⟨ff,0,none⟩) 1 1,.int .u64 lsn,.int .u32 ep,.int .u64 2]).setRow g4 #[.int .i64 0]) := (HB.out.setRow _ (.inl (by simp))).setRow _ (.inr G4.out)
 show bodyPostD _ _ _ _ _ ((W6.setRow l #[.pointer (some ⟨d,0,none⟩),.int .i64 4,.int .i64 2,.slice (some ⟨oo,0,none⟩) 1 1,.slice (some ⟨ln,0,none⟩) 1 1,.slice (some ⟨ff,0,none⟩) 1 1,.int .u64 lsn,.int .u32 ep,.int .u64 2]).setRow g4 #[.int .i64 0])
 generalize (W6.setRow l #[.pointer (some ⟨d,0,none⟩),.int .i64 4,.int .i64 2,.slice (some ⟨oo,0,none⟩) 1 1,.slice (some ⟨ln,0,none⟩) 1 1,.slice (some ⟨ff,0,none⟩) 1 1,.int .u64 lsn,.int .u32 ep,.int .u64 2]).setRow g4 #[.int .i64 0] = W7 at *
 refine leaves_cons (f := 188) (args := #[.pointer (some ⟨g4,0,none⟩)]) (by simp) (by simp [go_sem]) ?_
 refine (slcaught_idle ⟨g4,0,none⟩ _).mono ?_
 rintro e_ u_ W8 ⟨rfl,rfl,hb⟩
 have c4 : W8.cell? ⟨g4,0,none⟩ = some (.int .i64 0) := (blk_cell (blk_below h4 hb) 0).trans rfl
 simp only [Leaves,settle]
 exact ⟨.int .i64 0,by simp [results,Tryz.results141,asAddr,go_sem,c4],rfl,hfin.below hb,hkf.trans (Keep.below hb)⟩
end Go.Proofs.YtokfjbbjkiilmaaGreatDoor.H
namespace Go.Proofs.YtokfjbbjkiilmaaGreatDoor.H
open Go.RowKit Go.Proofs.YtokfjbbjkiilmaaGreatDoorW.PrintWords Go.Proofs.YtokfjbbjkiilmaaGreatDoorW.PrintLast Go.Proofs.YtokfjbbjkiilmaaGreatDoorW.PrintMore
set_option maxHeartbeats 8000000
set_option maxRecDepth 100000
attribute [local go_sem] max2_int min2_int min_two max_two
def lformat.T3 : Bool × List (List Nat × List Nat) := (true,[([],[]),([0],[0]),([],[]),([2,1],[2]),([1,3],[1,3])])
def lformat.B3 : List Nat := [0,1,0,7,15]
theorem lformat.tab3 : rtab .any (opsOf Tryz.f94 3) = lformat.T3 := by kernel_rfl
theorem lformat.bits3 : waitsOk lformat.T3.2 lformat.B3 = true := by kernel_rfl
theorem lformat_calls (d m : Nat) (left : Int) (es : Array MapEntry) (c : Nat) (w : World) (hd : w.heap[d]? = some (.cells (dkc left m (.slice none 0 0)) 108 (0,0))) (hm : w.heap[m]? = some (.map es c)) (hlf : (-1000 ≤ left ∧ left ≤ 0) ∧ -900 ≤ left) (hfi : Instr.findNow (.int .i64) (.int .i64 1) es.toList 0 = some none) :
 Calls Tryz.prog 94 #[.pointer (some ⟨d,0,none⟩),.agg cnf] w fun e w' => ∃ l oo ln ff : Nat,e = .returned (.tuple #[.pointer (some ⟨l,0,none⟩),.int .i64 0]) ∧ w.heap.size ≤ l ∧ Lst w' l d m oo ln ff (left - 3) (.slice none 0 0) (es.push { key := .int .i64 1,val := .agg #[.int .i64 1,.string (ckS 1 1 1 0 0)],born := c }) (c + 1) 0 1 1 1 1 ∧ Keep [d,m] w w' := by
 have HD := Aside0.mk hd
 have HM := Aside0.mk hm
 have HLF := Aside0.mk hlf
 have HFI := Aside0.mk hfi
 clear hd hm hlf hfi
 unfold cnf
 go_enter Tryz.func94,Tryz.ntmps94
 go_upto_region 1 with fail
 obtain ⟨W1,g3,hW_,hg3,HX,hb_⟩ := new1 w #[.int .i64 4,.int .i64 2,.float .f64 4607182418800017408,.int .i64 0] 24
 rw [← hW_,← hg3.out]
 replace HD := mb HD hb_
 replace HM := mb HM hb_
 have HB := Aside0.mk hb_
 clear hW_ hb_
 go_wp2_with (refine lr_ 3 HX.out Tryz.underlying24 ?_)
 refine (conf_calls _).mono ?_
 rintro e_ W2 ⟨rfl,hb⟩
 replace HX := mb HX hb
 replace HD := mb HD hb
 replace HM := mb HM hb
 replace HB := mS HB hb
 clear hb
 go_upto_region 3 with fail
 refine st_ 5 (fun w' => w'.cell? ⟨g3,0,none⟩ = some (.int .i64 4) ∧ w'.cell? ⟨g3,1,none⟩ = some (.int .i64 2) ∧ w'.cell? ⟨g3,2,none⟩ = some (.float .f64 4607182418800017408) ∧ w'.cell? ⟨g3,3,none⟩ = some (.int .i64 0)) [] ⟨(cD HX 0 rfl),(cD HX 1 rfl),(cD HX 2 rfl),(cD HX 3 rfl)⟩ fun hHeld => ?_
 refine with_tabW lformat.tab3 lformat.bits3 (fun HT_ HW_ => ?_)
 replace HX := mD HX
 replace HD := mD HD
 replace HM := mD HM
 replace HB := bD HB
 generalize W2.drew = wd1 at *
 refine pa_ 0 13 HT_ ?_
 refine ta_ 2 15 HT_ HW_ hHeld ?_
 refine on_ 1 HT_ fun K hK => ?_
 refine gc_ Tryz.func138 #[.pointer (some ⟨d,0,none⟩)] ?_
 with_reducible refine (dlen_calls d m left (.slice none 0 0) _ HD.out).mono ?_
 rintro e_ Wa ⟨rfl,rfl⟩
 refine ⟨_,rfl,?_⟩
 refine hK.out _ _ ⟨(cL HX 0 rfl),(cL HX 1 rfl),(cL HX 2 rfl),(cL HX 3 rfl)⟩ (fun hHeld => ?_)
 clear hK K
 refine no_ 14 ?_
 refine on_ 3 HT_ fun K hK => ?_
 refine gc_ Tryz.func42 #[.agg cnf] ?_
 with_reducible refine (sectors_calls _).mono ?_
 rintro e_ Wb ⟨rfl,hb⟩
 refine ⟨_,rfl,?_⟩
 replace HX := mb HX hb
 replace HD := mb HD hb
 replace HM := mb HM hb
 replace HB := mS HB hb
 clear hb
 refine hK.out _ _ ⟨(cL HX 0 rfl),(cL HX 1 rfl),(cL HX 2 rfl),(cL HX 3 rfl)⟩ (fun hHeld => ?_)
 clear hK K
 refine no_ 16 ?_
 refine pa_ 4 17 HT_ ?_
 refine dn_ HT_ ?_
 clear HT_ HW_ hHeld
 have y0 : Wb.cell? ⟨g3,0,none⟩ = some (.int .i64 4) := cL HX 0 rfl
 have y1 : Wb.cell? ⟨g3,1,none⟩ = some (.int .i64 2) := cL HX 1 rfl
 have y2 : Wb.cell? ⟨g3,2,none⟩ = some (.float .f64 4607182418800017408) := cL HX 2 rfl
 have y3 : Wb.cell? ⟨g3,3,none⟩ = some (.int .i64 0) := cL HX 3 rfl
 go_wp2_with fail
 refine (tnew_calls 1 _).mono ?_
 rintro e_ W3 ⟨oo,ln,ff,rfl,hne,h1,h2,h3,hb⟩
 clear y0 y1 y2 y3
 have HNE := Aside0.mk hne.2.2.2
 have HO := Aside0.mk h1
 have HN := Aside0.mk h2
 have HF := Aside0.mk h3
 replace HX := mb HX hb
 replace HD := mb HD hb
 replace HM := mb HM hb
 replace HB := mS HB hb
 clear hb
 clear h1 h2 h3 hne
 go_upto_region 6 with fail
 obtain ⟨W4,g6,hW_,hg6,H6,hb_⟩ := new1 W3 #[.int .i64 4,.int .i64 2,.slice (some ⟨oo,0,none⟩) 1 1,.slice (some ⟨ln,0,none⟩) 1 1,.slice (some ⟨ff,0,none⟩) 1 1] 162
 rw [← hW_,← hg6.out]
 replace HD := mb HD hb_
 replace HM := mb HM hb_
 replace HO := mb HO hb_
 replace HN := mb HN hb_
 replace HF := mb HF hb_
 replace HB := Aside0.mk (below_step (HB.out) hb_)
 clear hW_ hb_
 go_wp2_with (refine lr_ 6 H6.out Tryz.underlying162 ?_)
 refine (at_calls d oo 1 ln 1 ff 1 1 1 0 _).mono ?_
 rintro e_ W5 ⟨l,rfl,hl,hll,hb⟩
 have HL := Aside0.mk hll
 replace HD := mb HD hb
 replace HM := mb HM hb
 replace HO := mb HO hb
 replace HN := mb HN hb
 replace HF := mb HF hb
 have HLW : Aside0 (w.heap.size ≤ l) := ⟨Nat.le_trans HB.out.size hl⟩
 replace HB := mS HB hb
 clear hb hl hll
 go_wp2_with fail
 refine (ckpt0_calls l d m oo ln ff left es c 0 1 1 1 0 _ ⟨HD.out,HM.out,HL.out,HO.out,HN.out,HF.out,HNE.out⟩ (by decide) HLF.out HFI.out).mono ?_
 rintro e_ W6 ⟨rfl,hs,hk⟩
 have HS := Aside0.mk hs
 have HK := Aside0.mk hk
 clear hs hk
 go_wp2_with fail
 refine ret2 rfl rfl ⟨l,oo,ln,ff,rfl,HLW.out,HS.out,?_⟩
 exact ⟨HK.out.os.trans HB.out.os,HK.out.tape.trans HB.out.tape,HK.out.output.trans HB.out.output,Nat.le_trans HB.out.size HK.out.size,fun q hq hn => (HK.out.block q (Nat.lt_of_lt_of_le hq HB.out.size) (fun hm => by simp at hm hn; have := HLW.out; omega)).trans (HB.out.block q hq)⟩
end Go.Proofs.YtokfjbbjkiilmaaGreatDoor.H
