/-
TopTorn: part of its walk (Sn).
-/
import Derived.Test.YtokfjbbjkiilmaaGreatDoorTQ
set_option linter.unusedVariables false
set_option linter.unusedSimpArgs false
namespace Go.Proofs.YtokfjbbjkiilmaaGreatDoor.H
open Go.RowKit Go.Proofs.YtokfjbbjkiilmaaGreatDoorW.PrintWords Go.Proofs.YtokfjbbjkiilmaaGreatDoorW.PrintLast Go.Proofs.YtokfjbbjkiilmaaGreatDoorW.PrintMore
set_option maxHeartbeats 8000000
set_option maxRecDepth 100000
attribute [local go_sem] max2_int min2_int min_two max_two
theorem img0_table {W : World} {g : Nat} {a0 a1 a2 a3 a4 a5 a6 a7 a8 a9 a10 a11 a12 a13 : Value} (h : W.heap[g]? = some (.cells #[a0,a1,a2,a3,a4,a5,a6,a7,a8,a9,a10,a11,a12,a13] 323 (0,0))) :
 ((((W.setCell ⟨g,6,none⟩ (.int .i64 4)).setCell ⟨g,7,none⟩ (.int .i64 2)).setCell ⟨g,8,none⟩ (.slice none 0 0)).setCell ⟨g,9,none⟩ (.slice none 0 0)).setCell ⟨g,10,none⟩ (.slice none 0 0) = W.setRow g #[a0,a1,a2,a3,a4,a5,.int .i64 4,.int .i64 2,.slice none 0 0,.slice none 0 0,.slice none 0 0,a11,a12,a13] :=
 setCells_eq (o := 6) (vs := [.int .i64 4,.int .i64 2,.slice none 0 0,.slice none 0 0,.slice none 0 0]) h (by simp) (by simp [Value.oneCell'])
/-- A row, and its first value. -/
def R1 (w : World) (g t : Nat) (v : Value) : Prop := ∃ cur,w.heap[g]? = some (.cells cur t (0,0)) ∧ cur[0]? = some v
theorem R1.below {w w' : World} {g t : Nat} {v : Value} (h : R1 w g t v) (hb : Below w.heap.size w w') : R1 w' g t v := by
 obtain ⟨c,h1,h2⟩ := h
 exact ⟨c,blk_below h1 hb,h2⟩
theorem R1.far {w : World} {g t a t2 i : Nat} {v u : Value} {cs : Array Value} (h : R1 w g t v) (ha : w.heap[a]? = some (.cells cs t2 (0,0))) (ht : t ≠ t2) : R1 (w.setCell ⟨a,i,none⟩ u) g t v := by
 obtain ⟨c,h1,h2⟩ := h
 exact ⟨c,blk_far h1 (p := ⟨a,i,none⟩) (tne h1 ha ht) u,h2⟩
theorem New1.r1 {w W : World} {e g cap : Nat} {v : Value} (h : New1 w e 1 [v] g cap W) : R1 W g e v := by
 have h1 := h.cell 0 v rfl
 obtain ⟨c,h2,_⟩ := h.row
 exact ⟨c,h2,(blk_cell h2 0).symm.trans h1⟩
def rscan.T3 : Bool × List (List Nat × List Nat) := (true,[([],[]),([0],[0]),([],[]),([2,1],[2]),([1,3],[1,3])])
def rscan.B3 : List Nat := [0,1,0,7,15]
theorem rscan.tab3 : rtab .any (opsOf Tryz.f249 3) = rscan.T3 := by kernel_rfl
theorem rscan.bits3 : waitsOk rscan.T3.2 rscan.B3 = true := by kernel_rfl
def rscan.T13 : Bool × List (List Nat × List Nat) := (true,[([],[]),([0],[0]),([1],[1]),([],[]),([3],[3]),([2,4],[2,4]),([],[]),([6],[6]),([7],[7]),([],[]),([9],[9]),([],[]),([10,11],[10,11]),([12],[12]),([13],[13]),([8,14,5],[8,14]),([],[]),([16],[16]),([17],[17]),([],[]),([19],[19]),([20],[20]),([18,21,15],[18,21]),([0,1,2,3,4,5,8,13,15,18,22],[]),([23,0,1,2,3,4,5,8,13,15,18,22],[23]),([24,5,22,0,1,2,3,4,5,8,13,15,18,22],[5,24]),([0,1,2,3,4,5,6,7,8,9,10,11,12,13,14,15,18,22,23,24,25],[]),([26,0,1,2,3,4,5,6,7,8,9,10,11,12,13,14,15,18,22,23,24,25],[26]),([27,15,25,0,1,2,3,4,5,6,7,8,9,10,11,12,13,14,15,18,22,23,24,25],[15,27]),([0,1,2,3,4,5,6,7,8,9,10,11,12,13,14,15,16,17,18,19,20,21,22,23,24,25,26,27,28],[]),([29,0,1,2,3,4,5,6,7,8,9,10,11,12,13,14,15,16,17,18,19,20,21,22,23,24,25,26,27,28],[29]),([30,22,28,0,1,2,3,4,5,6,7,8,9,10,11,12,13,14,15,16,17,18,19,20,21,22,23,24,25,26,27,28],[22,30])])
def rscan.B13 : List Nat := [0,1,3,0,8,31,0,64,192,0,512,0,3584,7680,15872,32767,0,65536,196608,0,524288,1572864,4194303,8388607,16777215,33554431,67108863,134217727,268435455,536870911,1073741823,2147483647]
theorem rscan.tab13 : rtab .any (opsOf Tryz.f249 13) = rscan.T13 := by kernel_rfl
theorem rscan.bits13 : waitsOk rscan.T13.2 rscan.B13 = true := by kernel_rfl
theorem rscan_calls (d m n : Nat) (left dl : Int) (vs : Nat → ByteArray) (send : ByteArray) (w : World) (hn2 : n = 1 ∨ n = 2) (hd : w.heap[d]? = some (.cells (dkc left m (.slice none 0 0)) 108 (0,0))) (h0 : Rd w d 0 zsec) (h1 : Rd w d 1 (ckS 1 1 1 0 0)) (hrd : ∀ j : Nat,j < n → lok (1 + j) 1 (1 + j) dl (vs j) ∧ Rd w d (2 + j) (lrec (1 + j) 1 (1 + j) dl (vs j)).enc) (hend : send.size = 128 ∧ sb send 124 = 0 ∧ Rd w d (2 + n) send) :
 Calls Tryz.prog 249 #[.pointer (some ⟨d,0,none⟩),.agg cnf] w fun e w' => ∃ (o1 d1 l1 e1 oo ln ff : Nat) (fv : Value),e = .returned (.tuple #[.agg (img o1 d1 l1 e1 oo 1 ln 1 ff 1 (1 + n) n fv),.int .i64 0]) ∧ (w'.heap[oo]? = some (.cells #[.int .i64 0] 3 (0,0)) ∧ w'.heap[ln]? = some (.cells #[.int .i64 n] 3 (0,0)) ∧ w'.heap[ff]? = some (.cells #[.int .u64 1] 35 (0,0)) ∧ oo ≠ ln) ∧ w'.ownsRow 0 327 9 fv n (xsF dl vs n) ∧ Below w.heap.size w w' := by
 have HD := Aside0.mk hd
 have HR0 := Aside0.mk h0
 have HR1 := Aside0.mk h1
 have HRD := Aside0.mk hrd
 have HEND := Aside0.mk hend
 have HN2 := Aside0.mk hn2
 clear hd h0 h1 hrd hend hn2
 go_enter Tryz.func249,Tryz.ntmps249
 go_upto_region 1 with fail
 obtain ⟨W1,g3,g4,hW_,hg3,hg4,H3,H4,hb_⟩ := new2 w cnf 24 #[.int .u64 0,.int .u32 0,.int .u64 0,.int .u64 0,.slice none 0 0,.slice none 0 0,.int .i64 0,.int .i64 0,.slice none 0 0,.slice none 0 0,.slice none 0 0,.int .u64 0,.int .u64 0,.slice none 0 0] 323
 rw [← hW_,← hg4.out,← hg3.out]
 have HB := Aside0.mk hb_
 clear hW_ hb_
 have G4 : Aside0 (w.heap.size ≤ g4) := ⟨by have := hg4.out; omega⟩
 go_wp2_with (refine lr_ 3 H3.out Tryz.underlying24 ?_)
 refine (conf_calls _).mono ?_
 rintro e_ W2 ⟨rfl,hb⟩
 replace H3 := mb H3 hb
 replace H4 := mb H4 hb
 replace HB := mS HB hb
 clear hb
 go_upto_region 3 with fail
 refine st_ 5 (fun w' => w'.cell? ⟨g3,0,none⟩ = some (.int .i64 4) ∧ w'.cell? ⟨g3,1,none⟩ = some (.int .i64 2) ∧ w'.cell? ⟨g3,2,none⟩ = some (.float .f64 4607182418800017408) ∧ w'.cell? ⟨g3,3,none⟩ = some (.int .i64 0)) [] ⟨(cD H3 0 rfl),(cD H3 1 rfl),(cD H3 2 rfl),(cD H3 3 rfl)⟩ fun hHeld => ?_
 refine with_tabW rscan.tab3 rscan.bits3 (fun HT_ HW_ => ?_)
 replace H3 := mD H3
 replace H4 := mD H4
 replace HB := bD HB
 generalize W2.drew = wd1 at *
 refine pa_ 0 16 HT_ ?_
 refine ta_ 2 18 HT_ HW_ hHeld ?_
 refine on_ 1 HT_ fun K hK => ?_
 refine gc_ Tryz.func138 #[.pointer (some ⟨d,0,none⟩)] ?_
 with_reducible refine (dlen_calls d m left (.slice none 0 0) _ (blk_below HD.out HB.out)).mono ?_
 rintro e_ Wa ⟨rfl,rfl⟩
 refine ⟨_,rfl,?_⟩
 refine hK.out _ _ ⟨(cL H3 0 rfl),(cL H3 1 rfl),(cL H3 2 rfl),(cL H3 3 rfl)⟩ (fun hHeld => ?_)
 clear hK K
 refine no_ 17 ?_
 refine on_ 3 HT_ fun K hK => ?_
 refine gc_ Tryz.func42 #[.agg cnf] ?_
 with_reducible refine (sectors_calls _).mono ?_
 rintro e_ Wb ⟨rfl,hb⟩
 refine ⟨_,rfl,?_⟩
 replace H3 := mb H3 hb
 replace H4 := mb H4 hb
 replace HB := mS HB hb
 clear hb
 refine hK.out _ _ ⟨(cL H3 0 rfl),(cL H3 1 rfl),(cL H3 2 rfl),(cL H3 3 rfl)⟩ (fun hHeld => ?_)
 clear hK K
 refine no_ 19 ?_
 refine pa_ 4 20 HT_ ?_
 refine dn_ HT_ ?_
 clear HT_ HW_ hHeld
 go_wp2_with (refine lr_ 3 H3.out Tryz.underlying24 ?_)
 refine (rbest_calls d m left 1 1 1 0 0 _ (blk_below HD.out HB.out) (HR0.out.below HB.out) (HR1.out.below HB.out) (by decide)).mono ?_
 rintro e_ W3 ⟨o1,d1,l1,e1,rfl,hc1,hc2,hb⟩
 replace H3 := mb H3 hb
 replace H4 := mb H4 hb
 replace HB := mS HB hb
 clear hb
 have HC1 := Aside0.mk hc1
 have HC2 := Aside0.mk hc2
 clear hc1 hc2
 go_upto_region 6 with (refine sr_ 6 26 #[.int .u64 1,.int .u32 1,.int .u64 1,.int .u64 0,.slice (some ⟨o1,0,none⟩) 1 d1,.slice (some ⟨l1,0,none⟩) 1 e1] (blk_new W3 (.cells #[.int .u64 0,.int .u32 0,.int .u64 0,.int .u64 0,.slice none 0 0,.slice none 0 0] 292)) ?_)
 obtain ⟨W4,hW_⟩ : ∃ W_,W_ = ((W3.alloc (.cells #[.int .u64 0,.int .u32 0,.int .u64 0,.int .u64 0,.slice none 0 0,.slice none 0 0] 292)).setRow W3.heap.size #[.int .u64 1,.int .u32 1,.int .u64 1,.int .u64 0,.slice (some ⟨o1,0,none⟩) 1 d1,.slice (some ⟨l1,0,none⟩) 1 e1]) := ⟨_,rfl⟩
 obtain ⟨g6,hg_⟩ : ∃ g_,g_ = W3.heap.size := ⟨_,rfl⟩
 rw [← hW_,← hg_]
 have hb : Below W3.heap.size W3 W4 := by rw [hW_]; exact below_setRow (below_alloc (Below.refl _ _) _) (Nat.le_refl _) _
 have H6 : Aside0 (W4.heap[g6]? = some (.cells #[.int .u64 1,.int .u32 1,.int .u64 1,.int .u64 0,.slice (some ⟨o1,0,none⟩) 1 d1,.slice (some ⟨l1,0,none⟩) 1 e1] 292 (0,0))) := ⟨by rw [hW_,hg_]; exact setRow_heap _ _ _ _ _ _ (blk_new W3 (.cells #[.int .u64 0,.int .u32 0,.int .u64 0,.int .u64 0,.slice none 0 0,.slice none 0 0] 292))⟩
 have Gg6 : Aside0 (w.heap.size ≤ g6) := ⟨by rw [hg_]; exact HB.out.size⟩
 have N_H4 : Aside0 (g4 ≠ g6) := ⟨by rw [hg_]; exact Nat.ne_of_lt (blk_lt H4.out)⟩
 clear hW_ hg_
 replace HC1 := Aside0.mk (cell_below hb HC1.out)
 replace HC2 := Aside0.mk (cell_below hb HC2.out)
 replace H3 := mb H3 hb
 replace H4 := mb H4 hb
 replace HB := mS HB hb
 clear hb
 have y0 : W4.cell? ⟨g6,0,none⟩ = some (.int .u64 1) := cL H6 0 rfl
 have y1 : W4.cell? ⟨g6,1,none⟩ = some (.int .u32 1) := cL H6 1 rfl
 have y2 : W4.cell? ⟨g6,2,none⟩ = some (.int .u64 1) := cL H6 2 rfl
 have y3 : W4.cell? ⟨g6,3,none⟩ = some (.int .u64 0) := cL H6 3 rfl
 have y4 : W4.cell? ⟨g6,4,none⟩ = some (.slice (some ⟨o1,0,none⟩) 1 d1) := cL H6 4 rfl
 have y5 : W4.cell? ⟨g6,5,none⟩ = some (.slice (some ⟨l1,0,none⟩) 1 e1) := cL H6 5 rfl
 go_upto_region 9 with (first | (refine lr_ 6 H6.out Tryz.underlying292 ?_) | (refine sr_ 8 37 #[.int .u64 1,.int .u32 1,.int .u64 1,.int .u64 0,.slice (some ⟨o1,0,none⟩) 1 d1,.slice (some ⟨l1,0,none⟩) 1 e1,.int .i64 0,.int .i64 0,.slice none 0 0,.slice none 0 0,.slice none 0 0,.int .u64 1,.int .u64 0,.slice none 0 0] (blk_new W4 (.cells #[.int .u64 0,.int .u32 0,.int .u64 0,.int .u64 0,.slice none 0 0,.slice none 0 0,.int .i64 0,.int .i64 0,.slice none 0 0,.slice none 0 0,.slice none 0 0,.int .u64 0,.int .u64 0,.slice none 0 0] 323)) ?_))
 clear y0 y1 y2 y3 y4 y5
 obtain ⟨W5,hW_⟩ : ∃ W_,W_ = ((W4.alloc (.cells #[.int .u64 0,.int .u32 0,.int .u64 0,.int .u64 0,.slice none 0 0,.slice none 0 0,.int .i64 0,.int .i64 0,.slice none 0 0,.slice none 0 0,.slice none 0 0,.int .u64 0,.int .u64 0,.slice none 0 0] 323)).setRow W4.heap.size #[.int .u64 1,.int .u32 1,.int .u64 1,.int .u64 0,.slice (some ⟨o1,0,none⟩) 1 d1,.slice (some ⟨l1,0,none⟩) 1 e1,.int .i64 0,.int .i64 0,.slice none 0 0,.slice none 0 0,.slice none 0 0,.int .u64 1,.int .u64 0,.slice none 0 0]) := ⟨_,rfl⟩
 obtain ⟨g8,hg_⟩ : ∃ g_,g_ = W4.heap.size := ⟨_,rfl⟩
 rw [← hW_,← hg_]
 have hb : Below W4.heap.size W4 W5 := by rw [hW_]; exact below_setRow (below_alloc (Below.refl _ _) _) (Nat.le_refl _) _
 have H8 : Aside0 (W5.heap[g8]? = some (.cells #[.int .u64 1,.int .u32 1,.int .u64 1,.int .u64 0,.slice (some ⟨o1,0,none⟩) 1 d1,.slice (some ⟨l1,0,none⟩) 1 e1,.int .i64 0,.int .i64 0,.slice none 0 0,.slice none 0 0,.slice none 0 0,.int .u64 1,.int .u64 0,.slice none 0 0] 323 (0,0))) := ⟨by rw [hW_,hg_]; exact setRow_heap _ _ _ _ _ _ (blk_new W4 (.cells #[.int .u64 0,.int .u32 0,.int .u64 0,.int .u64 0,.slice none 0 0,.slice none 0 0,.int .i64 0,.int .i64 0,.slice none 0 0,.slice none 0 0,.slice none 0 0,.int .u64 0,.int .u64 0,.slice none 0 0] 323))⟩
 have Gg8 : Aside0 (w.heap.size ≤ g8) := ⟨by rw [hg_]; exact HB.out.size⟩
 have N_H4 : Aside0 (g4 ≠ g8) := ⟨by rw [hg_]; exact Nat.ne_of_lt (blk_lt H4.out)⟩
 clear hW_ hg_
 replace HC1 := Aside0.mk (cell_below hb HC1.out)
 replace HC2 := Aside0.mk (cell_below hb HC2.out)
 replace H3 := mb H3 hb
 replace H4 := mb H4 hb
 replace H6 := mb H6 hb
 replace HB := mS HB hb
 clear hb
 have v0 : W5.cell? ⟨g3,0,none⟩ = some (.int .i64 4) := cL H3 0 rfl
 have v1 : W5.cell? ⟨g3,1,none⟩ = some (.int .i64 2) := cL H3 1 rfl
 have y6 : W5.cell? ⟨g8,6,none⟩ = some (.int .i64 0) := cL H8 6 rfl
 have y7 : W5.cell? ⟨g8,7,none⟩ = some (.int .i64 0) := cL H8 7 rfl
 have y8 : W5.cell? ⟨g8,8,none⟩ = some (.slice none 0 0) := cL H8 8 rfl
 have y9 : W5.cell? ⟨g8,9,none⟩ = some (.slice none 0 0) := cL H8 9 rfl
 have y10 : W5.cell? ⟨g8,10,none⟩ = some (.slice none 0 0) := cL H8 10 rfl
 have f6 := blk_frozen H8.out 6
 have f7 := blk_frozen H8.out 7
 have f8 := blk_frozen H8.out 8
 have f9 := blk_frozen H8.out 9
 have f10 := blk_frozen H8.out 10
 go_upto_region 10 with fail
 clear v0 v1 y6 f6 y7 f7 y8 f8 y9 f9 y10 f10
 rw [img0_table H8.out]
 have NC : Aside0 (o1 ≠ g8 ∧ l1 ≠ g8) := ⟨by constructor <;> (intro e_; subst e_; first | (have a_ := HC1.out; rw [blk_cell H8.out] at a_; cases a_; done) | (have a_ := HC2.out; rw [blk_cell H8.out] at a_; cases a_))⟩
 obtain ⟨W6,hW⟩ : ∃ W_,W_ = W5.setRow g8 #[.int .u64 1,.int .u32 1,.int .u64 1,.int .u64 0,.slice (some ⟨o1,0,none⟩) 1 d1,.slice (some ⟨l1,0,none⟩) 1 e1,.int .i64 4,.int .i64 2,.slice none 0 0,.slice none 0 0,.slice none 0 0,.int .u64 1,.int .u64 0,.slice none 0 0] := ⟨_,rfl⟩
 rw [← hW]
 have q_ := mR #[.int .u64 1,.int .u32 1,.int .u64 1,.int .u64 0,.slice (some ⟨o1,0,none⟩) 1 d1,.slice (some ⟨l1,0,none⟩) 1 e1,.int .i64 4,.int .i64 2,.slice none 0 0,.slice none 0 0,.slice none 0 0,.int .u64 1,.int .u64 0,.slice none 0 0] H3.out (tne H3.out H8.out (by decide))
 rw [← hW] at q_
 replace H3 := Aside0.mk q_
 clear q_
 have q_ := mR #[.int .u64 1,.int .u32 1,.int .u64 1,.int .u64 0,.slice (some ⟨o1,0,none⟩) 1 d1,.slice (some ⟨l1,0,none⟩) 1 e1,.int .i64 4,.int .i64 2,.slice none 0 0,.slice none 0 0,.slice none 0 0,.int .u64 1,.int .u64 0,.slice none 0 0] H4.out N_H4.out
 rw [← hW] at q_
 replace H4 := Aside0.mk q_
 clear q_
 have q_ := mR #[.int .u64 1,.int .u32 1,.int .u64 1,.int .u64 0,.slice (some ⟨o1,0,none⟩) 1 d1,.slice (some ⟨l1,0,none⟩) 1 e1,.int .i64 4,.int .i64 2,.slice none 0 0,.slice none 0 0,.slice none 0 0,.int .u64 1,.int .u64 0,.slice none 0 0] H6.out (tne H6.out H8.out (by decide))
 rw [← hW] at q_
 replace H6 := Aside0.mk q_
 clear q_
 have q_ := below_setRow HB.out Gg8.out #[.int .u64 1,.int .u32 1,.int .u64 1,.int .u64 0,.slice (some ⟨o1,0,none⟩) 1 d1,.slice (some ⟨l1,0,none⟩) 1 e1,.int .i64 4,.int .i64 2,.slice none 0 0,.slice none 0 0,.slice none 0 0,.int .u64 1,.int .u64 0,.slice none 0 0]
 rw [← hW] at q_
 replace HB := Aside0.mk q_
 clear q_
 have q_ := (show (W5.setRow g8 #[.int .u64 1,.int .u32 1,.int .u64 1,.int .u64 0,.slice (some ⟨o1,0,none⟩) 1 d1,.slice (some ⟨l1,0,none⟩) 1 e1,.int .i64 4,.int .i64 2,.slice none 0 0,.slice none 0 0,.slice none 0 0,.int .u64 1,.int .u64 0,.slice none 0 0]).cell? ⟨o1,0,none⟩ = some (.int .i64 0) from (cell_setRow_other _ _ _ _ NC.out.1).trans HC1.out)
 rw [← hW] at q_
 replace HC1 := Aside0.mk q_
 clear q_
 have q_ := (show (W5.setRow g8 #[.int .u64 1,.int .u32 1,.int .u64 1,.int .u64 0,.slice (some ⟨o1,0,none⟩) 1 d1,.slice (some ⟨l1,0,none⟩) 1 e1,.int .i64 4,.int .i64 2,.slice none 0 0,.slice none 0 0,.slice none 0 0,.int .u64 1,.int .u64 0,.slice none 0 0]).cell? ⟨l1,0,none⟩ = some (.int .i64 0) from (cell_setRow_other _ _ _ _ NC.out.2).trans HC2.out)
 rw [← hW] at q_
 replace HC2 := Aside0.mk q_
 clear q_
 have q_ := setRow_heap W5 g8 _ #[.int .u64 1,.int .u32 1,.int .u64 1,.int .u64 0,.slice (some ⟨o1,0,none⟩) 1 d1,.slice (some ⟨l1,0,none⟩) 1 e1,.int .i64 4,.int .i64 2,.slice none 0 0,.slice none 0 0,.slice none 0 0,.int .u64 1,.int .u64 0,.slice none 0 0] _ _ H8.out
 rw [← hW] at q_
 replace H8 := Aside0.mk q_
 clear q_
 clear hW
 have y0 : W6.cell? ⟨g6,0,none⟩ = some (.int .u64 1) := cL H6 0 rfl
 have y1 : W6.cell? ⟨g6,1,none⟩ = some (.int .u32 1) := cL H6 1 rfl
 have y2 : W6.cell? ⟨g6,2,none⟩ = some (.int .u64 1) := cL H6 2 rfl
 have y3 : W6.cell? ⟨g6,3,none⟩ = some (.int .u64 0) := cL H6 3 rfl
 have y4 : W6.cell? ⟨g6,4,none⟩ = some (.slice (some ⟨o1,0,none⟩) 1 d1) := cL H6 4 rfl
 have y5 : W6.cell? ⟨g6,5,none⟩ = some (.slice (some ⟨l1,0,none⟩) 1 e1) := cL H6 5 rfl
 go_wp2_with fail
 clear y0 y1 y2 y3 y4 y5
 go_loopw [47] (fun v wr => (Aside0 (wr.heap[g3]? = some (.cells cnf 24 (0,0))) ∧ Aside0 (wr.heap[g4]? = some (.cells #[.int .u64 0,.int .u32 0,.int .u64 0,.int .u64 0,.slice none 0 0,.slice none 0 0,.int .i64 0,.int .i64 0,.slice none 0 0,.slice none 0 0,.slice none 0 0,.int .u64 0,.int .u64 0,.slice none 0 0] 323 (0,0))) ∧ Aside0 (wr.heap[g6]? = some (.cells #[.int .u64 1,.int .u32 1,.int .u64 1,.int .u64 0,.slice (some ⟨o1,0,none⟩) 1 d1,.slice (some ⟨l1,0,none⟩) 1 e1] 292 (0,0))) ∧ Aside0 (Below w.heap.size w wr)) ∧ ((v = .int .i64 0 ∧ Aside0 (wr.heap[g8]? = some (.cells #[.int .u64 1,.int .u32 1,.int .u64 1,.int .u64 0,.slice (some ⟨o1,0,none⟩) 1 d1,.slice (some ⟨l1,0,none⟩) 1 e1,.int .i64 4,.int .i64 2,.slice none 0 0,.slice none 0 0,.slice none 0 0,.int .u64 1,.int .u64 0,.slice none 0 0] 323 (0,0))) ∧ Aside0 (wr.cell? ⟨o1,0,none⟩ = some (.int .i64 0)) ∧ Aside0 (wr.cell? ⟨l1,0,none⟩ = some (.int .i64 0))) ∨ (v = .int .i64 1 ∧ ∃ a5 k5 a15 k15 a22 k22 : Nat,Aside0 (wr.heap[g8]? = some (.cells #[.int .u64 1,.int .u32 1,.int .u64 1,.int .u64 0,.slice (some ⟨o1,0,none⟩) 1 d1,.slice (some ⟨l1,0,none⟩) 1 e1,.int .i64 4,.int .i64 2,.slice (some ⟨a5,0,none⟩) 1 k5,.slice (some ⟨a15,0,none⟩) 1 k15,.slice (some ⟨a22,0,none⟩) 1 k22,.int .u64 1,.int .u64 0,.slice none 0 0] 323 (0,0))) ∧ Aside0 (R1 wr a5 3 (.int .i64 0)) ∧ Aside0 (R1 wr a15 3 (.int .i64 0)) ∧ Aside0 (R1 wr a22 35 (.int .u64 1)) ∧ Aside0 (1 ≤ k5)))) (fun v _ => 1 - (intOf v).toNat)
 case atStart => exact ⟨⟨H3,H4,H6,HB⟩,.inl ⟨rfl,H8,HC1,HC2⟩⟩
 case round =>
  clear H3 H4 H6 HB H8 HC1 HC2
  obtain ⟨⟨H3,H4,H6,HB⟩,hrel⟩ := hrel
  rcases hrel with ⟨rfl,H8,HC1,HC2⟩ | ⟨rfl,a5,k5,a15,k15,a22,k22,H8,R5,R15,R22,K5⟩
  ·have x1 := HC1.out
   go_upto_region 13 with fail
   clear x1
   have HBW := Aside0.mk (Below.refl wr.heap.size wr)
   refine st_ 32 (fun w' => w'.cell? ⟨g8,8,none⟩ = some (.slice none 0 0) ∧ w'.cell? ⟨g8,9,none⟩ = some (.slice none 0 0) ∧ w'.cell? ⟨g8,10,none⟩ = some (.slice none 0 0) ∧ w'.cell? ⟨g6,5,none⟩ = some (.slice (some ⟨l1,0,none⟩) 1 e1) ∧ w'.cell? ⟨g6,2,none⟩ = some (.int .u64 1) ∧ w'.cell? ⟨l1,0,none⟩ = some (.int .i64 0)) [25,28,31] ⟨(cD H8 8 rfl),(cD H8 9 rfl),(cD H8 10 rfl),(cD H6 5 rfl),(cD H6 2 rfl),(cell_below (below_drew HBW.out) HC2.out)⟩ fun hHeld => ?_
   refine with_tabW rscan.tab13 rscan.bits13 (fun HT_ HW_ => ?_)
   replace H8 := mD H8
   replace H6 := mD H6
   replace HBW := Aside0.mk (below_drew HBW.out)
   generalize wr.drew = wd2 at *
   refine pa_ 0 52 HT_ ?_
   refine pa_ 1 53 HT_ ?_
   refine pa_ 3 55 HT_ ?_
   refine pa_ 6 58 HT_ ?_
   refine pa_ 7 59 HT_ ?_
   refine pa_ 9 61 HT_ ?_
   refine pa_ 11 63 HT_ ?_
   refine pa_ 16 68 HT_ ?_
   refine pa_ 17 69 HT_ ?_
   refine pa_ 19 71 HT_ ?_
   refine ta_ 2 54 HT_ HW_ hHeld ?_
   refine ta_ 8 60 HT_ HW_ hHeld ?_
   refine ta_ 10 62 HT_ HW_ hHeld ?_
   refine pa_ 12 64 HT_ ?_
   refine ta_ 13 65 HT_ HW_ hHeld ?_
   refine ta_ 18 70 HT_ HW_ hHeld ?_
   refine ta_ 20 72 HT_ HW_ hHeld ?_
   refine jn_ (σ := Nat × Nat × Nat × Nat × Nat × Nat × Nat) 10 [22,10] (fun s_ => [(56,.slice (some ⟨s_.1,0,none⟩) 1 1),(57,.slice (some ⟨s_.2.1,0,none⟩) 1 s_.2.2.1),(66,.slice (some ⟨s_.2.2.2.1,0,none⟩) 1 1),(67,.slice (some ⟨s_.2.2.2.2.1,0,none⟩) 1 s_.2.2.2.2.2.1),(73,.slice (some ⟨s_.2.2.2.2.2.2,0,none⟩) 1 1)]) (fun s_ w' => w'.heap[g8]? = some (.cells #[.int .u64 1,.int .u32 1,.int .u64 1,.int .u64 0,.slice (some ⟨o1,0,none⟩) 1 d1,.slice (some ⟨l1,0,none⟩) 1 e1,.int .i64 4,.int .i64 2,.slice none 0 0,.slice none 0 0,.slice none 0 0,.int .u64 1,.int .u64 0,.slice none 0 0] 323 (0,0)) ∧ w'.heap[g6]? = some (.cells #[.int .u64 1,.int .u32 1,.int .u64 1,.int .u64 0,.slice (some ⟨o1,0,none⟩) 1 d1,.slice (some ⟨l1,0,none⟩) 1 e1] 292 (0,0)) ∧ w'.heap[s_.2.2.2.2.2.2]? = some (.cells #[.int .u64 1] 35 (0,0)) ∧ R1 w' s_.2.1 3 (.int .i64 0) ∧ 1 ≤ s_.2.2.1 ∧ R1 w' s_.2.2.2.2.1 3 (.int .i64 0) ∧ Below wr.heap.size wr w') ?_ ?_
   rotate_left
   ·intro hJ4_5_14_15_21
    refine jn_ (σ := Nat × Nat × Nat × Nat × Nat × Nat) 11 [21,11] (fun s_ => [(56,.slice (some ⟨s_.1,0,none⟩) 1 1),(57,.slice (some ⟨s_.2.1,0,none⟩) 1 s_.2.2.1),(66,.slice (some ⟨s_.2.2.2.1,0,none⟩) 1 1),(67,.slice (some ⟨s_.2.2.2.2.1,0,none⟩) 1 s_.2.2.2.2.2)]) (fun s_ w' => w'.heap[g8]? = some (.cells #[.int .u64 1,.int .u32 1,.int .u64 1,.int .u64 0,.slice (some ⟨o1,0,none⟩) 1 d1,.slice (some ⟨l1,0,none⟩) 1 e1,.int .i64 4,.int .i64 2,.slice none 0 0,.slice none 0 0,.slice none 0 0,.int .u64 1,.int .u64 0,.slice none 0 0] 323 (0,0)) ∧ w'.heap[g6]? = some (.cells #[.int .u64 1,.int .u32 1,.int .u64 1,.int .u64 0,.slice (some ⟨o1,0,none⟩) 1 d1,.slice (some ⟨l1,0,none⟩) 1 e1] 292 (0,0)) ∧ R1 w' s_.2.1 3 (.int .i64 0) ∧ 1 ≤ s_.2.2.1 ∧ R1 w' s_.2.2.2.2.1 3 (.int .i64 0) ∧ Below wr.heap.size wr w') ?_ ?_
    rotate_left
    ·intro hJ4_5_14_15
     refine jn_ (σ := Nat × Nat × Nat × Nat × Nat) 11 [15,1,6,10] (fun s_ => [(56,.slice (some ⟨s_.1,0,none⟩) 1 1),(57,.slice (some ⟨s_.2.1,0,none⟩) 1 s_.2.2.1),(66,.slice (some ⟨s_.2.2.2.1,0,none⟩) 1 1),(73,.slice (some ⟨s_.2.2.2.2,0,none⟩) 1 1)]) (fun s_ w' => w'.heap[g8]? = some (.cells #[.int .u64 1,.int .u32 1,.int .u64 1,.int .u64 0,.slice (some ⟨o1,0,none⟩) 1 d1,.slice (some ⟨l1,0,none⟩) 1 e1,.int .i64 4,.int .i64 2,.slice none 0 0,.slice none 0 0,.slice none 0 0,.int .u64 1,.int .u64 0,.slice none 0 0] 323 (0,0)) ∧ w'.heap[g6]? = some (.cells #[.int .u64 1,.int .u32 1,.int .u64 1,.int .u64 0,.slice (some ⟨o1,0,none⟩) 1 d1,.slice (some ⟨l1,0,none⟩) 1 e1] 292 (0,0)) ∧ w'.heap[s_.2.2.2.1]? = some (.cells #[.int .i64 0] 3 (0,0)) ∧ w'.heap[s_.2.2.2.2]? = some (.cells #[.int .u64 1] 35 (0,0)) ∧ R1 w' s_.2.1 3 (.int .i64 0) ∧ 1 ≤ s_.2.2.1 ∧ Below wr.heap.size wr w') ?_ ?_
     rotate_left
     ·intro hJ4_5_14_21
      refine jn_ (σ := Nat × Nat × Nat × Nat) 12 [15,1,5,11] (fun s_ => [(56,.slice (some ⟨s_.1,0,none⟩) 1 1),(57,.slice (some ⟨s_.2.1,0,none⟩) 1 s_.2.2.1),(66,.slice (some ⟨s_.2.2.2,0,none⟩) 1 1)]) (fun s_ w' => w'.heap[g8]? = some (.cells #[.int .u64 1,.int .u32 1,.int .u64 1,.int .u64 0,.slice (some ⟨o1,0,none⟩) 1 d1,.slice (some ⟨l1,0,none⟩) 1 e1,.int .i64 4,.int .i64 2,.slice none 0 0,.slice none 0 0,.slice none 0 0,.int .u64 1,.int .u64 0,.slice none 0 0] 323 (0,0)) ∧ w'.heap[g6]? = some (.cells #[.int .u64 1,.int .u32 1,.int .u64 1,.int .u64 0,.slice (some ⟨o1,0,none⟩) 1 d1,.slice (some ⟨l1,0,none⟩) 1 e1] 292 (0,0)) ∧ w'.heap[s_.2.2.2]? = some (.cells #[.int .i64 0] 3 (0,0)) ∧ R1 w' s_.2.1 3 (.int .i64 0) ∧ 1 ≤ s_.2.2.1 ∧ Below wr.heap.size wr w') ?_ ?_
      rotate_left
      ·intro hJ4_5_14
       refine jn_ (σ := Nat × Nat × Nat × Nat) 12 [14,2,6,10] (fun s_ => [(56,.slice (some ⟨s_.1,0,none⟩) 1 1),(57,.slice (some ⟨s_.2.1,0,none⟩) 1 s_.2.2.1),(73,.slice (some ⟨s_.2.2.2,0,none⟩) 1 1)]) (fun s_ w' => w'.heap[g8]? = some (.cells #[.int .u64 1,.int .u32 1,.int .u64 1,.int .u64 0,.slice (some ⟨o1,0,none⟩) 1 d1,.slice (some ⟨l1,0,none⟩) 1 e1,.int .i64 4,.int .i64 2,.slice none 0 0,.slice none 0 0,.slice none 0 0,.int .u64 1,.int .u64 0,.slice none 0 0] 323 (0,0)) ∧ w'.heap[g6]? = some (.cells #[.int .u64 1,.int .u32 1,.int .u64 1,.int .u64 0,.slice (some ⟨o1,0,none⟩) 1 d1,.slice (some ⟨l1,0,none⟩) 1 e1] 292 (0,0)) ∧ w'.heap[s_.2.2.2]? = some (.cells #[.int .u64 1] 35 (0,0)) ∧ R1 w' s_.2.1 3 (.int .i64 0) ∧ 1 ≤ s_.2.2.1 ∧ Below wr.heap.size wr w') ?_ ?_
       rotate_left
       ·intro hJ4_5_21
        refine jn_ (σ := Nat × Nat × Nat) 12 [5,1,9,1,6,10] (fun s_ => [(56,.slice (some ⟨s_.1,0,none⟩) 1 1),(66,.slice (some ⟨s_.2.1,0,none⟩) 1 1),(73,.slice (some ⟨s_.2.2,0,none⟩) 1 1)]) (fun s_ w' => w'.heap[g8]? = some (.cells #[.int .u64 1,.int .u32 1,.int .u64 1,.int .u64 0,.slice (some ⟨o1,0,none⟩) 1 d1,.slice (some ⟨l1,0,none⟩) 1 e1,.int .i64 4,.int .i64 2,.slice none 0 0,.slice none 0 0,.slice none 0 0,.int .u64 1,.int .u64 0,.slice none 0 0] 323 (0,0)) ∧ w'.heap[g6]? = some (.cells #[.int .u64 1,.int .u32 1,.int .u64 1,.int .u64 0,.slice (some ⟨o1,0,none⟩) 1 d1,.slice (some ⟨l1,0,none⟩) 1 e1] 292 (0,0)) ∧ w'.heap[s_.1]? = some (.cells #[.int .i64 0] 3 (0,0)) ∧ w'.heap[s_.2.1]? = some (.cells #[.int .i64 0] 3 (0,0)) ∧ w'.heap[s_.2.2]? = some (.cells #[.int .u64 1] 35 (0,0)) ∧ Below wr.heap.size wr w') ?_ ?_
        rotate_left
        ·intro hJ4_14_21
         refine jn_ (σ := Nat × Nat × Nat) 13 [14,2,5,11] (fun s_ => [(56,.slice (some ⟨s_.1,0,none⟩) 1 1),(57,.slice (some ⟨s_.2.1,0,none⟩) 1 s_.2.2)]) (fun s_ w' => w'.heap[g8]? = some (.cells #[.int .u64 1,.int .u32 1,.int .u64 1,.int .u64 0,.slice (some ⟨o1,0,none⟩) 1 d1,.slice (some ⟨l1,0,none⟩) 1 e1,.int .i64 4,.int .i64 2,.slice none 0 0,.slice none 0 0,.slice none 0 0,.int .u64 1,.int .u64 0,.slice none 0 0] 323 (0,0)) ∧ w'.heap[g6]? = some (.cells #[.int .u64 1,.int .u32 1,.int .u64 1,.int .u64 0,.slice (some ⟨o1,0,none⟩) 1 d1,.slice (some ⟨l1,0,none⟩) 1 e1] 292 (0,0)) ∧ R1 w' s_.2.1 3 (.int .i64 0) ∧ 1 ≤ s_.2.2 ∧ Below wr.heap.size wr w') ?_ ?_
         rotate_left
         ·intro hJ4_5
          refine jn_ (σ := Nat × Nat) 13 [5,1,9,1,5,11] (fun s_ => [(56,.slice (some ⟨s_.1,0,none⟩) 1 1),(66,.slice (some ⟨s_.2,0,none⟩) 1 1)]) (fun s_ w' => w'.heap[g8]? = some (.cells #[.int .u64 1,.int .u32 1,.int .u64 1,.int .u64 0,.slice (some ⟨o1,0,none⟩) 1 d1,.slice (some ⟨l1,0,none⟩) 1 e1,.int .i64 4,.int .i64 2,.slice none 0 0,.slice none 0 0,.slice none 0 0,.int .u64 1,.int .u64 0,.slice none 0 0] 323 (0,0)) ∧ w'.heap[g6]? = some (.cells #[.int .u64 1,.int .u32 1,.int .u64 1,.int .u64 0,.slice (some ⟨o1,0,none⟩) 1 d1,.slice (some ⟨l1,0,none⟩) 1 e1] 292 (0,0)) ∧ w'.heap[s_.1]? = some (.cells #[.int .i64 0] 3 (0,0)) ∧ w'.heap[s_.2]? = some (.cells #[.int .i64 0] 3 (0,0)) ∧ Below wr.heap.size wr w') ?_ ?_
          rotate_left
          ·intro hJ4_14
           refine jn_ (σ := Nat × Nat) 13 [5,1,8,2,6,10] (fun s_ => [(56,.slice (some ⟨s_.1,0,none⟩) 1 1),(73,.slice (some ⟨s_.2,0,none⟩) 1 1)]) (fun s_ w' => w'.heap[g8]? = some (.cells #[.int .u64 1,.int .u32 1,.int .u64 1,.int .u64 0,.slice (some ⟨o1,0,none⟩) 1 d1,.slice (some ⟨l1,0,none⟩) 1 e1,.int .i64 4,.int .i64 2,.slice none 0 0,.slice none 0 0,.slice none 0 0,.int .u64 1,.int .u64 0,.slice none 0 0] 323 (0,0)) ∧ w'.heap[g6]? = some (.cells #[.int .u64 1,.int .u32 1,.int .u64 1,.int .u64 0,.slice (some ⟨o1,0,none⟩) 1 d1,.slice (some ⟨l1,0,none⟩) 1 e1] 292 (0,0)) ∧ w'.heap[s_.1]? = some (.cells #[.int .i64 0] 3 (0,0)) ∧ w'.heap[s_.2]? = some (.cells #[.int .u64 1] 35 (0,0)) ∧ Below wr.heap.size wr w') ?_ ?_
           rotate_left
           ·intro hJ4_21
            refine jn_ (σ := Nat × Nat) 13 [4,2,9,1,6,10] (fun s_ => [(66,.slice (some ⟨s_.1,0,none⟩) 1 1),(73,.slice (some ⟨s_.2,0,none⟩) 1 1)]) (fun s_ w' => w'.heap[g8]? = some (.cells #[.int .u64 1,.int .u32 1,.int .u64 1,.int .u64 0,.slice (some ⟨o1,0,none⟩) 1 d1,.slice (some ⟨l1,0,none⟩) 1 e1,.int .i64 4,.int .i64 2,.slice none 0 0,.slice none 0 0,.slice none 0 0,.int .u64 1,.int .u64 0,.slice none 0 0] 323 (0,0)) ∧ w'.heap[g6]? = some (.cells #[.int .u64 1,.int .u32 1,.int .u64 1,.int .u64 0,.slice (some ⟨o1,0,none⟩) 1 d1,.slice (some ⟨l1,0,none⟩) 1 e1] 292 (0,0)) ∧ w'.heap[s_.1]? = some (.cells #[.int .i64 0] 3 (0,0)) ∧ w'.heap[s_.2]? = some (.cells #[.int .u64 1] 35 (0,0)) ∧ Below wr.heap.size wr w') ?_ ?_
            rotate_left
            ·intro hJ14_21
             refine jn_ (σ := Nat) 14 [5,1,8,2,5,11] (fun s_ => [(56,.slice (some ⟨s_,0,none⟩) 1 1)]) (fun s_ w' => w'.heap[g8]? = some (.cells #[.int .u64 1,.int .u32 1,.int .u64 1,.int .u64 0,.slice (some ⟨o1,0,none⟩) 1 d1,.slice (some ⟨l1,0,none⟩) 1 e1,.int .i64 4,.int .i64 2,.slice none 0 0,.slice none 0 0,.slice none 0 0,.int .u64 1,.int .u64 0,.slice none 0 0] 323 (0,0)) ∧ w'.heap[g6]? = some (.cells #[.int .u64 1,.int .u32 1,.int .u64 1,.int .u64 0,.slice (some ⟨o1,0,none⟩) 1 d1,.slice (some ⟨l1,0,none⟩) 1 e1] 292 (0,0)) ∧ w'.heap[s_]? = some (.cells #[.int .i64 0] 3 (0,0)) ∧ Below wr.heap.size wr w') ?_ ?_
             rotate_left
             ·intro hJ4
              refine jn_ (σ := Nat) 14 [4,2,9,1,5,11] (fun s_ => [(66,.slice (some ⟨s_,0,none⟩) 1 1)]) (fun s_ w' => w'.heap[g8]? = some (.cells #[.int .u64 1,.int .u32 1,.int .u64 1,.int .u64 0,.slice (some ⟨o1,0,none⟩) 1 d1,.slice (some ⟨l1,0,none⟩) 1 e1,.int .i64 4,.int .i64 2,.slice none 0 0,.slice none 0 0,.slice none 0 0,.int .u64 1,.int .u64 0,.slice none 0 0] 323 (0,0)) ∧ w'.heap[g6]? = some (.cells #[.int .u64 1,.int .u32 1,.int .u64 1,.int .u64 0,.slice (some ⟨o1,0,none⟩) 1 d1,.slice (some ⟨l1,0,none⟩) 1 e1] 292 (0,0)) ∧ w'.heap[s_]? = some (.cells #[.int .i64 0] 3 (0,0)) ∧ Below wr.heap.size wr w') ?_ ?_
              rotate_left
              ·intro hJ14
               refine jn_ (σ := Nat) 14 [4,2,8,2,6,10] (fun s_ => [(73,.slice (some ⟨s_,0,none⟩) 1 1)]) (fun s_ w' => w'.heap[g8]? = some (.cells #[.int .u64 1,.int .u32 1,.int .u64 1,.int .u64 0,.slice (some ⟨o1,0,none⟩) 1 d1,.slice (some ⟨l1,0,none⟩) 1 e1,.int .i64 4,.int .i64 2,.slice none 0 0,.slice none 0 0,.slice none 0 0,.int .u64 1,.int .u64 0,.slice none 0 0] 323 (0,0)) ∧ w'.heap[g6]? = some (.cells #[.int .u64 1,.int .u32 1,.int .u64 1,.int .u64 0,.slice (some ⟨o1,0,none⟩) 1 d1,.slice (some ⟨l1,0,none⟩) 1 e1] 292 (0,0)) ∧ w'.heap[s_]? = some (.cells #[.int .u64 1] 35 (0,0)) ∧ Below wr.heap.size wr w') ?_ ?_
               rotate_left
               ·intro hJ21
                refine three_ (i := 4) (j := 14) (k := 21) (Ni := some 56) (Nj := some 66) (Nk := some 73) #[true,true,true,true,true,false,true,true,true,true,true,true,true,true,false,false,true,true,true,true,true,false,false,false,false,false,false,false,false,false,false,false] #[true,true,true,true,false,false,true,true,true,true,true,true,true,true,true,false,true,true,true,true,true,false,false,false,false,false,false,false,false,false,false,false] #[true,true,true,true,false,false,true,true,true,true,true,true,true,true,false,false,true,true,true,true,true,true,false,false,false,false,false,false,false,false,false,false] rfl rfl rfl rfl rfl rfl (three_of HT_.out (by kernel_rfl)) (by decide) (by decide) (by decide) (fun K hK => ?_) (fun K hK => ?_) (fun K hK => ?_)
                ·skip
                 refine va_ ?_
                 obtain ⟨wk,hW⟩ : ∃ W_,W_ = wd2.alloc (.cells #[.int .i64 0] 3) := ⟨_,rfl⟩
                 obtain ⟨p4,hh⟩ : ∃ g_,g_ = wd2.heap.size := ⟨_,rfl⟩
                 rw [← hW,← hh]
                 have hb_ : Below wd2.heap.size wd2 wk := by rw [hW]; exact below_alloc (Below.refl _ _) _
                 replace H8 := mb H8 hb_
                 replace H6 := mb H6 hb_
                 replace HBW := Aside0.mk (below_step HBW.out hb_)
                 have HP4 : Aside0 (wk.heap[p4]? = some (.cells #[.int .i64 0] 3 (0,0))) := ⟨by rw [hW,hh]; exact blk_new _ _⟩
                 clear hW hh hb_
                 refine hK.out _ _ ⟨(cL H8 8 rfl),(cL H8 9 rfl),(cL H8 10 rfl),(cL H6 5 rfl),(cL H6 2 rfl),(cell_below HBW.out HC2.out)⟩ (fun hHeld => ?_)
                 clear hK K
                 refine no_ 56 ?_
                 exact nx_ (hJ4 p4 _ ⟨H8.out,H6.out,HP4.out,HBW.out⟩)
                ·skip
                 refine va_ ?_
                 obtain ⟨wk,hW⟩ : ∃ W_,W_ = wd2.alloc (.cells #[.int .i64 0] 3) := ⟨_,rfl⟩
                 obtain ⟨p14,hh⟩ : ∃ g_,g_ = wd2.heap.size := ⟨_,rfl⟩
                 rw [← hW,← hh]
                 have hb_ : Below wd2.heap.size wd2 wk := by rw [hW]; exact below_alloc (Below.refl _ _) _
                 replace H8 := mb H8 hb_
                 replace H6 := mb H6 hb_
                 replace HBW := Aside0.mk (below_step HBW.out hb_)
                 have HP14 : Aside0 (wk.heap[p14]? = some (.cells #[.int .i64 0] 3 (0,0))) := ⟨by rw [hW,hh]; exact blk_new _ _⟩
                 clear hW hh hb_
                 refine hK.out _ _ ⟨(cL H8 8 rfl),(cL H8 9 rfl),(cL H8 10 rfl),(cL H6 5 rfl),(cL H6 2 rfl),(cell_below HBW.out HC2.out)⟩ (fun hHeld => ?_)
                 clear hK K
                 refine no_ 66 ?_
                 exact nx_ (hJ14 p14 _ ⟨H8.out,H6.out,HP14.out,HBW.out⟩)
                ·skip
                 refine va_ ?_
                 obtain ⟨wk,hW⟩ : ∃ W_,W_ = wd2.alloc (.cells #[.int .u64 1] 35) := ⟨_,rfl⟩
                 obtain ⟨p21,hh⟩ : ∃ g_,g_ = wd2.heap.size := ⟨_,rfl⟩
                 rw [← hW,← hh]
                 have hb_ : Below wd2.heap.size wd2 wk := by rw [hW]; exact below_alloc (Below.refl _ _) _
                 replace H8 := mb H8 hb_
                 replace H6 := mb H6 hb_
                 replace HBW := Aside0.mk (below_step HBW.out hb_)
                 have HP21 : Aside0 (wk.heap[p21]? = some (.cells #[.int .u64 1] 35 (0,0))) := ⟨by rw [hW,hh]; exact blk_new _ _⟩
                 clear hW hh hb_
                 refine hK.out _ _ ⟨(cL H8 8 rfl),(cL H8 9 rfl),(cL H8 10 rfl),(cL H6 5 rfl),(cL H6 2 rfl),(cell_below HBW.out HC2.out)⟩ (fun hHeld => ?_)
                 clear hK K
                 refine no_ 73 ?_
                 exact nx_ (hJ21 p21 _ ⟨H8.out,H6.out,HP21.out,HBW.out⟩)
               ·skip
                rintro p21 wj ⟨h_0,h_1,h_2,h_3⟩
                try dsimp only at h_0 h_1 h_2 h_3
                clear H8 H6 HBW
                have H8 := Aside0.mk h_0
                have H6 := Aside0.mk h_1
                have HP21 := Aside0.mk h_2
                have HBW := Aside0.mk h_3
                clear h_0 h_1 h_2 h_3
                refine hd_ ⟨(cL H8 8 rfl),(cL H8 9 rfl),(cL H8 10 rfl),(cL H6 5 rfl),(cL H6 2 rfl),(cell_below HBW.out HC2.out)⟩ fun hHeld => ?_
                refine na_ ?_
                refine tw_ 4 14 HT_ (fun K hK => ?_) fun K hK => ?_
                ·skip
                 refine va_ ?_
                 obtain ⟨wk,hW⟩ : ∃ W_,W_ = wj.alloc (.cells #[.int .i64 0] 3) := ⟨_,rfl⟩
                 obtain ⟨p4,hh⟩ : ∃ g_,g_ = wj.heap.size := ⟨_,rfl⟩
                 rw [← hW,← hh]
                 have hb_ : Below wj.heap.size wj wk := by rw [hW]; exact below_alloc (Below.refl _ _) _
                 replace H8 := mb H8 hb_
                 replace H6 := mb H6 hb_
                 replace HP21 := mb HP21 hb_
                 replace HBW := Aside0.mk (below_step HBW.out hb_)
                 have HP4 : Aside0 (wk.heap[p4]? = some (.cells #[.int .i64 0] 3 (0,0))) := ⟨by rw [hW,hh]; exact blk_new _ _⟩
                 clear hW hh hb_
                 refine hK.out _ _ ⟨(cL H8 8 rfl),(cL H8 9 rfl),(cL H8 10 rfl),(cL H6 5 rfl),(cL H6 2 rfl),(cell_below HBW.out HC2.out)⟩ (fun hHeld => ?_)
                 clear hK K
                 refine no_ 56 ?_
                 exact nx_ (hJ4_21 (p4,p21) _ ⟨H8.out,H6.out,HP4.out,HP21.out,HBW.out⟩)
                ·skip
                 refine va_ ?_
                 obtain ⟨wk,hW⟩ : ∃ W_,W_ = wj.alloc (.cells #[.int .i64 0] 3) := ⟨_,rfl⟩
                 obtain ⟨p14,hh⟩ : ∃ g_,g_ = wj.heap.size := ⟨_,rfl⟩
                 rw [← hW,← hh]
                 have hb_ : Below wj.heap.size wj wk := by rw [hW]; exact below_alloc (Below.refl _ _) _
                 replace H8 := mb H8 hb_
                 replace H6 := mb H6 hb_
                 replace HP21 := mb HP21 hb_
                 replace HBW := Aside0.mk (below_step HBW.out hb_)
                 have HP14 : Aside0 (wk.heap[p14]? = some (.cells #[.int .i64 0] 3 (0,0))) := ⟨by rw [hW,hh]; exact blk_new _ _⟩
                 clear hW hh hb_
                 refine hK.out _ _ ⟨(cL H8 8 rfl),(cL H8 9 rfl),(cL H8 10 rfl),(cL H6 5 rfl),(cL H6 2 rfl),(cell_below HBW.out HC2.out)⟩ (fun hHeld => ?_)
                 clear hK K
                 refine no_ 66 ?_
                 exact nx_ (hJ14_21 (p14,p21) _ ⟨H8.out,H6.out,HP14.out,HP21.out,HBW.out⟩)
              ·skip
               rintro p14 wj ⟨h_0,h_1,h_2,h_3⟩
               try dsimp only at h_0 h_1 h_2 h_3
               clear H8 H6 HBW
               have H8 := Aside0.mk h_0
               have H6 := Aside0.mk h_1
               have HP14 := Aside0.mk h_2
               have HBW := Aside0.mk h_3
               clear h_0 h_1 h_2 h_3
               refine hd_ ⟨(cL H8 8 rfl),(cL H8 9 rfl),(cL H8 10 rfl),(cL H6 5 rfl),(cL H6 2 rfl),(cell_below HBW.out HC2.out)⟩ fun hHeld => ?_
               refine na_ ?_
               refine tw_ 4 21 HT_ (fun K hK => ?_) fun K hK => ?_
               ·skip
                refine va_ ?_
                obtain ⟨wk,hW⟩ : ∃ W_,W_ = wj.alloc (.cells #[.int .i64 0] 3) := ⟨_,rfl⟩
                obtain ⟨p4,hh⟩ : ∃ g_,g_ = wj.heap.size := ⟨_,rfl⟩
                rw [← hW,← hh]
                have hb_ : Below wj.heap.size wj wk := by rw [hW]; exact below_alloc (Below.refl _ _) _
                replace H8 := mb H8 hb_
                replace H6 := mb H6 hb_
                replace HP14 := mb HP14 hb_
                replace HBW := Aside0.mk (below_step HBW.out hb_)
                have HP4 : Aside0 (wk.heap[p4]? = some (.cells #[.int .i64 0] 3 (0,0))) := ⟨by rw [hW,hh]; exact blk_new _ _⟩
                clear hW hh hb_
                refine hK.out _ _ ⟨(cL H8 8 rfl),(cL H8 9 rfl),(cL H8 10 rfl),(cL H6 5 rfl),(cL H6 2 rfl),(cell_below HBW.out HC2.out)⟩ (fun hHeld => ?_)
                clear hK K
                refine no_ 56 ?_
                exact nx_ (hJ4_14 (p4,p14) _ ⟨H8.out,H6.out,HP4.out,HP14.out,HBW.out⟩)
               ·skip
                refine va_ ?_
                obtain ⟨wk,hW⟩ : ∃ W_,W_ = wj.alloc (.cells #[.int .u64 1] 35) := ⟨_,rfl⟩
                obtain ⟨p21,hh⟩ : ∃ g_,g_ = wj.heap.size := ⟨_,rfl⟩
                rw [← hW,← hh]
                have hb_ : Below wj.heap.size wj wk := by rw [hW]; exact below_alloc (Below.refl _ _) _
                replace H8 := mb H8 hb_
                replace H6 := mb H6 hb_
                replace HP14 := mb HP14 hb_
                replace HBW := Aside0.mk (below_step HBW.out hb_)
                have HP21 : Aside0 (wk.heap[p21]? = some (.cells #[.int .u64 1] 35 (0,0))) := ⟨by rw [hW,hh]; exact blk_new _ _⟩
                clear hW hh hb_
                refine hK.out _ _ ⟨(cL H8 8 rfl),(cL H8 9 rfl),(cL H8 10 rfl),(cL H6 5 rfl),(cL H6 2 rfl),(cell_below HBW.out HC2.out)⟩ (fun hHeld => ?_)
                clear hK K
                refine no_ 73 ?_
                exact nx_ (hJ14_21 (p14,p21) _ ⟨H8.out,H6.out,HP14.out,HP21.out,HBW.out⟩)
             ·skip
              rintro p4 wj ⟨h_0,h_1,h_2,h_3⟩
              try dsimp only at h_0 h_1 h_2 h_3
              clear H8 H6 HBW
              have H8 := Aside0.mk h_0
              have H6 := Aside0.mk h_1
              have HP4 := Aside0.mk h_2
              have HBW := Aside0.mk h_3
              clear h_0 h_1 h_2 h_3
              refine hd_ ⟨(cL H8 8 rfl),(cL H8 9 rfl),(cL H8 10 rfl),(cL H6 5 rfl),(cL H6 2 rfl),(cell_below HBW.out HC2.out)⟩ fun hHeld => ?_
              refine na_ ?_
              refine three_ (i := 5) (j := 14) (k := 21) (Ni := some 57) (Nj := some 66) (Nk := some 73) #[true,true,true,true,true,true,true,true,true,true,true,true,true,true,false,false,true,true,true,true,true,false,false,false,false,false,false,false,false,false,false,false] #[true,true,true,true,true,false,true,true,true,true,true,true,true,true,true,false,true,true,true,true,true,false,false,false,false,false,false,false,false,false,false,false] #[true,true,true,true,true,false,true,true,true,true,true,true,true,true,false,false,true,true,true,true,true,true,false,false,false,false,false,false,false,false,false,false] rfl rfl rfl rfl rfl rfl (three_of HT_.out (by kernel_rfl)) (by decide) (by decide) (by decide) (fun K hK => ?_) (fun K hK => ?_) (fun K hK => ?_)
              ·skip
               refine appR_ (P := Tryz.prog) (t := 113) (e := 3) (size := 1) (bytes := 8) (.tmp 54) (.tmp 56) (.int .i64 0) (by rfl) rfl rfl (by kernel_rfl) (by kernel_rfl) rfl (by decide) ⟨p4,0,none⟩ 1 [.int .i64 0] (by rfl) (by rfl) rfl (fun q u hq => by rcases q with _ | q <;> simp at hq; subst hq; exact (blk_cell HP4.out _).trans rfl) (by simp [Value.oneCell']) (by decide) ?_
               intro a5 k5 wk hn
               replace H8 := Aside0.mk (blk_below H8.out hn.below)
               replace H6 := Aside0.mk (blk_below H6.out hn.below)
               replace HP4 := Aside0.mk (blk_below HP4.out hn.below)
               replace HBW := Aside0.mk (below_step HBW.out hn.below)
               have HA5 := Aside0.mk hn.r1
               have HK5 := Aside0.mk hn.cap.1
               clear hn
               refine hK.out _ _ ⟨(cL H8 8 rfl),(cL H8 9 rfl),(cL H8 10 rfl),(cL H6 5 rfl),(cL H6 2 rfl),(cell_below HBW.out HC2.out)⟩ (fun hHeld => ?_)
               clear hK K
               refine no_ 57 ?_
               exact nx_ (hJ4_5 (p4,a5,k5) _ ⟨H8.out,H6.out,HA5.out,HK5.out,HBW.out⟩)
              ·skip
               refine va_ ?_
               obtain ⟨wk,hW⟩ : ∃ W_,W_ = wj.alloc (.cells #[.int .i64 0] 3) := ⟨_,rfl⟩
               obtain ⟨p14,hh⟩ : ∃ g_,g_ = wj.heap.size := ⟨_,rfl⟩
               rw [← hW,← hh]
               have hb_ : Below wj.heap.size wj wk := by rw [hW]; exact below_alloc (Below.refl _ _) _
               replace H8 := mb H8 hb_
               replace H6 := mb H6 hb_
               replace HP4 := mb HP4 hb_
               replace HBW := Aside0.mk (below_step HBW.out hb_)
               have HP14 : Aside0 (wk.heap[p14]? = some (.cells #[.int .i64 0] 3 (0,0))) := ⟨by rw [hW,hh]; exact blk_new _ _⟩
               clear hW hh hb_
               refine hK.out _ _ ⟨(cL H8 8 rfl),(cL H8 9 rfl),(cL H8 10 rfl),(cL H6 5 rfl),(cL H6 2 rfl),(cell_below HBW.out HC2.out)⟩ (fun hHeld => ?_)
               clear hK K
               refine no_ 66 ?_
               exact nx_ (hJ4_14 (p4,p14) _ ⟨H8.out,H6.out,HP4.out,HP14.out,HBW.out⟩)
              ·skip
               refine va_ ?_
               obtain ⟨wk,hW⟩ : ∃ W_,W_ = wj.alloc (.cells #[.int .u64 1] 35) := ⟨_,rfl⟩
               obtain ⟨p21,hh⟩ : ∃ g_,g_ = wj.heap.size := ⟨_,rfl⟩
               rw [← hW,← hh]
               have hb_ : Below wj.heap.size wj wk := by rw [hW]; exact below_alloc (Below.refl _ _) _
               replace H8 := mb H8 hb_
               replace H6 := mb H6 hb_
               replace HP4 := mb HP4 hb_
               replace HBW := Aside0.mk (below_step HBW.out hb_)
               have HP21 : Aside0 (wk.heap[p21]? = some (.cells #[.int .u64 1] 35 (0,0))) := ⟨by rw [hW,hh]; exact blk_new _ _⟩
               clear hW hh hb_
               refine hK.out _ _ ⟨(cL H8 8 rfl),(cL H8 9 rfl),(cL H8 10 rfl),(cL H6 5 rfl),(cL H6 2 rfl),(cell_below HBW.out HC2.out)⟩ (fun hHeld => ?_)
               clear hK K
               refine no_ 73 ?_
               exact nx_ (hJ4_21 (p4,p21) _ ⟨H8.out,H6.out,HP4.out,HP21.out,HBW.out⟩)
            ·skip
             rintro ⟨p14,p21⟩ wj ⟨h_0,h_1,h_2,h_3,h_4⟩
             try dsimp only at h_0 h_1 h_2 h_3 h_4
             clear H8 H6 HBW
             have H8 := Aside0.mk h_0
             have H6 := Aside0.mk h_1
             have HP14 := Aside0.mk h_2
             have HP21 := Aside0.mk h_3
             have HBW := Aside0.mk h_4
             clear h_0 h_1 h_2 h_3 h_4
             refine hd_ ⟨(cL H8 8 rfl),(cL H8 9 rfl),(cL H8 10 rfl),(cL H6 5 rfl),(cL H6 2 rfl),(cell_below HBW.out HC2.out)⟩ fun hHeld => ?_
             refine na_ ?_
             refine on_ 4 HT_ fun K hK => ?_
             refine va_ ?_
             obtain ⟨wk,hW⟩ : ∃ W_,W_ = wj.alloc (.cells #[.int .i64 0] 3) := ⟨_,rfl⟩
             obtain ⟨p4,hh⟩ : ∃ g_,g_ = wj.heap.size := ⟨_,rfl⟩
             rw [← hW,← hh]
             have hb_ : Below wj.heap.size wj wk := by rw [hW]; exact below_alloc (Below.refl _ _) _
             replace H8 := mb H8 hb_
             replace H6 := mb H6 hb_
             replace HP14 := mb HP14 hb_
             replace HP21 := mb HP21 hb_
             replace HBW := Aside0.mk (below_step HBW.out hb_)
             have HP4 : Aside0 (wk.heap[p4]? = some (.cells #[.int .i64 0] 3 (0,0))) := ⟨by rw [hW,hh]; exact blk_new _ _⟩
             clear hW hh hb_
             refine hK.out _ _ ⟨(cL H8 8 rfl),(cL H8 9 rfl),(cL H8 10 rfl),(cL H6 5 rfl),(cL H6 2 rfl),(cell_below HBW.out HC2.out)⟩ (fun hHeld => ?_)
             clear hK K
             refine no_ 56 ?_
             exact nx_ (hJ4_14_21 (p4,p14,p21) _ ⟨H8.out,H6.out,HP4.out,HP14.out,HP21.out,HBW.out⟩)
           ·skip
            rintro ⟨p4,p21⟩ wj ⟨h_0,h_1,h_2,h_3,h_4⟩
            try dsimp only at h_0 h_1 h_2 h_3 h_4
            clear H8 H6 HBW
            have H8 := Aside0.mk h_0
            have H6 := Aside0.mk h_1
            have HP4 := Aside0.mk h_2
            have HP21 := Aside0.mk h_3
            have HBW := Aside0.mk h_4
            clear h_0 h_1 h_2 h_3 h_4
            refine hd_ ⟨(cL H8 8 rfl),(cL H8 9 rfl),(cL H8 10 rfl),(cL H6 5 rfl),(cL H6 2 rfl),(cell_below HBW.out HC2.out)⟩ fun hHeld => ?_
            refine na_ ?_
            refine tw_ 5 14 HT_ (fun K hK => ?_) fun K hK => ?_
            ·skip
             refine appR_ (P := Tryz.prog) (t := 113) (e := 3) (size := 1) (bytes := 8) (.tmp 54) (.tmp 56) (.int .i64 0) (by rfl) rfl rfl (by kernel_rfl) (by kernel_rfl) rfl (by decide) ⟨p4,0,none⟩ 1 [.int .i64 0] (by rfl) (by rfl) rfl (fun q u hq => by rcases q with _ | q <;> simp at hq; subst hq; exact (blk_cell HP4.out _).trans rfl) (by simp [Value.oneCell']) (by decide) ?_
             intro a5 k5 wk hn
             replace H8 := Aside0.mk (blk_below H8.out hn.below)
             replace H6 := Aside0.mk (blk_below H6.out hn.below)
             replace HP4 := Aside0.mk (blk_below HP4.out hn.below)
             replace HP21 := Aside0.mk (blk_below HP21.out hn.below)
             replace HBW := Aside0.mk (below_step HBW.out hn.below)
             have HA5 := Aside0.mk hn.r1
             have HK5 := Aside0.mk hn.cap.1
             clear hn
             refine hK.out _ _ ⟨(cL H8 8 rfl),(cL H8 9 rfl),(cL H8 10 rfl),(cL H6 5 rfl),(cL H6 2 rfl),(cell_below HBW.out HC2.out)⟩ (fun hHeld => ?_)
             clear hK K
             refine no_ 57 ?_
             exact nx_ (hJ4_5_21 (p4,a5,k5,p21) _ ⟨H8.out,H6.out,HP21.out,HA5.out,HK5.out,HBW.out⟩)
            ·skip
             refine va_ ?_
             obtain ⟨wk,hW⟩ : ∃ W_,W_ = wj.alloc (.cells #[.int .i64 0] 3) := ⟨_,rfl⟩
             obtain ⟨p14,hh⟩ : ∃ g_,g_ = wj.heap.size := ⟨_,rfl⟩
             rw [← hW,← hh]
             have hb_ : Below wj.heap.size wj wk := by rw [hW]; exact below_alloc (Below.refl _ _) _
             replace H8 := mb H8 hb_
             replace H6 := mb H6 hb_
             replace HP4 := mb HP4 hb_
             replace HP21 := mb HP21 hb_
             replace HBW := Aside0.mk (below_step HBW.out hb_)
             have HP14 : Aside0 (wk.heap[p14]? = some (.cells #[.int .i64 0] 3 (0,0))) := ⟨by rw [hW,hh]; exact blk_new _ _⟩
             clear hW hh hb_
             refine hK.out _ _ ⟨(cL H8 8 rfl),(cL H8 9 rfl),(cL H8 10 rfl),(cL H6 5 rfl),(cL H6 2 rfl),(cell_below HBW.out HC2.out)⟩ (fun hHeld => ?_)
             clear hK K
             refine no_ 66 ?_
             exact nx_ (hJ4_14_21 (p4,p14,p21) _ ⟨H8.out,H6.out,HP4.out,HP14.out,HP21.out,HBW.out⟩)
          ·skip
           rintro ⟨p4,p14⟩ wj ⟨h_0,h_1,h_2,h_3,h_4⟩
           try dsimp only at h_0 h_1 h_2 h_3 h_4
           clear H8 H6 HBW
           have H8 := Aside0.mk h_0
           have H6 := Aside0.mk h_1
           have HP4 := Aside0.mk h_2
           have HP14 := Aside0.mk h_3
           have HBW := Aside0.mk h_4
           clear h_0 h_1 h_2 h_3 h_4
           refine hd_ ⟨(cL H8 8 rfl),(cL H8 9 rfl),(cL H8 10 rfl),(cL H6 5 rfl),(cL H6 2 rfl),(cell_below HBW.out HC2.out)⟩ fun hHeld => ?_
           refine na_ ?_
           refine tw_ 5 21 HT_ (fun K hK => ?_) fun K hK => ?_
           ·skip
            refine appR_ (P := Tryz.prog) (t := 113) (e := 3) (size := 1) (bytes := 8) (.tmp 54) (.tmp 56) (.int .i64 0) (by rfl) rfl rfl (by kernel_rfl) (by kernel_rfl) rfl (by decide) ⟨p4,0,none⟩ 1 [.int .i64 0] (by rfl) (by rfl) rfl (fun q u hq => by rcases q with _ | q <;> simp at hq; subst hq; exact (blk_cell HP4.out _).trans rfl) (by simp [Value.oneCell']) (by decide) ?_
            intro a5 k5 wk hn
            replace H8 := Aside0.mk (blk_below H8.out hn.below)
            replace H6 := Aside0.mk (blk_below H6.out hn.below)
            replace HP4 := Aside0.mk (blk_below HP4.out hn.below)
            replace HP14 := Aside0.mk (blk_below HP14.out hn.below)
            replace HBW := Aside0.mk (below_step HBW.out hn.below)
            have HA5 := Aside0.mk hn.r1
            have HK5 := Aside0.mk hn.cap.1
            clear hn
            refine hK.out _ _ ⟨(cL H8 8 rfl),(cL H8 9 rfl),(cL H8 10 rfl),(cL H6 5 rfl),(cL H6 2 rfl),(cell_below HBW.out HC2.out)⟩ (fun hHeld => ?_)
            clear hK K
            refine no_ 57 ?_
            exact nx_ (hJ4_5_14 (p4,a5,k5,p14) _ ⟨H8.out,H6.out,HP14.out,HA5.out,HK5.out,HBW.out⟩)
           ·skip
            refine va_ ?_
            obtain ⟨wk,hW⟩ : ∃ W_,W_ = wj.alloc (.cells #[.int .u64 1] 35) := ⟨_,rfl⟩
            obtain ⟨p21,hh⟩ : ∃ g_,g_ = wj.heap.size := ⟨_,rfl⟩
            rw [← hW,← hh]
            have hb_ : Below wj.heap.size wj wk := by rw [hW]; exact below_alloc (Below.refl _ _) _
            replace H8 := mb H8 hb_
            replace H6 := mb H6 hb_
            replace HP4 := mb HP4 hb_
            replace HP14 := mb HP14 hb_
            replace HBW := Aside0.mk (below_step HBW.out hb_)
            have HP21 : Aside0 (wk.heap[p21]? = some (.cells #[.int .u64 1] 35 (0,0))) := ⟨by rw [hW,hh]; exact blk_new _ _⟩
            clear hW hh hb_
            refine hK.out _ _ ⟨(cL H8 8 rfl),(cL H8 9 rfl),(cL H8 10 rfl),(cL H6 5 rfl),(cL H6 2 rfl),(cell_below HBW.out HC2.out)⟩ (fun hHeld => ?_)
            clear hK K
            refine no_ 73 ?_
            exact nx_ (hJ4_14_21 (p4,p14,p21) _ ⟨H8.out,H6.out,HP4.out,HP14.out,HP21.out,HBW.out⟩)
         ·skip
          rintro ⟨p4,a5,k5⟩ wj ⟨h_0,h_1,h_2,h_3,h_4⟩
          try dsimp only at h_0 h_1 h_2 h_3 h_4
          clear H8 H6 HBW
          have H8 := Aside0.mk h_0
          have H6 := Aside0.mk h_1
          have HA5 := Aside0.mk h_2
          have HK5 := Aside0.mk h_3
          have HBW := Aside0.mk h_4
          clear h_0 h_1 h_2 h_3 h_4
          refine hd_ ⟨(cL H8 8 rfl),(cL H8 9 rfl),(cL H8 10 rfl),(cL H6 5 rfl),(cL H6 2 rfl),(cell_below HBW.out HC2.out)⟩ fun hHeld => ?_
          refine na_ ?_
          refine tw_ 14 21 HT_ (fun K hK => ?_) fun K hK => ?_
          ·skip
           refine va_ ?_
           obtain ⟨wk,hW⟩ : ∃ W_,W_ = wj.alloc (.cells #[.int .i64 0] 3) := ⟨_,rfl⟩
           obtain ⟨p14,hh⟩ : ∃ g_,g_ = wj.heap.size := ⟨_,rfl⟩
           rw [← hW,← hh]
           have hb_ : Below wj.heap.size wj wk := by rw [hW]; exact below_alloc (Below.refl _ _) _
           replace H8 := mb H8 hb_
           replace H6 := mb H6 hb_
           replace HA5 := Aside0.mk (HA5.out.below hb_)
           replace HBW := Aside0.mk (below_step HBW.out hb_)
           have HP14 : Aside0 (wk.heap[p14]? = some (.cells #[.int .i64 0] 3 (0,0))) := ⟨by rw [hW,hh]; exact blk_new _ _⟩
           clear hW hh hb_
           refine hK.out _ _ ⟨(cL H8 8 rfl),(cL H8 9 rfl),(cL H8 10 rfl),(cL H6 5 rfl),(cL H6 2 rfl),(cell_below HBW.out HC2.out)⟩ (fun hHeld => ?_)
           clear hK K
           refine no_ 66 ?_
           exact nx_ (hJ4_5_14 (p4,a5,k5,p14) _ ⟨H8.out,H6.out,HP14.out,HA5.out,HK5.out,HBW.out⟩)
          ·skip
           refine va_ ?_
           obtain ⟨wk,hW⟩ : ∃ W_,W_ = wj.alloc (.cells #[.int .u64 1] 35) := ⟨_,rfl⟩
           obtain ⟨p21,hh⟩ : ∃ g_,g_ = wj.heap.size := ⟨_,rfl⟩
           rw [← hW,← hh]
           have hb_ : Below wj.heap.size wj wk := by rw [hW]; exact below_alloc (Below.refl _ _) _
           replace H8 := mb H8 hb_
           replace H6 := mb H6 hb_
           replace HA5 := Aside0.mk (HA5.out.below hb_)
           replace HBW := Aside0.mk (below_step HBW.out hb_)
           have HP21 : Aside0 (wk.heap[p21]? = some (.cells #[.int .u64 1] 35 (0,0))) := ⟨by rw [hW,hh]; exact blk_new _ _⟩
           clear hW hh hb_
           refine hK.out _ _ ⟨(cL H8 8 rfl),(cL H8 9 rfl),(cL H8 10 rfl),(cL H6 5 rfl),(cL H6 2 rfl),(cell_below HBW.out HC2.out)⟩ (fun hHeld => ?_)
           clear hK K
           refine no_ 73 ?_
           exact nx_ (hJ4_5_21 (p4,a5,k5,p21) _ ⟨H8.out,H6.out,HP21.out,HA5.out,HK5.out,HBW.out⟩)
        ·skip
         rintro ⟨p4,p14,p21⟩ wj ⟨h_0,h_1,h_2,h_3,h_4,h_5⟩
         try dsimp only at h_0 h_1 h_2 h_3 h_4 h_5
         clear H8 H6 HBW
         have H8 := Aside0.mk h_0
         have H6 := Aside0.mk h_1
         have HP4 := Aside0.mk h_2
         have HP14 := Aside0.mk h_3
         have HP21 := Aside0.mk h_4
         have HBW := Aside0.mk h_5
         clear h_0 h_1 h_2 h_3 h_4 h_5
         refine hd_ ⟨(cL H8 8 rfl),(cL H8 9 rfl),(cL H8 10 rfl),(cL H6 5 rfl),(cL H6 2 rfl),(cell_below HBW.out HC2.out)⟩ fun hHeld => ?_
         refine na_ ?_
         refine on_ 5 HT_ fun K hK => ?_
         refine appR_ (P := Tryz.prog) (t := 113) (e := 3) (size := 1) (bytes := 8) (.tmp 54) (.tmp 56) (.int .i64 0) (by rfl) rfl rfl (by kernel_rfl) (by kernel_rfl) rfl (by decide) ⟨p4,0,none⟩ 1 [.int .i64 0] (by rfl) (by rfl) rfl (fun q u hq => by rcases q with _ | q <;> simp at hq; subst hq; exact (blk_cell HP4.out _).trans rfl) (by simp [Value.oneCell']) (by decide) ?_
         intro a5 k5 wk hn
         replace H8 := Aside0.mk (blk_below H8.out hn.below)
         replace H6 := Aside0.mk (blk_below H6.out hn.below)
         replace HP4 := Aside0.mk (blk_below HP4.out hn.below)
         replace HP14 := Aside0.mk (blk_below HP14.out hn.below)
         replace HP21 := Aside0.mk (blk_below HP21.out hn.below)
         replace HBW := Aside0.mk (below_step HBW.out hn.below)
         have HA5 := Aside0.mk hn.r1
         have HK5 := Aside0.mk hn.cap.1
         clear hn
         refine hK.out _ _ ⟨(cL H8 8 rfl),(cL H8 9 rfl),(cL H8 10 rfl),(cL H6 5 rfl),(cL H6 2 rfl),(cell_below HBW.out HC2.out)⟩ (fun hHeld => ?_)
         clear hK K
         refine no_ 57 ?_
         exact nx_ (hJ4_5_14_21 (p4,a5,k5,p14,p21) _ ⟨H8.out,H6.out,HP14.out,HP21.out,HA5.out,HK5.out,HBW.out⟩)
       ·skip
        rintro ⟨p4,a5,k5,p21⟩ wj ⟨h_0,h_1,h_2,h_3,h_4,h_5⟩
        try dsimp only at h_0 h_1 h_2 h_3 h_4 h_5
        clear H8 H6 HBW
        have H8 := Aside0.mk h_0
        have H6 := Aside0.mk h_1
        have HP21 := Aside0.mk h_2
        have HA5 := Aside0.mk h_3
        have HK5 := Aside0.mk h_4
        have HBW := Aside0.mk h_5
        clear h_0 h_1 h_2 h_3 h_4 h_5
        refine hd_ ⟨(cL H8 8 rfl),(cL H8 9 rfl),(cL H8 10 rfl),(cL H6 5 rfl),(cL H6 2 rfl),(cell_below HBW.out HC2.out)⟩ fun hHeld => ?_
        refine na_ ?_
        refine on_ 14 HT_ fun K hK => ?_
        refine va_ ?_
        obtain ⟨wk,hW⟩ : ∃ W_,W_ = wj.alloc (.cells #[.int .i64 0] 3) := ⟨_,rfl⟩
        obtain ⟨p14,hh⟩ : ∃ g_,g_ = wj.heap.size := ⟨_,rfl⟩
        rw [← hW,← hh]
        have hb_ : Below wj.heap.size wj wk := by rw [hW]; exact below_alloc (Below.refl _ _) _
        replace H8 := mb H8 hb_
        replace H6 := mb H6 hb_
        replace HP21 := mb HP21 hb_
        replace HA5 := Aside0.mk (HA5.out.below hb_)
        replace HBW := Aside0.mk (below_step HBW.out hb_)
        have HP14 : Aside0 (wk.heap[p14]? = some (.cells #[.int .i64 0] 3 (0,0))) := ⟨by rw [hW,hh]; exact blk_new _ _⟩
        clear hW hh hb_
        refine hK.out _ _ ⟨(cL H8 8 rfl),(cL H8 9 rfl),(cL H8 10 rfl),(cL H6 5 rfl),(cL H6 2 rfl),(cell_below HBW.out HC2.out)⟩ (fun hHeld => ?_)
        clear hK K
        refine no_ 66 ?_
        exact nx_ (hJ4_5_14_21 (p4,a5,k5,p14,p21) _ ⟨H8.out,H6.out,HP14.out,HP21.out,HA5.out,HK5.out,HBW.out⟩)
      ·skip
       rintro ⟨p4,a5,k5,p14⟩ wj ⟨h_0,h_1,h_2,h_3,h_4,h_5⟩
       try dsimp only at h_0 h_1 h_2 h_3 h_4 h_5
       clear H8 H6 HBW
       have H8 := Aside0.mk h_0
       have H6 := Aside0.mk h_1
       have HP14 := Aside0.mk h_2
       have HA5 := Aside0.mk h_3
       have HK5 := Aside0.mk h_4
       have HBW := Aside0.mk h_5
       clear h_0 h_1 h_2 h_3 h_4 h_5
       refine hd_ ⟨(cL H8 8 rfl),(cL H8 9 rfl),(cL H8 10 rfl),(cL H6 5 rfl),(cL H6 2 rfl),(cell_below HBW.out HC2.out)⟩ fun hHeld => ?_
       refine na_ ?_
       refine tw_ 15 21 HT_ (fun K hK => ?_) fun K hK => ?_
       ·skip
        refine appR_ (P := Tryz.prog) (t := 113) (e := 3) (size := 1) (bytes := 8) (.tmp 60) (.tmp 66) (.int .i64 0) (by rfl) rfl rfl (by kernel_rfl) (by kernel_rfl) rfl (by decide) ⟨p14,0,none⟩ 1 [.int .i64 0] (by rfl) (by rfl) rfl (fun q u hq => by rcases q with _ | q <;> simp at hq; subst hq; exact (blk_cell HP14.out _).trans rfl) (by simp [Value.oneCell']) (by decide) ?_
        intro a15 k15 wk hn
        replace H8 := Aside0.mk (blk_below H8.out hn.below)
        replace H6 := Aside0.mk (blk_below H6.out hn.below)
        replace HP14 := Aside0.mk (blk_below HP14.out hn.below)
        replace HA5 := Aside0.mk (HA5.out.below hn.below)
        replace HBW := Aside0.mk (below_step HBW.out hn.below)
        have HA15 := Aside0.mk hn.r1
        clear hn
        refine hK.out _ _ ⟨(cL H8 8 rfl),(cL H8 9 rfl),(cL H8 10 rfl),(cL H6 5 rfl),(cL H6 2 rfl),(cell_below HBW.out HC2.out)⟩ (fun hHeld => ?_)
        clear hK K
        refine no_ 67 ?_
        exact nx_ (hJ4_5_14_15 (p4,a5,k5,p14,a15,k15) _ ⟨H8.out,H6.out,HA5.out,HK5.out,HA15.out,HBW.out⟩)
       ·skip
        refine va_ ?_
        obtain ⟨wk,hW⟩ : ∃ W_,W_ = wj.alloc (.cells #[.int .u64 1] 35) := ⟨_,rfl⟩
        obtain ⟨p21,hh⟩ : ∃ g_,g_ = wj.heap.size := ⟨_,rfl⟩
        rw [← hW,← hh]
        have hb_ : Below wj.heap.size wj wk := by rw [hW]; exact below_alloc (Below.refl _ _) _
        replace H8 := mb H8 hb_
        replace H6 := mb H6 hb_
        replace HP14 := mb HP14 hb_
        replace HA5 := Aside0.mk (HA5.out.below hb_)
        replace HBW := Aside0.mk (below_step HBW.out hb_)
        have HP21 : Aside0 (wk.heap[p21]? = some (.cells #[.int .u64 1] 35 (0,0))) := ⟨by rw [hW,hh]; exact blk_new _ _⟩
        clear hW hh hb_
        refine hK.out _ _ ⟨(cL H8 8 rfl),(cL H8 9 rfl),(cL H8 10 rfl),(cL H6 5 rfl),(cL H6 2 rfl),(cell_below HBW.out HC2.out)⟩ (fun hHeld => ?_)
        clear hK K
        refine no_ 73 ?_
        exact nx_ (hJ4_5_14_21 (p4,a5,k5,p14,p21) _ ⟨H8.out,H6.out,HP14.out,HP21.out,HA5.out,HK5.out,HBW.out⟩)
     ·skip
      rintro ⟨p4,a5,k5,p14,p21⟩ wj ⟨h_0,h_1,h_2,h_3,h_4,h_5,h_6⟩
      try dsimp only at h_0 h_1 h_2 h_3 h_4 h_5 h_6
      clear H8 H6 HBW
      have H8 := Aside0.mk h_0
      have H6 := Aside0.mk h_1
      have HP14 := Aside0.mk h_2
      have HP21 := Aside0.mk h_3
      have HA5 := Aside0.mk h_4
      have HK5 := Aside0.mk h_5
      have HBW := Aside0.mk h_6
      clear h_0 h_1 h_2 h_3 h_4 h_5 h_6
      refine hd_ ⟨(cL H8 8 rfl),(cL H8 9 rfl),(cL H8 10 rfl),(cL H6 5 rfl),(cL H6 2 rfl),(cell_below HBW.out HC2.out)⟩ fun hHeld => ?_
      refine na_ ?_
      refine on_ 15 HT_ fun K hK => ?_
      refine appR_ (P := Tryz.prog) (t := 113) (e := 3) (size := 1) (bytes := 8) (.tmp 60) (.tmp 66) (.int .i64 0) (by rfl) rfl rfl (by kernel_rfl) (by kernel_rfl) rfl (by decide) ⟨p14,0,none⟩ 1 [.int .i64 0] (by rfl) (by rfl) rfl (fun q u hq => by rcases q with _ | q <;> simp at hq; subst hq; exact (blk_cell HP14.out _).trans rfl) (by simp [Value.oneCell']) (by decide) ?_
      intro a15 k15 wk hn
      replace H8 := Aside0.mk (blk_below H8.out hn.below)
      replace H6 := Aside0.mk (blk_below H6.out hn.below)
      replace HP14 := Aside0.mk (blk_below HP14.out hn.below)
      replace HP21 := Aside0.mk (blk_below HP21.out hn.below)
      replace HA5 := Aside0.mk (HA5.out.below hn.below)
      replace HBW := Aside0.mk (below_step HBW.out hn.below)
      have HA15 := Aside0.mk hn.r1
      clear hn
      refine hK.out _ _ ⟨(cL H8 8 rfl),(cL H8 9 rfl),(cL H8 10 rfl),(cL H6 5 rfl),(cL H6 2 rfl),(cell_below HBW.out HC2.out)⟩ (fun hHeld => ?_)
      clear hK K
      refine no_ 67 ?_
      exact nx_ (hJ4_5_14_15_21 (p4,a5,k5,p14,a15,k15,p21) _ ⟨H8.out,H6.out,HP21.out,HA5.out,HK5.out,HA15.out,HBW.out⟩)
    ·skip
     rintro ⟨p4,a5,k5,p14,a15,k15⟩ wj ⟨h_0,h_1,h_2,h_3,h_4,h_5⟩
     try dsimp only at h_0 h_1 h_2 h_3 h_4 h_5
     clear H8 H6 HBW
     have H8 := Aside0.mk h_0
     have H6 := Aside0.mk h_1
     have HA5 := Aside0.mk h_2
     have HK5 := Aside0.mk h_3
     have HA15 := Aside0.mk h_4
     have HBW := Aside0.mk h_5
     clear h_0 h_1 h_2 h_3 h_4 h_5
     refine hd_ ⟨(cL H8 8 rfl),(cL H8 9 rfl),(cL H8 10 rfl),(cL H6 5 rfl),(cL H6 2 rfl),(cell_below HBW.out HC2.out)⟩ fun hHeld => ?_
     refine na_ ?_
     refine on_ 21 HT_ fun K hK => ?_
     refine va_ ?_
     obtain ⟨wk,hW⟩ : ∃ W_,W_ = wj.alloc (.cells #[.int .u64 1] 35) := ⟨_,rfl⟩
     obtain ⟨p21,hh⟩ : ∃ g_,g_ = wj.heap.size := ⟨_,rfl⟩
     rw [← hW,← hh]
     have hb_ : Below wj.heap.size wj wk := by rw [hW]; exact below_alloc (Below.refl _ _) _
     replace H8 := mb H8 hb_
     replace H6 := mb H6 hb_
     replace HA5 := Aside0.mk (HA5.out.below hb_)
     replace HA15 := Aside0.mk (HA15.out.below hb_)
     replace HBW := Aside0.mk (below_step HBW.out hb_)
     have HP21 : Aside0 (wk.heap[p21]? = some (.cells #[.int .u64 1] 35 (0,0))) := ⟨by rw [hW,hh]; exact blk_new _ _⟩
     clear hW hh hb_
     refine hK.out _ _ ⟨(cL H8 8 rfl),(cL H8 9 rfl),(cL H8 10 rfl),(cL H6 5 rfl),(cL H6 2 rfl),(cell_below HBW.out HC2.out)⟩ (fun hHeld => ?_)
     clear hK K
     refine no_ 73 ?_
     exact nx_ (hJ4_5_14_15_21 (p4,a5,k5,p14,a15,k15,p21) _ ⟨H8.out,H6.out,HP21.out,HA5.out,HK5.out,HA15.out,HBW.out⟩)
   rintro ⟨p4,a5,k5,p14,a15,k15,p21⟩ wj ⟨h_0,h_1,h_2,h_3,h_4,h_5,h_6⟩
   try dsimp only at h_0 h_1 h_2 h_3 h_4 h_5 h_6
   clear H8 H6 HBW
   have H8 := Aside0.mk h_0
   have H6 := Aside0.mk h_1
   have HP21 := Aside0.mk h_2
   have HA5 := Aside0.mk h_3
   have HK5 := Aside0.mk h_4
   have HA15 := Aside0.mk h_5
   have HBW := Aside0.mk h_6
   clear h_0 h_1 h_2 h_3 h_4 h_5 h_6
   refine hd_ ⟨(cL H8 8 rfl),(cL H8 9 rfl),(cL H8 10 rfl),(cL H6 5 rfl),(cL H6 2 rfl),(cell_below HBW.out HC2.out)⟩ fun hHeld => ?_
   refine na_ ?_
   refine on_ 22 HT_ fun K hK => ?_
   refine appR_ (P := Tryz.prog) (t := 160) (e := 35) (size := 1) (bytes := 8) (.tmp 70) (.tmp 73) (.int .u64 0) (by rfl) rfl rfl (by kernel_rfl) (by kernel_rfl) rfl (by decide) ⟨p21,0,none⟩ 1 [.int .u64 1] (by rfl) (by rfl) rfl (fun q u hq => by rcases q with _ | q <;> simp at hq; subst hq; exact (blk_cell HP21.out _).trans rfl) (by simp [Value.oneCell']) (by decide) ?_
   intro a22 k22 wk hn
   replace H8 := Aside0.mk (blk_below H8.out hn.below)
   replace H6 := Aside0.mk (blk_below H6.out hn.below)
   replace HP21 := Aside0.mk (blk_below HP21.out hn.below)
   replace HA5 := Aside0.mk (HA5.out.below hn.below)
   replace HA15 := Aside0.mk (HA15.out.below hn.below)
   replace HBW := Aside0.mk (below_step HBW.out hn.below)
   have HA22 := Aside0.mk hn.r1
   clear hn
   refine hK.out _ _ ⟨(cL H8 8 rfl),(cL H8 9 rfl),(cL H8 10 rfl),(cL H6 5 rfl),(cL H6 2 rfl),(cell_below HBW.out HC2.out)⟩ (fun hHeld => ?_)
   clear hK K
   refine no_ 74 ?_
   refine pa_ 23 75 HT_ ?_
   refine pa_ 24 76 HT_ ?_
   refine la_ 25 HT_ fun K hK => ?_
   replace H3 := Aside0.mk (blk_below H3.out HBW.out)
   replace H4 := Aside0.mk (blk_below H4.out HBW.out)
   replace HB := Aside0.mk (below_step HB.out HBW.out)
   have y_ : wk.cell? ⟨g8,8,none⟩ = some (.slice none 0 0) := cL H8 8 rfl
   have f_ := blk_frozen H8.out 8
   refine skip_ (w1 := ?_) (by rfl) rfl ?_ ?_
   rotate_left
   ·go_simp
    rfl
   clear y_ f_
   obtain ⟨Wx,hW_⟩ : ∃ W_,W_ = wk.setCell ⟨g8,8,none⟩ (.slice (some ⟨a5,0,none⟩) 1 k5) := ⟨_,rfl⟩
   rw [← hW_]
   have q_ := HA5.out.far (i := 8) (u := .slice (some ⟨a5,0,none⟩) 1 k5) H8.out (by decide)
   rw [← hW_] at q_
   replace HA5 := Aside0.mk q_
   clear q_
   have q_ := HA15.out.far (i := 8) (u := .slice (some ⟨a5,0,none⟩) 1 k5) H8.out (by decide)
   rw [← hW_] at q_
   replace HA15 := Aside0.mk q_
   clear q_
   have q_ := HA22.out.far (i := 8) (u := .slice (some ⟨a5,0,none⟩) 1 k5) H8.out (by decide)
   rw [← hW_] at q_
   replace HA22 := Aside0.mk q_
   clear q_
   have q_ := blk_far H3.out (p := ⟨g8,8,none⟩) (tne H3.out H8.out (by decide)) (.slice (some ⟨a5,0,none⟩) 1 k5)
   rw [← hW_] at q_
   replace H3 := Aside0.mk q_
   clear q_
   have q_ := blk_far H4.out (p := ⟨g8,8,none⟩) N_H4.out (.slice (some ⟨a5,0,none⟩) 1 k5)
   rw [← hW_] at q_
   replace H4 := Aside0.mk q_
   clear q_
   have q_ := blk_far H6.out (p := ⟨g8,8,none⟩) (tne H6.out H8.out (by decide)) (.slice (some ⟨a5,0,none⟩) 1 k5)
   rw [← hW_] at q_
   replace H6 := Aside0.mk q_
   clear q_
   have q_ := blk_set H8.out 8 (.slice (some ⟨a5,0,none⟩) 1 k5)
   rw [← hW_] at q_
   replace H8 : Aside0 (Wx.heap[g8]? = some (.cells #[.int .u64 1,.int .u32 1,.int .u64 1,.int .u64 0,.slice (some ⟨o1,0,none⟩) 1 d1,.slice (some ⟨l1,0,none⟩) 1 e1,.int .i64 4,.int .i64 2,.slice (some ⟨a5,0,none⟩) 1 k5,.slice none 0 0,.slice none 0 0,.int .u64 1,.int .u64 0,.slice none 0 0] 323 (0,0))) := ⟨q_⟩
   clear q_
   have q_ := below_set (j := 8) (v := .slice (some ⟨a5,0,none⟩) 1 k5) HB.out Gg8.out
   rw [← hW_] at q_
   replace HB := Aside0.mk q_
   clear q_ hW_
   refine hK.out _ _ ?_
   clear hK K
   refine pa_ 26 77 HT_ ?_
   refine pa_ 27 78 HT_ ?_
   refine la_ 28 HT_ fun K hK => ?_
   have y_ : Wx.cell? ⟨g8,9,none⟩ = some (.slice none 0 0) := cL H8 9 rfl
   have f_ := blk_frozen H8.out 9
   refine skip_ (w1 := ?_) (by rfl) rfl ?_ ?_
   rotate_left
   ·go_simp
    rfl
   clear y_ f_
   obtain ⟨Wy,hW_⟩ : ∃ W_,W_ = Wx.setCell ⟨g8,9,none⟩ (.slice (some ⟨a15,0,none⟩) 1 k15) := ⟨_,rfl⟩
   rw [← hW_]
   have q_ := HA5.out.far (i := 9) (u := .slice (some ⟨a15,0,none⟩) 1 k15) H8.out (by decide)
   rw [← hW_] at q_
   replace HA5 := Aside0.mk q_
   clear q_
   have q_ := HA15.out.far (i := 9) (u := .slice (some ⟨a15,0,none⟩) 1 k15) H8.out (by decide)
   rw [← hW_] at q_
   replace HA15 := Aside0.mk q_
   clear q_
   have q_ := HA22.out.far (i := 9) (u := .slice (some ⟨a15,0,none⟩) 1 k15) H8.out (by decide)
   rw [← hW_] at q_
   replace HA22 := Aside0.mk q_
   clear q_
   have q_ := blk_far H3.out (p := ⟨g8,9,none⟩) (tne H3.out H8.out (by decide)) (.slice (some ⟨a15,0,none⟩) 1 k15)
   rw [← hW_] at q_
   replace H3 := Aside0.mk q_
   clear q_
   have q_ := blk_far H4.out (p := ⟨g8,9,none⟩) N_H4.out (.slice (some ⟨a15,0,none⟩) 1 k15)
   rw [← hW_] at q_
   replace H4 := Aside0.mk q_
   clear q_
   have q_ := blk_far H6.out (p := ⟨g8,9,none⟩) (tne H6.out H8.out (by decide)) (.slice (some ⟨a15,0,none⟩) 1 k15)
   rw [← hW_] at q_
   replace H6 := Aside0.mk q_
   clear q_
   have q_ := blk_set H8.out 9 (.slice (some ⟨a15,0,none⟩) 1 k15)
   rw [← hW_] at q_
   replace H8 : Aside0 (Wy.heap[g8]? = some (.cells #[.int .u64 1,.int .u32 1,.int .u64 1,.int .u64 0,.slice (some ⟨o1,0,none⟩) 1 d1,.slice (some ⟨l1,0,none⟩) 1 e1,.int .i64 4,.int .i64 2,.slice (some ⟨a5,0,none⟩) 1 k5,.slice (some ⟨a15,0,none⟩) 1 k15,.slice none 0 0,.int .u64 1,.int .u64 0,.slice none 0 0] 323 (0,0))) := ⟨q_⟩
   clear q_
   have q_ := below_set (j := 9) (v := .slice (some ⟨a15,0,none⟩) 1 k15) HB.out Gg8.out
   rw [← hW_] at q_
   replace HB := Aside0.mk q_
   clear q_ hW_
   refine hK.out _ _ ?_
   clear hK K
   refine pa_ 29 79 HT_ ?_
   refine pa_ 30 80 HT_ ?_
   refine la_ 31 HT_ fun K hK => ?_
   have y_ : Wy.cell? ⟨g8,10,none⟩ = some (.slice none 0 0) := cL H8 10 rfl
   have f_ := blk_frozen H8.out 10
   refine skip_ (w1 := ?_) (by rfl) rfl ?_ ?_
   rotate_left
   ·go_simp
    rfl
   clear y_ f_
   obtain ⟨Wz,hW_⟩ : ∃ W_,W_ = Wy.setCell ⟨g8,10,none⟩ (.slice (some ⟨a22,0,none⟩) 1 k22) := ⟨_,rfl⟩
   rw [← hW_]
   have q_ := HA5.out.far (i := 10) (u := .slice (some ⟨a22,0,none⟩) 1 k22) H8.out (by decide)
   rw [← hW_] at q_
   replace HA5 := Aside0.mk q_
   clear q_
   have q_ := HA15.out.far (i := 10) (u := .slice (some ⟨a22,0,none⟩) 1 k22) H8.out (by decide)
   rw [← hW_] at q_
   replace HA15 := Aside0.mk q_
   clear q_
   have q_ := HA22.out.far (i := 10) (u := .slice (some ⟨a22,0,none⟩) 1 k22) H8.out (by decide)
   rw [← hW_] at q_
   replace HA22 := Aside0.mk q_
   clear q_
   have q_ := blk_far H3.out (p := ⟨g8,10,none⟩) (tne H3.out H8.out (by decide)) (.slice (some ⟨a22,0,none⟩) 1 k22)
   rw [← hW_] at q_
   replace H3 := Aside0.mk q_
   clear q_
   have q_ := blk_far H4.out (p := ⟨g8,10,none⟩) N_H4.out (.slice (some ⟨a22,0,none⟩) 1 k22)
   rw [← hW_] at q_
   replace H4 := Aside0.mk q_
   clear q_
   have q_ := blk_far H6.out (p := ⟨g8,10,none⟩) (tne H6.out H8.out (by decide)) (.slice (some ⟨a22,0,none⟩) 1 k22)
   rw [← hW_] at q_
   replace H6 := Aside0.mk q_
   clear q_
   have q_ := blk_set H8.out 10 (.slice (some ⟨a22,0,none⟩) 1 k22)
   rw [← hW_] at q_
   replace H8 : Aside0 (Wz.heap[g8]? = some (.cells #[.int .u64 1,.int .u32 1,.int .u64 1,.int .u64 0,.slice (some ⟨o1,0,none⟩) 1 d1,.slice (some ⟨l1,0,none⟩) 1 e1,.int .i64 4,.int .i64 2,.slice (some ⟨a5,0,none⟩) 1 k5,.slice (some ⟨a15,0,none⟩) 1 k15,.slice (some ⟨a22,0,none⟩) 1 k22,.int .u64 1,.int .u64 0,.slice none 0 0] 323 (0,0))) := ⟨q_⟩
   clear q_
   have q_ := below_set (j := 10) (v := .slice (some ⟨a22,0,none⟩) 1 k22) HB.out Gg8.out
   rw [← hW_] at q_
   replace HB := Aside0.mk q_
   clear q_ hW_
   refine hK.out _ _ ?_
   clear hK K
   refine dn_ HT_ ?_
   clear HT_ HW_ hHeld
   go_wp2_with fail
   exact ⟨⟨⟨H3,H4,H6,HB⟩,.inr ⟨rfl,a5,k5,a15,k15,a22,k22,H8,HA5,HA15,HA22,HK5⟩⟩,by simp [intOf]⟩
  ·obtain ⟨ro,hro,ro0⟩ := R5.out
   obtain ⟨rn,hrn,rn0⟩ := R15.out
   obtain ⟨rf,hrf,rf0⟩ := R22.out
   have HFW : Aside0 (Fwd wr wr g8 o1 d1 l1 e1 dl vs 0 a5 k5 a15 k15 a22 k22 (.slice none 0 0) ro rn rf) := ⟨⟨H8.out,hro,hrn,hrf,ro0,rn0,rf0,K5.out,⟨by simp [xsF],.inl ⟨rfl,rfl⟩⟩,.inl rfl,Keep.refl _ _⟩⟩
   clear hro hrn hrf ro0 rn0 rf0
   go_wp2_with fail
   refine (rcounted_calls g8 o1 d1 l1 e1 a5 k5 a15 k15 a22 k22 d 1 0 (.slice none 0 0) _ HFW.out.hg ((blk_cell HFW.out.ho 0).trans HFW.out.r0) ((blk_cell HFW.out.hn 0).trans HFW.out.r1)).mono ?_
   rintro e_ Wq ⟨rfl,rfl⟩
   go_wp2_with fail
   refine (rforward_calls g8 o1 d1 l1 e1 d m a5 k5 a15 k15 a22 k22 n left dl vs (.slice none 0 0) ro rn rf send w _ HB.out HFW.out Gg8.out HN2.out HD.out HRD.out HEND.out).mono ?_
   rintro e_ Wr ⟨rfl,oo,ln,ff,fv,hfw,hne⟩
   have HF := Aside0.mk hfw
   have HNE := Aside0.mk hne
   clear hfw hne
   obtain ⟨va,vl,vc,rfl⟩ := own_one (ownB_0 HF.out.own)
   replace H4 := Aside0.mk (blk_keep H4.out HF.out.bel (by simpa using N_H4.out))
   replace HB := Aside0.mk (below_keep HB.out HF.out.bel (by simpa using Gg8.out))
   go_wp2_with (first | (refine lr_ 8 HF.out.hg Tryz.underlying323 ?_) | (refine sr_ 4 90 (img o1 d1 l1 e1 oo 1 ln 1 ff 1 (1 + n) n (.slice va vl vc)) H4.out ?_))
   refine bodyPost_ret (results_ct rfl _ _ g4 323 (img o1 d1 l1 e1 oo 1 ln 1 ff 1 (1 + n) n (.slice va vl vc)) (0,0) _ rfl (setRow_heap _ _ _ _ _ _ H4.out) Tryz.underlying323 rfl (by kernel_rfl)) rfl ?_
   have ho := ownB_keep (w' := Wr.setRow g4 (img o1 d1 l1 e1 oo 1 ln 1 ff 1 (1 + n) n (.slice va vl vc))) HF.out.own (fun q hq => setRow_other Wr g4 q _ (own_ne (ownB_0 HF.out.own) H4.out (by decide) q hq))
   refine ⟨o1,d1,l1,e1,oo,ln,ff,_,rfl,⟨mR _ HF.out.ho (tne HF.out.ho H4.out (by decide)),mR _ HF.out.hn (tne HF.out.hn H4.out (by decide)),mR _ HF.out.hf (tne HF.out.hf H4.out (by decide)),HNE.out⟩,ownB_0 ho,below_setRow HB.out G4.out _⟩
end Go.Proofs.YtokfjbbjkiilmaaGreatDoor.H
