/-
TopTorn: part of its walk (Lg5, Lg6).
-/
import Derived.Test.YtokfjbbjkiilmaaGreatDoorTJ
set_option linter.unusedVariables false
set_option linter.unusedSimpArgs false
namespace Go.Proofs.YtokfjbbjkiilmaaGreatDoor.H
open Go.RowKit Go.Proofs.YtokfjbbjkiilmaaGreatDoorW.PrintWords Go.Proofs.YtokfjbbjkiilmaaGreatDoorW.PrintLast Go.Proofs.YtokfjbbjkiilmaaGreatDoorW.PrintMore
set_option maxHeartbeats 8000000
set_option maxRecDepth 100000
attribute [local go_sem] max2_int min2_int min_two max_two
def lwrite.T1 : Bool × List (List Nat × List Nat) := (true,[([],[]),([0],[0]),([],[]),([2],[2]),([3],[3]),([4],[4]),([],[]),([6,1],[6]),([5,7,7],[5,7]),([1,8],[1,8]),([],[]),([10,9,8,0,1,2,3,4,5,6,7,8,9,10],[9,10])])
def lwrite.B1 : List Nat := [0,1,0,4,12,28,0,67,255,511,0,2047]
theorem lwrite.tab1 : rtab .any (opsOf Tryz.f225 1) = lwrite.T1 := by kernel_rfl
theorem lwrite.bits1 : waitsOk lwrite.T1.2 lwrite.B1 = true := by kernel_rfl
def lwrite.T2 : Bool × List (List Nat × List Nat) := (true,[([],[]),([0],[0]),([1],[1]),([2],[2]),([],[]),([4],[4]),([5],[5]),([6],[6]),([0,1,2,3],[]),([8,3,0,1,2,3],[3,8]),([0,1,2,3,4,5,6,7,8,9],[]),([10,7,9,0,1,2,3,4,5,6,7,8,9],[7,10])])
def lwrite.B2 : List Nat := [0,1,3,7,0,16,48,112,15,271,1023,2047]
theorem lwrite.tab2 : rtab .any (opsOf Tryz.f225 2) = lwrite.T2 := by kernel_rfl
theorem lwrite.bits2 : waitsOk lwrite.T2.2 lwrite.B2 = true := by kernel_rfl
def lwrite.T5 : Bool × List (List Nat × List Nat) := (true,[([],[]),([0],[0]),([1],[1]),([2],[2]),([],[]),([4],[4]),([5],[5]),([6],[6]),([7],[7]),([],[]),([8,9],[8,9]),([],[]),([3,10,11,10],[3,10,11]),([12,12],[12])])
def lwrite.B5 : List Nat := [0,1,3,7,0,16,48,112,240,0,1008,0,4095,8191]
theorem lwrite.tab5 : rtab .any (opsOf Tryz.f225 5) = lwrite.T5 := by kernel_rfl
theorem lwrite.bits5 : waitsOk lwrite.T5.2 lwrite.B5 = true := by kernel_rfl
theorem lwrite_calls (l d m oo ln ff : Nat) (left : Int) (es : Array MapEntry) (c : Nat) (k x lsn ep gen l0 e0 ver dl : Int) (v : ByteArray) (w : World) (h : Lst w l d m oo ln ff left (.slice none 0 0) es c k x lsn ep gen) (hlk : lok lsn ep ver dl v) (hl1 : lsn + 1 < 18446744073709551616) (hk : k = 0 ∨ k = 1) (hlf : -1000 ≤ left ∧ left ≤ 0) :
 Calls Tryz.prog 225 #[.pointer (some ⟨l,0,none⟩),.agg #[.int .u64 l0,.int .u32 e0,.int .i64 1,.int .u64 ver,.int .u64 dl,.string idA,.string v]] w fun e w' => e = .returned (.agg #[.int .i64 0,.int .i64 k]) ∧ ∃ v2,w'.ownsRow 0 286 2 v2 1 [.int .i64 (2 + k),.string (lrec lsn ep ver dl v).enc] ∧ Lst w' l d m oo ln ff (left - 1) v2 es c k x (lsn + 1) ep gen ∧ Keep [d,l] w w' := by
 have H := Aside0.mk h
 have HLK := Aside0.mk hlk
 have HL1 := Aside0.mk hl1
 have HK := Aside0.mk hk
 have HLF := Aside0.mk hlf
 clear h hlk hk hlf hl1
 go_enter Tryz.func225,Tryz.ntmps225
 go_upto_region 1 with fail
 obtain ⟨W1,g3,g4,hW_,hg3,hg4,HX,H4,hb_⟩ := new2 w #[.int .u64 l0,.int .u32 e0,.int .i64 1,.int .u64 ver,.int .u64 dl,.string idA,.string v] 188 #[.int .i64 0,.int .i64 0] 177
 rw [← hW_,← hg4.out,← hg3.out]
 have HB := Aside0.mk hb_
 clear hW_ hb_
 have G3 : Aside0 (w.heap.size ≤ g3) := ⟨by have := hg3.out; omega⟩
 have G4 : Aside0 (w.heap.size ≤ g4) := ⟨by have := hg4.out; omega⟩
 refine st_ 12 (fun w' => w'.cell? ⟨l,1,none⟩ = some (.int .i64 4) ∧ w'.cell? ⟨l,2,none⟩ = some (.int .i64 2) ∧ w'.cell? ⟨l,3,none⟩ = some (.slice (some ⟨oo,0,none⟩) 1 1) ∧ w'.cell? ⟨l,4,none⟩ = some (.slice (some ⟨ln,0,none⟩) 1 1) ∧ w'.cell? ⟨l,5,none⟩ = some (.slice (some ⟨ff,0,none⟩) 1 1)) [11] ⟨((blk_cell (blk_below H.out.hl (below_drew HB.out)) 1).trans rfl),((blk_cell (blk_below H.out.hl (below_drew HB.out)) 2).trans rfl),((blk_cell (blk_below H.out.hl (below_drew HB.out)) 3).trans rfl),((blk_cell (blk_below H.out.hl (below_drew HB.out)) 4).trans rfl),((blk_cell (blk_below H.out.hl (below_drew HB.out)) 5).trans rfl)⟩ fun hHeld => ?_
 refine with_tabW lwrite.tab1 lwrite.bits1 (fun HT_ HW_ => ?_)
 replace HX := mD HX
 replace H4 := mD H4
 replace HB := bD HB
 generalize W1.drew = wd1 at *
 refine pa_ 0 8 HT_ ?_
 refine pa_ 2 10 HT_ ?_
 refine pa_ 3 11 HT_ ?_
 refine pa_ 4 12 HT_ ?_
 refine pa_ 6 14 HT_ ?_
 refine ta_ 5 13 HT_ HW_ hHeld ?_
 refine jn_ (σ := Nat) 1 [11,1] (fun s_ => [(9,.int .i64 0),(15,.int .i64 0),(16,.int .i64 k),(5,.pointer (some ⟨s_,0,none⟩)),(17,.agg #[.int .i64 0,.int .i64 k])]) (fun s_ w' => w'.heap[g3]? = some (.cells #[.int .u64 l0,.int .u32 e0,.int .i64 1,.int .u64 ver,.int .u64 dl,.string idA,.string v] 188 (0,0)) ∧ w'.heap[g4]? = some (.cells #[.int .i64 0,.int .i64 0] 177 (0,0)) ∧ w'.heap[s_]? = some (.cells #[.int .i64 0,.int .i64 0] 177 (0,0)) ∧ w.heap.size ≤ s_ ∧ s_ ≠ g3 ∧ s_ ≠ g4 ∧ Below w.heap.size w w') ?_ ?_
 rotate_left
 ·intro hJ1_7_8_10
  refine jn_ (σ := Unit) 2 [10,2] (fun s_ => [(9,.int .i64 0),(15,.int .i64 0),(16,.int .i64 k),(17,.agg #[.int .i64 0,.int .i64 k])]) (fun s_ w' => w'.heap[g3]? = some (.cells #[.int .u64 l0,.int .u32 e0,.int .i64 1,.int .u64 ver,.int .u64 dl,.string idA,.string v] 188 (0,0)) ∧ w'.heap[g4]? = some (.cells #[.int .i64 0,.int .i64 0] 177 (0,0)) ∧ Below w.heap.size w w') ?_ ?_
  rotate_left
  ·intro hJ1_7_8
   refine jn_ (σ := Nat) 3 [8,2,1,1] (fun s_ => [(9,.int .i64 0),(15,.int .i64 0),(5,.pointer (some ⟨s_,0,none⟩))]) (fun s_ w' => w'.heap[g3]? = some (.cells #[.int .u64 l0,.int .u32 e0,.int .i64 1,.int .u64 ver,.int .u64 dl,.string idA,.string v] 188 (0,0)) ∧ w'.heap[g4]? = some (.cells #[.int .i64 0,.int .i64 0] 177 (0,0)) ∧ w'.heap[s_]? = some (.cells #[.int .i64 0,.int .i64 0] 177 (0,0)) ∧ w.heap.size ≤ s_ ∧ s_ ≠ g3 ∧ s_ ≠ g4 ∧ Below w.heap.size w w') ?_ ?_
   rotate_left
   ·intro hJ1_7_10
    refine jn_ (σ := Unit) 4 [8,4] (fun s_ => [(9,.int .i64 0),(15,.int .i64 0)]) (fun s_ w' => w'.heap[g3]? = some (.cells #[.int .u64 l0,.int .u32 e0,.int .i64 1,.int .u64 ver,.int .u64 dl,.string idA,.string v] 188 (0,0)) ∧ w'.heap[g4]? = some (.cells #[.int .i64 0,.int .i64 0] 177 (0,0)) ∧ Below w.heap.size w w') ?_ ?_
    rotate_left
    ·intro hJ1_7
     refine jn_ (σ := Nat) 4 [7,3,1,1] (fun s_ => [(9,.int .i64 0),(5,.pointer (some ⟨s_,0,none⟩))]) (fun s_ w' => w'.heap[g3]? = some (.cells #[.int .u64 l0,.int .u32 e0,.int .i64 1,.int .u64 ver,.int .u64 dl,.string idA,.string v] 188 (0,0)) ∧ w'.heap[g4]? = some (.cells #[.int .i64 0,.int .i64 0] 177 (0,0)) ∧ w'.heap[s_]? = some (.cells #[.int .i64 0,.int .i64 0] 177 (0,0)) ∧ w.heap.size ≤ s_ ∧ s_ ≠ g3 ∧ s_ ≠ g4 ∧ Below w.heap.size w w') ?_ ?_
     rotate_left
     ·intro hJ1_10
      refine jn_ (σ := Unit) 5 [7,5] (fun s_ => [(9,.int .i64 0)]) (fun s_ w' => w'.heap[g3]? = some (.cells #[.int .u64 l0,.int .u32 e0,.int .i64 1,.int .u64 ver,.int .u64 dl,.string idA,.string v] 188 (0,0)) ∧ w'.heap[g4]? = some (.cells #[.int .i64 0,.int .i64 0] 177 (0,0)) ∧ Below w.heap.size w w') ?_ ?_
      rotate_left
      ·intro hJ1
       refine jn_ (σ := Nat) 5 [1,1,5,3,1,1] (fun s_ => [(5,.pointer (some ⟨s_,0,none⟩))]) (fun s_ w' => w'.heap[g3]? = some (.cells #[.int .u64 l0,.int .u32 e0,.int .i64 1,.int .u64 ver,.int .u64 dl,.string idA,.string v] 188 (0,0)) ∧ w'.heap[g4]? = some (.cells #[.int .i64 0,.int .i64 0] 177 (0,0)) ∧ w'.heap[s_]? = some (.cells #[.int .i64 0,.int .i64 0] 177 (0,0)) ∧ w.heap.size ≤ s_ ∧ s_ ≠ g3 ∧ s_ ≠ g4 ∧ Below w.heap.size w w') ?_ ?_
       rotate_left
       ·intro hJ10
        refine tw_ 1 10 HT_ (fun K hK => ?_) fun K hK => ?_
        ·skip
         refine gc_ Tryz.func228 #[.pointer (some ⟨l,0,none⟩)] ?_
         with_reducible refine (lopen_calls l d oo 1 ln 1 ff 1 lsn ep gen _ (blk_below H.out.hl HB.out) ((blk_cell (blk_below H.out.ho HB.out) 0).trans rfl)).mono ?_
         rintro e_ wk ⟨rfl,hb⟩
         refine ⟨_,rfl,?_⟩
         replace HX := mb HX hb
         replace H4 := mb H4 hb
         replace HB := mS HB hb
         clear hb
         refine hK.out _ _ ⟨((blk_cell (blk_below H.out.hl HB.out) 1).trans rfl),((blk_cell (blk_below H.out.hl HB.out) 2).trans rfl),((blk_cell (blk_below H.out.hl HB.out) 3).trans rfl),((blk_cell (blk_below H.out.hl HB.out) 4).trans rfl),((blk_cell (blk_below H.out.hl HB.out) 5).trans rfl)⟩ (fun hHeld => ?_)
         clear hK K
         refine no_ 9 ?_
         exact nx_ (hJ1 () _ ⟨HX.out,H4.out,HB.out⟩)
        ·skip
         refine va_ ?_
         obtain ⟨wk,hW⟩ : ∃ W_,W_ = wd1.alloc (.cells #[.int .i64 0,.int .i64 0] 177) := ⟨_,rfl⟩
         obtain ⟨b5,hh⟩ : ∃ g_,g_ = wd1.heap.size := ⟨_,rfl⟩
         rw [← hW,← hh]
         have HGb5 : Aside0 (w.heap.size ≤ b5) := ⟨by rw [hh]; exact HB.out.size⟩
         have HAb5_g3 : Aside0 (b5 ≠ g3) := ⟨by rw [hh]; exact (Nat.ne_of_lt (blk_lt HX.out)).symm⟩
         have HAb5_g4 : Aside0 (b5 ≠ g4) := ⟨by rw [hh]; exact (Nat.ne_of_lt (blk_lt H4.out)).symm⟩
         have hb_ : Below wd1.heap.size wd1 wk := by rw [hW]; exact below_alloc (Below.refl _ _) _
         replace HX := mb HX hb_
         replace H4 := mb H4 hb_
         replace HB := mS HB hb_
         have HRb5 : Aside0 (wk.heap[b5]? = some (.cells #[.int .i64 0,.int .i64 0] 177 (0,0))) := ⟨by rw [hW,hh]; exact blk_new _ _⟩
         clear hW hh hb_
         refine hK.out _ _ ⟨((blk_cell (blk_below H.out.hl HB.out) 1).trans rfl),((blk_cell (blk_below H.out.hl HB.out) 2).trans rfl),((blk_cell (blk_below H.out.hl HB.out) 3).trans rfl),((blk_cell (blk_below H.out.hl HB.out) 4).trans rfl),((blk_cell (blk_below H.out.hl HB.out) 5).trans rfl)⟩ (fun hHeld => ?_)
         clear hK K
         refine no_ 5 ?_
         exact nx_ (hJ10 b5 _ ⟨HX.out,H4.out,HRb5.out,HGb5.out,HAb5_g3.out,HAb5_g4.out,HB.out⟩)
       ·skip
        rintro b5 wj ⟨h_0,h_1,h_2,h_3,h_4,h_5,h_6⟩
        try dsimp only at h_0 h_1 h_2 h_3 h_4 h_5 h_6
        clear HX H4 HB
        have HX := Aside0.mk h_0
        have H4 := Aside0.mk h_1
        have HRb5 := Aside0.mk h_2
        have HGb5 := Aside0.mk h_3
        have HAb5_g3 := Aside0.mk h_4
        have HAb5_g4 := Aside0.mk h_5
        have HB := Aside0.mk h_6
        clear h_0 h_1 h_2 h_3 h_4 h_5 h_6
        refine hd_ ⟨((blk_cell (blk_below H.out.hl HB.out) 1).trans rfl),((blk_cell (blk_below H.out.hl HB.out) 2).trans rfl),((blk_cell (blk_below H.out.hl HB.out) 3).trans rfl),((blk_cell (blk_below H.out.hl HB.out) 4).trans rfl),((blk_cell (blk_below H.out.hl HB.out) 5).trans rfl)⟩ fun hHeld => ?_
        refine na_ ?_
        refine on_ 1 HT_ fun K hK => ?_
        refine gc_ Tryz.func228 #[.pointer (some ⟨l,0,none⟩)] ?_
        with_reducible refine (lopen_calls l d oo 1 ln 1 ff 1 lsn ep gen _ (blk_below H.out.hl HB.out) ((blk_cell (blk_below H.out.ho HB.out) 0).trans rfl)).mono ?_
        rintro e_ wk ⟨rfl,hb⟩
        refine ⟨_,rfl,?_⟩
        replace HX := mb HX hb
        replace H4 := mb H4 hb
        replace HRb5 := mb HRb5 hb
        replace HB := mS HB hb
        clear hb
        refine hK.out _ _ ⟨((blk_cell (blk_below H.out.hl HB.out) 1).trans rfl),((blk_cell (blk_below H.out.hl HB.out) 2).trans rfl),((blk_cell (blk_below H.out.hl HB.out) 3).trans rfl),((blk_cell (blk_below H.out.hl HB.out) 4).trans rfl),((blk_cell (blk_below H.out.hl HB.out) 5).trans rfl)⟩ (fun hHeld => ?_)
        clear hK K
        refine no_ 9 ?_
        exact nx_ (hJ1_10 b5 _ ⟨HX.out,H4.out,HRb5.out,HGb5.out,HAb5_g3.out,HAb5_g4.out,HB.out⟩)
      ·skip
       rintro ⟨⟩ wj ⟨h_0,h_1,h_2⟩
       try dsimp only at h_0 h_1 h_2
       clear HX H4 HB
       have HX := Aside0.mk h_0
       have H4 := Aside0.mk h_1
       have HB := Aside0.mk h_2
       clear h_0 h_1 h_2
       refine hd_ ⟨((blk_cell (blk_below H.out.hl HB.out) 1).trans rfl),((blk_cell (blk_below H.out.hl HB.out) 2).trans rfl),((blk_cell (blk_below H.out.hl HB.out) 3).trans rfl),((blk_cell (blk_below H.out.hl HB.out) 4).trans rfl),((blk_cell (blk_below H.out.hl HB.out) 5).trans rfl)⟩ fun hHeld => ?_
       refine na_ ?_
       refine tw_ 7 10 HT_ (fun K hK => ?_) fun K hK => ?_
       ·skip
        refine gc_ Tryz.func228 #[.pointer (some ⟨l,0,none⟩)] ?_
        with_reducible refine (lopen_calls l d oo 1 ln 1 ff 1 lsn ep gen _ (blk_below H.out.hl HB.out) ((blk_cell (blk_below H.out.ho HB.out) 0).trans rfl)).mono ?_
        rintro e_ wk ⟨rfl,hb⟩
        refine ⟨_,rfl,?_⟩
        replace HX := mb HX hb
        replace H4 := mb H4 hb
        replace HB := mS HB hb
        clear hb
        refine hK.out _ _ ⟨((blk_cell (blk_below H.out.hl HB.out) 1).trans rfl),((blk_cell (blk_below H.out.hl HB.out) 2).trans rfl),((blk_cell (blk_below H.out.hl HB.out) 3).trans rfl),((blk_cell (blk_below H.out.hl HB.out) 4).trans rfl),((blk_cell (blk_below H.out.hl HB.out) 5).trans rfl)⟩ (fun hHeld => ?_)
        clear hK K
        refine no_ 15 ?_
        exact nx_ (hJ1_7 () _ ⟨HX.out,H4.out,HB.out⟩)
       ·skip
        refine va_ ?_
        obtain ⟨wk,hW⟩ : ∃ W_,W_ = wj.alloc (.cells #[.int .i64 0,.int .i64 0] 177) := ⟨_,rfl⟩
        obtain ⟨b5,hh⟩ : ∃ g_,g_ = wj.heap.size := ⟨_,rfl⟩
        rw [← hW,← hh]
        have HGb5 : Aside0 (w.heap.size ≤ b5) := ⟨by rw [hh]; exact HB.out.size⟩
        have HAb5_g3 : Aside0 (b5 ≠ g3) := ⟨by rw [hh]; exact (Nat.ne_of_lt (blk_lt HX.out)).symm⟩
        have HAb5_g4 : Aside0 (b5 ≠ g4) := ⟨by rw [hh]; exact (Nat.ne_of_lt (blk_lt H4.out)).symm⟩
        have hb_ : Below wj.heap.size wj wk := by rw [hW]; exact below_alloc (Below.refl _ _) _
        replace HX := mb HX hb_
        replace H4 := mb H4 hb_
        replace HB := mS HB hb_
        have HRb5 : Aside0 (wk.heap[b5]? = some (.cells #[.int .i64 0,.int .i64 0] 177 (0,0))) := ⟨by rw [hW,hh]; exact blk_new _ _⟩
        clear hW hh hb_
        refine hK.out _ _ ⟨((blk_cell (blk_below H.out.hl HB.out) 1).trans rfl),((blk_cell (blk_below H.out.hl HB.out) 2).trans rfl),((blk_cell (blk_below H.out.hl HB.out) 3).trans rfl),((blk_cell (blk_below H.out.hl HB.out) 4).trans rfl),((blk_cell (blk_below H.out.hl HB.out) 5).trans rfl)⟩ (fun hHeld => ?_)
        clear hK K
        refine no_ 5 ?_
        exact nx_ (hJ1_10 b5 _ ⟨HX.out,H4.out,HRb5.out,HGb5.out,HAb5_g3.out,HAb5_g4.out,HB.out⟩)
     ·skip
      rintro b5 wj ⟨h_0,h_1,h_2,h_3,h_4,h_5,h_6⟩
      try dsimp only at h_0 h_1 h_2 h_3 h_4 h_5 h_6
      clear HX H4 HB
      have HX := Aside0.mk h_0
      have H4 := Aside0.mk h_1
      have HRb5 := Aside0.mk h_2
      have HGb5 := Aside0.mk h_3
      have HAb5_g3 := Aside0.mk h_4
      have HAb5_g4 := Aside0.mk h_5
      have HB := Aside0.mk h_6
      clear h_0 h_1 h_2 h_3 h_4 h_5 h_6
      refine hd_ ⟨((blk_cell (blk_below H.out.hl HB.out) 1).trans rfl),((blk_cell (blk_below H.out.hl HB.out) 2).trans rfl),((blk_cell (blk_below H.out.hl HB.out) 3).trans rfl),((blk_cell (blk_below H.out.hl HB.out) 4).trans rfl),((blk_cell (blk_below H.out.hl HB.out) 5).trans rfl)⟩ fun hHeld => ?_
      refine na_ ?_
      refine on_ 7 HT_ fun K hK => ?_
      refine gc_ Tryz.func228 #[.pointer (some ⟨l,0,none⟩)] ?_
      with_reducible refine (lopen_calls l d oo 1 ln 1 ff 1 lsn ep gen _ (blk_below H.out.hl HB.out) ((blk_cell (blk_below H.out.ho HB.out) 0).trans rfl)).mono ?_
      rintro e_ wk ⟨rfl,hb⟩
      refine ⟨_,rfl,?_⟩
      replace HX := mb HX hb
      replace H4 := mb H4 hb
      replace HRb5 := mb HRb5 hb
      replace HB := mS HB hb
      clear hb
      refine hK.out _ _ ⟨((blk_cell (blk_below H.out.hl HB.out) 1).trans rfl),((blk_cell (blk_below H.out.hl HB.out) 2).trans rfl),((blk_cell (blk_below H.out.hl HB.out) 3).trans rfl),((blk_cell (blk_below H.out.hl HB.out) 4).trans rfl),((blk_cell (blk_below H.out.hl HB.out) 5).trans rfl)⟩ (fun hHeld => ?_)
      clear hK K
      refine no_ 15 ?_
      exact nx_ (hJ1_7_10 b5 _ ⟨HX.out,H4.out,HRb5.out,HGb5.out,HAb5_g3.out,HAb5_g4.out,HB.out⟩)
    ·skip
     rintro ⟨⟩ wj ⟨h_0,h_1,h_2⟩
     try dsimp only at h_0 h_1 h_2
     clear HX H4 HB
     have HX := Aside0.mk h_0
     have H4 := Aside0.mk h_1
     have HB := Aside0.mk h_2
     clear h_0 h_1 h_2
     refine hd_ ⟨((blk_cell (blk_below H.out.hl HB.out) 1).trans rfl),((blk_cell (blk_below H.out.hl HB.out) 2).trans rfl),((blk_cell (blk_below H.out.hl HB.out) 3).trans rfl),((blk_cell (blk_below H.out.hl HB.out) 4).trans rfl),((blk_cell (blk_below H.out.hl HB.out) 5).trans rfl)⟩ fun hHeld => ?_
     refine na_ ?_
     refine tw_ 8 10 HT_ (fun K hK => ?_) fun K hK => ?_
     ·skip
      refine gc_ Tryz.func164 #[.agg #[.int .i64 4,.int .i64 2,.slice (some ⟨oo,0,none⟩) 1 1,.slice (some ⟨ln,0,none⟩) 1 1,.slice (some ⟨ff,0,none⟩) 1 1],.int .i64 0] ?_
      with_reducible refine (tlen_calls oo 1 ln 1 ff 1 k _ ((blk_cell (blk_below H.out.ho HB.out) 0).trans rfl) ((blk_cell (blk_below H.out.hn HB.out) 0).trans rfl)).mono ?_
      rintro e_ wk ⟨rfl,hb⟩
      refine ⟨_,rfl,?_⟩
      replace HX := mb HX hb
      replace H4 := mb H4 hb
      replace HB := mS HB hb
      clear hb
      refine hK.out _ _ ⟨((blk_cell (blk_below H.out.hl HB.out) 1).trans rfl),((blk_cell (blk_below H.out.hl HB.out) 2).trans rfl),((blk_cell (blk_below H.out.hl HB.out) 3).trans rfl),((blk_cell (blk_below H.out.hl HB.out) 4).trans rfl),((blk_cell (blk_below H.out.hl HB.out) 5).trans rfl)⟩ (fun hHeld => ?_)
      clear hK K
      refine no_ 16 ?_
      refine pa_ 9 17 HT_ ?_
      exact nx_ (hJ1_7_8 () _ ⟨HX.out,H4.out,HB.out⟩)
     ·skip
      refine va_ ?_
      obtain ⟨wk,hW⟩ : ∃ W_,W_ = wj.alloc (.cells #[.int .i64 0,.int .i64 0] 177) := ⟨_,rfl⟩
      obtain ⟨b5,hh⟩ : ∃ g_,g_ = wj.heap.size := ⟨_,rfl⟩
      rw [← hW,← hh]
      have HGb5 : Aside0 (w.heap.size ≤ b5) := ⟨by rw [hh]; exact HB.out.size⟩
      have HAb5_g3 : Aside0 (b5 ≠ g3) := ⟨by rw [hh]; exact (Nat.ne_of_lt (blk_lt HX.out)).symm⟩
      have HAb5_g4 : Aside0 (b5 ≠ g4) := ⟨by rw [hh]; exact (Nat.ne_of_lt (blk_lt H4.out)).symm⟩
      have hb_ : Below wj.heap.size wj wk := by rw [hW]; exact below_alloc (Below.refl _ _) _
      replace HX := mb HX hb_
      replace H4 := mb H4 hb_
      replace HB := mS HB hb_
      have HRb5 : Aside0 (wk.heap[b5]? = some (.cells #[.int .i64 0,.int .i64 0] 177 (0,0))) := ⟨by rw [hW,hh]; exact blk_new _ _⟩
      clear hW hh hb_
      refine hK.out _ _ ⟨((blk_cell (blk_below H.out.hl HB.out) 1).trans rfl),((blk_cell (blk_below H.out.hl HB.out) 2).trans rfl),((blk_cell (blk_below H.out.hl HB.out) 3).trans rfl),((blk_cell (blk_below H.out.hl HB.out) 4).trans rfl),((blk_cell (blk_below H.out.hl HB.out) 5).trans rfl)⟩ (fun hHeld => ?_)
      clear hK K
      refine no_ 5 ?_
      exact nx_ (hJ1_7_10 b5 _ ⟨HX.out,H4.out,HRb5.out,HGb5.out,HAb5_g3.out,HAb5_g4.out,HB.out⟩)
   ·skip
    rintro b5 wj ⟨h_0,h_1,h_2,h_3,h_4,h_5,h_6⟩
    try dsimp only at h_0 h_1 h_2 h_3 h_4 h_5 h_6
    clear HX H4 HB
    have HX := Aside0.mk h_0
    have H4 := Aside0.mk h_1
    have HRb5 := Aside0.mk h_2
    have HGb5 := Aside0.mk h_3
    have HAb5_g3 := Aside0.mk h_4
    have HAb5_g4 := Aside0.mk h_5
    have HB := Aside0.mk h_6
    clear h_0 h_1 h_2 h_3 h_4 h_5 h_6
    refine hd_ ⟨((blk_cell (blk_below H.out.hl HB.out) 1).trans rfl),((blk_cell (blk_below H.out.hl HB.out) 2).trans rfl),((blk_cell (blk_below H.out.hl HB.out) 3).trans rfl),((blk_cell (blk_below H.out.hl HB.out) 4).trans rfl),((blk_cell (blk_below H.out.hl HB.out) 5).trans rfl)⟩ fun hHeld => ?_
    refine na_ ?_
    refine on_ 8 HT_ fun K hK => ?_
    refine gc_ Tryz.func164 #[.agg #[.int .i64 4,.int .i64 2,.slice (some ⟨oo,0,none⟩) 1 1,.slice (some ⟨ln,0,none⟩) 1 1,.slice (some ⟨ff,0,none⟩) 1 1],.int .i64 0] ?_
    with_reducible refine (tlen_calls oo 1 ln 1 ff 1 k _ ((blk_cell (blk_below H.out.ho HB.out) 0).trans rfl) ((blk_cell (blk_below H.out.hn HB.out) 0).trans rfl)).mono ?_
    rintro e_ wk ⟨rfl,hb⟩
    refine ⟨_,rfl,?_⟩
    replace HX := mb HX hb
    replace H4 := mb H4 hb
    replace HRb5 := mb HRb5 hb
    replace HB := mS HB hb
    clear hb
    refine hK.out _ _ ⟨((blk_cell (blk_below H.out.hl HB.out) 1).trans rfl),((blk_cell (blk_below H.out.hl HB.out) 2).trans rfl),((blk_cell (blk_below H.out.hl HB.out) 3).trans rfl),((blk_cell (blk_below H.out.hl HB.out) 4).trans rfl),((blk_cell (blk_below H.out.hl HB.out) 5).trans rfl)⟩ (fun hHeld => ?_)
    clear hK K
    refine no_ 16 ?_
    refine pa_ 9 17 HT_ ?_
    exact nx_ (hJ1_7_8_10 b5 _ ⟨HX.out,H4.out,HRb5.out,HGb5.out,HAb5_g3.out,HAb5_g4.out,HB.out⟩)
  ·skip
   rintro ⟨⟩ wj ⟨h_0,h_1,h_2⟩
   try dsimp only at h_0 h_1 h_2
   clear HX H4 HB
   have HX := Aside0.mk h_0
   have H4 := Aside0.mk h_1
   have HB := Aside0.mk h_2
   clear h_0 h_1 h_2
   refine hd_ ⟨((blk_cell (blk_below H.out.hl HB.out) 1).trans rfl),((blk_cell (blk_below H.out.hl HB.out) 2).trans rfl),((blk_cell (blk_below H.out.hl HB.out) 3).trans rfl),((blk_cell (blk_below H.out.hl HB.out) 4).trans rfl),((blk_cell (blk_below H.out.hl HB.out) 5).trans rfl)⟩ fun hHeld => ?_
   refine na_ ?_
   refine on_ 10 HT_ fun K hK => ?_
   refine va_ ?_
   obtain ⟨wk,hW⟩ : ∃ W_,W_ = wj.alloc (.cells #[.int .i64 0,.int .i64 0] 177) := ⟨_,rfl⟩
   obtain ⟨b5,hh⟩ : ∃ g_,g_ = wj.heap.size := ⟨_,rfl⟩
   rw [← hW,← hh]
   have HGb5 : Aside0 (w.heap.size ≤ b5) := ⟨by rw [hh]; exact HB.out.size⟩
   have HAb5_g3 : Aside0 (b5 ≠ g3) := ⟨by rw [hh]; exact (Nat.ne_of_lt (blk_lt HX.out)).symm⟩
   have HAb5_g4 : Aside0 (b5 ≠ g4) := ⟨by rw [hh]; exact (Nat.ne_of_lt (blk_lt H4.out)).symm⟩
   have hb_ : Below wj.heap.size wj wk := by rw [hW]; exact below_alloc (Below.refl _ _) _
   replace HX := mb HX hb_
   replace H4 := mb H4 hb_
   replace HB := mS HB hb_
   have HRb5 : Aside0 (wk.heap[b5]? = some (.cells #[.int .i64 0,.int .i64 0] 177 (0,0))) := ⟨by rw [hW,hh]; exact blk_new _ _⟩
   clear hW hh hb_
   refine hK.out _ _ ⟨((blk_cell (blk_below H.out.hl HB.out) 1).trans rfl),((blk_cell (blk_below H.out.hl HB.out) 2).trans rfl),((blk_cell (blk_below H.out.hl HB.out) 3).trans rfl),((blk_cell (blk_below H.out.hl HB.out) 4).trans rfl),((blk_cell (blk_below H.out.hl HB.out) 5).trans rfl)⟩ (fun hHeld => ?_)
   clear hK K
   refine no_ 5 ?_
   exact nx_ (hJ1_7_8_10 b5 _ ⟨HX.out,H4.out,HRb5.out,HGb5.out,HAb5_g3.out,HAb5_g4.out,HB.out⟩)
 rintro b5 wj ⟨h_0,h_1,h_2,h_3,h_4,h_5,h_6⟩
 try dsimp only at h_0 h_1 h_2 h_3 h_4 h_5 h_6
 clear HX H4 HB
 have HX := Aside0.mk h_0
 have H4 := Aside0.mk h_1
 have HRb5 := Aside0.mk h_2
 have HGb5 := Aside0.mk h_3
 have HAb5_g3 := Aside0.mk h_4
 have HAb5_g4 := Aside0.mk h_5
 have HB := Aside0.mk h_6
 clear h_0 h_1 h_2 h_3 h_4 h_5 h_6
 refine hd_ ⟨((blk_cell (blk_below H.out.hl HB.out) 1).trans rfl),((blk_cell (blk_below H.out.hl HB.out) 2).trans rfl),((blk_cell (blk_below H.out.hl HB.out) 3).trans rfl),((blk_cell (blk_below H.out.hl HB.out) 4).trans rfl),((blk_cell (blk_below H.out.hl HB.out) 5).trans rfl)⟩ fun hHeld => ?_
 refine na_ ?_
 refine la_ 11 HT_ fun K hK => ?_
 refine sR_ 5 17 #[.int .i64 0,.int .i64 k] HRb5.out ?_
 refine hK.out _ _ ?_
 clear hK K
 refine dn_ HT_ ?_
 clear HT_ HW_ hHeld
 obtain ⟨W2,hW⟩ : ∃ W_,W_ = wj.setRow b5 #[.int .i64 0,.int .i64 k] := ⟨_,rfl⟩
 rw [← hW]
 have q_ := mR #[.int .i64 0,.int .i64 k] HX.out (tne HX.out HRb5.out (by decide))
 rw [← hW] at q_
 replace HX := Aside0.mk q_
 clear q_
 have q_ := mR #[.int .i64 0,.int .i64 k] H4.out HAb5_g4.out.symm
 rw [← hW] at q_
 replace H4 := Aside0.mk q_
 clear q_
 have q_ := below_setRow HB.out HGb5.out #[.int .i64 0,.int .i64 k]
 rw [← hW] at q_
 replace HB := Aside0.mk q_
 clear q_
 have q_ := setRow_heap wj b5 _ #[.int .i64 0,.int .i64 k] _ _ HRb5.out
 rw [← hW] at q_
 replace HRb5 := Aside0.mk q_
 clear q_
 clear hW
 have NL3 : Aside0 (g3 ≠ b5 ∧ g4 ≠ g3) := ⟨tne HX.out HRb5.out (by decide),tne H4.out HX.out (by decide)⟩
 go_upto_region 2 with fail
 refine st_ 12 (fun w' => w'.cell? ⟨l,6,none⟩ = some (.int .u64 lsn) ∧ w'.cell? ⟨l,7,none⟩ = some (.int .u32 ep)) [11] ⟨((blk_cell (blk_below H.out.hl (below_drew HB.out)) 6).trans rfl),((blk_cell (blk_below H.out.hl (below_drew HB.out)) 7).trans rfl)⟩ fun hHeld => ?_
 refine with_tabW lwrite.tab2 lwrite.bits2 (fun HT_ HW_ => ?_)
 replace HX := mD HX
 replace H4 := mD H4
 replace HRb5 := mD HRb5
 replace HB := bD HB
 generalize W2.drew = wd2 at *
 refine pa_ 0 18 HT_ ?_
 refine pa_ 1 19 HT_ ?_
 refine pa_ 2 20 HT_ ?_
 refine pa_ 4 22 HT_ ?_
 refine pa_ 5 23 HT_ ?_
 refine pa_ 6 24 HT_ ?_
 refine ta_ 3 21 HT_ HW_ hHeld ?_
 refine pa_ 8 26 HT_ ?_
 refine ta_ 7 25 HT_ HW_ hHeld ?_
 refine on_ 9 HT_ fun K hK => ?_
 have f0 := blk_frozen HX.out 0
 have y0 : wd2.cell? ⟨g3,0,none⟩ = some (.int .u64 l0) := cL HX 0 rfl
 have y1 : wd2.cell? ⟨g3,1,none⟩ = some (.int .u32 e0) := cL HX 1 rfl
 have y2 : wd2.cell? ⟨g3,2,none⟩ = some (.int .i64 1) := cL HX 2 rfl
 have y3 : wd2.cell? ⟨g3,3,none⟩ = some (.int .u64 ver) := cL HX 3 rfl
 have y4 : wd2.cell? ⟨g3,4,none⟩ = some (.int .u64 dl) := cL HX 4 rfl
 have y5 : wd2.cell? ⟨g3,5,none⟩ = some (.string idA) := cL HX 5 rfl
 have y6 : wd2.cell? ⟨g3,6,none⟩ = some (.string v) := cL HX 6 rfl
 refine skip_ (w1 := ?_) (by rfl) rfl ?_ ?_
 rotate_left
 ·go_simp
  rfl
 clear f0
 clear y0 y1 y2 y3 y4 y5 y6
 obtain ⟨Wa,hW_⟩ : ∃ W_,W_ = (wd2.setCell ⟨g3,0,none⟩ (.int .u64 lsn)) := ⟨_,rfl⟩
 rw [← hW_]
 have q_ := (blk_far H4.out (p := ⟨g3,0,none⟩) NL3.out.2 (.int .u64 lsn))
 rw [← hW_] at q_
 replace H4 := Aside0.mk q_
 clear q_
 have q_ := (blk_far HRb5.out (p := ⟨g3,0,none⟩) NL3.out.1.symm (.int .u64 lsn))
 rw [← hW_] at q_
 replace HRb5 := Aside0.mk q_
 clear q_
 have q_ : Wa.heap[g3]? = some (.cells #[.int .u64 lsn,.int .u32 e0,.int .i64 1,.int .u64 ver,.int .u64 dl,.string idA,.string v] 188 (0,0)) := by rw [hW_]; exact (blk_set HX.out 0 (.int .u64 lsn))
 replace HX := Aside0.mk q_
 clear q_
 have q_ : Below w.heap.size w Wa := by rw [hW_]; exact (below_set HB.out G3.out)
 replace HB := Aside0.mk q_
 clear q_
 clear hW_
 refine hK.out _ _ ⟨((blk_cell (blk_below H.out.hl HB.out) 6).trans rfl),((blk_cell (blk_below H.out.hl HB.out) 7).trans rfl)⟩ (fun hHeld => ?_)
 clear hK K
 refine pa_ 10 27 HT_ ?_
 refine la_ 11 HT_ fun K hK => ?_
 have f1 := blk_frozen HX.out 1
 have y0 : Wa.cell? ⟨g3,0,none⟩ = some (.int .u64 lsn) := cL HX 0 rfl
 have y1 : Wa.cell? ⟨g3,1,none⟩ = some (.int .u32 e0) := cL HX 1 rfl
 have y2 : Wa.cell? ⟨g3,2,none⟩ = some (.int .i64 1) := cL HX 2 rfl
 have y3 : Wa.cell? ⟨g3,3,none⟩ = some (.int .u64 ver) := cL HX 3 rfl
 have y4 : Wa.cell? ⟨g3,4,none⟩ = some (.int .u64 dl) := cL HX 4 rfl
 have y5 : Wa.cell? ⟨g3,5,none⟩ = some (.string idA) := cL HX 5 rfl
 have y6 : Wa.cell? ⟨g3,6,none⟩ = some (.string v) := cL HX 6 rfl
 refine skip_ (w1 := ?_) (by rfl) rfl ?_ ?_
 rotate_left
 ·go_simp
  rfl
 clear f1
 clear y0 y1 y2 y3 y4 y5 y6
 obtain ⟨Wb,hW_⟩ : ∃ W_,W_ = (Wa.setCell ⟨g3,1,none⟩ (.int .u32 ep)) := ⟨_,rfl⟩
 rw [← hW_]
 have q_ := (blk_far H4.out (p := ⟨g3,1,none⟩) NL3.out.2 (.int .u32 ep))
 rw [← hW_] at q_
 replace H4 := Aside0.mk q_
 clear q_
 have q_ := (blk_far HRb5.out (p := ⟨g3,1,none⟩) NL3.out.1.symm (.int .u32 ep))
 rw [← hW_] at q_
 replace HRb5 := Aside0.mk q_
 clear q_
 have q_ : Wb.heap[g3]? = some (.cells #[.int .u64 lsn,.int .u32 ep,.int .i64 1,.int .u64 ver,.int .u64 dl,.string idA,.string v] 188 (0,0)) := by rw [hW_]; exact (blk_set HX.out 1 (.int .u32 ep))
 replace HX := Aside0.mk q_
 clear q_
 have q_ : Below w.heap.size w Wb := by rw [hW_]; exact (below_set HB.out G3.out)
 replace HB := Aside0.mk q_
 clear q_
 clear hW_
 refine hK.out _ _ ?_
 clear hK K
 refine dn_ HT_ ?_
 clear HT_ HW_ hHeld
 go_wp2_with (refine lr_ 3 HX.out Tryz.underlying188 ?_)
 refine (enclive_calls lsn ep ver dl v _ HLK.out).mono ?_
 rintro e_ Wc ⟨(⟨rfl,_⟩ | ⟨_,hF⟩),hb⟩
 rotate_left
 exact hF.elim
 replace HX := mb HX hb
 replace H4 := mb H4 hb
 replace HRb5 := mb HRb5 hb
 replace HB := mS HB hb
 clear hb
 obtain ⟨s,hs⟩ : ∃ s,s = (lrec lsn ep ver dl v).enc := ⟨_,rfl⟩
 rw [← hs]
 have HS : Aside0 (s = (lrec lsn ep ver dl v).enc ∧ s.size = 128) := ⟨hs,by rw [hs]; exact Rec.enc_size _ HLK.out.ok.len⟩
 clear hs
 go_wp2_with fail
 refine (slmust_ok _).mono ?_
 rintro e_ Wd ⟨rfl,rfl⟩
 go_upto_region 5 with fail
 refine st_ 14 (fun w' => w'.cell? ⟨l,0,none⟩ = some (.pointer (some ⟨d,0,none⟩)) ∧ w'.cell? ⟨l,2,none⟩ = some (.int .i64 2) ∧ w'.cell? ⟨b5,0,none⟩ = some (.int .i64 0) ∧ w'.cell? ⟨b5,1,none⟩ = some (.int .i64 k)) [] ⟨((blk_cell (blk_below H.out.hl (below_drew HB.out)) 0).trans rfl),((blk_cell (blk_below H.out.hl (below_drew HB.out)) 2).trans rfl),(cD HRb5 0 rfl),(cD HRb5 1 rfl)⟩ fun hHeld => ?_
 refine with_tabW lwrite.tab5 lwrite.bits5 (fun HT_ HW_ => ?_)
 replace HX := mD HX
 replace H4 := mD H4
 replace HRb5 := mD HRb5
 replace HB := bD HB
 generalize Wd.drew = wd3 at *
 refine pa_ 0 35 HT_ ?_
 refine pa_ 1 36 HT_ ?_
 refine pa_ 2 37 HT_ ?_
 refine pa_ 4 39 HT_ ?_
 refine pa_ 5 40 HT_ ?_
 refine pa_ 6 41 HT_ ?_
 refine pa_ 7 42 HT_ ?_
 refine pa_ 11 46 HT_ ?_
 refine ta_ 3 38 HT_ HW_ hHeld ?_
 refine ta_ 8 43 HT_ HW_ hHeld ?_
 refine ta_ 9 44 HT_ HW_ hHeld ?_
 refine on_ 10 HT_ fun K hK => ?_
 refine gc_ Tryz.func166 #[.int .i64 2,.agg #[.int .i64 0,.int .i64 k]] ?_
 with_reducible refine (tsector_calls k _ (by have := HK.out; omega)).mono ?_
 rintro e_ We ⟨rfl,hb⟩
 refine ⟨_,rfl,?_⟩
 replace HX := mb HX hb
 replace H4 := mb H4 hb
 replace HRb5 := mb HRb5 hb
 replace HB := mS HB hb
 clear hb
 refine hK.out _ _ ⟨((blk_cell (blk_below H.out.hl HB.out) 0).trans rfl),((blk_cell (blk_below H.out.hl HB.out) 2).trans rfl),(cL HRb5 0 rfl),(cL HRb5 1 rfl)⟩ (fun hHeld => ?_)
 clear hK K
 refine no_ 45 ?_
 refine on_ 12 HT_ fun K hK => ?_
 refine gc_ Tryz.func192 #[.pointer (some ⟨d,0,none⟩),.int .i64 (2 + k),.string s] ?_
 with_reducible refine (dwrite_calls d m left (.slice none 0 0) (2 + k) s 0 [] _ (blk_below H.out.hd HB.out) own_nil HS.out.2 (by have := HK.out; omega) HLF.out (by decide)).mono ?_
 rintro e_ Wf ⟨rfl,v2,hd2,ho2,hk2,hv2⟩
 refine ⟨_,rfl,?_⟩
 replace hk2 : Keep [d] We Wf := hk2
 have HV := Aside0.mk ho2
 have HD := Aside0.mk hd2
 have HL := Aside0.mk (blk_keep (blk_below H.out.hl HB.out) hk2 (by simp [tne H.out.hl H.out.hd (by decide)]))
 replace HX := Aside0.mk (blk_keep HX.out hk2 (by simp [tne HX.out (blk_below H.out.hd HB.out) (by decide)]))
 replace H4 := Aside0.mk (blk_keep H4.out hk2 (by simp [tne H4.out (blk_below H.out.hd HB.out) (by decide)]))
 replace HRb5 := Aside0.mk (blk_keep HRb5.out hk2 (by simp [tne HRb5.out (blk_below H.out.hd HB.out) (by decide)]))
 have HKP : Aside0 (Keep [d,l] w Wf) := ⟨(Keep.below HB.out).trans (hk2.mono (fun q _ h => by simp at h ⊢; omega))⟩
 clear hd2 ho2 hv2 hk2 HB
 refine hK.out _ _ ⟨(cL HL 0 rfl),(cL HL 2 rfl),(cL HRb5 0 rfl),(cL HRb5 1 rfl)⟩ (fun hHeld => ?_)
 clear hK K
 refine no_ 47 ?_
 refine on_ 13 HT_ fun K hK => ?_
 refine gc_ Tryz.func189 #[.int .i64 0] ?_
 with_reducible refine (slmust_ok _).mono ?_
 rintro e_ Wg ⟨rfl,rfl⟩
 refine ⟨_,rfl,?_⟩
 refine hK.out _ _ ⟨(cL HL 0 rfl),(cL HL 2 rfl),(cL HRb5 0 rfl),(cL HRb5 1 rfl)⟩ (fun hHeld => ?_)
 clear hK K
 refine no_ 48 ?_
 refine dn_ HT_ ?_
 clear HT_ HW_ hHeld
 have y0 : Wg.cell? ⟨l,0,none⟩ = some (.pointer (some ⟨d,0,none⟩)) := cL HL 0 rfl
 have y1 : Wg.cell? ⟨l,1,none⟩ = some (.int .i64 4) := cL HL 1 rfl
 have y2 : Wg.cell? ⟨l,2,none⟩ = some (.int .i64 2) := cL HL 2 rfl
 have y3 : Wg.cell? ⟨l,3,none⟩ = some (.slice (some ⟨oo,0,none⟩) 1 1) := cL HL 3 rfl
 have y4 : Wg.cell? ⟨l,4,none⟩ = some (.slice (some ⟨ln,0,none⟩) 1 1) := cL HL 4 rfl
 have y5 : Wg.cell? ⟨l,5,none⟩ = some (.slice (some ⟨ff,0,none⟩) 1 1) := cL HL 5 rfl
 have y6 : Wg.cell? ⟨l,6,none⟩ = some (.int .u64 lsn) := cL HL 6 rfl
 have y7 : Wg.cell? ⟨l,7,none⟩ = some (.int .u32 ep) := cL HL 7 rfl
 have y8 : Wg.cell? ⟨l,8,none⟩ = some (.int .u64 gen) := cL HL 8 rfl
 have f6 := blk_frozen HL.out 6
 have e1_ : IntKind.u64.wrap (lsn + 1) = lsn + 1 := by have := HLK.out.lsn; have := HL1.out; rw [IntKind.wrap_u64]; omega
 go_upto_region 7 with fail
 clear f6 e1_ y0 y1 y2 y3 y4 y5 y6 y7 y8
 have e2_ : Wg.setCell ⟨l,6,none⟩ (.int .u64 (lsn + 1)) = Wg.setRow l #[.pointer (some ⟨d,0,none⟩),.int .i64 4,.int .i64 2,.slice (some ⟨oo,0,none⟩) 1 1,.slice (some ⟨ln,0,none⟩) 1 1,.slice (some ⟨ff,0,none⟩) 1 1,.int .u64 (lsn + 1),.int .u32 ep,.int .u64 gen] := setCell_eq_setRow Wg l 6 _ _ _ _ HL.out
 rw [e2_]
 clear e2_
 obtain ⟨Wh,hW⟩ : ∃ W_,W_ = Wg.setRow l #[.pointer (some ⟨d,0,none⟩),.int .i64 4,.int .i64 2,.slice (some ⟨oo,0,none⟩) 1 1,.slice (some ⟨ln,0,none⟩) 1 1,.slice (some ⟨ff,0,none⟩) 1 1,.int .u64 (lsn + 1),.int .u32 ep,.int .u64 gen] := ⟨_,rfl⟩
 rw [← hW]
 have q_ := mR #[.pointer (some ⟨d,0,none⟩),.int .i64 4,.int .i64 2,.slice (some ⟨oo,0,none⟩) 1 1,.slice (some ⟨ln,0,none⟩) 1 1,.slice (some ⟨ff,0,none⟩) 1 1,.int .u64 (lsn + 1),.int .u32 ep,.int .u64 gen] H4.out (tne H4.out HL.out (by decide))
 rw [← hW] at q_
 replace H4 := Aside0.mk q_
 clear q_
 have q_ := mR #[.pointer (some ⟨d,0,none⟩),.int .i64 4,.int .i64 2,.slice (some ⟨oo,0,none⟩) 1 1,.slice (some ⟨ln,0,none⟩) 1 1,.slice (some ⟨ff,0,none⟩) 1 1,.int .u64 (lsn + 1),.int .u32 ep,.int .u64 gen] HRb5.out (tne HRb5.out HL.out (by decide))
 rw [← hW] at q_
 replace HRb5 := Aside0.mk q_
 clear q_
 have q_ := mR #[.pointer (some ⟨d,0,none⟩),.int .i64 4,.int .i64 2,.slice (some ⟨oo,0,none⟩) 1 1,.slice (some ⟨ln,0,none⟩) 1 1,.slice (some ⟨ff,0,none⟩) 1 1,.int .u64 (lsn + 1),.int .u32 ep,.int .u64 gen] HD.out (tne HD.out HL.out (by decide))
 rw [← hW] at q_
 replace HD := Aside0.mk q_
 clear q_
 have q_ := HKP.out.setRow (g := l) #[.pointer (some ⟨d,0,none⟩),.int .i64 4,.int .i64 2,.slice (some ⟨oo,0,none⟩) 1 1,.slice (some ⟨ln,0,none⟩) 1 1,.slice (some ⟨ff,0,none⟩) 1 1,.int .u64 (lsn + 1),.int .u32 ep,.int .u64 gen] (.inl (by simp))
 rw [← hW] at q_
 replace HKP := Aside0.mk q_
 clear q_
 have q_ := own_keep HV.out (fun q hq => setRow_other Wg l q #[.pointer (some ⟨d,0,none⟩),.int .i64 4,.int .i64 2,.slice (some ⟨oo,0,none⟩) 1 1,.slice (some ⟨ln,0,none⟩) 1 1,.slice (some ⟨ff,0,none⟩) 1 1,.int .u64 (lsn + 1),.int .u32 ep,.int .u64 gen] (own_ne HV.out HL.out (by decide) q hq))
 rw [← hW] at q_
 replace HV := Aside0.mk q_
 clear q_
 have q_ := setRow_heap Wg l _ #[.pointer (some ⟨d,0,none⟩),.int .i64 4,.int .i64 2,.slice (some ⟨oo,0,none⟩) 1 1,.slice (some ⟨ln,0,none⟩) 1 1,.slice (some ⟨ff,0,none⟩) 1 1,.int .u64 (lsn + 1),.int .u32 ep,.int .u64 gen] _ _ HL.out
 rw [← hW] at q_
 replace HL := Aside0.mk q_
 clear q_
 clear hW
 go_wp2_with (first | (refine lr_ 5 HRb5.out Tryz.underlying177 ?_) | (refine sr_ 4 56 #[.int .i64 0,.int .i64 k] H4.out ?_))
 refine rr_ (setRow_heap _ _ _ _ _ _ H4.out) Tryz.underlying177 ?_
 have hh := H.out
 have nd := tne hh.ho hh.hd (by decide)
 have nl := tne hh.ho hh.hl (by decide)
 have md := tne hh.hn hh.hd (by decide)
 have ml := tne hh.hn hh.hl (by decide)
 have fd := tne hh.hf hh.hd (by decide)
 have fl := tne hh.hf hh.hl (by decide)
 have mmd := map_ne hh.hm hh.hd
 have mml := map_ne hh.hm hh.hl
 have ho := blk_keep hh.ho HKP.out (by simp [nd,nl])
 have hn := blk_keep hh.hn HKP.out (by simp [md,ml])
 have hf := blk_keep hh.hf HKP.out (by simp [fd,fl])
 have hm := blk_keep hh.hm HKP.out (by simp [mmd,mml])
 exact ⟨rfl,v2,by rw [← HS.out.1]; exact own_keep HV.out (fun q hq => setRow_other _ g4 q _ (own_ne HV.out H4.out (by decide) q hq)),⟨mR _ HD.out (tne HD.out H4.out (by decide)),mR _ hm (map_ne hm H4.out),mR _ HL.out (tne HL.out H4.out (by decide)),mR _ ho (tne ho H4.out (by decide)),mR _ hn (tne hn H4.out (by decide)),mR _ hf (tne hf H4.out (by decide)),hh.ne⟩,HKP.out.setRow _ (.inr G4.out)⟩
end Go.Proofs.YtokfjbbjkiilmaaGreatDoor.H
namespace Go.Proofs.YtokfjbbjkiilmaaGreatDoor.H
open Go.RowKit Go.Proofs.YtokfjbbjkiilmaaGreatDoorW.PrintWords Go.Proofs.YtokfjbbjkiilmaaGreatDoorW.PrintLast Go.Proofs.YtokfjbbjkiilmaaGreatDoorW.PrintMore
set_option maxHeartbeats 8000000
set_option maxRecDepth 100000
attribute [local go_sem] max2_int min2_int min_two max_two
theorem mid5 {W : World} {l t : Nat} {c0 c1 c2 c3 c4 c5 c6 c7 c8 v1 v2 v3 v4 v5 : Value} (h : W.heap[l]? = some (.cells #[c0,c1,c2,c3,c4,c5,c6,c7,c8] t (0,0))) (h1 : ∀ v ∈ [v1,v2,v3,v4,v5],v.oneCell' = true) :
 ((((W.setCell ⟨l,1,none⟩ v1).setCell ⟨l,2,none⟩ v2).setCell ⟨l,3,none⟩ v3).setCell ⟨l,4,none⟩ v4).setCell ⟨l,5,none⟩ v5 = W.setRow l #[c0,v1,v2,v3,v4,v5,c6,c7,c8] := setCells_eq (o := 1) (vs := [v1,v2,v3,v4,v5]) h (by simp) h1
def lappend.T1 : Bool × List (List Nat × List Nat) := (true,[([],[]),([0],[0]),([1],[1]),([2],[2]),([],[]),([4],[4]),([5],[5]),([6],[6]),([0,1,2,3],[]),([8,3,0,1,2,3],[3,8]),([0,1,2,3,4,5,6,7,8,9],[]),([10,7,9,0,1,2,3,4,5,6,7,8,9],[7,10])])
def lappend.B1 : List Nat := [0,1,3,7,0,16,48,112,15,271,1023,2047]
theorem lappend.tab1 : rtab .any (opsOf Tryz.f198 1) = lappend.T1 := by kernel_rfl
theorem lappend.bits1 : waitsOk lappend.T1.2 lappend.B1 = true := by kernel_rfl
def lappend.T7 : Bool × List (List Nat × List Nat) := (true,[([],[]),([0],[0]),([1],[1]),([2],[2]),([],[]),([4],[4]),([3,5,5],[3,5]),([],[]),([7],[7]),([8],[8]),([9],[9]),([10],[10]),([6,11],[6,11])])
def lappend.B7 : List Nat := [0,1,3,7,0,16,63,0,128,384,896,1920,4095]
theorem lappend.tab7 : rtab .any (opsOf Tryz.f198 7) = lappend.T7 := by kernel_rfl
theorem lappend.bits7 : waitsOk lappend.T7.2 lappend.B7 = true := by kernel_rfl
theorem lappend_calls (l d m oo ln ff : Nat) (left : Int) (es : Array MapEntry) (c : Nat) (k x lsn ep gen l0 e0 ver dl : Int) (v : ByteArray) (w : World) (h : Lst w l d m oo ln ff left (.slice none 0 0) es c k x lsn ep gen) (hlk : lok lsn ep ver dl v) (hl1 : lsn + 1 < 18446744073709551616) (hk : k = 0 ∨ k = 1) (hlf : -1000 ≤ left ∧ left ≤ 0) :
 Calls Tryz.prog 198 #[.pointer (some ⟨l,0,none⟩),.agg #[.int .u64 l0,.int .u32 e0,.int .i64 1,.int .u64 ver,.int .u64 dl,.string idA,.string v]] w fun e w' => e = .returned (.tuple #[.agg #[.int .i64 0,.int .i64 k],.int .i64 0]) ∧ ∃ (v2 : Value) (ao al af : Nat),w'.ownsRow 0 286 2 v2 1 [.int .i64 (2 + k),.string (lrec lsn ep ver dl v).enc] ∧ Lst w' l d m ao al af (left - 1) v2 es c (k + 1) x (lsn + 1) ep gen ∧ Keep [d,l] w w' := by
 have H := Aside0.mk h
 have HLK := Aside0.mk hlk
 have HL1 := Aside0.mk hl1
 have HK := Aside0.mk hk
 have HLF := Aside0.mk hlf
 clear h hlk hk hlf hl1
 go_enter_defers Tryz.func198,Tryz.ntmps198
 go_upto_region 1 with fail
 obtain ⟨W1,g3,g4,g5,hW_,hg3,hg4,hg5,HX,H4,H5,hb_⟩ := new3 w #[.int .u64 l0,.int .u32 e0,.int .i64 1,.int .u64 ver,.int .u64 dl,.string idA,.string v] 188 #[.int .i64 0,.int .i64 0] 177 #[.int .i64 0] 39
 rw [← hW_,← hg5.out,← hg4.out,← hg3.out]
 have HB := Aside0.mk hb_
 clear hW_ hb_
 have G3 : Aside0 (w.heap.size ≤ g3) := ⟨by have := hg3.out; omega⟩
 have G4 : Aside0 (w.heap.size ≤ g4) := ⟨by have := hg4.out; omega⟩
 have G5 : Aside0 (w.heap.size ≤ g5) := ⟨by have := hg5.out; omega⟩
 have N43 : Aside0 (g4 ≠ g3) := ⟨tne H4.out HX.out (by decide)⟩
 have N53 : Aside0 (g5 ≠ g3) := ⟨tne H5.out HX.out (by decide)⟩
 have N54 : Aside0 (g5 ≠ g4) := ⟨tne H5.out H4.out (by decide)⟩
 refine noOut' ?_
 refine st_ 12 (fun w' => w'.cell? ⟨l,6,none⟩ = some (.int .u64 lsn) ∧ w'.cell? ⟨l,7,none⟩ = some (.int .u32 ep)) [11] ⟨((blk_cell (blk_below H.out.hl (below_drew HB.out)) 6).trans rfl),((blk_cell (blk_below H.out.hl (below_drew HB.out)) 7).trans rfl)⟩ fun hHeld => ?_
 refine with_tabW lappend.tab1 lappend.bits1 (fun HT_ HW_ => ?_)
 replace HX := mD HX
 replace H4 := mD H4
 replace H5 := mD H5
 replace HB := bD HB
 generalize W1.drew = wd1 at *
 refine pa_ 0 10 HT_ ?_
 refine pa_ 1 11 HT_ ?_
 refine pa_ 2 12 HT_ ?_
 refine pa_ 4 14 HT_ ?_
 refine pa_ 5 15 HT_ ?_
 refine pa_ 6 16 HT_ ?_
 refine ta_ 3 13 HT_ HW_ hHeld ?_
 refine pa_ 8 18 HT_ ?_
 refine ta_ 7 17 HT_ HW_ hHeld ?_
 refine on_ 9 HT_ fun K hK => ?_
 have f0 := blk_frozen HX.out 0
 have y0 : wd1.cell? ⟨g3,0,none⟩ = some (.int .u64 l0) := cL HX 0 rfl
 have y1 : wd1.cell? ⟨g3,1,none⟩ = some (.int .u32 e0) := cL HX 1 rfl
 have y2 : wd1.cell? ⟨g3,2,none⟩ = some (.int .i64 1) := cL HX 2 rfl
 have y3 : wd1.cell? ⟨g3,3,none⟩ = some (.int .u64 ver) := cL HX 3 rfl
 have y4 : wd1.cell? ⟨g3,4,none⟩ = some (.int .u64 dl) := cL HX 4 rfl
 have y5 : wd1.cell? ⟨g3,5,none⟩ = some (.string idA) := cL HX 5 rfl
 have y6 : wd1.cell? ⟨g3,6,none⟩ = some (.string v) := cL HX 6 rfl
 refine skip_ (w1 := ?_) (by rfl) rfl ?_ ?_
 rotate_left
 ·go_simp
  rfl
 clear f0
 clear y0 y1 y2 y3 y4 y5 y6
 obtain ⟨Wa,hW_⟩ : ∃ W_,W_ = (wd1.setCell ⟨g3,0,none⟩ (.int .u64 lsn)) := ⟨_,rfl⟩
 rw [← hW_]
 have q_ := (blk_far H4.out (p := ⟨g3,0,none⟩) N43.out (.int .u64 lsn))
 rw [← hW_] at q_
 replace H4 := Aside0.mk q_
 clear q_
 have q_ := (blk_far H5.out (p := ⟨g3,0,none⟩) N53.out (.int .u64 lsn))
 rw [← hW_] at q_
 replace H5 := Aside0.mk q_
 clear q_
 have q_ : Wa.heap[g3]? = some (.cells #[.int .u64 lsn,.int .u32 e0,.int .i64 1,.int .u64 ver,.int .u64 dl,.string idA,.string v] 188 (0,0)) := by rw [hW_]; exact (blk_set HX.out 0 (.int .u64 lsn))
 replace HX := Aside0.mk q_
 clear q_
 have q_ : Below w.heap.size w Wa := by rw [hW_]; exact (below_set HB.out G3.out)
 replace HB := Aside0.mk q_
 clear q_
 clear hW_
 refine hK.out _ _ ⟨((blk_cell (blk_below H.out.hl HB.out) 6).trans rfl),((blk_cell (blk_below H.out.hl HB.out) 7).trans rfl)⟩ (fun hHeld => ?_)
 clear hK K
 refine pa_ 10 19 HT_ ?_
 refine la_ 11 HT_ fun K hK => ?_
 have f1 := blk_frozen HX.out 1
 have y0 : Wa.cell? ⟨g3,0,none⟩ = some (.int .u64 lsn) := cL HX 0 rfl
 have y1 : Wa.cell? ⟨g3,1,none⟩ = some (.int .u32 e0) := cL HX 1 rfl
 have y2 : Wa.cell? ⟨g3,2,none⟩ = some (.int .i64 1) := cL HX 2 rfl
 have y3 : Wa.cell? ⟨g3,3,none⟩ = some (.int .u64 ver) := cL HX 3 rfl
 have y4 : Wa.cell? ⟨g3,4,none⟩ = some (.int .u64 dl) := cL HX 4 rfl
 have y5 : Wa.cell? ⟨g3,5,none⟩ = some (.string idA) := cL HX 5 rfl
 have y6 : Wa.cell? ⟨g3,6,none⟩ = some (.string v) := cL HX 6 rfl
 refine skip_ (w1 := ?_) (by rfl) rfl ?_ ?_
 rotate_left
 ·go_simp
  rfl
 clear f1
 clear y0 y1 y2 y3 y4 y5 y6
 obtain ⟨Wb,hW_⟩ : ∃ W_,W_ = (Wa.setCell ⟨g3,1,none⟩ (.int .u32 ep)) := ⟨_,rfl⟩
 rw [← hW_]
 have q_ := (blk_far H4.out (p := ⟨g3,1,none⟩) N43.out (.int .u32 ep))
 rw [← hW_] at q_
 replace H4 := Aside0.mk q_
 clear q_
 have q_ := (blk_far H5.out (p := ⟨g3,1,none⟩) N53.out (.int .u32 ep))
 rw [← hW_] at q_
 replace H5 := Aside0.mk q_
 clear q_
 have q_ : Wb.heap[g3]? = some (.cells #[.int .u64 lsn,.int .u32 ep,.int .i64 1,.int .u64 ver,.int .u64 dl,.string idA,.string v] 188 (0,0)) := by rw [hW_]; exact (blk_set HX.out 1 (.int .u32 ep))
 replace HX := Aside0.mk q_
 clear q_
 have q_ : Below w.heap.size w Wb := by rw [hW_]; exact (below_set HB.out G3.out)
 replace HB := Aside0.mk q_
 clear q_
 clear hW_
 refine hK.out _ _ ?_
 clear hK K
 refine dn_ HT_ ?_
 clear HT_ HW_ hHeld
 dsimp only [Go.Proofs.YtokfjbbjkiilmaaGreatDoor.Rf.QN]
 have y0 : Wb.cell? ⟨g3,0,none⟩ = some (.int .u64 lsn) := cL HX 0 rfl
 have y1 : Wb.cell? ⟨g3,1,none⟩ = some (.int .u32 ep) := cL HX 1 rfl
 have y2 : Wb.cell? ⟨g3,2,none⟩ = some (.int .i64 1) := cL HX 2 rfl
 have y3 : Wb.cell? ⟨g3,3,none⟩ = some (.int .u64 ver) := cL HX 3 rfl
 have y4 : Wb.cell? ⟨g3,4,none⟩ = some (.int .u64 dl) := cL HX 4 rfl
 have y5 : Wb.cell? ⟨g3,5,none⟩ = some (.string idA) := cL HX 5 rfl
 have y6 : Wb.cell? ⟨g3,6,none⟩ = some (.string v) := cL HX 6 rfl
 go_wp2_with (refine lr_ 3 HX.out Tryz.underlying188 ?_)
 refine (rightlive_calls lsn ep ver dl v _ (by have := HLK.out.lsn; omega) HLK.out.len).mono ?_
 rintro e_ Wc ⟨rfl,hb⟩
 clear y0 y1 y2 y3 y4 y5 y6
 replace HX := mb HX hb
 replace H4 := mb H4 hb
 replace H5 := mb H5 hb
 replace HB := mS HB hb
 clear hb
 have y1 : Wc.cell? ⟨l,1,none⟩ = some (.int .i64 4) := ((blk_cell (blk_below H.out.hl HB.out) 1).trans rfl)
 have y2 : Wc.cell? ⟨l,2,none⟩ = some (.int .i64 2) := ((blk_cell (blk_below H.out.hl HB.out) 2).trans rfl)
 have y3 : Wc.cell? ⟨l,3,none⟩ = some (.slice (some ⟨oo,0,none⟩) 1 1) := ((blk_cell (blk_below H.out.hl HB.out) 3).trans rfl)
 have y4 : Wc.cell? ⟨l,4,none⟩ = some (.slice (some ⟨ln,0,none⟩) 1 1) := ((blk_cell (blk_below H.out.hl HB.out) 4).trans rfl)
 have y5 : Wc.cell? ⟨l,5,none⟩ = some (.slice (some ⟨ff,0,none⟩) 1 1) := ((blk_cell (blk_below H.out.hl HB.out) 5).trans rfl)
 go_wp2_with fail
 refine (troom_calls oo 1 ln 1 ff 1 k _ ((blk_cell (blk_below H.out.hn HB.out) 0).trans rfl) (by have := HK.out; omega)).mono ?_
 rintro e_ Wd ⟨rfl,hb⟩
 clear y1 y2 y3 y4 y5
 replace HX := mb HX hb
 replace H4 := mb H4 hb
 replace H5 := mb H5 hb
 replace HB := mS HB hb
 clear hb
 have t8 : ((8 - k) == 0) = false := by have := HK.out; simp; omega
 have t8b : (8 - k = 0) = False := eq_false (by have := HK.out; omega)
 go_upto_region 7 with fail
 have t2 : (k == 2) = false := by have := HK.out; simp; omega
 have t2b : (k = 2) = False := eq_false (by have := HK.out; omega)
 refine noOut' ?_
 refine st_ 13 (fun w' => w'.cell? ⟨l,1,none⟩ = some (.int .i64 4) ∧ w'.cell? ⟨l,2,none⟩ = some (.int .i64 2) ∧ w'.cell? ⟨l,3,none⟩ = some (.slice (some ⟨oo,0,none⟩) 1 1) ∧ w'.cell? ⟨l,4,none⟩ = some (.slice (some ⟨ln,0,none⟩) 1 1) ∧ w'.cell? ⟨l,5,none⟩ = some (.slice (some ⟨ff,0,none⟩) 1 1)) [] ⟨((blk_cell (blk_below H.out.hl (below_drew HB.out)) 1).trans rfl),((blk_cell (blk_below H.out.hl (below_drew HB.out)) 2).trans rfl),((blk_cell (blk_below H.out.hl (below_drew HB.out)) 3).trans rfl),((blk_cell (blk_below H.out.hl (below_drew HB.out)) 4).trans rfl),((blk_cell (blk_below H.out.hl (below_drew HB.out)) 5).trans rfl)⟩ fun hHeld => ?_
 refine with_tabW lappend.tab7 lappend.bits7 (fun HT_ HW_ => ?_)
 replace HX := mD HX
 replace H4 := mD H4
 replace H5 := mD H5
 replace HB := bD HB
 generalize Wd.drew = wd2 at *
 refine pa_ 0 36 HT_ ?_
 refine pa_ 1 37 HT_ ?_
 refine pa_ 2 38 HT_ ?_
 refine pa_ 4 40 HT_ ?_
 refine pa_ 7 43 HT_ ?_
 refine pa_ 8 44 HT_ ?_
 refine pa_ 9 45 HT_ ?_
 refine pa_ 10 46 HT_ ?_
 refine ta_ 3 39 HT_ HW_ hHeld ?_
 refine ta_ 11 47 HT_ HW_ hHeld ?_
 refine on_ 5 HT_ fun K hK => ?_
 refine gc_ Tryz.func228 #[.pointer (some ⟨l,0,none⟩)] ?_
 with_reducible refine (lopen_calls l d oo 1 ln 1 ff 1 lsn ep gen _ (blk_below H.out.hl HB.out) ((blk_cell (blk_below H.out.ho HB.out) 0).trans rfl)).mono ?_
 rintro e_ We ⟨rfl,hb⟩
 refine ⟨_,rfl,?_⟩
 replace HX := mb HX hb
 replace H4 := mb H4 hb
 replace H5 := mb H5 hb
 replace HB := mS HB hb
 clear hb
 refine hK.out _ _ ⟨((blk_cell (blk_below H.out.hl HB.out) 1).trans rfl),((blk_cell (blk_below H.out.hl HB.out) 2).trans rfl),((blk_cell (blk_below H.out.hl HB.out) 3).trans rfl),((blk_cell (blk_below H.out.hl HB.out) 4).trans rfl),((blk_cell (blk_below H.out.hl HB.out) 5).trans rfl)⟩ (fun hHeld => ?_)
 clear hK K
 refine no_ 41 ?_
 refine on_ 6 HT_ fun K hK => ?_
 refine gc_ Tryz.func164 #[.agg #[.int .i64 4,.int .i64 2,.slice (some ⟨oo,0,none⟩) 1 1,.slice (some ⟨ln,0,none⟩) 1 1,.slice (some ⟨ff,0,none⟩) 1 1],.int .i64 0] ?_
 with_reducible refine (tlen_calls oo 1 ln 1 ff 1 k _ ((blk_cell (blk_below H.out.ho HB.out) 0).trans rfl) ((blk_cell (blk_below H.out.hn HB.out) 0).trans rfl)).mono ?_
 rintro e_ Wf ⟨rfl,hb⟩
 refine ⟨_,rfl,?_⟩
 replace HX := mb HX hb
 replace H4 := mb H4 hb
 replace H5 := mb H5 hb
 replace HB := mS HB hb
 clear hb
 refine hK.out _ _ ⟨((blk_cell (blk_below H.out.hl HB.out) 1).trans rfl),((blk_cell (blk_below H.out.hl HB.out) 2).trans rfl),((blk_cell (blk_below H.out.hl HB.out) 3).trans rfl),((blk_cell (blk_below H.out.hl HB.out) 4).trans rfl),((blk_cell (blk_below H.out.hl HB.out) 5).trans rfl)⟩ (fun hHeld => ?_)
 clear hK K
 refine no_ 42 ?_
 refine pa_ 12 48 HT_ ?_
 refine dn_ HT_ ?_
 clear HT_ HW_ hHeld
 dsimp only [Go.Proofs.YtokfjbbjkiilmaaGreatDoor.Rf.QN]
 go_wp2_with (refine lr_ 3 HX.out Tryz.underlying188 ?_)
 refine (lwrite_calls l d m oo ln ff left es c k x lsn ep gen lsn ep ver dl v _ (H.out.below HB.out) HLK.out HL1.out HK.out HLF.out).mono ?_
 rintro e_ Wg ⟨rfl,v2,hv,h2,hk2⟩
 have HV := Aside0.mk hv
 have H2 := Aside0.mk h2
 replace H4 := Aside0.mk (blk_keep H4.out hk2 (by simp [tne H4.out (blk_below H.out.hd HB.out) (by decide),tne H4.out (blk_below H.out.hl HB.out) (by decide)]))
 replace H5 := Aside0.mk (blk_keep H5.out hk2 (by simp [tne H5.out (blk_below H.out.hd HB.out) (by decide),tne H5.out (blk_below H.out.hl HB.out) (by decide)]))
 have HKP : Aside0 (Keep [d,l] w Wg) := ⟨(Keep.below HB.out).trans hk2⟩
 clear hv h2 hk2 HB HX
 have HB := Aside0.mk (Below.refl Wg.heap.size Wg)
 go_upto_region 11 with fail
 have LT4 := Aside0.mk (blk_lt H4.out)
 obtain ⟨Wh,g7,hW_,hg7,H7,hb_⟩ := new1 Wg #[.int .i64 0,.int .i64 k] 177
 rw [← hW_,← hg7.out]
 replace H4 := mb H4 hb_
 replace H5 := mb H5 hb_
 replace HB := Aside0.mk (below_step (HB.out) hb_)
 clear hW_ hb_
 have N74 : Aside0 (g7 ≠ g4) := ⟨by rw [hg7.out]; exact (Nat.ne_of_lt LT4.out).symm⟩
 have y1 : Wh.cell? ⟨l,1,none⟩ = some (.int .i64 4) := ((blk_cell (blk_below H2.out.hl HB.out) 1).trans rfl)
 have y2 : Wh.cell? ⟨l,2,none⟩ = some (.int .i64 2) := ((blk_cell (blk_below H2.out.hl HB.out) 2).trans rfl)
 have y3 : Wh.cell? ⟨l,3,none⟩ = some (.slice (some ⟨oo,0,none⟩) 1 1) := ((blk_cell (blk_below H2.out.hl HB.out) 3).trans rfl)
 have y4 : Wh.cell? ⟨l,4,none⟩ = some (.slice (some ⟨ln,0,none⟩) 1 1) := ((blk_cell (blk_below H2.out.hl HB.out) 4).trans rfl)
 have y5 : Wh.cell? ⟨l,5,none⟩ = some (.slice (some ⟨ff,0,none⟩) 1 1) := ((blk_cell (blk_below H2.out.hl HB.out) 5).trans rfl)
 go_wp2_with fail
 refine (tcount_calls oo 1 ln 1 ff 1 k x _ ((blk_cell (blk_below H2.out.ho HB.out) 0).trans rfl) ((blk_cell (blk_below H2.out.hn HB.out) 0).trans rfl) ((blk_cell (blk_below H2.out.hf HB.out) 0).trans rfl) (by have := HK.out; omega)).mono ?_
 rintro e_ Wi ⟨ao,al,af,rfl,hn,h1,h2,h3,hb⟩
 clear y1 y2 y3 y4 y5
 have HNE := Aside0.mk hn.2.2.2
 have HAO := Aside0.mk h1
 have HAL := Aside0.mk h2
 have HAF := Aside0.mk h3
 replace H4 := mb H4 hb
 replace H5 := mb H5 hb
 replace H7 := mb H7 hb
 replace HB := mS HB hb
 clear hn h1 h2 h3 hb
 go_upto_region 12 with fail
 obtain ⟨Wj,g8,hW_,hg8,H8,hb_⟩ := new1 Wi #[.int .i64 4,.int .i64 2,.slice (some ⟨ao,0,none⟩) 1 1,.slice (some ⟨al,0,none⟩) 1 1,.slice (some ⟨af,0,none⟩) 1 1] 162
 rw [← hW_,← hg8.out]
 replace H4 := mb H4 hb_
 replace H5 := mb H5 hb_
 replace H7 := mb H7 hb_
 replace HAO := mb HAO hb_
 replace HAL := mb HAL hb_
 replace HAF := mb HAF hb_
 replace HB := Aside0.mk (below_step (HB.out) hb_)
 clear hW_ hb_
 go_wp2_with fail
 refine (slmust_ok _).mono ?_
 rintro e_ Wk ⟨rfl,rfl⟩
 have y1 : Wk.cell? ⟨l,1,none⟩ = some (.int .i64 4) := ((blk_cell (blk_below H2.out.hl HB.out) 1).trans rfl)
 have y2 : Wk.cell? ⟨l,2,none⟩ = some (.int .i64 2) := ((blk_cell (blk_below H2.out.hl HB.out) 2).trans rfl)
 have y3 : Wk.cell? ⟨l,3,none⟩ = some (.slice (some ⟨oo,0,none⟩) 1 1) := ((blk_cell (blk_below H2.out.hl HB.out) 3).trans rfl)
 have y4 : Wk.cell? ⟨l,4,none⟩ = some (.slice (some ⟨ln,0,none⟩) 1 1) := ((blk_cell (blk_below H2.out.hl HB.out) 4).trans rfl)
 have y5 : Wk.cell? ⟨l,5,none⟩ = some (.slice (some ⟨ff,0,none⟩) 1 1) := ((blk_cell (blk_below H2.out.hl HB.out) 5).trans rfl)
 have f1 := blk_frozen (blk_below H2.out.hl HB.out) 1
 have f2 := blk_frozen (blk_below H2.out.hl HB.out) 2
 have f3 := blk_frozen (blk_below H2.out.hl HB.out) 3
 have f4 := blk_frozen (blk_below H2.out.hl HB.out) 4
 have f5 := blk_frozen (blk_below H2.out.hl HB.out) 5
 go_upto_region 14 with (refine lr_ 8 H8.out Tryz.underlying162 ?_)
 clear y1 f1 y2 f2 y3 f3 y4 f4 y5 f5
 rw [mid5 (blk_below H2.out.hl HB.out) (by simp [Value.oneCell'])]
 have HLK2 := Aside0.mk (blk_below H2.out.hl HB.out)
 have HDK := Aside0.mk (blk_below H2.out.hd HB.out)
 have HMK := Aside0.mk (blk_below H2.out.hm HB.out)
 have HVK : Aside0 (Wk.ownsRow 0 286 2 v2 1 [.int .i64 (2 + k),.string (lrec lsn ep ver dl v).enc]) := ⟨own_keep HV.out (fun q hq => HB.out.block q (own_lt HV.out q hq))⟩
 have HKP2 : Aside0 (Keep [d,l] w Wk) := ⟨HKP.out.trans (Keep.below HB.out)⟩
 change Code.wp _ _ _ _ (Wk.setRow l (lgc d ao al af (lsn + 1) ep gen))
 obtain ⟨Wm,hW⟩ : ∃ W_,W_ = Wk.setRow l (lgc d ao al af (lsn + 1) ep gen) := ⟨_,rfl⟩
 rw [← hW]
 have q_ := mR (lgc d ao al af (lsn + 1) ep gen) H4.out (tne H4.out HLK2.out (by decide))
 rw [← hW] at q_
 replace H4 := Aside0.mk q_
 clear q_
 have q_ := mR (lgc d ao al af (lsn + 1) ep gen) H5.out (tne H5.out HLK2.out (by decide))
 rw [← hW] at q_
 replace H5 := Aside0.mk q_
 clear q_
 have q_ := mR (lgc d ao al af (lsn + 1) ep gen) H7.out (tne H7.out HLK2.out (by decide))
 rw [← hW] at q_
 replace H7 := Aside0.mk q_
 clear q_
 have q_ := mR (lgc d ao al af (lsn + 1) ep gen) HAO.out (tne HAO.out HLK2.out (by decide))
 rw [← hW] at q_
 replace HAO := Aside0.mk q_
 clear q_
 have q_ := mR (lgc d ao al af (lsn + 1) ep gen) HAL.out (tne HAL.out HLK2.out (by decide))
 rw [← hW] at q_
 replace HAL := Aside0.mk q_
 clear q_
 have q_ := mR (lgc d ao al af (lsn + 1) ep gen) HAF.out (tne HAF.out HLK2.out (by decide))
 rw [← hW] at q_
 replace HAF := Aside0.mk q_
 clear q_
 have q_ := mR (lgc d ao al af (lsn + 1) ep gen) HDK.out (tne HDK.out HLK2.out (by decide))
 rw [← hW] at q_
 replace HDK := Aside0.mk q_
 clear q_
 have q_ := mR (lgc d ao al af (lsn + 1) ep gen) HMK.out (map_ne HMK.out HLK2.out)
 rw [← hW] at q_
 replace HMK := Aside0.mk q_
 clear q_
 have q_ := HKP2.out.setRow (g := l) (lgc d ao al af (lsn + 1) ep gen) (.inl (by simp))
 rw [← hW] at q_
 replace HKP2 := Aside0.mk q_
 clear q_
 have q_ := own_keep HVK.out (fun q hq => setRow_other Wk l q (lgc d ao al af (lsn + 1) ep gen) (own_ne HVK.out HLK2.out (by decide) q hq))
 rw [← hW] at q_
 replace HVK := Aside0.mk q_
 clear q_
 have q_ := setRow_heap Wk l _ (lgc d ao al af (lsn + 1) ep gen) _ _ HLK2.out
 rw [← hW] at q_
 replace HLK2 := Aside0.mk q_
 clear q_
 clear hW
 have h5_ := mR #[.int .i64 0,.int .i64 k] H5.out N54.out
 have z5 : (Wm.setRow g4 #[.int .i64 0,.int .i64 k]).cell? ⟨g5,0,none⟩ = some (.int .i64 0) := (blk_cell h5_ 0).trans rfl
 have f5 := blk_frozen h5_ 0
 have H5S := Aside0.mk h5_
 clear h5_
 go_wp2_with (first | (refine lr_ 7 H7.out Tryz.underlying177 ?_) | (refine sr_ 4 70 #[.int .i64 0,.int .i64 k] H4.out ?_))
 rw [setCell_eq_setRow _ g5 0 _ _ _ _ H5S.out]
 have q4 : ((Wm.setRow g4 #[.int .i64 0,.int .i64 k]).setRow g5 #[.int .i64 0]).heap[g4]? = some (.cells #[.int .i64 0,.int .i64 k] 177 (0,0)) := mR _ (setRow_heap _ _ _ _ _ _ H4.out) N54.out.symm
 have q5 : ((Wm.setRow g4 #[.int .i64 0,.int .i64 k]).setRow g5 #[.int .i64 0]).heap[g5]? = some (.cells #[.int .i64 0] 39 (0,0)) := setRow_heap _ _ _ _ _ _ H5S.out
 have qq : ∀ (a : Nat) (o_ : Obj),Wm.heap[a]? = some o_ → a ≠ g4 → a ≠ g5 → ((Wm.setRow g4 #[.int .i64 0,.int .i64 k]).setRow g5 #[.int .i64 0]).heap[a]? = some o_ := fun a o_ h_ n_ n2_ => mR _ (mR _ h_ n_) n2_
 have hfin : Lst ((Wm.setRow g4 #[.int .i64 0,.int .i64 k]).setRow g5 #[.int .i64 0]) l d m ao al af (left - 1) v2 es c (k + 1) x (lsn + 1) ep gen := ⟨qq _ _ HDK.out (tne HDK.out H4.out (by decide)) (tne HDK.out H5.out (by decide)),qq _ _ HMK.out (map_ne HMK.out H4.out) (map_ne HMK.out H5.out),qq _ _ HLK2.out (tne HLK2.out H4.out (by decide)) (tne HLK2.out H5.out (by decide)),qq _ _ HAO.out (tne HAO.out H4.out (by decide)) (tne HAO.out H5.out (by decide)),qq _ _ HAL.out (tne HAL.out H4.out (by decide)) (tne HAL.out H5.out (by decide)),qq _ _ HAF.out (tne HAF.out H4.out (by decide)) (tne HAF.out H5.out (by decide)),HNE.out⟩
 have hv : ((Wm.setRow g4 #[.int .i64 0,.int .i64 k]).setRow g5 #[.int .i64 0]).ownsRow 0 286 2 v2 1 [.int .i64 (2 + k),.string (lrec lsn ep ver dl v).enc] := own_keep HVK.out (fun q hq => (setRow_other _ g5 q _ (own_ne HVK.out H5.out (by decide) q hq)).trans (setRow_other Wm g4 q _ (own_ne HVK.out H4.out (by decide) q hq)))
 have hkf : Keep [d,l] w ((Wm.setRow g4 #[.int .i64 0,.int .i64 k]).setRow g5 #[.int .i64 0]) := (HKP2.out.setRow _ (.inr G4.out)).setRow _ (.inr G5.out)
 show bodyPostD _ _ _ _ _ ((Wm.setRow g4 #[.int .i64 0,.int .i64 k]).setRow g5 #[.int .i64 0])
 generalize (Wm.setRow g4 #[.int .i64 0,.int .i64 k]).setRow g5 #[.int .i64 0] = Wn at *
 refine leaves_cons (f := 188) (args := #[.pointer (some ⟨g5,0,none⟩)]) (by simp) (by simp [go_sem]) ?_
 refine (slcaught_idle ⟨g5,0,none⟩ _).mono ?_
 rintro e_ u_ W9 ⟨rfl,rfl,hb⟩
 have c5 : W9.cell? ⟨g5,0,none⟩ = some (.int .i64 0) := (blk_cell (blk_below q5 hb) 0).trans rfl
 have hl : (loadVar 39 ⟨g5,0,none⟩).run Tryz.prog W9 = .ok (.int .i64 0) W9 := by simp [go_sem,c5]
 simp only [Leaves,settle]
 exact ⟨_,results_cs rfl _ _ g4 177 _ (0,0) _ _ _ rfl (blk_below q4 hb) Tryz.underlying177 rfl (by kernel_rfl) rfl hl,rfl,v2,ao,al,af,own_keep hv (fun q hq => hb.block q (own_lt hv q hq)),hfin.below hb,hkf.trans (Keep.below hb)⟩
end Go.Proofs.YtokfjbbjkiilmaaGreatDoor.H
