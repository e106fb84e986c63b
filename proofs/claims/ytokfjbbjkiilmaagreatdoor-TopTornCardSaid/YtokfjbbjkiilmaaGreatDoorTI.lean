/-
TopTorn: part of its walk (Tab2, Tab3, Lg).
-/
import Derived.Test.YtokfjbbjkiilmaaGreatDoorTH
set_option linter.unusedVariables false
set_option linter.unusedSimpArgs false
namespace Go.Proofs.YtokfjbbjkiilmaaGreatDoor.H
open Go.RowKit Go.Proofs.YtokfjbbjkiilmaaGreatDoorW.PrintWords Go.Proofs.YtokfjbbjkiilmaaGreatDoorW.PrintLast Go.Proofs.YtokfjbbjkiilmaaGreatDoorW.PrintMore
set_option maxHeartbeats 8000000
set_option maxRecDepth 100000
attribute [local go_sem] max2_int min2_int min_two max_two
theorem make113 (w : World) : (Instr.makeSlice 113 (.int .i64 1) (.int .i64 1)).run Tryz.prog w = .ok (.slice (some ⟨w.heap.size,0,none⟩) 1 1) (w.alloc (.cells #[.int .i64 0] 3)) := by
 obtain ⟨i,h1,h2,h3,h4⟩ := infoE (P := Tryz.prog) (t := 3) (n := 1) (b := 8) (z := .int .i64 0) (by kernel_rfl)
 rw [run_make (P := Tryz.prog) w 113 3 i (.int .i64 0) (by kernel_rfl) h1 h2 .i64 .i64 1 1 (by decide) (by decide) (by rw [h4]; decide) (by decide),h3,show madeCells (Value.int .i64 0).cells (Int.toNat 1 * 1) = #[.int .i64 0] from by kernel_rfl]
 rfl
theorem make160 (w : World) : (Instr.makeSlice 160 (.int .i64 1) (.int .i64 1)).run Tryz.prog w = .ok (.slice (some ⟨w.heap.size,0,none⟩) 1 1) (w.alloc (.cells #[.int .u64 0] 35)) := by
 obtain ⟨i,h1,h2,h3,h4⟩ := infoE (P := Tryz.prog) (t := 35) (n := 1) (b := 8) (z := .int .u64 0) (by kernel_rfl)
 rw [run_make (P := Tryz.prog) w 160 35 i (.int .u64 0) (by kernel_rfl) h1 h2 .i64 .i64 1 1 (by decide) (by decide) (by rw [h4]; decide) (by decide),h3,show madeCells (Value.int .u64 0).cells (Int.toNat 1 * 1) = #[.int .u64 0] from by kernel_rfl]
 rfl
attribute [local go_sem] make113 make160
theorem copy1 {W : World} {t e : TypeId} {a oo c ca : Nat} {v u : Value} (ht : Tryz.prog.underlying t = some (.slice e)) (hi : (Tryz.prog.info? e).map (·.size) = some 1) (ho : W.cell? ⟨oo,0,none⟩ = some v) (h1 : v.oneCell' = true) (ha : W.heap[a]? = some (.cells #[u] e (0,0))) :
 (Builtin.copy_ #[t,t] 3 #[.slice (some ⟨a,0,none⟩) 1 ca,.slice (some ⟨oo,0,none⟩) 1 c]).run Tryz.prog W = .ok (.int .i64 1) (W.setRow a #[v]) := by
 have h := run_copy_cells (P := Tryz.prog) W t t 3 e a 0 1 ca ⟨oo,0,none⟩ 1 c [v] ht hi rfl (fun j x hj => by rcases j with _ | j <;> simp at hj; subst hj; exact ho) (fun j hj => by
  have : j = 0 := by simp at hj; omega
  subst this
  rw [show W.cell? ⟨a,0 + 0,none⟩ = some u from (blk_cell ha 0).trans rfl]; rfl) (fun j hj => blk_frozen ha _) (fun x hx => by simp at hx; subst hx; exact h1)
 rw [h]
 show Result.ok _ (W.setCell ⟨a,0,none⟩ v) = _
 rw [setCell_eq_setRow W a 0 _ _ _ _ ha]
 rfl
def town.T1 : Bool × List (List Nat × List Nat) := (true,[([],[]),([0],[0]),([1],[1]),([2,2],[2]),([],[]),([4],[4]),([5],[5]),([6,6],[6]),([],[]),([8],[8]),([9],[9]),([10,10],[10]),([3,0,1,2,3],[3]),([7,12,0,1,2,3,4,5,6,7,12],[7]),([11,13,0,1,2,3,4,5,6,7,8,9,10,11,12,13],[11])])
def town.B1 : List Nat := [0,1,3,7,0,16,48,112,0,256,768,1792,15,4351,16383]
theorem town.tab1 : rtab .any (opsOf Tryz.f230 1) = town.T1 := by kernel_rfl
theorem town.bits1 : waitsOk town.T1.2 town.B1 = true := by kernel_rfl
theorem town_calls (oo co ln cl ff cf : Nat) (k x : Int) (w : World) (ho : w.cell? ⟨oo,0,none⟩ = some (.int .i64 0)) (hl : w.cell? ⟨ln,0,none⟩ = some (.int .i64 k)) (hf : w.cell? ⟨ff,0,none⟩ = some (.int .u64 x)) :
 Calls Tryz.prog 230 #[.agg #[.int .i64 4,.int .i64 2,.slice (some ⟨oo,0,none⟩) 1 co,.slice (some ⟨ln,0,none⟩) 1 cl,.slice (some ⟨ff,0,none⟩) 1 cf]] w fun e w' => ∃ ao al af : Nat,e = .returned (.agg #[.int .i64 4,.int .i64 2,.slice (some ⟨ao,0,none⟩) 1 1,.slice (some ⟨al,0,none⟩) 1 1,.slice (some ⟨af,0,none⟩) 1 1]) ∧ (w.heap.size ≤ ao ∧ w.heap.size ≤ al ∧ w.heap.size ≤ af ∧ ao ≠ al) ∧ w'.heap[ao]? = some (.cells #[.int .i64 0] 3 (0,0)) ∧ w'.heap[al]? = some (.cells #[.int .i64 k] 3 (0,0)) ∧ w'.heap[af]? = some (.cells #[.int .u64 x] 35 (0,0)) ∧ Below w.heap.size w w' := by
 have HO := Aside0.mk ho
 have HL := Aside0.mk hl
 have HF := Aside0.mk hf
 clear ho hl hf
 go_enter Tryz.func230,Tryz.ntmps230
 go_upto_region 1 with fail
 obtain ⟨W1,g1,g2,hW_,hg1,hg2,HX,HZ,hb_⟩ := new2 w #[.int .i64 4,.int .i64 2,.slice (some ⟨oo,0,none⟩) 1 co,.slice (some ⟨ln,0,none⟩) 1 cl,.slice (some ⟨ff,0,none⟩) 1 cf] 162 #[.int .i64 0,.int .i64 0,.slice none 0 0,.slice none 0 0,.slice none 0 0] 162
 rw [← hW_,← hg2.out,← hg1.out]
 have HB := Aside0.mk hb_
 clear hW_ hb_
 have NZ : Aside0 (g1 ≠ g2) := ⟨by have := hg1.out; have := hg2.out; omega⟩
 have GZ : Aside0 (w.heap.size ≤ g2) := ⟨by have := hg2.out; omega⟩
 refine st_ 15 (fun w' => w'.cell? ⟨g1,2,none⟩ = some (.slice (some ⟨oo,0,none⟩) 1 co) ∧ w'.cell? ⟨g1,3,none⟩ = some (.slice (some ⟨ln,0,none⟩) 1 cl) ∧ w'.cell? ⟨g1,4,none⟩ = some (.slice (some ⟨ff,0,none⟩) 1 cf)) [] ⟨(cD HX 2 rfl),(cD HX 3 rfl),(cD HX 4 rfl)⟩ fun hHeld => ?_
 refine with_tabW town.tab1 town.bits1 (fun HT_ HW_ => ?_)
 replace HX := mD HX
 replace HZ := mD HZ
 replace HB := bD HB
 generalize W1.drew = wd1 at *
 refine pa_ 0 6 HT_ ?_
 refine pa_ 4 10 HT_ ?_
 refine pa_ 8 14 HT_ ?_
 refine ta_ 1 7 HT_ HW_ hHeld ?_
 refine pa_ 2 8 HT_ ?_
 refine ta_ 5 11 HT_ HW_ hHeld ?_
 refine pa_ 6 12 HT_ ?_
 refine ta_ 9 15 HT_ HW_ hHeld ?_
 refine pa_ 10 16 HT_ ?_
 refine jn_ (σ := Nat × Nat × Nat) 1 [14,1] (fun s_ => [(9,.slice (some ⟨s_.1,0,none⟩) 1 1),(13,.slice (some ⟨s_.2.1,0,none⟩) 1 1),(17,.slice (some ⟨s_.2.2,0,none⟩) 1 1),(3,.slice (some ⟨s_.1,0,none⟩) 1 1),(4,.slice (some ⟨s_.2.1,0,none⟩) 1 1)]) (fun s_ w' => w'.heap[g1]? = some (.cells #[.int .i64 4,.int .i64 2,.slice (some ⟨oo,0,none⟩) 1 co,.slice (some ⟨ln,0,none⟩) 1 cl,.slice (some ⟨ff,0,none⟩) 1 cf] 162 (0,0)) ∧ w'.heap[g2]? = some (.cells #[.int .i64 0,.int .i64 0,.slice none 0 0,.slice none 0 0,.slice none 0 0] 162 (0,0)) ∧ w'.heap[s_.1]? = some (.cells #[.int .i64 0] 3 (0,0)) ∧ w'.heap[s_.2.1]? = some (.cells #[.int .i64 0] 3 (0,0)) ∧ w'.heap[s_.2.2]? = some (.cells #[.int .u64 0] 35 (0,0)) ∧ s_.1 ≠ s_.2.1 ∧ s_.1 ≠ s_.2.2 ∧ s_.2.1 ≠ s_.2.2 ∧ w.heap.size ≤ s_.1 ∧ w.heap.size ≤ s_.2.1 ∧ w.heap.size ≤ s_.2.2 ∧ Below w.heap.size w w') ?_ ?_
 rotate_left
 ·intro hJ3_7_11
  refine jn_ (σ := Nat × Nat) 2 [11,1,2,1] (fun s_ => [(9,.slice (some ⟨s_.1,0,none⟩) 1 1),(13,.slice (some ⟨s_.2,0,none⟩) 1 1),(3,.slice (some ⟨s_.1,0,none⟩) 1 1),(4,.slice (some ⟨s_.2,0,none⟩) 1 1)]) (fun s_ w' => w'.heap[g1]? = some (.cells #[.int .i64 4,.int .i64 2,.slice (some ⟨oo,0,none⟩) 1 co,.slice (some ⟨ln,0,none⟩) 1 cl,.slice (some ⟨ff,0,none⟩) 1 cf] 162 (0,0)) ∧ w'.heap[g2]? = some (.cells #[.int .i64 0,.int .i64 0,.slice none 0 0,.slice none 0 0,.slice none 0 0] 162 (0,0)) ∧ w'.heap[s_.1]? = some (.cells #[.int .i64 0] 3 (0,0)) ∧ w'.heap[s_.2]? = some (.cells #[.int .i64 0] 3 (0,0)) ∧ s_.1 ≠ s_.2 ∧ w.heap.size ≤ s_.1 ∧ w.heap.size ≤ s_.2 ∧ Below w.heap.size w w') ?_ ?_
  rotate_left
  ·intro hJ3_7
   refine jn_ (σ := Nat × Nat) 3 [7,1,5,2] (fun s_ => [(9,.slice (some ⟨s_.1,0,none⟩) 1 1),(17,.slice (some ⟨s_.2,0,none⟩) 1 1),(3,.slice (some ⟨s_.1,0,none⟩) 1 1)]) (fun s_ w' => w'.heap[g1]? = some (.cells #[.int .i64 4,.int .i64 2,.slice (some ⟨oo,0,none⟩) 1 co,.slice (some ⟨ln,0,none⟩) 1 cl,.slice (some ⟨ff,0,none⟩) 1 cf] 162 (0,0)) ∧ w'.heap[g2]? = some (.cells #[.int .i64 0,.int .i64 0,.slice none 0 0,.slice none 0 0,.slice none 0 0] 162 (0,0)) ∧ w'.heap[s_.1]? = some (.cells #[.int .i64 0] 3 (0,0)) ∧ w'.heap[s_.2]? = some (.cells #[.int .u64 0] 35 (0,0)) ∧ s_.1 ≠ s_.2 ∧ w.heap.size ≤ s_.1 ∧ w.heap.size ≤ s_.2 ∧ Below w.heap.size w w') ?_ ?_
   rotate_left
   ·intro hJ3_11
    refine jn_ (σ := Nat × Nat) 4 [3,1,8,3] (fun s_ => [(13,.slice (some ⟨s_.1,0,none⟩) 1 1),(17,.slice (some ⟨s_.2,0,none⟩) 1 1)]) (fun s_ w' => w'.heap[g1]? = some (.cells #[.int .i64 4,.int .i64 2,.slice (some ⟨oo,0,none⟩) 1 co,.slice (some ⟨ln,0,none⟩) 1 cl,.slice (some ⟨ff,0,none⟩) 1 cf] 162 (0,0)) ∧ w'.heap[g2]? = some (.cells #[.int .i64 0,.int .i64 0,.slice none 0 0,.slice none 0 0,.slice none 0 0] 162 (0,0)) ∧ w'.heap[s_.1]? = some (.cells #[.int .i64 0] 3 (0,0)) ∧ w'.heap[s_.2]? = some (.cells #[.int .u64 0] 35 (0,0)) ∧ s_.1 ≠ s_.2 ∧ w.heap.size ≤ s_.1 ∧ w.heap.size ≤ s_.2 ∧ Below w.heap.size w w') ?_ ?_
    rotate_left
    ·intro hJ7_11
     refine jn_ (σ := Nat) 4 [7,1,3,1,1,2] (fun s_ => [(9,.slice (some ⟨s_,0,none⟩) 1 1),(3,.slice (some ⟨s_,0,none⟩) 1 1)]) (fun s_ w' => w'.heap[g1]? = some (.cells #[.int .i64 4,.int .i64 2,.slice (some ⟨oo,0,none⟩) 1 co,.slice (some ⟨ln,0,none⟩) 1 cl,.slice (some ⟨ff,0,none⟩) 1 cf] 162 (0,0)) ∧ w'.heap[g2]? = some (.cells #[.int .i64 0,.int .i64 0,.slice none 0 0,.slice none 0 0,.slice none 0 0] 162 (0,0)) ∧ w'.heap[s_]? = some (.cells #[.int .i64 0] 3 (0,0)) ∧ w.heap.size ≤ s_ ∧ Below w.heap.size w w') ?_ ?_
     rotate_left
     ·intro hJ3
      refine jn_ (σ := Nat) 5 [3,1,7,4] (fun s_ => [(13,.slice (some ⟨s_,0,none⟩) 1 1)]) (fun s_ w' => w'.heap[g1]? = some (.cells #[.int .i64 4,.int .i64 2,.slice (some ⟨oo,0,none⟩) 1 co,.slice (some ⟨ln,0,none⟩) 1 cl,.slice (some ⟨ff,0,none⟩) 1 cf] 162 (0,0)) ∧ w'.heap[g2]? = some (.cells #[.int .i64 0,.int .i64 0,.slice none 0 0,.slice none 0 0,.slice none 0 0] 162 (0,0)) ∧ w'.heap[s_]? = some (.cells #[.int .i64 0] 3 (0,0)) ∧ w.heap.size ≤ s_ ∧ Below w.heap.size w w') ?_ ?_
      rotate_left
      ·intro hJ7
       refine jn_ (σ := Nat) 5 [3,1,3,1,4,3] (fun s_ => [(17,.slice (some ⟨s_,0,none⟩) 1 1)]) (fun s_ w' => w'.heap[g1]? = some (.cells #[.int .i64 4,.int .i64 2,.slice (some ⟨oo,0,none⟩) 1 co,.slice (some ⟨ln,0,none⟩) 1 cl,.slice (some ⟨ff,0,none⟩) 1 cf] 162 (0,0)) ∧ w'.heap[g2]? = some (.cells #[.int .i64 0,.int .i64 0,.slice none 0 0,.slice none 0 0,.slice none 0 0] 162 (0,0)) ∧ w'.heap[s_]? = some (.cells #[.int .u64 0] 35 (0,0)) ∧ w.heap.size ≤ s_ ∧ Below w.heap.size w w') ?_ ?_
       rotate_left
       ·intro hJ11
        refine three_ (i := 3) (j := 7) (k := 11) (Ni := some 9) (Nj := some 13) (Nk := some 17) #[true,true,true,true,true,true,true,false,true,true,true,false,false,false,false] #[true,true,true,false,true,true,true,true,true,true,true,false,false,false,false] #[true,true,true,false,true,true,true,false,true,true,true,true,false,false,false] rfl rfl rfl rfl rfl rfl (three_of HT_.out (by kernel_rfl)) (by decide) (by decide) (by decide) (fun K hK => ?_) (fun K hK => ?_) (fun K hK => ?_)
        ·skip
         refine va_ ?_
         obtain ⟨wk,hW⟩ : ∃ W_,W_ = wd1.alloc (.cells #[.int .i64 0] 3) := ⟨_,rfl⟩
         obtain ⟨ao,hh⟩ : ∃ g_,g_ = wd1.heap.size := ⟨_,rfl⟩
         rw [← hW,← hh]
         have HGao : Aside0 (w.heap.size ≤ ao) := ⟨by rw [hh]; exact HB.out.size⟩
         have hb_ : Below wd1.heap.size wd1 wk := by rw [hW]; exact below_alloc (Below.refl _ _) _
         replace HX := mb HX hb_
         replace HZ := mb HZ hb_
         replace HB := mS HB hb_
         have HRao : Aside0 (wk.heap[ao]? = some (.cells #[.int .i64 0] 3 (0,0))) := ⟨by rw [hW,hh]; exact blk_new _ _⟩
         clear hW hh hb_
         refine hK.out _ _ ⟨(cL HX 2 rfl),(cL HX 3 rfl),(cL HX 4 rfl)⟩ (fun hHeld => ?_)
         clear hK K
         refine no_ 9 ?_
         refine pa_ 12 3 HT_ ?_
         exact nx_ (hJ3 ao _ ⟨HX.out,HZ.out,HRao.out,HGao.out,HB.out⟩)
        ·skip
         refine va_ ?_
         obtain ⟨wk,hW⟩ : ∃ W_,W_ = wd1.alloc (.cells #[.int .i64 0] 3) := ⟨_,rfl⟩
         obtain ⟨al,hh⟩ : ∃ g_,g_ = wd1.heap.size := ⟨_,rfl⟩
         rw [← hW,← hh]
         have HGal : Aside0 (w.heap.size ≤ al) := ⟨by rw [hh]; exact HB.out.size⟩
         have hb_ : Below wd1.heap.size wd1 wk := by rw [hW]; exact below_alloc (Below.refl _ _) _
         replace HX := mb HX hb_
         replace HZ := mb HZ hb_
         replace HB := mS HB hb_
         have HRal : Aside0 (wk.heap[al]? = some (.cells #[.int .i64 0] 3 (0,0))) := ⟨by rw [hW,hh]; exact blk_new _ _⟩
         clear hW hh hb_
         refine hK.out _ _ ⟨(cL HX 2 rfl),(cL HX 3 rfl),(cL HX 4 rfl)⟩ (fun hHeld => ?_)
         clear hK K
         refine no_ 13 ?_
         exact nx_ (hJ7 al _ ⟨HX.out,HZ.out,HRal.out,HGal.out,HB.out⟩)
        ·skip
         refine va_ ?_
         obtain ⟨wk,hW⟩ : ∃ W_,W_ = wd1.alloc (.cells #[.int .u64 0] 35) := ⟨_,rfl⟩
         obtain ⟨af,hh⟩ : ∃ g_,g_ = wd1.heap.size := ⟨_,rfl⟩
         rw [← hW,← hh]
         have HGaf : Aside0 (w.heap.size ≤ af) := ⟨by rw [hh]; exact HB.out.size⟩
         have hb_ : Below wd1.heap.size wd1 wk := by rw [hW]; exact below_alloc (Below.refl _ _) _
         replace HX := mb HX hb_
         replace HZ := mb HZ hb_
         replace HB := mS HB hb_
         have HRaf : Aside0 (wk.heap[af]? = some (.cells #[.int .u64 0] 35 (0,0))) := ⟨by rw [hW,hh]; exact blk_new _ _⟩
         clear hW hh hb_
         refine hK.out _ _ ⟨(cL HX 2 rfl),(cL HX 3 rfl),(cL HX 4 rfl)⟩ (fun hHeld => ?_)
         clear hK K
         refine no_ 17 ?_
         exact nx_ (hJ11 af _ ⟨HX.out,HZ.out,HRaf.out,HGaf.out,HB.out⟩)
       ·skip
        rintro af wj ⟨h_0,h_1,h_2,h_3,h_4⟩
        try dsimp only at h_0 h_1 h_2 h_3 h_4
        clear HX HZ HB
        have HX := Aside0.mk h_0
        have HZ := Aside0.mk h_1
        have HRaf := Aside0.mk h_2
        have HGaf := Aside0.mk h_3
        have HB := Aside0.mk h_4
        clear h_0 h_1 h_2 h_3 h_4
        refine hd_ ⟨(cL HX 2 rfl),(cL HX 3 rfl),(cL HX 4 rfl)⟩ fun hHeld => ?_
        refine na_ ?_
        refine tw_ 3 7 HT_ (fun K hK => ?_) fun K hK => ?_
        ·skip
         refine va_ ?_
         obtain ⟨wk,hW⟩ : ∃ W_,W_ = wj.alloc (.cells #[.int .i64 0] 3) := ⟨_,rfl⟩
         obtain ⟨ao,hh⟩ : ∃ g_,g_ = wj.heap.size := ⟨_,rfl⟩
         rw [← hW,← hh]
         have HGao : Aside0 (w.heap.size ≤ ao) := ⟨by rw [hh]; exact HB.out.size⟩
         have HNao_af : Aside0 (ao ≠ af) := ⟨by rw [hh]; exact (Nat.ne_of_lt (blk_lt HRaf.out)).symm⟩
         have hb_ : Below wj.heap.size wj wk := by rw [hW]; exact below_alloc (Below.refl _ _) _
         replace HX := mb HX hb_
         replace HZ := mb HZ hb_
         replace HRaf := mb HRaf hb_
         replace HB := mS HB hb_
         have HRao : Aside0 (wk.heap[ao]? = some (.cells #[.int .i64 0] 3 (0,0))) := ⟨by rw [hW,hh]; exact blk_new _ _⟩
         clear hW hh hb_
         refine hK.out _ _ ⟨(cL HX 2 rfl),(cL HX 3 rfl),(cL HX 4 rfl)⟩ (fun hHeld => ?_)
         clear hK K
         refine no_ 9 ?_
         refine pa_ 12 3 HT_ ?_
         exact nx_ (hJ3_11 (ao,af) _ ⟨HX.out,HZ.out,HRao.out,HRaf.out,HNao_af.out,HGao.out,HGaf.out,HB.out⟩)
        ·skip
         refine va_ ?_
         obtain ⟨wk,hW⟩ : ∃ W_,W_ = wj.alloc (.cells #[.int .i64 0] 3) := ⟨_,rfl⟩
         obtain ⟨al,hh⟩ : ∃ g_,g_ = wj.heap.size := ⟨_,rfl⟩
         rw [← hW,← hh]
         have HGal : Aside0 (w.heap.size ≤ al) := ⟨by rw [hh]; exact HB.out.size⟩
         have HNal_af : Aside0 (al ≠ af) := ⟨by rw [hh]; exact (Nat.ne_of_lt (blk_lt HRaf.out)).symm⟩
         have hb_ : Below wj.heap.size wj wk := by rw [hW]; exact below_alloc (Below.refl _ _) _
         replace HX := mb HX hb_
         replace HZ := mb HZ hb_
         replace HRaf := mb HRaf hb_
         replace HB := mS HB hb_
         have HRal : Aside0 (wk.heap[al]? = some (.cells #[.int .i64 0] 3 (0,0))) := ⟨by rw [hW,hh]; exact blk_new _ _⟩
         clear hW hh hb_
         refine hK.out _ _ ⟨(cL HX 2 rfl),(cL HX 3 rfl),(cL HX 4 rfl)⟩ (fun hHeld => ?_)
         clear hK K
         refine no_ 13 ?_
         exact nx_ (hJ7_11 (al,af) _ ⟨HX.out,HZ.out,HRal.out,HRaf.out,HNal_af.out,HGal.out,HGaf.out,HB.out⟩)
      ·skip
       rintro al wj ⟨h_0,h_1,h_2,h_3,h_4⟩
       try dsimp only at h_0 h_1 h_2 h_3 h_4
       clear HX HZ HB
       have HX := Aside0.mk h_0
       have HZ := Aside0.mk h_1
       have HRal := Aside0.mk h_2
       have HGal := Aside0.mk h_3
       have HB := Aside0.mk h_4
       clear h_0 h_1 h_2 h_3 h_4
       refine hd_ ⟨(cL HX 2 rfl),(cL HX 3 rfl),(cL HX 4 rfl)⟩ fun hHeld => ?_
       refine na_ ?_
       refine tw_ 3 11 HT_ (fun K hK => ?_) fun K hK => ?_
       ·skip
        refine va_ ?_
        obtain ⟨wk,hW⟩ : ∃ W_,W_ = wj.alloc (.cells #[.int .i64 0] 3) := ⟨_,rfl⟩
        obtain ⟨ao,hh⟩ : ∃ g_,g_ = wj.heap.size := ⟨_,rfl⟩
        rw [← hW,← hh]
        have HGao : Aside0 (w.heap.size ≤ ao) := ⟨by rw [hh]; exact HB.out.size⟩
        have HNao_al : Aside0 (ao ≠ al) := ⟨by rw [hh]; exact (Nat.ne_of_lt (blk_lt HRal.out)).symm⟩
        have hb_ : Below wj.heap.size wj wk := by rw [hW]; exact below_alloc (Below.refl _ _) _
        replace HX := mb HX hb_
        replace HZ := mb HZ hb_
        replace HRal := mb HRal hb_
        replace HB := mS HB hb_
        have HRao : Aside0 (wk.heap[ao]? = some (.cells #[.int .i64 0] 3 (0,0))) := ⟨by rw [hW,hh]; exact blk_new _ _⟩
        clear hW hh hb_
        refine hK.out _ _ ⟨(cL HX 2 rfl),(cL HX 3 rfl),(cL HX 4 rfl)⟩ (fun hHeld => ?_)
        clear hK K
        refine no_ 9 ?_
        refine pa_ 12 3 HT_ ?_
        refine pa_ 13 4 HT_ ?_
        exact nx_ (hJ3_7 (ao,al) _ ⟨HX.out,HZ.out,HRao.out,HRal.out,HNao_al.out,HGao.out,HGal.out,HB.out⟩)
       ·skip
        refine va_ ?_
        obtain ⟨wk,hW⟩ : ∃ W_,W_ = wj.alloc (.cells #[.int .u64 0] 35) := ⟨_,rfl⟩
        obtain ⟨af,hh⟩ : ∃ g_,g_ = wj.heap.size := ⟨_,rfl⟩
        rw [← hW,← hh]
        have HGaf : Aside0 (w.heap.size ≤ af) := ⟨by rw [hh]; exact HB.out.size⟩
        have HNal_af : Aside0 (al ≠ af) := ⟨by rw [hh]; exact Nat.ne_of_lt (blk_lt HRal.out)⟩
        have hb_ : Below wj.heap.size wj wk := by rw [hW]; exact below_alloc (Below.refl _ _) _
        replace HX := mb HX hb_
        replace HZ := mb HZ hb_
        replace HRal := mb HRal hb_
        replace HB := mS HB hb_
        have HRaf : Aside0 (wk.heap[af]? = some (.cells #[.int .u64 0] 35 (0,0))) := ⟨by rw [hW,hh]; exact blk_new _ _⟩
        clear hW hh hb_
        refine hK.out _ _ ⟨(cL HX 2 rfl),(cL HX 3 rfl),(cL HX 4 rfl)⟩ (fun hHeld => ?_)
        clear hK K
        refine no_ 17 ?_
        exact nx_ (hJ7_11 (al,af) _ ⟨HX.out,HZ.out,HRal.out,HRaf.out,HNal_af.out,HGal.out,HGaf.out,HB.out⟩)
     ·skip
      rintro ao wj ⟨h_0,h_1,h_2,h_3,h_4⟩
      try dsimp only at h_0 h_1 h_2 h_3 h_4
      clear HX HZ HB
      have HX := Aside0.mk h_0
      have HZ := Aside0.mk h_1
      have HRao := Aside0.mk h_2
      have HGao := Aside0.mk h_3
      have HB := Aside0.mk h_4
      clear h_0 h_1 h_2 h_3 h_4
      refine hd_ ⟨(cL HX 2 rfl),(cL HX 3 rfl),(cL HX 4 rfl)⟩ fun hHeld => ?_
      refine na_ ?_
      refine tw_ 7 11 HT_ (fun K hK => ?_) fun K hK => ?_
      ·skip
       refine va_ ?_
       obtain ⟨wk,hW⟩ : ∃ W_,W_ = wj.alloc (.cells #[.int .i64 0] 3) := ⟨_,rfl⟩
       obtain ⟨al,hh⟩ : ∃ g_,g_ = wj.heap.size := ⟨_,rfl⟩
       rw [← hW,← hh]
       have HGal : Aside0 (w.heap.size ≤ al) := ⟨by rw [hh]; exact HB.out.size⟩
       have HNao_al : Aside0 (ao ≠ al) := ⟨by rw [hh]; exact Nat.ne_of_lt (blk_lt HRao.out)⟩
       have hb_ : Below wj.heap.size wj wk := by rw [hW]; exact below_alloc (Below.refl _ _) _
       replace HX := mb HX hb_
       replace HZ := mb HZ hb_
       replace HRao := mb HRao hb_
       replace HB := mS HB hb_
       have HRal : Aside0 (wk.heap[al]? = some (.cells #[.int .i64 0] 3 (0,0))) := ⟨by rw [hW,hh]; exact blk_new _ _⟩
       clear hW hh hb_
       refine hK.out _ _ ⟨(cL HX 2 rfl),(cL HX 3 rfl),(cL HX 4 rfl)⟩ (fun hHeld => ?_)
       clear hK K
       refine no_ 13 ?_
       refine pa_ 13 4 HT_ ?_
       exact nx_ (hJ3_7 (ao,al) _ ⟨HX.out,HZ.out,HRao.out,HRal.out,HNao_al.out,HGao.out,HGal.out,HB.out⟩)
      ·skip
       refine va_ ?_
       obtain ⟨wk,hW⟩ : ∃ W_,W_ = wj.alloc (.cells #[.int .u64 0] 35) := ⟨_,rfl⟩
       obtain ⟨af,hh⟩ : ∃ g_,g_ = wj.heap.size := ⟨_,rfl⟩
       rw [← hW,← hh]
       have HGaf : Aside0 (w.heap.size ≤ af) := ⟨by rw [hh]; exact HB.out.size⟩
       have HNao_af : Aside0 (ao ≠ af) := ⟨by rw [hh]; exact Nat.ne_of_lt (blk_lt HRao.out)⟩
       have hb_ : Below wj.heap.size wj wk := by rw [hW]; exact below_alloc (Below.refl _ _) _
       replace HX := mb HX hb_
       replace HZ := mb HZ hb_
       replace HRao := mb HRao hb_
       replace HB := mS HB hb_
       have HRaf : Aside0 (wk.heap[af]? = some (.cells #[.int .u64 0] 35 (0,0))) := ⟨by rw [hW,hh]; exact blk_new _ _⟩
       clear hW hh hb_
       refine hK.out _ _ ⟨(cL HX 2 rfl),(cL HX 3 rfl),(cL HX 4 rfl)⟩ (fun hHeld => ?_)
       clear hK K
       refine no_ 17 ?_
       exact nx_ (hJ3_11 (ao,af) _ ⟨HX.out,HZ.out,HRao.out,HRaf.out,HNao_af.out,HGao.out,HGaf.out,HB.out⟩)
    ·skip
     rintro ⟨al,af⟩ wj ⟨h_0,h_1,h_2,h_3,h_4,h_5,h_6,h_7⟩
     try dsimp only at h_0 h_1 h_2 h_3 h_4 h_5 h_6 h_7
     clear HX HZ HB
     have HX := Aside0.mk h_0
     have HZ := Aside0.mk h_1
     have HRal := Aside0.mk h_2
     have HRaf := Aside0.mk h_3
     have HNal_af := Aside0.mk h_4
     have HGal := Aside0.mk h_5
     have HGaf := Aside0.mk h_6
     have HB := Aside0.mk h_7
     clear h_0 h_1 h_2 h_3 h_4 h_5 h_6 h_7
     refine hd_ ⟨(cL HX 2 rfl),(cL HX 3 rfl),(cL HX 4 rfl)⟩ fun hHeld => ?_
     refine na_ ?_
     refine on_ 3 HT_ fun K hK => ?_
     refine va_ ?_
     obtain ⟨wk,hW⟩ : ∃ W_,W_ = wj.alloc (.cells #[.int .i64 0] 3) := ⟨_,rfl⟩
     obtain ⟨ao,hh⟩ : ∃ g_,g_ = wj.heap.size := ⟨_,rfl⟩
     rw [← hW,← hh]
     have HGao : Aside0 (w.heap.size ≤ ao) := ⟨by rw [hh]; exact HB.out.size⟩
     have HNao_al : Aside0 (ao ≠ al) := ⟨by rw [hh]; exact (Nat.ne_of_lt (blk_lt HRal.out)).symm⟩
     have HNao_af : Aside0 (ao ≠ af) := ⟨by rw [hh]; exact (Nat.ne_of_lt (blk_lt HRaf.out)).symm⟩
     have hb_ : Below wj.heap.size wj wk := by rw [hW]; exact below_alloc (Below.refl _ _) _
     replace HX := mb HX hb_
     replace HZ := mb HZ hb_
     replace HRal := mb HRal hb_
     replace HRaf := mb HRaf hb_
     replace HB := mS HB hb_
     have HRao : Aside0 (wk.heap[ao]? = some (.cells #[.int .i64 0] 3 (0,0))) := ⟨by rw [hW,hh]; exact blk_new _ _⟩
     clear hW hh hb_
     refine hK.out _ _ ⟨(cL HX 2 rfl),(cL HX 3 rfl),(cL HX 4 rfl)⟩ (fun hHeld => ?_)
     clear hK K
     refine no_ 9 ?_
     refine pa_ 12 3 HT_ ?_
     refine pa_ 13 4 HT_ ?_
     exact nx_ (hJ3_7_11 (ao,al,af) _ ⟨HX.out,HZ.out,HRao.out,HRal.out,HRaf.out,HNao_al.out,HNao_af.out,HNal_af.out,HGao.out,HGal.out,HGaf.out,HB.out⟩)
   ·skip
    rintro ⟨ao,af⟩ wj ⟨h_0,h_1,h_2,h_3,h_4,h_5,h_6,h_7⟩
    try dsimp only at h_0 h_1 h_2 h_3 h_4 h_5 h_6 h_7
    clear HX HZ HB
    have HX := Aside0.mk h_0
    have HZ := Aside0.mk h_1
    have HRao := Aside0.mk h_2
    have HRaf := Aside0.mk h_3
    have HNao_af := Aside0.mk h_4
    have HGao := Aside0.mk h_5
    have HGaf := Aside0.mk h_6
    have HB := Aside0.mk h_7
    clear h_0 h_1 h_2 h_3 h_4 h_5 h_6 h_7
    refine hd_ ⟨(cL HX 2 rfl),(cL HX 3 rfl),(cL HX 4 rfl)⟩ fun hHeld => ?_
    refine na_ ?_
    refine on_ 7 HT_ fun K hK => ?_
    refine va_ ?_
    obtain ⟨wk,hW⟩ : ∃ W_,W_ = wj.alloc (.cells #[.int .i64 0] 3) := ⟨_,rfl⟩
    obtain ⟨al,hh⟩ : ∃ g_,g_ = wj.heap.size := ⟨_,rfl⟩
    rw [← hW,← hh]
    have HGal : Aside0 (w.heap.size ≤ al) := ⟨by rw [hh]; exact HB.out.size⟩
    have HNao_al : Aside0 (ao ≠ al) := ⟨by rw [hh]; exact Nat.ne_of_lt (blk_lt HRao.out)⟩
    have HNal_af : Aside0 (al ≠ af) := ⟨by rw [hh]; exact (Nat.ne_of_lt (blk_lt HRaf.out)).symm⟩
    have hb_ : Below wj.heap.size wj wk := by rw [hW]; exact below_alloc (Below.refl _ _) _
    replace HX := mb HX hb_
    replace HZ := mb HZ hb_
    replace HRao := mb HRao hb_
    replace HRaf := mb HRaf hb_
    replace HB := mS HB hb_
    have HRal : Aside0 (wk.heap[al]? = some (.cells #[.int .i64 0] 3 (0,0))) := ⟨by rw [hW,hh]; exact blk_new _ _⟩
    clear hW hh hb_
    refine hK.out _ _ ⟨(cL HX 2 rfl),(cL HX 3 rfl),(cL HX 4 rfl)⟩ (fun hHeld => ?_)
    clear hK K
    refine no_ 13 ?_
    refine pa_ 13 4 HT_ ?_
    exact nx_ (hJ3_7_11 (ao,al,af) _ ⟨HX.out,HZ.out,HRao.out,HRal.out,HRaf.out,HNao_al.out,HNao_af.out,HNal_af.out,HGao.out,HGal.out,HGaf.out,HB.out⟩)
  ·skip
   rintro ⟨ao,al⟩ wj ⟨h_0,h_1,h_2,h_3,h_4,h_5,h_6,h_7⟩
   try dsimp only at h_0 h_1 h_2 h_3 h_4 h_5 h_6 h_7
   clear HX HZ HB
   have HX := Aside0.mk h_0
   have HZ := Aside0.mk h_1
   have HRao := Aside0.mk h_2
   have HRal := Aside0.mk h_3
   have HNao_al := Aside0.mk h_4
   have HGao := Aside0.mk h_5
   have HGal := Aside0.mk h_6
   have HB := Aside0.mk h_7
   clear h_0 h_1 h_2 h_3 h_4 h_5 h_6 h_7
   refine hd_ ⟨(cL HX 2 rfl),(cL HX 3 rfl),(cL HX 4 rfl)⟩ fun hHeld => ?_
   refine na_ ?_
   refine on_ 11 HT_ fun K hK => ?_
   refine va_ ?_
   obtain ⟨wk,hW⟩ : ∃ W_,W_ = wj.alloc (.cells #[.int .u64 0] 35) := ⟨_,rfl⟩
   obtain ⟨af,hh⟩ : ∃ g_,g_ = wj.heap.size := ⟨_,rfl⟩
   rw [← hW,← hh]
   have HGaf : Aside0 (w.heap.size ≤ af) := ⟨by rw [hh]; exact HB.out.size⟩
   have HNao_af : Aside0 (ao ≠ af) := ⟨by rw [hh]; exact Nat.ne_of_lt (blk_lt HRao.out)⟩
   have HNal_af : Aside0 (al ≠ af) := ⟨by rw [hh]; exact Nat.ne_of_lt (blk_lt HRal.out)⟩
   have hb_ : Below wj.heap.size wj wk := by rw [hW]; exact below_alloc (Below.refl _ _) _
   replace HX := mb HX hb_
   replace HZ := mb HZ hb_
   replace HRao := mb HRao hb_
   replace HRal := mb HRal hb_
   replace HB := mS HB hb_
   have HRaf : Aside0 (wk.heap[af]? = some (.cells #[.int .u64 0] 35 (0,0))) := ⟨by rw [hW,hh]; exact blk_new _ _⟩
   clear hW hh hb_
   refine hK.out _ _ ⟨(cL HX 2 rfl),(cL HX 3 rfl),(cL HX 4 rfl)⟩ (fun hHeld => ?_)
   clear hK K
   refine no_ 17 ?_
   exact nx_ (hJ3_7_11 (ao,al,af) _ ⟨HX.out,HZ.out,HRao.out,HRal.out,HRaf.out,HNao_al.out,HNao_af.out,HNal_af.out,HGao.out,HGal.out,HGaf.out,HB.out⟩)
 rintro ⟨ao,al,af⟩ wj ⟨h_0,h_1,h_2,h_3,h_4,h_5,h_6,h_7,h_8,h_9,h_10,h_11⟩
 try dsimp only at h_0 h_1 h_2 h_3 h_4 h_5 h_6 h_7 h_8 h_9 h_10 h_11
 clear HX HZ HB
 have HX := Aside0.mk h_0
 have HZ := Aside0.mk h_1
 have HRao := Aside0.mk h_2
 have HRal := Aside0.mk h_3
 have HRaf := Aside0.mk h_4
 have HNao_al := Aside0.mk h_5
 have HNao_af := Aside0.mk h_6
 have HNal_af := Aside0.mk h_7
 have HGao := Aside0.mk h_8
 have HGal := Aside0.mk h_9
 have HGaf := Aside0.mk h_10
 have HB := Aside0.mk h_11
 clear h_0 h_1 h_2 h_3 h_4 h_5 h_6 h_7 h_8 h_9 h_10 h_11
 refine hd_ ⟨(cL HX 2 rfl),(cL HX 3 rfl),(cL HX 4 rfl)⟩ fun hHeld => ?_
 refine na_ ?_
 refine pa_ 14 5 HT_ ?_
 refine dn_ HT_ ?_
 clear HT_ HW_ hHeld
 have HOW : Aside0 (wj.cell? ⟨oo,0,none⟩ = some (.int .i64 0)) := ⟨pw_cell_below HB.out HO.out⟩
 have HLW : Aside0 (wj.cell? ⟨ln,0,none⟩ = some (.int .i64 k)) := ⟨pw_cell_below HB.out HL.out⟩
 have HFW : Aside0 (wj.cell? ⟨ff,0,none⟩ = some (.int .u64 x)) := ⟨pw_cell_below HB.out HF.out⟩
 have LO : Aside0 (oo < w.heap.size) := ⟨World.block_lt_of_cell? _ _ HO.out⟩
 have LL : Aside0 (ln < w.heap.size) := ⟨World.block_lt_of_cell? _ _ HL.out⟩
 have LF : Aside0 (ff < w.heap.size) := ⟨World.block_lt_of_cell? _ _ HF.out⟩
 have hcp := copy1 (W := wj) (c := co) (ca := 1) (t := 113) (e := 3) (a := ao) (by kernel_rfl) (by kernel_rfl) HOW.out (by first | rfl | simp [Value.oneCell']) HRao.out
 have y0 : wj.cell? ⟨g1,0,none⟩ = some (.int .i64 4) := cL HX 0 rfl
 have y1 : wj.cell? ⟨g1,1,none⟩ = some (.int .i64 2) := cL HX 1 rfl
 have y2 : wj.cell? ⟨g1,2,none⟩ = some (.slice (some ⟨oo,0,none⟩) 1 co) := cL HX 2 rfl
 have y3 : wj.cell? ⟨g1,3,none⟩ = some (.slice (some ⟨ln,0,none⟩) 1 cl) := cL HX 3 rfl
 have y4 : wj.cell? ⟨g1,4,none⟩ = some (.slice (some ⟨ff,0,none⟩) 1 cf) := cL HX 4 rfl
 go_upto_region 3 with fail
 clear hcp y0 y1 y2 y3 y4
 obtain ⟨Wc,hW⟩ : ∃ W_,W_ = wj.setRow ao #[.int .i64 0] := ⟨_,rfl⟩
 rw [← hW]
 have q_ := mR #[.int .i64 0] HX.out (tne HX.out HRao.out (by decide))
 rw [← hW] at q_
 replace HX := Aside0.mk q_
 clear q_
 have q_ := mR #[.int .i64 0] HZ.out (tne HZ.out HRao.out (by decide))
 rw [← hW] at q_
 replace HZ := Aside0.mk q_
 clear q_
 have q_ := mR #[.int .i64 0] HRal.out HNao_al.out.symm
 rw [← hW] at q_
 replace HRal := Aside0.mk q_
 clear q_
 have q_ := mR #[.int .i64 0] HRaf.out HNao_af.out.symm
 rw [← hW] at q_
 replace HRaf := Aside0.mk q_
 clear q_
 have q_ := (cell_setRow_other wj ao #[.int .i64 0] ⟨oo,0,none⟩ (by have := LO.out; have := HGao.out; show oo ≠ ao; omega)).trans HOW.out
 rw [← hW] at q_
 replace HOW := Aside0.mk q_
 clear q_
 have q_ := (cell_setRow_other wj ao #[.int .i64 0] ⟨ln,0,none⟩ (by have := LL.out; have := HGao.out; show ln ≠ ao; omega)).trans HLW.out
 rw [← hW] at q_
 replace HLW := Aside0.mk q_
 clear q_
 have q_ := (cell_setRow_other wj ao #[.int .i64 0] ⟨ff,0,none⟩ (by have := LF.out; have := HGao.out; show ff ≠ ao; omega)).trans HFW.out
 rw [← hW] at q_
 replace HFW := Aside0.mk q_
 clear q_
 have q_ : Wc.heap[ao]? = some (.cells #[.int .i64 0] 3 (0,0)) := by rw [hW]; exact setRow_heap _ _ _ _ _ _ HRao.out
 replace HRao := Aside0.mk q_
 clear q_
 have q_ : Below w.heap.size w Wc := by rw [hW]; exact below_setRow HB.out HGao.out _
 replace HB := Aside0.mk q_
 clear q_ hW
 have hcp := copy1 (W := Wc) (c := cl) (ca := 1) (t := 113) (e := 3) (a := al) (by kernel_rfl) (by kernel_rfl) HLW.out (by first | rfl | simp [Value.oneCell']) HRal.out
 have y0 : Wc.cell? ⟨g1,0,none⟩ = some (.int .i64 4) := cL HX 0 rfl
 have y1 : Wc.cell? ⟨g1,1,none⟩ = some (.int .i64 2) := cL HX 1 rfl
 have y2 : Wc.cell? ⟨g1,2,none⟩ = some (.slice (some ⟨oo,0,none⟩) 1 co) := cL HX 2 rfl
 have y3 : Wc.cell? ⟨g1,3,none⟩ = some (.slice (some ⟨ln,0,none⟩) 1 cl) := cL HX 3 rfl
 have y4 : Wc.cell? ⟨g1,4,none⟩ = some (.slice (some ⟨ff,0,none⟩) 1 cf) := cL HX 4 rfl
 go_upto_region 4 with fail
 clear hcp y0 y1 y2 y3 y4
 obtain ⟨Wd,hW⟩ : ∃ W_,W_ = Wc.setRow al #[.int .i64 k] := ⟨_,rfl⟩
 rw [← hW]
 have q_ := mR #[.int .i64 k] HX.out (tne HX.out HRal.out (by decide))
 rw [← hW] at q_
 replace HX := Aside0.mk q_
 clear q_
 have q_ := mR #[.int .i64 k] HZ.out (tne HZ.out HRal.out (by decide))
 rw [← hW] at q_
 replace HZ := Aside0.mk q_
 clear q_
 have q_ := mR #[.int .i64 k] HRao.out HNao_al.out
 rw [← hW] at q_
 replace HRao := Aside0.mk q_
 clear q_
 have q_ := mR #[.int .i64 k] HRaf.out HNal_af.out.symm
 rw [← hW] at q_
 replace HRaf := Aside0.mk q_
 clear q_
 have q_ := (cell_setRow_other Wc al #[.int .i64 k] ⟨oo,0,none⟩ (by have := LO.out; have := HGal.out; show oo ≠ al; omega)).trans HOW.out
 rw [← hW] at q_
 replace HOW := Aside0.mk q_
 clear q_
 have q_ := (cell_setRow_other Wc al #[.int .i64 k] ⟨ln,0,none⟩ (by have := LL.out; have := HGal.out; show ln ≠ al; omega)).trans HLW.out
 rw [← hW] at q_
 replace HLW := Aside0.mk q_
 clear q_
 have q_ := (cell_setRow_other Wc al #[.int .i64 k] ⟨ff,0,none⟩ (by have := LF.out; have := HGal.out; show ff ≠ al; omega)).trans HFW.out
 rw [← hW] at q_
 replace HFW := Aside0.mk q_
 clear q_
 have q_ : Wd.heap[al]? = some (.cells #[.int .i64 k] 3 (0,0)) := by rw [hW]; exact setRow_heap _ _ _ _ _ _ HRal.out
 replace HRal := Aside0.mk q_
 clear q_
 have q_ : Below w.heap.size w Wd := by rw [hW]; exact below_setRow HB.out HGal.out _
 replace HB := Aside0.mk q_
 clear q_ hW
 have hcp := copy1 (W := Wd) (c := cf) (ca := 1) (t := 160) (e := 35) (a := af) (by kernel_rfl) (by kernel_rfl) HFW.out (by first | rfl | simp [Value.oneCell']) HRaf.out
 have y0 : Wd.cell? ⟨g1,0,none⟩ = some (.int .i64 4) := cL HX 0 rfl
 have y1 : Wd.cell? ⟨g1,1,none⟩ = some (.int .i64 2) := cL HX 1 rfl
 have y2 : Wd.cell? ⟨g1,2,none⟩ = some (.slice (some ⟨oo,0,none⟩) 1 co) := cL HX 2 rfl
 have y3 : Wd.cell? ⟨g1,3,none⟩ = some (.slice (some ⟨ln,0,none⟩) 1 cl) := cL HX 3 rfl
 have y4 : Wd.cell? ⟨g1,4,none⟩ = some (.slice (some ⟨ff,0,none⟩) 1 cf) := cL HX 4 rfl
 go_upto_region 5 with fail
 clear hcp y0 y1 y2 y3 y4
 obtain ⟨We,hW⟩ : ∃ W_,W_ = Wd.setRow af #[.int .u64 x] := ⟨_,rfl⟩
 rw [← hW]
 have q_ := mR #[.int .u64 x] HX.out (tne HX.out HRaf.out (by decide))
 rw [← hW] at q_
 replace HX := Aside0.mk q_
 clear q_
 have q_ := mR #[.int .u64 x] HZ.out (tne HZ.out HRaf.out (by decide))
 rw [← hW] at q_
 replace HZ := Aside0.mk q_
 clear q_
 have q_ := mR #[.int .u64 x] HRao.out HNao_af.out
 rw [← hW] at q_
 replace HRao := Aside0.mk q_
 clear q_
 have q_ := mR #[.int .u64 x] HRal.out HNal_af.out
 rw [← hW] at q_
 replace HRal := Aside0.mk q_
 clear q_
 have q_ := (cell_setRow_other Wd af #[.int .u64 x] ⟨oo,0,none⟩ (by have := LO.out; have := HGaf.out; show oo ≠ af; omega)).trans HOW.out
 rw [← hW] at q_
 replace HOW := Aside0.mk q_
 clear q_
 have q_ := (cell_setRow_other Wd af #[.int .u64 x] ⟨ln,0,none⟩ (by have := LL.out; have := HGaf.out; show ln ≠ af; omega)).trans HLW.out
 rw [← hW] at q_
 replace HLW := Aside0.mk q_
 clear q_
 have q_ := (cell_setRow_other Wd af #[.int .u64 x] ⟨ff,0,none⟩ (by have := LF.out; have := HGaf.out; show ff ≠ af; omega)).trans HFW.out
 rw [← hW] at q_
 replace HFW := Aside0.mk q_
 clear q_
 have q_ : We.heap[af]? = some (.cells #[.int .u64 x] 35 (0,0)) := by rw [hW]; exact setRow_heap _ _ _ _ _ _ HRaf.out
 replace HRaf := Aside0.mk q_
 clear q_
 have q_ : Below w.heap.size w We := by rw [hW]; exact below_setRow HB.out HGaf.out _
 replace HB := Aside0.mk q_
 clear q_ hW
 have y0 : We.cell? ⟨g1,0,none⟩ = some (.int .i64 4) := cL HX 0 rfl
 have y1 : We.cell? ⟨g1,1,none⟩ = some (.int .i64 2) := cL HX 1 rfl
 have y2 : We.cell? ⟨g1,2,none⟩ = some (.slice (some ⟨oo,0,none⟩) 1 co) := cL HX 2 rfl
 have y3 : We.cell? ⟨g1,3,none⟩ = some (.slice (some ⟨ln,0,none⟩) 1 cl) := cL HX 3 rfl
 have y4 : We.cell? ⟨g1,4,none⟩ = some (.slice (some ⟨ff,0,none⟩) 1 cf) := cL HX 4 rfl
 go_wp2_with (refine sr_ 2 37 #[.int .i64 4,.int .i64 2,.slice (some ⟨ao,0,none⟩) 1 1,.slice (some ⟨al,0,none⟩) 1 1,.slice (some ⟨af,0,none⟩) 1 1] HZ.out ?_)
 refine rr_ (setRow_heap _ _ _ _ _ _ HZ.out) Tryz.underlying162 ?_
 exact ⟨ao,al,af,rfl,⟨HGao.out,HGal.out,HGaf.out,HNao_al.out⟩,mR _ HRao.out (tne HRao.out HZ.out (by decide)),mR _ HRal.out (tne HRal.out HZ.out (by decide)),mR _ HRaf.out (tne HRaf.out HZ.out (by decide)),below_setRow HB.out GZ.out _⟩
end Go.Proofs.YtokfjbbjkiilmaaGreatDoor.H
namespace Go.Proofs.YtokfjbbjkiilmaaGreatDoor.H
open Go.RowKit Go.Proofs.YtokfjbbjkiilmaaGreatDoorW.PrintWords Go.Proofs.YtokfjbbjkiilmaaGreatDoorW.PrintLast Go.Proofs.YtokfjbbjkiilmaaGreatDoorW.PrintMore
set_option maxHeartbeats 8000000
set_option maxRecDepth 100000
attribute [local go_sem] max2_int min2_int min_two max_two
def tcount.T1 : Bool × List (List Nat × List Nat) := (true,[([],[]),([0],[0]),([],[]),([2],[2]),([1,3],[1,3]),([4],[4]),([],[]),([6],[6]),([5,7],[5,7])])
def tcount.B1 : List Nat := [0,1,0,4,15,31,0,64,255]
theorem tcount.tab1 : rtab .any (opsOf Tryz.f229 1) = tcount.T1 := by kernel_rfl
theorem tcount.bits1 : waitsOk tcount.T1.2 tcount.B1 = true := by kernel_rfl
def tcount.T4 : Bool × List (List Nat × List Nat) := (true,[([],[]),([0],[0]),([],[]),([2],[2]),([1,3],[1,3]),([4],[4]),([5],[5]),([1,3,0,1,2,3,4,5,6],[1,3]),([7,6,3,0,1,2,3,4,5,6],[6,7])])
def tcount.B4 : List Nat := [0,1,0,4,15,31,63,127,255]
theorem tcount.tab4 : rtab .any (opsOf Tryz.f229 4) = tcount.T4 := by kernel_rfl
theorem tcount.bits4 : waitsOk tcount.T4.2 tcount.B4 = true := by kernel_rfl
theorem tcount_calls (oo co ln cl ff cf : Nat) (k x : Int) (w : World) (ho : w.cell? ⟨oo,0,none⟩ = some (.int .i64 0)) (hl : w.cell? ⟨ln,0,none⟩ = some (.int .i64 k)) (hf : w.cell? ⟨ff,0,none⟩ = some (.int .u64 x)) (hk : 0 ≤ k ∧ k < 2) :
 Calls Tryz.prog 229 #[.agg #[.int .i64 4,.int .i64 2,.slice (some ⟨oo,0,none⟩) 1 co,.slice (some ⟨ln,0,none⟩) 1 cl,.slice (some ⟨ff,0,none⟩) 1 cf]] w fun e w' => ∃ ao al af : Nat,e = .returned (.tuple #[.agg #[.int .i64 4,.int .i64 2,.slice (some ⟨ao,0,none⟩) 1 1,.slice (some ⟨al,0,none⟩) 1 1,.slice (some ⟨af,0,none⟩) 1 1],.int .i64 0]) ∧ (w.heap.size ≤ ao ∧ w.heap.size ≤ al ∧ w.heap.size ≤ af ∧ ao ≠ al) ∧ w'.heap[ao]? = some (.cells #[.int .i64 0] 3 (0,0)) ∧ w'.heap[al]? = some (.cells #[.int .i64 (k + 1)] 3 (0,0)) ∧ w'.heap[af]? = some (.cells #[.int .u64 x] 35 (0,0)) ∧ Below w.heap.size w w' := by
 have HO := Aside0.mk ho
 have HL := Aside0.mk hl
 have HF := Aside0.mk hf
 have HK := Aside0.mk hk
 have t0 : decide (2 ≤ k) = false := decide_eq_false (by omega)
 have t1 : (2 ≤ k) = False := eq_false (by omega)
 clear ho hl hf hk
 go_enter Tryz.func229,Tryz.ntmps229
 go_upto_region 1 with fail
 obtain ⟨W1,g1,g2,hW_,hg1,hg2,HX,HZ,hb_⟩ := new2 w #[.int .i64 4,.int .i64 2,.slice (some ⟨oo,0,none⟩) 1 co,.slice (some ⟨ln,0,none⟩) 1 cl,.slice (some ⟨ff,0,none⟩) 1 cf] 162 #[.int .i64 0,.int .i64 0,.slice none 0 0,.slice none 0 0,.slice none 0 0] 162
 rw [← hW_,← hg2.out,← hg1.out]
 have HB := Aside0.mk hb_
 clear hW_ hb_
 have GZ : Aside0 (w.heap.size ≤ g2) := ⟨by have := hg2.out; omega⟩
 have HC : Aside0 (W1.cell? ⟨ln,0,none⟩ = some (.int .i64 k)) := ⟨pw_cell_below HB.out HL.out⟩
 refine st_ 9 (fun w' => w'.cell? ⟨g1,0,none⟩ = some (.int .i64 4) ∧ w'.cell? ⟨g1,1,none⟩ = some (.int .i64 2) ∧ w'.cell? ⟨g1,2,none⟩ = some (.slice (some ⟨oo,0,none⟩) 1 co) ∧ w'.cell? ⟨g1,3,none⟩ = some (.slice (some ⟨ln,0,none⟩) 1 cl) ∧ w'.cell? ⟨g1,4,none⟩ = some (.slice (some ⟨ff,0,none⟩) 1 cf) ∧ w'.cell? ⟨ln,0,none⟩ = some (.int .i64 k)) [] ⟨(cD HX 0 rfl),(cD HX 1 rfl),(cD HX 2 rfl),(cD HX 3 rfl),(cD HX 4 rfl),(pw_cell_below (below_drew (Below.refl _ _)) HC.out)⟩ fun hHeld => ?_
 refine with_tabW tcount.tab1 tcount.bits1 (fun HT_ HW_ => ?_)
 replace HX := mD HX
 replace HZ := mD HZ
 replace HB := bD HB
 replace HC := Aside0.mk (pw_cell_below (below_drew (Below.refl _ _)) HC.out)
 generalize W1.drew = wd1 at *
 refine pa_ 0 5 HT_ ?_
 refine pa_ 6 11 HT_ ?_
 refine ta_ 1 6 HT_ HW_ hHeld ?_
 refine ta_ 2 7 HT_ HW_ hHeld ?_
 refine ta_ 7 12 HT_ HW_ hHeld ?_
 refine on_ 3 HT_ fun K hK => ?_
 refine gc_ Tryz.func145 #[.agg #[.int .i64 4,.int .i64 2,.slice (some ⟨oo,0,none⟩) 1 co,.slice (some ⟨ln,0,none⟩) 1 cl,.slice (some ⟨ff,0,none⟩) 1 cf]] ?_
 with_reducible refine (tlast_calls oo co ln cl ff cf _).mono ?_
 rintro e_ wa ⟨rfl,hb⟩
 refine ⟨_,rfl,?_⟩
 replace HX := mb HX hb
 replace HZ := mb HZ hb
 replace HC := Aside0.mk (pw_cell_below hb HC.out)
 replace HB := mS HB hb
 clear hb
 refine hK.out _ _ ⟨(cL HX 0 rfl),(cL HX 1 rfl),(cL HX 2 rfl),(cL HX 3 rfl),(cL HX 4 rfl),HC.out⟩ (fun hHeld => ?_)
 clear hK K
 refine no_ 8 ?_
 refine pa_ 4 9 HT_ ?_
 refine ta_ 5 10 HT_ HW_ hHeld ?_
 refine pa_ 8 13 HT_ ?_
 refine dn_ HT_ ?_
 clear HT_ HW_ hHeld
 go_wp2_with (refine lr_ 1 HX.out Tryz.underlying162 ?_)
 refine (town_calls oo co ln cl ff cf k x _ (pw_cell_below HB.out HO.out) HC.out (pw_cell_below HB.out HF.out)).mono ?_
 rintro e_ W2 ⟨ao,al,af,rfl,hn,h1,h2,h3,hb⟩
 have HN := Aside0.mk hn
 have HAO := Aside0.mk h1
 have HAL := Aside0.mk h2
 have HAF := Aside0.mk h3
 have GB := Aside0.mk HB.out.size
 replace HZ := mb HZ hb
 replace HB := mS HB hb
 clear hn h1 h2 h3 hb HX HC
 go_upto_region 4 with fail
 have HLT := Aside0.mk (blk_lt HZ.out)
 have HGAL : Aside0 (w.heap.size ≤ al) := ⟨Nat.le_trans GB.out HN.out.2.1⟩
 obtain ⟨W3,g4,hW_,hg4,H4,hb_⟩ := new1 W2 #[.int .i64 4,.int .i64 2,.slice (some ⟨ao,0,none⟩) 1 1,.slice (some ⟨al,0,none⟩) 1 1,.slice (some ⟨af,0,none⟩) 1 1] 162
 rw [← hW_,← hg4.out]
 replace HZ := mb HZ hb_
 replace HAO := mb HAO hb_
 replace HAL := mb HAL hb_
 replace HAF := mb HAF hb_
 replace HB := Aside0.mk (below_step (HB.out) hb_)
 clear hW_ hb_
 have HC : Aside0 (W3.cell? ⟨al,0,none⟩ = some (.int .i64 k)) := ⟨cL HAL 0 rfl⟩
 have N42 : Aside0 (g2 ≠ g4) := ⟨by rw [hg4.out]; exact Nat.ne_of_lt HLT.out⟩
 have hw_ : IntKind.i64.wrap (k + 1) = k + 1 := by have := HK.out; rw [IntKind.wrap_i64]; omega
 refine st_ 9 (fun w' => w'.cell? ⟨g4,0,none⟩ = some (.int .i64 4) ∧ w'.cell? ⟨g4,1,none⟩ = some (.int .i64 2) ∧ w'.cell? ⟨g4,2,none⟩ = some (.slice (some ⟨ao,0,none⟩) 1 1) ∧ w'.cell? ⟨g4,3,none⟩ = some (.slice (some ⟨al,0,none⟩) 1 1) ∧ w'.cell? ⟨g4,4,none⟩ = some (.slice (some ⟨af,0,none⟩) 1 1) ∧ w'.cell? ⟨al,0,none⟩ = some (.int .i64 k)) [8] ⟨(cD H4 0 rfl),(cD H4 1 rfl),(cD H4 2 rfl),(cD H4 3 rfl),(cD H4 4 rfl),(cD HAL 0 rfl)⟩ fun hHeld => ?_
 refine with_tabW tcount.tab4 tcount.bits4 (fun HT_ HW_ => ?_)
 replace H4 := mD H4
 replace HZ := mD HZ
 replace HAO := mD HAO
 replace HAL := mD HAL
 replace HAF := mD HAF
 replace HB := bD HB
 generalize W3.drew = wd1 at *
 refine pa_ 0 17 HT_ ?_
 refine ta_ 1 18 HT_ HW_ hHeld ?_
 refine ta_ 2 19 HT_ HW_ hHeld ?_
 refine on_ 3 HT_ fun K hK => ?_
 refine gc_ Tryz.func145 #[.agg #[.int .i64 4,.int .i64 2,.slice (some ⟨ao,0,none⟩) 1 1,.slice (some ⟨al,0,none⟩) 1 1,.slice (some ⟨af,0,none⟩) 1 1]] ?_
 with_reducible refine (tlast_calls ao 1 al 1 af 1 _).mono ?_
 rintro e_ wa ⟨rfl,hb⟩
 refine ⟨_,rfl,?_⟩
 replace H4 := mb H4 hb
 replace HZ := mb HZ hb
 replace HAO := mb HAO hb
 replace HAL := mb HAL hb
 replace HAF := mb HAF hb
 replace HB := mS HB hb
 clear hb
 refine hK.out _ _ ⟨(cL H4 0 rfl),(cL H4 1 rfl),(cL H4 2 rfl),(cL H4 3 rfl),(cL H4 4 rfl),(cL HAL 0 rfl)⟩ (fun hHeld => ?_)
 clear hK K
 refine no_ 20 ?_
 refine pa_ 4 21 HT_ ?_
 refine ta_ 5 22 HT_ HW_ hHeld ?_
 refine pa_ 6 23 HT_ ?_
 refine pa_ 7 24 HT_ ?_
 refine la_ 8 HT_ fun K hK => ?_
 have f0 := blk_frozen HAL.out 0
 have y0 : wa.cell? ⟨al,0,none⟩ = some (.int .i64 k) := cL HAL 0 rfl
 refine skip_ (w1 := ?_) (by rfl) rfl ?_ ?_
 rotate_left
 ·go_simp
  rfl
 clear f0 y0
 refine hK.out _ _ ?_
 clear hK K
 refine dn_ HT_ ?_
 clear HT_ HW_ hHeld
 rw [setCell_eq_setRow _ al 0 _ _ _ _ HAL.out]
 obtain ⟨W5,hW⟩ : ∃ W_,W_ = wa.setRow al #[.int .i64 (k + 1)] := ⟨_,rfl⟩
 change Exit.then _ _ Exit.normal _ (wa.setRow al #[.int .i64 (k + 1)])
 rw [← hW]
 have q_ := mR #[.int .i64 (k + 1)] H4.out (tne H4.out HAL.out (by decide))
 rw [← hW] at q_
 replace H4 := Aside0.mk q_
 clear q_
 have q_ := mR #[.int .i64 (k + 1)] HZ.out (tne HZ.out HAL.out (by decide))
 rw [← hW] at q_
 replace HZ := Aside0.mk q_
 clear q_
 have q_ := mR #[.int .i64 (k + 1)] HAO.out HN.out.2.2.2
 rw [← hW] at q_
 replace HAO := Aside0.mk q_
 clear q_
 have q_ := mR #[.int .i64 (k + 1)] HAF.out (tne HAF.out HAL.out (by decide))
 rw [← hW] at q_
 replace HAF := Aside0.mk q_
 clear q_
 have q_ := below_setRow HB.out HGAL.out #[.int .i64 (k + 1)]
 rw [← hW] at q_
 replace HB := Aside0.mk q_
 clear q_
 have q_ := setRow_heap wa al _ #[.int .i64 (k + 1)] _ _ HAL.out
 rw [← hW] at q_
 replace HAL := Aside0.mk q_
 clear q_
 clear hW
 go_wp2_with (first | (refine lr_ 4 H4.out Tryz.underlying162 ?_) | (refine sr_ 2 25 #[.int .i64 4,.int .i64 2,.slice (some ⟨ao,0,none⟩) 1 1,.slice (some ⟨al,0,none⟩) 1 1,.slice (some ⟨af,0,none⟩) 1 1] HZ.out ?_))
 refine bodyPost_ret (results_ct rfl _ _ g2 162 #[.int .i64 4,.int .i64 2,.slice (some ⟨ao,0,none⟩) 1 1,.slice (some ⟨al,0,none⟩) 1 1,.slice (some ⟨af,0,none⟩) 1 1] (0,0) _ rfl (setRow_heap _ _ _ _ _ _ HZ.out) Tryz.underlying162 rfl (by kernel_rfl)) rfl ?_
 exact ⟨ao,al,af,rfl,⟨Nat.le_trans GB.out HN.out.1,HGAL.out,Nat.le_trans GB.out HN.out.2.2.1,HN.out.2.2.2⟩,mR _ HAO.out (tne HAO.out HZ.out (by decide)),mR _ HAL.out (tne HAL.out HZ.out (by decide)),mR _ HAF.out (tne HAF.out HZ.out (by decide)),below_setRow HB.out GZ.out _⟩
end Go.Proofs.YtokfjbbjkiilmaaGreatDoor.H
namespace Go.Proofs.YtokfjbbjkiilmaaGreatDoor.H
open Go.RowKit Go.Proofs.YtokfjbbjkiilmaaGreatDoorW.PrintWords Go.Proofs.YtokfjbbjkiilmaaGreatDoorW.PrintLast Go.Proofs.YtokfjbbjkiilmaaGreatDoorW.PrintMore
set_option maxHeartbeats 8000000
set_option maxRecDepth 100000
attribute [local go_sem] max2_int min2_int min_two max_two
theorem slmust_ok (w : World) :
 Calls Tryz.prog 189 #[.int .i64 0] w fun e w' => e = .returned (.tuple #[]) ∧ w' = w := by
 go_enter Tryz.func189,Tryz.ntmps189
 go_wp2_with fail
 exact end0 rfl rfl ⟨rfl,rfl⟩
theorem slcaught_idle (p : Addr) (w : World) :
 CallsD Tryz.prog 188 #[.pointer (some p)] .returning w fun e u' w' => e = .returned (.tuple #[]) ∧ u' = .returning ∧ Below w.heap.size w w' := by
 have hta : (Instr.typeAssert .nilIface 20 329 true).run Tryz.prog w = .ok (.tuple #[.agg #[.int .i64 0],.bool false]) w := by kernel_rfl
 refine callsD_of_wpS Tryz.func188 rfl fun c₀ cs hu => ?_
 apply wpS_seq
 refine wpS_lit _ ?_
 simp only [Tryz.ntmps188]
 refine wpS_none (w' := w) (by rfl) (by rfl) (by simp [recoverD,hu]) ?_
 refine wpS_val (v := .tuple #[.agg #[.int .i64 0],.bool false]) (w' := w) (by rfl) (by go_simp) ?_
 refine wpS_val (v := .tuple #[.agg #[.int .i64 0],.bool false]) (w' := w) (by rfl) (by go_simp) ?_
 refine wpS_val (v := .agg #[.int .i64 0]) (w' := w) (by rfl) (by go_simp) ?_
 refine wpS_val (v := .bool false) (w' := w) (by rfl) (by go_simp) ?_
 refine wpS_val (v := .pointer (some ⟨w.heap.size,0,none⟩)) (w' := w.alloc (.cells #[.int .i64 0] 329)) (by rfl) (by go_simp) ?_
 refine wpS_skip (w' := w.alloc (.cells #[.int .i64 0] 329)) (by rfl) (by go_simp) ?_
 refine wpS_val (v := .bool false) (w' := w.alloc (.cells #[.int .i64 0] 329)) (by rfl) (by go_simp) ?_
 refine wpS_nil ?_
 simp only [Exit.thenS]
 apply wpS_seq
 refine wpS_lit _ ?_
 refine wpS_val (v := .bool false) (w' := w.alloc (.cells #[.int .i64 0] 329)) (by rfl) (by go_simp) ?_
 refine wpS_nil ?_
 simp only [Exit.thenS]
 refine wpS_cond (t := false) (by go_simp) ?_
 simp only [Bool.false_eq_true,if_false]
 refine wpS_of_wp (wp_skip ?_)
 have hb := below_alloc (Below.refl w.heap.size w) (.cells #[.int .i64 0] 329)
 cases c₀
 simp_all [bodyPostS,results,Tryz.results188,Act.put]
theorem comust_ok (w : World) :
 Calls Tryz.prog 95 #[.int .i64 0] w fun e w' => e = .returned (.tuple #[]) ∧ w' = w := by
 go_enter Tryz.func95,Tryz.ntmps95
 go_wp2_with fail
 exact end0 rfl rfl ⟨rfl,rfl⟩
theorem cocaught_idle (p : Addr) (w : World) :
 CallsD Tryz.prog 93 #[.pointer (some p)] .returning w fun e u' w' => e = .returned (.tuple #[]) ∧ u' = .returning ∧ Below w.heap.size w w' := by
 have hta : (Instr.typeAssert .nilIface 20 223 true).run Tryz.prog w = .ok (.tuple #[.agg #[.int .i64 0],.bool false]) w := by kernel_rfl
 refine callsD_of_wpS Tryz.func93 rfl fun c₀ cs hu => ?_
 apply wpS_seq
 refine wpS_lit _ ?_
 simp only [Tryz.ntmps93]
 refine wpS_none (w' := w) (by rfl) (by rfl) (by simp [recoverD,hu]) ?_
 refine wpS_val (v := .tuple #[.agg #[.int .i64 0],.bool false]) (w' := w) (by rfl) (by go_simp) ?_
 refine wpS_val (v := .tuple #[.agg #[.int .i64 0],.bool false]) (w' := w) (by rfl) (by go_simp) ?_
 refine wpS_val (v := .agg #[.int .i64 0]) (w' := w) (by rfl) (by go_simp) ?_
 refine wpS_val (v := .bool false) (w' := w) (by rfl) (by go_simp) ?_
 refine wpS_val (v := .pointer (some ⟨w.heap.size,0,none⟩)) (w' := w.alloc (.cells #[.int .i64 0] 223)) (by rfl) (by go_simp) ?_
 refine wpS_skip (w' := w.alloc (.cells #[.int .i64 0] 223)) (by rfl) (by go_simp) ?_
 refine wpS_val (v := .bool false) (w' := w.alloc (.cells #[.int .i64 0] 223)) (by rfl) (by go_simp) ?_
 refine wpS_nil ?_
 simp only [Exit.thenS]
 apply wpS_seq
 refine wpS_lit _ ?_
 refine wpS_val (v := .bool false) (w' := w.alloc (.cells #[.int .i64 0] 223)) (by rfl) (by go_simp) ?_
 refine wpS_nil ?_
 simp only [Exit.thenS]
 refine wpS_cond (t := false) (by go_simp) ?_
 simp only [Bool.false_eq_true,if_false]
 refine wpS_of_wp (wp_skip ?_)
 have hb := below_alloc (Below.refl w.heap.size w) (.cells #[.int .i64 0] 223)
 cases c₀
 simp_all [bodyPostS,results,Tryz.results93,Act.put]
theorem clone113 (oo co : Nat) (v : Int) (w : World) (ho : w.cell? ⟨oo,0,none⟩ = some (.int .i64 v)) : Calls Tryz.prog 143 #[.slice (some ⟨oo,0,none⟩) 1 co] w fun e w' => ∃ g cp : Nat,e = .returned (.slice (some ⟨g,0,none⟩) 1 cp) ∧ w'.cell? ⟨g,0,none⟩ = some (.int .i64 v) ∧ w.heap.size ≤ g ∧ Below w.heap.size w w' := by
 obtain ⟨i,h1,h2,h3,h4⟩ := infoE (P := Tryz.prog) (t := 3) (n := 1) (b := 8) (z := .int .i64 0) (by kernel_rfl)
 refine (Tryz.slices_Clone_f143 i (.int .i64 0) 1 8 h1 h2 h3 h4 rfl (by decide) (fun w => by simp [sizeOf,typeInfo,h1,h3]) oo 0 1 co [.int .i64 v] w rfl (by decide) (by decide) (fun j u hj => by rcases j with _ | j <;> simp at hj; subst hj; exact ho) (fun u hu => by simp at hu; subst hu; rfl)).mono ?_
 rintro e w' ⟨v',rfl,⟨_,h⟩,hn,hb⟩
 rcases h with ⟨rfl,h⟩ | ⟨g,cap,cur,rfl,hg,hh,c1,c2,c3,c4⟩
 ·exact absurd rfl hn
 ·refine ⟨g,cap,rfl,?_,hg,hb⟩
  rw [blk_cell hh,← Array.getElem?_toList]
  have h0 : (cur.toList.take (1 * 1))[0]? = some (.int .i64 v) := by rw [c4]; rfl
  rwa [List.getElem?_take_of_lt (by decide)] at h0
theorem clone160 (oo co : Nat) (v : Int) (w : World) (ho : w.cell? ⟨oo,0,none⟩ = some (.int .u64 v)) : Calls Tryz.prog 144 #[.slice (some ⟨oo,0,none⟩) 1 co] w fun e w' => ∃ g cp : Nat,e = .returned (.slice (some ⟨g,0,none⟩) 1 cp) ∧ w'.cell? ⟨g,0,none⟩ = some (.int .u64 v) ∧ w.heap.size ≤ g ∧ Below w.heap.size w w' := by
 obtain ⟨i,h1,h2,h3,h4⟩ := infoE (P := Tryz.prog) (t := 35) (n := 1) (b := 8) (z := .int .u64 0) (by kernel_rfl)
 refine (Tryz.slices_Clone_f144 i (.int .u64 0) 1 8 h1 h2 h3 h4 rfl (by decide) (fun w => by simp [sizeOf,typeInfo,h1,h3]) oo 0 1 co [.int .u64 v] w rfl (by decide) (by decide) (fun j u hj => by rcases j with _ | j <;> simp at hj; subst hj; exact ho) (fun u hu => by simp at hu; subst hu; rfl)).mono ?_
 rintro e w' ⟨v',rfl,⟨_,h⟩,hn,hb⟩
 rcases h with ⟨rfl,h⟩ | ⟨g,cap,cur,rfl,hg,hh,c1,c2,c3,c4⟩
 ·exact absurd rfl hn
 ·refine ⟨g,cap,rfl,?_,hg,hb⟩
  rw [blk_cell hh,← Array.getElem?_toList]
  have h0 : (cur.toList.take (1 * 1))[0]? = some (.int .u64 v) := by rw [c4]; rfl
  rwa [List.getElem?_take_of_lt (by decide)] at h0
theorem at_calls (d oo co ln cl ff cf : Nat) (lsn ep gen : Int) (w : World) :
 Calls Tryz.prog 140 #[.pointer (some ⟨d,0,none⟩),.agg #[.int .i64 4,.int .i64 2,.slice (some ⟨oo,0,none⟩) 1 co,.slice (some ⟨ln,0,none⟩) 1 cl,.slice (some ⟨ff,0,none⟩) 1 cf],.int .u64 lsn,.int .u32 ep,.int .u64 gen] w fun e w' => ∃ l : Nat,e = .returned (.pointer (some ⟨l,0,none⟩)) ∧ w.heap.size ≤ l ∧ w'.heap[l]? = some (.cells #[.pointer (some ⟨d,0,none⟩),.int .i64 4,.int .i64 2,.slice (some ⟨oo,0,none⟩) 1 co,.slice (some ⟨ln,0,none⟩) 1 cl,.slice (some ⟨ff,0,none⟩) 1 cf,.int .u64 lsn,.int .u32 ep,.int .u64 gen] 242 (0,0)) ∧ Below w.heap.size w w' := by
 go_enter Tryz.func140,Tryz.ntmps140
 go_upto_region 1 with fail
 obtain ⟨W1,g6,hW_,hg6,HX,hb_⟩ := new1 w #[.int .i64 4,.int .i64 2,.slice (some ⟨oo,0,none⟩) 1 co,.slice (some ⟨ln,0,none⟩) 1 cl,.slice (some ⟨ff,0,none⟩) 1 cf] 162
 rw [← hW_,← hg6.out]
 have HB := Aside0.mk hb_
 clear hW_ hb_
 go_wp2_with (refine lr_ 6 HX.out Tryz.underlying162 ?_)
 go_ret
 exact ⟨W1.heap.size,rfl,HB.out.size,blk_new _ _,below_alloc HB.out _⟩
def lopen.T1 : Bool × List (List Nat × List Nat) := (true,[([],[]),([0],[0]),([1],[1]),([2],[2]),([3],[3]),([],[]),([5],[5]),([6],[6]),([7],[7]),([8],[8]),([9],[9]),([10],[10]),([4,11],[4,11]),([12],[12]),([13,0,1,2,3,4,5,6,7,8,9,10,11,12,13],[13])])
def lopen.B1 : List Nat := [0,1,3,7,15,0,32,96,224,480,992,2016,4095,8191,16383]
theorem lopen.tab1 : rtab .any (opsOf Tryz.f228 1) = lopen.T1 := by kernel_rfl
theorem lopen.bits1 : waitsOk lopen.T1.2 lopen.B1 = true := by kernel_rfl
theorem lopen_calls (l d oo co ln cl ff cf : Nat) (lsn ep gen : Int) (w : World) (hl : w.heap[l]? = some (.cells #[.pointer (some ⟨d,0,none⟩),.int .i64 4,.int .i64 2,.slice (some ⟨oo,0,none⟩) 1 co,.slice (some ⟨ln,0,none⟩) 1 cl,.slice (some ⟨ff,0,none⟩) 1 cf,.int .u64 lsn,.int .u32 ep,.int .u64 gen] 242 (0,0))) (ho : w.cell? ⟨oo,0,none⟩ = some (.int .i64 0)) :
 Calls Tryz.prog 228 #[.pointer (some ⟨l,0,none⟩)] w fun e w' => e = .returned (.int .i64 0) ∧ Below w.heap.size w w' := by
 have HX := Aside0.mk hl
 have HO := Aside0.mk ho
 clear hl ho
 go_enter Tryz.func228,Tryz.ntmps228
 go_upto_region 1 with fail
 have hbd : Below w.heap.size w w.drew := below_drew (Below.refl _ _)
 have u0 : wrap64 0 = 0 := by kernel_rfl
 refine st_ 15 (fun w' => w'.cell? ⟨l,3,none⟩ = some (.slice (some ⟨oo,0,none⟩) 1 co) ∧ w'.cell? ⟨oo,0,none⟩ = some (.int .i64 0)) [] ⟨(cD HX 3 rfl),(pw_cell_below (below_drew (Below.refl _ _)) HO.out)⟩ fun hHeld => ?_
 refine with_tabW lopen.tab1 lopen.bits1 (fun HT_ HW_ => ?_)
 generalize w.drew = wd1 at *
 refine pa_ 0 3 HT_ ?_
 refine pa_ 1 4 HT_ ?_
 refine pa_ 2 5 HT_ ?_
 refine pa_ 3 6 HT_ ?_
 refine pa_ 5 8 HT_ ?_
 refine pa_ 6 9 HT_ ?_
 refine pa_ 7 10 HT_ ?_
 refine pa_ 8 11 HT_ ?_
 refine ta_ 4 7 HT_ HW_ hHeld ?_
 refine ta_ 9 12 HT_ HW_ hHeld ?_
 refine pa_ 10 13 HT_ ?_
 refine pa_ 11 14 HT_ ?_
 refine pa_ 12 15 HT_ ?_
 refine ta_ 13 16 HT_ HW_ hHeld ?_
 refine pa_ 14 2 HT_ ?_
 refine dn_ HT_ ?_
 clear HT_ HW_ hHeld
 go_wp2_with fail
 go_ret
 exact ⟨rfl,hbd⟩
end Go.Proofs.YtokfjbbjkiilmaaGreatDoor.H
