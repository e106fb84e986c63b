/-
table.own: a table with lists of its own.
-/
import Derived.Test.YtbefoehjlgdcgaaTb
namespace Go.Proofs.Ytbefoehjlgdcgaa.H
open Go.RowKit Go.Proofs.YtbefoehjlgdcgaaW.PrintWords Go.Proofs.YtbefoehjlgdcgaaW.PrintLast Go.Proofs.YtbefoehjlgdcgaaW.PrintMore
attribute [local go_sem] min2_int min_two
set_option linter.unusedVariables false
set_option linter.unusedSimpArgs false
def za0 : Array Bool := #[false,false,false,false,false,false,false,false,false,false,false,false,false,false,false]
def za1 : Array Bool := #[true,false,false,false,false,false,false,false,false,false,false,false,false,false,false]
def za2 : Array Bool := #[true,false,false,false,true,false,false,false,false,false,false,false,false,false,false]
def za3 : Array Bool := #[true,false,false,false,true,false,false,false,true,false,false,false,false,false,false]
def za4 : Array Bool := #[true,true,false,false,true,false,false,false,true,false,false,false,false,false,false]
def za5 : Array Bool := #[true,true,true,false,true,false,false,false,true,false,false,false,false,false,false]
def za6 : Array Bool := #[true,true,true,false,true,true,false,false,true,false,false,false,false,false,false]
def za7 : Array Bool := #[true,true,true,false,true,true,true,false,true,false,false,false,false,false,false]
def za8 : Array Bool := #[true,true,true,false,true,true,true,false,true,true,false,false,false,false,false]
def za9 : Array Bool := #[true,true,true,false,true,true,true,false,true,true,true,false,false,false,false]
def za10 : Array Bool := #[true,true,true,true,true,true,true,true,true,true,true,true,true,true,false]
def za11 : Array Bool := #[true,true,true,true,true,true,true,false,true,true,true,false,false,false,false]
def za12 : Array Bool := #[true,true,true,false,true,true,true,true,true,true,true,false,false,false,false]
def za13 : Array Bool := #[true,true,true,false,true,true,true,false,true,true,true,true,false,false,false]
def za14 : Array Bool := #[true,true,true,true,true,true,true,false,true,true,true,false,true,false,false]
def za15 : Array Bool := #[true,true,true,true,true,true,true,true,true,true,true,false,true,false,false]
def za16 : Array Bool := #[true,true,true,true,true,true,true,false,true,true,true,true,true,false,false]
def za17 : Array Bool := #[true,true,true,true,true,true,true,true,true,true,true,false,true,true,false]
def za18 : Array Bool := #[true,true,true,true,true,true,true,true,true,true,true,true,true,false,false]
def za19 : Array Bool := #[true,true,true,true,true,true,true,true,true,true,true,false,false,false,false]
def za20 : Array Bool := #[true,true,true,false,true,true,true,true,true,true,true,true,false,false,false]
def za21 : Array Bool := #[true,true,true,true,true,true,true,true,true,true,true,true,false,false,false]
def za22 : Array Bool := #[true,true,true,true,true,true,true,false,true,true,true,true,false,false,false]
def za23 : Array Bool := #[true,true,true,true,true,true,true,true,true,true,true,true,true,true,true]
theorem zaI {α : Type} (l : List α) (i : Nat) (a : α) : l.toArray.setIfInBounds i a = (l.set i a).toArray := List.setIfInBounds_toArray l i a
theorem zas0 {α : Type} (x : α) (l : List α) (a : α) : (x :: l).set 0 a = a :: l := rfl
theorem zas1 {α : Type} (x : α) (l : List α) (i : Nat) (a : α) : (x :: l).set (i + 1) a = x :: l.set i a := rfl
def table_own.T1 : Bool × List (List Nat × List Nat) := (true,[([],[]),([0],[0]),([1],[1]),([2,2],[2]),([],[]),([4],[4]),([5],[5]),([6,6],[6]),([],[]),([8],[8]),([9],[9]),([10,10],[10]),([3,0,1,2,3],[3]),([7,12,0,1,2,3,4,5,6,7,12],[7]),([11,13,0,1,2,3,4,5,6,7,8,9,10,11,12,13],[11])])
def table_own.B1 : List Nat := [0,1,3,7,0,16,48,112,0,256,768,1792,15,4351,16383]
theorem table_own.tab1 : rtab .any (opsOf Try.f43 1) = table_own.T1 := by kernel_rfl
theorem table_own.bits1 : waitsOk table_own.T1.2 table_own.B1 = true := by kernel_rfl
set_option maxHeartbeats 8000000 in
set_option maxRecDepth 100000 in
theorem own_calls (g s : Int) (Ao : Option Addr) (co : Nat) (o : List Int) (Al : Option Addr) (cl : Nat) (l : List Int) (Af : Option Addr) (cf : Nat) (f : List Int) (w : World) (hT : TC w Ao co o Al cl l Af cf f) (hl : o.length ≤ 1000 ∧ l.length ≤ 1000 ∧ f.length ≤ 1000) :
  Calls Try.prog 43 #[.agg #[.int .i64 g,.int .i64 s,.slice Ao o.length co,.slice Al l.length cl,.slice Af f.length cf]] w fun e w' => ∃ A1 d1 A2 d2 A3 d3,e = .returned (.agg #[.int .i64 g,.int .i64 s,.slice A1 o.length d1,.slice A2 l.length d2,.slice A3 f.length d3]) ∧ TR w' w.heap.size A1 d1 o A2 d2 l A3 d3 f ∧ Below w.heap.size w w' := by
 have HT := Aside0.mk hT
 have HL := Aside0.mk hl
 clear hT hl
 go_enter Try.func43,Try.ntmps43
 go_upto_region 1 with fail
 obtain ⟨W1,hW1⟩ : ∃ W1,W1 = (w.alloc (.cells #[.int .i64 g,.int .i64 s,.slice Ao o.length co,.slice Al l.length cl,.slice Af f.length cf] 28)).alloc (.cells #[.int .i64 0,.int .i64 0,.slice none 0 0,.slice none 0 0,.slice none 0 0] 28) := ⟨_,rfl⟩
 rw [← hW1]
 obtain ⟨gr,hgr⟩ : ∃ g,g = w.heap.size + 1 := ⟨_,rfl⟩
 obtain ⟨gs,hgs⟩ : ∃ g,g = w.heap.size := ⟨_,rfl⟩
 have HXs : Aside0 (W1.heap[gs]? = some (.cells #[.int .i64 g,.int .i64 s,.slice Ao o.length co,.slice Al l.length cl,.slice Af f.length cf] 28 (0,0))) := ⟨by rw [hW1,hgs]; exact blk_alloc (blk_new _ _) _⟩
 have HXr : Aside0 (W1.heap[gr]? = some (.cells #[.int .i64 0,.int .i64 0,.slice none 0 0,.slice none 0 0,.slice none 0 0] 28 (0,0))) := ⟨by rw [hW1,hgr]; have := blk_new (w.alloc (.cells #[.int .i64 g,.int .i64 s,.slice Ao o.length co,.slice Al l.length cl,.slice Af f.length cf] 28)) (.cells #[.int .i64 0,.int .i64 0,.slice none 0 0,.slice none 0 0,.slice none 0 0] 28); simpa using this⟩
 have HB : Aside0 (Below w.heap.size w W1) := ⟨by rw [hW1]; exact below_alloc (below_alloc (Below.refl _ _) _) _⟩
 have HGR : Aside0 (w.heap.size ≤ gr) := ⟨by omega⟩
 have HNE : Aside0 (gs ≠ gr) := ⟨by omega⟩
 rw [← hgr,← hgs]
 clear hW1 hgr hgs
 go_wp2_with fail
 refine start_ (n := 15) (S := fun w' => w'.cell? ⟨gs,2,none⟩ = some (.slice Ao o.length co) ∧ w'.cell? ⟨gs,3,none⟩ = some (.slice Al l.length cl) ∧ w'.cell? ⟨gs,4,none⟩ = some (.slice Af f.length cf)) (ds := []) za0 (by kernel_rfl) rfl rfl ⟨((blk_cell (blk_drew HXs.out) 2).trans rfl),((blk_cell (blk_drew HXs.out) 3).trans rfl),((blk_cell (blk_drew HXs.out) 4).trans rfl)⟩ (fun hHeld => ?_)
 refine with_tabW table_own.tab1 table_own.bits1 (fun HT_ HW_ => ?_)
 replace HXs := Aside0.mk (blk_drew HXs.out)
 replace HXr := Aside0.mk (blk_drew HXr.out)
 replace HB := Aside0.mk (below_drew HB.out)
 generalize W1.drew = wd1 at *
 refine pure_ (i := 0) (N := some 6) (v := ?_) (a' := ?_) za1 rfl rfl (any_of HT_.out (by kernel_rfl)) (fun _ _ _ h => h) (Or.inl ⟨by rfl,?_⟩) ?_ ?_
 rotate_left
 ·intro w'
  go_simp
  with_reducible rfl
 rotate_left
 ·simp only [Act.put,zaI,zas0,zas1,i64_w,i32_w]
  rfl
 refine pure_ (i := 4) (N := some 10) (v := ?_) (a' := ?_) za2 rfl rfl (any_of HT_.out (by kernel_rfl)) (fun _ _ _ h => h) (Or.inl ⟨by rfl,?_⟩) ?_ ?_
 rotate_left
 ·intro w'
  go_simp
  with_reducible rfl
 rotate_left
 ·simp only [Act.put,zaI,zas0,zas1,i64_w,i32_w]
  rfl
 refine pure_ (i := 8) (N := some 14) (v := ?_) (a' := ?_) za3 rfl rfl (any_of HT_.out (by kernel_rfl)) (fun _ _ _ h => h) (Or.inl ⟨by rfl,?_⟩) ?_ ?_
 rotate_left
 ·intro w'
  go_simp
  with_reducible rfl
 rotate_left
 ·simp only [Act.put,zaI,zas0,zas1,i64_w,i32_w]
  rfl
 refine take_ (i := 1) (N := some 7) (v := ?_) (a' := ?_) za4 rfl rfl (take_ofW HT_.out HW_.out (by kernel_rfl)) (fun _ _ _ h => h) (Or.inl ⟨by rfl,?_⟩) hHeld ?_ ?_
 rotate_left
 ·rintro w' ⟨s0,s1,s2⟩
  go_simp
  with_reducible rfl
 rotate_left
 ·simp only [Act.put,zaI,zas0,zas1,i64_w,i32_w]
  rfl
 refine pure_ (i := 2) (N := some 8) (v := ?_) (a' := ?_) za5 rfl rfl (any_of HT_.out (by kernel_rfl)) (fun _ _ _ h => h) (Or.inl ⟨by rfl,?_⟩) ?_ ?_
 rotate_left
 ·intro w'
  go_simp
  with_reducible rfl
 rotate_left
 ·simp only [Act.put,zaI,zas0,zas1,i64_w,i32_w]
  rfl
 refine take_ (i := 5) (N := some 11) (v := ?_) (a' := ?_) za6 rfl rfl (take_ofW HT_.out HW_.out (by kernel_rfl)) (fun _ _ _ h => h) (Or.inl ⟨by rfl,?_⟩) hHeld ?_ ?_
 rotate_left
 ·rintro w' ⟨s0,s1,s2⟩
  go_simp
  with_reducible rfl
 rotate_left
 ·simp only [Act.put,zaI,zas0,zas1,i64_w,i32_w]
  rfl
 refine pure_ (i := 6) (N := some 12) (v := ?_) (a' := ?_) za7 rfl rfl (any_of HT_.out (by kernel_rfl)) (fun _ _ _ h => h) (Or.inl ⟨by rfl,?_⟩) ?_ ?_
 rotate_left
 ·intro w'
  go_simp
  with_reducible rfl
 rotate_left
 ·simp only [Act.put,zaI,zas0,zas1,i64_w,i32_w]
  rfl
 refine take_ (i := 9) (N := some 15) (v := ?_) (a' := ?_) za8 rfl rfl (take_ofW HT_.out HW_.out (by kernel_rfl)) (fun _ _ _ h => h) (Or.inl ⟨by rfl,?_⟩) hHeld ?_ ?_
 rotate_left
 ·rintro w' ⟨s0,s1,s2⟩
  go_simp
  with_reducible rfl
 rotate_left
 ·simp only [Act.put,zaI,zas0,zas1,i64_w,i32_w]
  rfl
 refine pure_ (i := 10) (N := some 16) (v := ?_) (a' := ?_) za9 rfl rfl (any_of HT_.out (by kernel_rfl)) (fun _ _ _ h => h) (Or.inl ⟨by rfl,?_⟩) ?_ ?_
 rotate_left
 ·intro w'
  go_simp
  with_reducible rfl
 rotate_left
 ·simp only [Act.put,zaI,zas0,zas1,i64_w,i32_w]
  rfl
 refine join_ (σ := Value × Value × Value) 1 za10 (fun s_ => [(9,s_.1),(13,s_.2.1),(17,s_.2.2),(3,s_.1),(4,s_.2.1)]) (fun s_ w' => Kd.R (Kd.int .i64) 3 w' w.heap.size (fun _ => True) s_.1 (List.replicate o.length 0) ∧ Kd.R (Kd.int .i64) 3 w' w.heap.size (fun _ => True) s_.2.1 (List.replicate l.length 0) ∧ Kd.R (Kd.int .u64) 23 w' w.heap.size (fun _ => True) s_.2.2 (List.replicate f.length 0) ∧ s_.1.ownBlock ≠ s_.2.1.ownBlock ∧ w'.heap[gs]? = some (.cells #[.int .i64 g,.int .i64 s,.slice Ao o.length co,.slice Al l.length cl,.slice Af f.length cf] 28 (0,0)) ∧ w'.heap[gr]? = some (.cells #[.int .i64 0,.int .i64 0,.slice none 0 0,.slice none 0 0,.slice none 0 0] 28 (0,0)) ∧ Below w.heap.size w w') ?_ ?_
 rotate_left
 ·intro hCont
  refine three_ (i := 3) (j := 7) (k := 11) (Ni := some 9) (Nj := some 13) (Nk := some 17) za11 za12 za13 rfl rfl rfl rfl rfl rfl (three_of HT_.out (by kernel_rfl)) (by decide) (by decide) (by decide) (fun K hK => ?_) (fun K hK => ?_) (fun K hK => ?_)
  ·skip
   refine Kd.R_make_step (Kd.int .i64) wd1.heap.size 3 (by rfl) (N := 9) ?hd 25 (.tmp 8) (.tmp 8) rfl (o.length : Int) rfl rfl Try.underlying25 (.int .i64 0) 8 info3 rfl (by decide) (by decide) 0 (ok := fun _ => True) (okp := fun _ => False) rfl (fun _ hk => hk.elim) trivial (by omega) (by have := HL.out; omega) (Below.refl _ _) (Nat.le_refl _) ?_
   case hd => rfl
   intro vo wf1 ho hb hg_ hnew_
   rw [Int.toNat_natCast] at ho
   have HVo := Aside0.mk (Kd.R_lower ho (below_size HB.out))
   clear hg_ hnew_
   replace HXs := mB HXs hb
   replace HXr := mB HXr hb
   replace HB := mS HB hb
   clear ho hb
   refine hK.out _ _ ⟨(cL HXs 2 rfl),(cL HXs 3 rfl),(cL HXs 4 rfl)⟩ (fun hHeld => ?_)
   clear hK K
   refine norm_ (a' := ?_) ?_ ?_
   rotate_left
   ·show Act.put _ (some 9) _ = _
    simp only [Act.put,zaI,zas0,zas1,i64_w,i32_w]
    rfl
   refine pure_ (i := 12) (N := some 3) (v := ?_) (a' := ?_) za14 rfl rfl (any_of HT_.out (by kernel_rfl)) (fun _ _ _ h => h) (Or.inl ⟨by rfl,?_⟩) ?_ ?_
   rotate_left
   ·intro w'
    go_simp
    with_reducible rfl
   rotate_left
   ·simp only [Act.put,zaI,zas0,zas1,i64_w,i32_w]
    rfl
   refine two_ (i := 7) (j := 11) (Ni := some 13) (Nj := some 17) za15 za16 rfl rfl rfl rfl (two_of HT_.out (by kernel_rfl)) (by decide) (by decide) (fun K hK => ?_) (fun K hK => ?_)
   ·skip
    refine Kd.R_make_step (Kd.int .i64) wf1.heap.size 3 (by rfl) (N := 13) ?hd 25 (.tmp 12) (.tmp 12) rfl (l.length : Int) rfl rfl Try.underlying25 (.int .i64 0) 8 info3 rfl (by decide) (by decide) 0 (ok := fun _ => True) (okp := fun _ => False) rfl (fun _ hk => hk.elim) trivial (by omega) (by have := HL.out; omega) (Below.refl _ _) (Nat.le_refl _) ?_
    case hd => rfl
    intro vl wf2 ho hb hg_ hnew_
    rw [Int.toNat_natCast] at ho
    have HVl := Aside0.mk (Kd.R_lower ho (below_size HB.out))
    have HOL : Aside0 (vo.ownBlock ≠ vl.ownBlock) := ⟨fun e_ => by obtain ⟨b_,h1_,h2_⟩ := hnew_; have := Kd.R_lt HVo.out b_ (e_.trans h1_); omega⟩
    clear hg_ hnew_
    replace HVo := Aside0.mk (Kd.R_below HVo.out hb)
    replace HXs := mB HXs hb
    replace HXr := mB HXr hb
    replace HB := mS HB hb
    clear ho hb
    refine hK.out _ _ ⟨(cL HXs 2 rfl),(cL HXs 3 rfl),(cL HXs 4 rfl)⟩ (fun hHeld => ?_)
    clear hK K
    refine norm_ (a' := ?_) ?_ ?_
    rotate_left
    ·show Act.put _ (some 13) _ = _
     simp only [Act.put,zaI,zas0,zas1,i64_w,i32_w]
     rfl
    refine pure_ (i := 13) (N := some 4) (v := ?_) (a' := ?_) za17 rfl rfl (any_of HT_.out (by kernel_rfl)) (fun _ _ _ h => h) (Or.inl ⟨by rfl,?_⟩) ?_ ?_
    rotate_left
    ·intro w'
     go_simp
     with_reducible rfl
    rotate_left
    ·simp only [Act.put,zaI,zas0,zas1,i64_w,i32_w]
     rfl
    refine one_ (i := 11) (N := some 17) za10 rfl rfl (one_of HT_.out (by kernel_rfl)) (by decide) (fun K hK => ?_)
    refine Kd.R_make_step (Kd.int .u64) wf2.heap.size 23 (by rfl) (N := 17) ?hd 26 (.tmp 16) (.tmp 16) rfl (f.length : Int) rfl rfl Try.underlying26 (.int .u64 0) 8 info23 rfl (by decide) (by decide) 0 (ok := fun _ => True) (okp := fun _ => False) rfl (fun _ hk => hk.elim) trivial (by omega) (by have := HL.out; omega) (Below.refl _ _) (Nat.le_refl _) ?_
    case hd => rfl
    intro vf wf3 ho hb hg_ hnew_
    rw [Int.toNat_natCast] at ho
    have HVf := Aside0.mk (Kd.R_lower ho (below_size HB.out))
    clear hg_ hnew_
    replace HVo := Aside0.mk (Kd.R_below HVo.out hb)
    replace HVl := Aside0.mk (Kd.R_below HVl.out hb)
    replace HXs := mB HXs hb
    replace HXr := mB HXr hb
    replace HB := mS HB hb
    clear ho hb
    refine hK.out _ _ ⟨(cL HXs 2 rfl),(cL HXs 3 rfl),(cL HXs 4 rfl)⟩ (fun hHeld => ?_)
    clear hK K
    refine norm_ (a' := ?_) ?_ ?_
    rotate_left
    ·show Act.put _ (some 17) _ = _
     simp only [Act.put,zaI,zas0,zas1,i64_w,i32_w]
     rfl
    exact norm_ (by first | (simp only [putAll,Act.put,zaI,zas0,zas1]; done) | (simp only [putAll,Act.put,zaI,zas0,zas1]; rfl)) (hCont (vo,vl,vf) _ ⟨HVo.out,HVl.out,HVf.out,HOL.out,HXs.out,HXr.out,HB.out⟩)
   ·skip
    refine Kd.R_make_step (Kd.int .u64) wf1.heap.size 23 (by rfl) (N := 17) ?hd 26 (.tmp 16) (.tmp 16) rfl (f.length : Int) rfl rfl Try.underlying26 (.int .u64 0) 8 info23 rfl (by decide) (by decide) 0 (ok := fun _ => True) (okp := fun _ => False) rfl (fun _ hk => hk.elim) trivial (by omega) (by have := HL.out; omega) (Below.refl _ _) (Nat.le_refl _) ?_
    case hd => rfl
    intro vf wf2 ho hb hg_ hnew_
    rw [Int.toNat_natCast] at ho
    have HVf := Aside0.mk (Kd.R_lower ho (below_size HB.out))
    clear hg_ hnew_
    replace HVo := Aside0.mk (Kd.R_below HVo.out hb)
    replace HXs := mB HXs hb
    replace HXr := mB HXr hb
    replace HB := mS HB hb
    clear ho hb
    refine hK.out _ _ ⟨(cL HXs 2 rfl),(cL HXs 3 rfl),(cL HXs 4 rfl)⟩ (fun hHeld => ?_)
    clear hK K
    refine norm_ (a' := ?_) ?_ ?_
    rotate_left
    ·show Act.put _ (some 17) _ = _
     simp only [Act.put,zaI,zas0,zas1,i64_w,i32_w]
     rfl
    refine one_ (i := 7) (N := some 13) za18 rfl rfl (one_of HT_.out (by kernel_rfl)) (by decide) (fun K hK => ?_)
    refine Kd.R_make_step (Kd.int .i64) wf2.heap.size 3 (by rfl) (N := 13) ?hd 25 (.tmp 12) (.tmp 12) rfl (l.length : Int) rfl rfl Try.underlying25 (.int .i64 0) 8 info3 rfl (by decide) (by decide) 0 (ok := fun _ => True) (okp := fun _ => False) rfl (fun _ hk => hk.elim) trivial (by omega) (by have := HL.out; omega) (Below.refl _ _) (Nat.le_refl _) ?_
    case hd => rfl
    intro vl wf3 ho hb hg_ hnew_
    rw [Int.toNat_natCast] at ho
    have HVl := Aside0.mk (Kd.R_lower ho (below_size HB.out))
    have HOL : Aside0 (vo.ownBlock ≠ vl.ownBlock) := ⟨fun e_ => by obtain ⟨b_,h1_,h2_⟩ := hnew_; have := Kd.R_lt HVo.out b_ (e_.trans h1_); omega⟩
    clear hg_ hnew_
    replace HVo := Aside0.mk (Kd.R_below HVo.out hb)
    replace HVf := Aside0.mk (Kd.R_below HVf.out hb)
    replace HXs := mB HXs hb
    replace HXr := mB HXr hb
    replace HB := mS HB hb
    clear ho hb
    refine hK.out _ _ ⟨(cL HXs 2 rfl),(cL HXs 3 rfl),(cL HXs 4 rfl)⟩ (fun hHeld => ?_)
    clear hK K
    refine norm_ (a' := ?_) ?_ ?_
    rotate_left
    ·show Act.put _ (some 13) _ = _
     simp only [Act.put,zaI,zas0,zas1,i64_w,i32_w]
     rfl
    refine pure_ (i := 13) (N := some 4) (v := ?_) (a' := ?_) za10 rfl rfl (any_of HT_.out (by kernel_rfl)) (fun _ _ _ h => h) (Or.inl ⟨by rfl,?_⟩) ?_ ?_
    rotate_left
    ·intro w'
     go_simp
     with_reducible rfl
    rotate_left
    ·simp only [Act.put,zaI,zas0,zas1,i64_w,i32_w]
     rfl
    exact norm_ (by first | (simp only [putAll,Act.put,zaI,zas0,zas1]; done) | (simp only [putAll,Act.put,zaI,zas0,zas1]; rfl)) (hCont (vo,vl,vf) _ ⟨HVo.out,HVl.out,HVf.out,HOL.out,HXs.out,HXr.out,HB.out⟩)
  ·skip
   refine Kd.R_make_step (Kd.int .i64) wd1.heap.size 3 (by rfl) (N := 13) ?hd 25 (.tmp 12) (.tmp 12) rfl (l.length : Int) rfl rfl Try.underlying25 (.int .i64 0) 8 info3 rfl (by decide) (by decide) 0 (ok := fun _ => True) (okp := fun _ => False) rfl (fun _ hk => hk.elim) trivial (by omega) (by have := HL.out; omega) (Below.refl _ _) (Nat.le_refl _) ?_
   case hd => rfl
   intro vl wf1 ho hb hg_ hnew_
   rw [Int.toNat_natCast] at ho
   have HVl := Aside0.mk (Kd.R_lower ho (below_size HB.out))
   clear hg_ hnew_
   replace HXs := mB HXs hb
   replace HXr := mB HXr hb
   replace HB := mS HB hb
   clear ho hb
   refine hK.out _ _ ⟨(cL HXs 2 rfl),(cL HXs 3 rfl),(cL HXs 4 rfl)⟩ (fun hHeld => ?_)
   clear hK K
   refine norm_ (a' := ?_) ?_ ?_
   rotate_left
   ·show Act.put _ (some 13) _ = _
    simp only [Act.put,zaI,zas0,zas1,i64_w,i32_w]
    rfl
   refine two_ (i := 3) (j := 11) (Ni := some 9) (Nj := some 17) za19 za20 rfl rfl rfl rfl (two_of HT_.out (by kernel_rfl)) (by decide) (by decide) (fun K hK => ?_) (fun K hK => ?_)
   ·skip
    refine Kd.R_make_step (Kd.int .i64) wf1.heap.size 3 (by rfl) (N := 9) ?hd 25 (.tmp 8) (.tmp 8) rfl (o.length : Int) rfl rfl Try.underlying25 (.int .i64 0) 8 info3 rfl (by decide) (by decide) 0 (ok := fun _ => True) (okp := fun _ => False) rfl (fun _ hk => hk.elim) trivial (by omega) (by have := HL.out; omega) (Below.refl _ _) (Nat.le_refl _) ?_
    case hd => rfl
    intro vo wf2 ho hb hg_ hnew_
    rw [Int.toNat_natCast] at ho
    have HVo := Aside0.mk (Kd.R_lower ho (below_size HB.out))
    have HOL : Aside0 (vo.ownBlock ≠ vl.ownBlock) := ⟨fun e_ => by obtain ⟨b_,h1_,h2_⟩ := hnew_; have := Kd.R_lt HVl.out b_ (e_.symm.trans h1_); omega⟩
    clear hg_ hnew_
    replace HVl := Aside0.mk (Kd.R_below HVl.out hb)
    replace HXs := mB HXs hb
    replace HXr := mB HXr hb
    replace HB := mS HB hb
    clear ho hb
    refine hK.out _ _ ⟨(cL HXs 2 rfl),(cL HXs 3 rfl),(cL HXs 4 rfl)⟩ (fun hHeld => ?_)
    clear hK K
    refine norm_ (a' := ?_) ?_ ?_
    rotate_left
    ·show Act.put _ (some 9) _ = _
     simp only [Act.put,zaI,zas0,zas1,i64_w,i32_w]
     rfl
    refine pure_ (i := 12) (N := some 3) (v := ?_) (a' := ?_) za15 rfl rfl (any_of HT_.out (by kernel_rfl)) (fun _ _ _ h => h) (Or.inl ⟨by rfl,?_⟩) ?_ ?_
    rotate_left
    ·intro w'
     go_simp
     with_reducible rfl
    rotate_left
    ·simp only [Act.put,zaI,zas0,zas1,i64_w,i32_w]
     rfl
    refine pure_ (i := 13) (N := some 4) (v := ?_) (a' := ?_) za17 rfl rfl (any_of HT_.out (by kernel_rfl)) (fun _ _ _ h => h) (Or.inl ⟨by rfl,?_⟩) ?_ ?_
    rotate_left
    ·intro w'
     go_simp
     with_reducible rfl
    rotate_left
    ·simp only [Act.put,zaI,zas0,zas1,i64_w,i32_w]
     rfl
    refine one_ (i := 11) (N := some 17) za10 rfl rfl (one_of HT_.out (by kernel_rfl)) (by decide) (fun K hK => ?_)
    refine Kd.R_make_step (Kd.int .u64) wf2.heap.size 23 (by rfl) (N := 17) ?hd 26 (.tmp 16) (.tmp 16) rfl (f.length : Int) rfl rfl Try.underlying26 (.int .u64 0) 8 info23 rfl (by decide) (by decide) 0 (ok := fun _ => True) (okp := fun _ => False) rfl (fun _ hk => hk.elim) trivial (by omega) (by have := HL.out; omega) (Below.refl _ _) (Nat.le_refl _) ?_
    case hd => rfl
    intro vf wf3 ho hb hg_ hnew_
    rw [Int.toNat_natCast] at ho
    have HVf := Aside0.mk (Kd.R_lower ho (below_size HB.out))
    clear hg_ hnew_
    replace HVl := Aside0.mk (Kd.R_below HVl.out hb)
    replace HVo := Aside0.mk (Kd.R_below HVo.out hb)
    replace HXs := mB HXs hb
    replace HXr := mB HXr hb
    replace HB := mS HB hb
    clear ho hb
    refine hK.out _ _ ⟨(cL HXs 2 rfl),(cL HXs 3 rfl),(cL HXs 4 rfl)⟩ (fun hHeld => ?_)
    clear hK K
    refine norm_ (a' := ?_) ?_ ?_
    rotate_left
    ·show Act.put _ (some 17) _ = _
     simp only [Act.put,zaI,zas0,zas1,i64_w,i32_w]
     rfl
    exact norm_ (by first | (simp only [putAll,Act.put,zaI,zas0,zas1]; done) | (simp only [putAll,Act.put,zaI,zas0,zas1]; rfl)) (hCont (vo,vl,vf) _ ⟨HVo.out,HVl.out,HVf.out,HOL.out,HXs.out,HXr.out,HB.out⟩)
   ·skip
    refine Kd.R_make_step (Kd.int .u64) wf1.heap.size 23 (by rfl) (N := 17) ?hd 26 (.tmp 16) (.tmp 16) rfl (f.length : Int) rfl rfl Try.underlying26 (.int .u64 0) 8 info23 rfl (by decide) (by decide) 0 (ok := fun _ => True) (okp := fun _ => False) rfl (fun _ hk => hk.elim) trivial (by omega) (by have := HL.out; omega) (Below.refl _ _) (Nat.le_refl _) ?_
    case hd => rfl
    intro vf wf2 ho hb hg_ hnew_
    rw [Int.toNat_natCast] at ho
    have HVf := Aside0.mk (Kd.R_lower ho (below_size HB.out))
    clear hg_ hnew_
    replace HVl := Aside0.mk (Kd.R_below HVl.out hb)
    replace HXs := mB HXs hb
    replace HXr := mB HXr hb
    replace HB := mS HB hb
    clear ho hb
    refine hK.out _ _ ⟨(cL HXs 2 rfl),(cL HXs 3 rfl),(cL HXs 4 rfl)⟩ (fun hHeld => ?_)
    clear hK K
    refine norm_ (a' := ?_) ?_ ?_
    rotate_left
    ·show Act.put _ (some 17) _ = _
     simp only [Act.put,zaI,zas0,zas1,i64_w,i32_w]
     rfl
    refine one_ (i := 3) (N := some 9) za21 rfl rfl (one_of HT_.out (by kernel_rfl)) (by decide) (fun K hK => ?_)
    refine Kd.R_make_step (Kd.int .i64) wf2.heap.size 3 (by rfl) (N := 9) ?hd 25 (.tmp 8) (.tmp 8) rfl (o.length : Int) rfl rfl Try.underlying25 (.int .i64 0) 8 info3 rfl (by decide) (by decide) 0 (ok := fun _ => True) (okp := fun _ => False) rfl (fun _ hk => hk.elim) trivial (by omega) (by have := HL.out; omega) (Below.refl _ _) (Nat.le_refl _) ?_
    case hd => rfl
    intro vo wf3 ho hb hg_ hnew_
    rw [Int.toNat_natCast] at ho
    have HVo := Aside0.mk (Kd.R_lower ho (below_size HB.out))
    have HOL : Aside0 (vo.ownBlock ≠ vl.ownBlock) := ⟨fun e_ => by obtain ⟨b_,h1_,h2_⟩ := hnew_; have := Kd.R_lt HVl.out b_ (e_.symm.trans h1_); omega⟩
    clear hg_ hnew_
    replace HVl := Aside0.mk (Kd.R_below HVl.out hb)
    replace HVf := Aside0.mk (Kd.R_below HVf.out hb)
    replace HXs := mB HXs hb
    replace HXr := mB HXr hb
    replace HB := mS HB hb
    clear ho hb
    refine hK.out _ _ ⟨(cL HXs 2 rfl),(cL HXs 3 rfl),(cL HXs 4 rfl)⟩ (fun hHeld => ?_)
    clear hK K
    refine norm_ (a' := ?_) ?_ ?_
    rotate_left
    ·show Act.put _ (some 9) _ = _
     simp only [Act.put,zaI,zas0,zas1,i64_w,i32_w]
     rfl
    refine pure_ (i := 12) (N := some 3) (v := ?_) (a' := ?_) za18 rfl rfl (any_of HT_.out (by kernel_rfl)) (fun _ _ _ h => h) (Or.inl ⟨by rfl,?_⟩) ?_ ?_
    rotate_left
    ·intro w'
     go_simp
     with_reducible rfl
    rotate_left
    ·simp only [Act.put,zaI,zas0,zas1,i64_w,i32_w]
     rfl
    refine pure_ (i := 13) (N := some 4) (v := ?_) (a' := ?_) za10 rfl rfl (any_of HT_.out (by kernel_rfl)) (fun _ _ _ h => h) (Or.inl ⟨by rfl,?_⟩) ?_ ?_
    rotate_left
    ·intro w'
     go_simp
     with_reducible rfl
    rotate_left
    ·simp only [Act.put,zaI,zas0,zas1,i64_w,i32_w]
     rfl
    exact norm_ (by first | (simp only [putAll,Act.put,zaI,zas0,zas1]; done) | (simp only [putAll,Act.put,zaI,zas0,zas1]; rfl)) (hCont (vo,vl,vf) _ ⟨HVo.out,HVl.out,HVf.out,HOL.out,HXs.out,HXr.out,HB.out⟩)
  ·skip
   refine Kd.R_make_step (Kd.int .u64) wd1.heap.size 23 (by rfl) (N := 17) ?hd 26 (.tmp 16) (.tmp 16) rfl (f.length : Int) rfl rfl Try.underlying26 (.int .u64 0) 8 info23 rfl (by decide) (by decide) 0 (ok := fun _ => True) (okp := fun _ => False) rfl (fun _ hk => hk.elim) trivial (by omega) (by have := HL.out; omega) (Below.refl _ _) (Nat.le_refl _) ?_
   case hd => rfl
   intro vf wf1 ho hb hg_ hnew_
   rw [Int.toNat_natCast] at ho
   have HVf := Aside0.mk (Kd.R_lower ho (below_size HB.out))
   clear hg_ hnew_
   replace HXs := mB HXs hb
   replace HXr := mB HXr hb
   replace HB := mS HB hb
   clear ho hb
   refine hK.out _ _ ⟨(cL HXs 2 rfl),(cL HXs 3 rfl),(cL HXs 4 rfl)⟩ (fun hHeld => ?_)
   clear hK K
   refine norm_ (a' := ?_) ?_ ?_
   rotate_left
   ·show Act.put _ (some 17) _ = _
    simp only [Act.put,zaI,zas0,zas1,i64_w,i32_w]
    rfl
   refine two_ (i := 3) (j := 7) (Ni := some 9) (Nj := some 13) za22 za20 rfl rfl rfl rfl (two_of HT_.out (by kernel_rfl)) (by decide) (by decide) (fun K hK => ?_) (fun K hK => ?_)
   ·skip
    refine Kd.R_make_step (Kd.int .i64) wf1.heap.size 3 (by rfl) (N := 9) ?hd 25 (.tmp 8) (.tmp 8) rfl (o.length : Int) rfl rfl Try.underlying25 (.int .i64 0) 8 info3 rfl (by decide) (by decide) 0 (ok := fun _ => True) (okp := fun _ => False) rfl (fun _ hk => hk.elim) trivial (by omega) (by have := HL.out; omega) (Below.refl _ _) (Nat.le_refl _) ?_
    case hd => rfl
    intro vo wf2 ho hb hg_ hnew_
    rw [Int.toNat_natCast] at ho
    have HVo := Aside0.mk (Kd.R_lower ho (below_size HB.out))
    clear hg_ hnew_
    replace HVf := Aside0.mk (Kd.R_below HVf.out hb)
    replace HXs := mB HXs hb
    replace HXr := mB HXr hb
    replace HB := mS HB hb
    clear ho hb
    refine hK.out _ _ ⟨(cL HXs 2 rfl),(cL HXs 3 rfl),(cL HXs 4 rfl)⟩ (fun hHeld => ?_)
    clear hK K
    refine norm_ (a' := ?_) ?_ ?_
    rotate_left
    ·show Act.put _ (some 9) _ = _
     simp only [Act.put,zaI,zas0,zas1,i64_w,i32_w]
     rfl
    refine pure_ (i := 12) (N := some 3) (v := ?_) (a' := ?_) za16 rfl rfl (any_of HT_.out (by kernel_rfl)) (fun _ _ _ h => h) (Or.inl ⟨by rfl,?_⟩) ?_ ?_
    rotate_left
    ·intro w'
     go_simp
     with_reducible rfl
    rotate_left
    ·simp only [Act.put,zaI,zas0,zas1,i64_w,i32_w]
     rfl
    refine one_ (i := 7) (N := some 13) za18 rfl rfl (one_of HT_.out (by kernel_rfl)) (by decide) (fun K hK => ?_)
    refine Kd.R_make_step (Kd.int .i64) wf2.heap.size 3 (by rfl) (N := 13) ?hd 25 (.tmp 12) (.tmp 12) rfl (l.length : Int) rfl rfl Try.underlying25 (.int .i64 0) 8 info3 rfl (by decide) (by decide) 0 (ok := fun _ => True) (okp := fun _ => False) rfl (fun _ hk => hk.elim) trivial (by omega) (by have := HL.out; omega) (Below.refl _ _) (Nat.le_refl _) ?_
    case hd => rfl
    intro vl wf3 ho hb hg_ hnew_
    rw [Int.toNat_natCast] at ho
    have HVl := Aside0.mk (Kd.R_lower ho (below_size HB.out))
    have HOL : Aside0 (vo.ownBlock ≠ vl.ownBlock) := ⟨fun e_ => by obtain ⟨b_,h1_,h2_⟩ := hnew_; have := Kd.R_lt HVo.out b_ (e_.trans h1_); omega⟩
    clear hg_ hnew_
    replace HVf := Aside0.mk (Kd.R_below HVf.out hb)
    replace HVo := Aside0.mk (Kd.R_below HVo.out hb)
    replace HXs := mB HXs hb
    replace HXr := mB HXr hb
    replace HB := mS HB hb
    clear ho hb
    refine hK.out _ _ ⟨(cL HXs 2 rfl),(cL HXs 3 rfl),(cL HXs 4 rfl)⟩ (fun hHeld => ?_)
    clear hK K
    refine norm_ (a' := ?_) ?_ ?_
    rotate_left
    ·show Act.put _ (some 13) _ = _
     simp only [Act.put,zaI,zas0,zas1,i64_w,i32_w]
     rfl
    refine pure_ (i := 13) (N := some 4) (v := ?_) (a' := ?_) za10 rfl rfl (any_of HT_.out (by kernel_rfl)) (fun _ _ _ h => h) (Or.inl ⟨by rfl,?_⟩) ?_ ?_
    rotate_left
    ·intro w'
     go_simp
     with_reducible rfl
    rotate_left
    ·simp only [Act.put,zaI,zas0,zas1,i64_w,i32_w]
     rfl
    exact norm_ (by first | (simp only [putAll,Act.put,zaI,zas0,zas1]; done) | (simp only [putAll,Act.put,zaI,zas0,zas1]; rfl)) (hCont (vo,vl,vf) _ ⟨HVo.out,HVl.out,HVf.out,HOL.out,HXs.out,HXr.out,HB.out⟩)
   ·skip
    refine Kd.R_make_step (Kd.int .i64) wf1.heap.size 3 (by rfl) (N := 13) ?hd 25 (.tmp 12) (.tmp 12) rfl (l.length : Int) rfl rfl Try.underlying25 (.int .i64 0) 8 info3 rfl (by decide) (by decide) 0 (ok := fun _ => True) (okp := fun _ => False) rfl (fun _ hk => hk.elim) trivial (by omega) (by have := HL.out; omega) (Below.refl _ _) (Nat.le_refl _) ?_
    case hd => rfl
    intro vl wf2 ho hb hg_ hnew_
    rw [Int.toNat_natCast] at ho
    have HVl := Aside0.mk (Kd.R_lower ho (below_size HB.out))
    clear hg_ hnew_
    replace HVf := Aside0.mk (Kd.R_below HVf.out hb)
    replace HXs := mB HXs hb
    replace HXr := mB HXr hb
    replace HB := mS HB hb
    clear ho hb
    refine hK.out _ _ ⟨(cL HXs 2 rfl),(cL HXs 3 rfl),(cL HXs 4 rfl)⟩ (fun hHeld => ?_)
    clear hK K
    refine norm_ (a' := ?_) ?_ ?_
    rotate_left
    ·show Act.put _ (some 13) _ = _
     simp only [Act.put,zaI,zas0,zas1,i64_w,i32_w]
     rfl
    refine one_ (i := 3) (N := some 9) za21 rfl rfl (one_of HT_.out (by kernel_rfl)) (by decide) (fun K hK => ?_)
    refine Kd.R_make_step (Kd.int .i64) wf2.heap.size 3 (by rfl) (N := 9) ?hd 25 (.tmp 8) (.tmp 8) rfl (o.length : Int) rfl rfl Try.underlying25 (.int .i64 0) 8 info3 rfl (by decide) (by decide) 0 (ok := fun _ => True) (okp := fun _ => False) rfl (fun _ hk => hk.elim) trivial (by omega) (by have := HL.out; omega) (Below.refl _ _) (Nat.le_refl _) ?_
    case hd => rfl
    intro vo wf3 ho hb hg_ hnew_
    rw [Int.toNat_natCast] at ho
    have HVo := Aside0.mk (Kd.R_lower ho (below_size HB.out))
    have HOL : Aside0 (vo.ownBlock ≠ vl.ownBlock) := ⟨fun e_ => by obtain ⟨b_,h1_,h2_⟩ := hnew_; have := Kd.R_lt HVl.out b_ (e_.symm.trans h1_); omega⟩
    clear hg_ hnew_
    replace HVf := Aside0.mk (Kd.R_below HVf.out hb)
    replace HVl := Aside0.mk (Kd.R_below HVl.out hb)
    replace HXs := mB HXs hb
    replace HXr := mB HXr hb
    replace HB := mS HB hb
    clear ho hb
    refine hK.out _ _ ⟨(cL HXs 2 rfl),(cL HXs 3 rfl),(cL HXs 4 rfl)⟩ (fun hHeld => ?_)
    clear hK K
    refine norm_ (a' := ?_) ?_ ?_
    rotate_left
    ·show Act.put _ (some 9) _ = _
     simp only [Act.put,zaI,zas0,zas1,i64_w,i32_w]
     rfl
    refine pure_ (i := 12) (N := some 3) (v := ?_) (a' := ?_) za18 rfl rfl (any_of HT_.out (by kernel_rfl)) (fun _ _ _ h => h) (Or.inl ⟨by rfl,?_⟩) ?_ ?_
    rotate_left
    ·intro w'
     go_simp
     with_reducible rfl
    rotate_left
    ·simp only [Act.put,zaI,zas0,zas1,i64_w,i32_w]
     rfl
    refine pure_ (i := 13) (N := some 4) (v := ?_) (a' := ?_) za10 rfl rfl (any_of HT_.out (by kernel_rfl)) (fun _ _ _ h => h) (Or.inl ⟨by rfl,?_⟩) ?_ ?_
    rotate_left
    ·intro w'
     go_simp
     with_reducible rfl
    rotate_left
    ·simp only [Act.put,zaI,zas0,zas1,i64_w,i32_w]
     rfl
    exact norm_ (by first | (simp only [putAll,Act.put,zaI,zas0,zas1]; done) | (simp only [putAll,Act.put,zaI,zas0,zas1]; rfl)) (hCont (vo,vl,vf) _ ⟨HVo.out,HVl.out,HVf.out,HOL.out,HXs.out,HXr.out,HB.out⟩)
 rintro ⟨vo,vl,vf⟩ w3 ⟨h1,h2,h3,h4,h5,h6,h7⟩
 dsimp only at h1 h2 h3 h4
 clear HXs HXr HB
 have HVo := Aside0.mk h1
 have HVl := Aside0.mk h2
 have HVf := Aside0.mk h3
 have HOL := Aside0.mk h4
 have HXs := Aside0.mk h5
 have HXr := Aside0.mk h6
 have HB := Aside0.mk h7
 clear h1 h2 h3 h4 h5 h6 h7
 have hHeld : (fun w' => w'.cell? ⟨gs,2,none⟩ = some (.slice Ao o.length co) ∧ w'.cell? ⟨gs,3,none⟩ = some (.slice Al l.length cl) ∧ w'.cell? ⟨gs,4,none⟩ = some (.slice Af f.length cf)) w3 := ⟨(cL HXs 2 rfl),(cL HXs 3 rfl),(cL HXs 4 rfl)⟩
 refine norm_ (a' := ?_) ?_ ?_
 rotate_left
 ·simp only [putAll,Act.put,zaI,zas0,zas1]
  rfl
 refine pure_ (i := 14) (N := some 5) (v := ?_) (a' := ?_) za23 rfl rfl (any_of HT_.out (by kernel_rfl)) (fun _ _ _ h => h) (Or.inl ⟨by rfl,?_⟩) ?_ ?_
 rotate_left
 ·intro w'
  go_simp
  with_reducible rfl
 rotate_left
 ·simp only [Act.put,zaI,zas0,zas1,i64_w,i32_w]
  rfl
 refine done_ (done_of HT_.out (by kernel_rfl)) ?_
 clear HT_ HW_ hHeld
 obtain ⟨Ao2,co2,eo⟩ := Kd.R_slice HVo.out
 rw [List.length_replicate] at eo
 subst eo
 obtain ⟨Al2,cl2,el⟩ := Kd.R_slice HVl.out
 rw [List.length_replicate] at el
 subst el
 obtain ⟨Af2,cf2,ef⟩ := Kd.R_slice HVf.out
 rw [List.length_replicate] at ef
 subst ef
 have z_o : w3.cell? ⟨gs,2,none⟩ = some (.slice Ao o.length co) := cL HXs 2 rfl
 go_upto_region 3 with ((with_reducible refine gate_dst (N := 21) rfl ?_); refine Kd.R_copy (enc := Value.int .i64) (h1 := fun _ => rfl) (0 : Int) (w0 := w) w.heap.size rfl (.tmp 18) (.tmp 20) 25 25 3 rfl Try.underlying25 (by kernel_rfl) (.slice Ao2 o.length co2) (List.replicate o.length 0) o Ao o.length co (fun _ => True) rfl rfl HVo.out (Kd.C_below HT.out.1.1 HB.out) HB.out (below_size HB.out) ?_; intro w4 hv hb hg; rw [List.length_replicate,Nat.min_self,List.take_length,List.drop_eq_nil_of_le (by simp),List.append_nil] at hv; have q1 : Aside0 (Kd.R (Kd.int .i64) 3 w4 w.heap.size (fun _ => True) (.slice Ao2 o.length co2) o) := ⟨hv⟩; have q2 := Aside0.mk (blk_grown HXs.out hg (Kd.R_ne HVo.out HXs.out (by decide))); have q3 := Aside0.mk (blk_grown HXr.out hg (Kd.R_ne HVo.out HXr.out (by decide))); have q4 := Aside0.mk hb; have pl := Aside0.mk (R_other HVl.out rfl hg (.inl HOL.out)); have pf := Aside0.mk (R_other HVf.out rfl hg (type_ne HVo.out HVf.out (by decide))); clear hv hb hg HXs HXr HB HVo HVl HVf; have HXs := q2; have HXr := q3; have HB := q4; have HVo := q1; have HVl := pl; have HVf := pf; clear q1 q2 q3 q4 pl pf)
 clear z_o
 have z_l : w4.cell? ⟨gs,3,none⟩ = some (.slice Al l.length cl) := cL HXs 3 rfl
 go_upto_region 4 with ((with_reducible refine gate_dst (N := 25) rfl ?_); refine Kd.R_copy (enc := Value.int .i64) (h1 := fun _ => rfl) (0 : Int) (w0 := w) w.heap.size rfl (.tmp 22) (.tmp 24) 25 25 3 rfl Try.underlying25 (by kernel_rfl) (.slice Al2 l.length cl2) (List.replicate l.length 0) l Al l.length cl (fun _ => True) rfl rfl HVl.out (Kd.C_below HT.out.2.1.1 HB.out) HB.out (below_size HB.out) ?_; intro w5 hv hb hg; rw [List.length_replicate,Nat.min_self,List.take_length,List.drop_eq_nil_of_le (by simp),List.append_nil] at hv; have q1 : Aside0 (Kd.R (Kd.int .i64) 3 w5 w.heap.size (fun _ => True) (.slice Al2 l.length cl2) l) := ⟨hv⟩; have q2 := Aside0.mk (blk_grown HXs.out hg (Kd.R_ne HVl.out HXs.out (by decide))); have q3 := Aside0.mk (blk_grown HXr.out hg (Kd.R_ne HVl.out HXr.out (by decide))); have q4 := Aside0.mk hb; have po := Aside0.mk (R_other HVo.out rfl hg (.inl (fun e_ => HOL.out e_.symm))); have pf := Aside0.mk (R_other HVf.out rfl hg (type_ne HVl.out HVf.out (by decide))); clear hv hb hg HXs HXr HB HVo HVl HVf; have HXs := q2; have HXr := q3; have HB := q4; have HVl := q1; have HVo := po; have HVf := pf; clear q1 q2 q3 q4 po pf)
 clear z_l
 have z_f : w5.cell? ⟨gs,4,none⟩ = some (.slice Af f.length cf) := cL HXs 4 rfl
 go_upto_region 5 with ((with_reducible refine gate_dst (N := 29) rfl ?_); refine Kd.R_copy (enc := Value.int .u64) (h1 := fun _ => rfl) (0 : Int) (w0 := w) w.heap.size rfl (.tmp 26) (.tmp 28) 26 26 23 rfl Try.underlying26 (by kernel_rfl) (.slice Af2 f.length cf2) (List.replicate f.length 0) f Af f.length cf (fun _ => True) rfl rfl HVf.out (Kd.C_below HT.out.2.2.1 HB.out) HB.out (below_size HB.out) ?_; intro w6 hv hb hg; rw [List.length_replicate,Nat.min_self,List.take_length,List.drop_eq_nil_of_le (by simp),List.append_nil] at hv; have q1 : Aside0 (Kd.R (Kd.int .u64) 23 w6 w.heap.size (fun _ => True) (.slice Af2 f.length cf2) f) := ⟨hv⟩; have q2 := Aside0.mk (blk_grown HXs.out hg (Kd.R_ne HVf.out HXs.out (by decide))); have q3 := Aside0.mk (blk_grown HXr.out hg (Kd.R_ne HVf.out HXr.out (by decide))); have q4 := Aside0.mk hb; have po := Aside0.mk (R_other HVo.out rfl hg (type_ne HVf.out HVo.out (by decide))); have pl := Aside0.mk (R_other HVl.out rfl hg (type_ne HVf.out HVl.out (by decide))); clear hv hb hg HXs HXr HB HVo HVl HVf; have HXs := q2; have HXr := q3; have HB := q4; have HVf := q1; have HVo := po; have HVl := pl; clear q1 q2 q3 q4 po pl)
 clear z_f
 have s_0 : w6.cell? ⟨gs,0,none⟩ = some (.int .i64 g) := cL HXs 0 rfl
 have s_1 : w6.cell? ⟨gs,1,none⟩ = some (.int .i64 s) := cL HXs 1 rfl
 have s_2 : w6.cell? ⟨gs,2,none⟩ = some (.slice Ao o.length co) := cL HXs 2 rfl
 have s_3 : w6.cell? ⟨gs,3,none⟩ = some (.slice Al l.length cl) := cL HXs 3 rfl
 have s_4 : w6.cell? ⟨gs,4,none⟩ = some (.slice Af f.length cf) := cL HXs 4 rfl
 have r_0 : w6.cell? ⟨gr,0,none⟩ = some (.int .i64 0) := cL HXr 0 rfl
 have r_1 : w6.cell? ⟨gr,1,none⟩ = some (.int .i64 0) := cL HXr 1 rfl
 have r_2 : w6.cell? ⟨gr,2,none⟩ = some (.slice none 0 0) := cL HXr 2 rfl
 have r_3 : w6.cell? ⟨gr,3,none⟩ = some (.slice none 0 0) := cL HXr 3 rfl
 have r_4 : w6.cell? ⟨gr,4,none⟩ = some (.slice none 0 0) := cL HXr 4 rfl
 have rf_0 := blk_frozen HXr.out 0
 have rf_1 := blk_frozen HXr.out 1
 have rf_2 := blk_frozen HXr.out 2
 have rf_3 := blk_frozen HXr.out 3
 have rf_4 := blk_frozen HXr.out 4
 have n1_ := HNE.out
 have n2_ := Ne.symm HNE.out
 go_wp2_with fail
 obtain ⟨W7,hW⟩ : ∃ W_,W_ = (((((w6.setCell ⟨gr,0,none⟩ (.int .i64 g)).setCell ⟨gr,1,none⟩ (.int .i64 s)).setCell ⟨gr,2,none⟩ (.slice Ao2 o.length co2)).setCell ⟨gr,3,none⟩ (.slice Al2 l.length cl2)).setCell ⟨gr,4,none⟩ (.slice Af2 f.length cf2)) := ⟨_,rfl⟩
 have HTR : Aside0 (TR w6 w.heap.size Ao2 co2 o Al2 cl2 l Af2 cf2 f) := ⟨⟨⟨HVo.out,HVl.out,HVf.out⟩,fun k_ h1_ h2_ => HOL.out (h1_.trans h2_.symm)⟩⟩
 rw [← hW]
 refine bodyPost_ret (results_cell_row rfl _ _ gr 28 _ (0,0) _ rfl (set5 hW HXr.out) Try.underlying28 rfl (by kernel_rfl)) rfl ?_
 exact ⟨Ao2,co2,Al2,cl2,Af2,cf2,rfl,tr5 hW HXr.out (by decide) (by decide) HTR.out,below5 hW HB.out HGR.out⟩
end Go.Proofs.Ytbefoehjlgdcgaa.H
