/-
table.Count: a record more.
-/
import Derived.Test.YtbefoehjlgdcgaaOw
import Derived.Test.YtbefoehjlgdcgaaTk
namespace Go.Proofs.Ytbefoehjlgdcgaa.H
open Go.RowKit Go.Proofs.YtbefoehjlgdcgaaW.PrintWords Go.Proofs.YtbefoehjlgdcgaaW.PrintLast Go.Proofs.YtbefoehjlgdcgaaW.PrintMore
attribute [local go_sem] min2_int min_two
set_option linter.unusedVariables false
set_option linter.unusedSimpArgs false
def zc0 : Array Bool := #[false,false,false,false,false,false,false,false,false]
def zc1 : Array Bool := #[true,false,false,false,false,false,false,false,false]
def zc2 : Array Bool := #[true,false,false,false,false,false,true,false,false]
def zc3 : Array Bool := #[true,true,false,false,false,false,true,false,false]
def zc4 : Array Bool := #[true,true,true,false,false,false,true,false,false]
def zc5 : Array Bool := #[true,true,true,false,false,false,true,true,false]
def zc6 : Array Bool := #[true,true,true,true,false,false,true,true,false]
def zc7 : Array Bool := #[true,true,true,true,true,false,true,true,false]
def zc8 : Array Bool := #[true,true,true,true,true,true,true,true,false]
def zc9 : Array Bool := #[true,true,true,true,true,true,true,true,true]
def zc10 : Array Bool := #[true,true,false,false,false,false,false,false,false]
def zc11 : Array Bool := #[true,true,true,false,false,false,false,false,false]
def zc12 : Array Bool := #[true,true,true,true,false,false,false,false,false]
def zc13 : Array Bool := #[true,true,true,true,true,false,false,false,false]
def zc14 : Array Bool := #[true,true,true,true,true,true,false,false,false]
def zc15 : Array Bool := #[true,true,true,true,true,true,true,false,false]
theorem zcI {α : Type} (l : List α) (i : Nat) (a : α) : l.toArray.setIfInBounds i a = (l.set i a).toArray := List.setIfInBounds_toArray l i a
theorem zcs0 {α : Type} (x : α) (l : List α) (a : α) : (x :: l).set 0 a = a :: l := rfl
theorem zcs1 {α : Type} (x : α) (l : List α) (i : Nat) (a : α) : (x :: l).set (i + 1) a = x :: l.set i a := rfl
def table_count.T1 : Bool × List (List Nat × List Nat) := (true,[([],[]),([0],[0]),([],[]),([2],[2]),([1,3],[1,3]),([4],[4]),([],[]),([6],[6]),([5,7],[5,7])])
def table_count.B1 : List Nat := [0,1,0,4,15,31,0,64,255]
theorem table_count.tab1 : rtab .any (opsOf Try.f29 1) = table_count.T1 := by kernel_rfl
theorem table_count.bits1 : waitsOk table_count.T1.2 table_count.B1 = true := by kernel_rfl
def table_count.T4 : Bool × List (List Nat × List Nat) := (true,[([],[]),([0],[0]),([],[]),([2],[2]),([1,3],[1,3]),([4],[4]),([5],[5]),([1,3,0,1,2,3,4,5,6],[1,3]),([7,6,3,0,1,2,3,4,5,6],[6,7])])
def table_count.B4 : List Nat := [0,1,0,4,15,31,63,127,255]
theorem table_count.tab4 : rtab .any (opsOf Try.f29 4) = table_count.T4 := by kernel_rfl
theorem table_count.bits4 : waitsOk table_count.T4.2 table_count.B4 = true := by kernel_rfl
set_option maxHeartbeats 8000000 in
set_option maxRecDepth 100000 in
theorem count_no (g s : Int) (Ao : Option Addr) (co : Nat) (o : List Int) (Al : Option Addr) (cl : Nat) (l : List Int) (Af : Option Addr) (cf : Nat) (f : List Int) (w : World) (hT : TC w Ao co o Al cl l Af cf f) (hol : o.length ≤ 1000 ∧ f.length ≤ 1000) (hn1 : 1 ≤ o.length) (hlo : l.length = o.length) (i : Int) (hi : i = (o.length : Int) - 1) (hc : s ≤ rd l i) :
  Calls Try.prog 29 #[.agg #[.int .i64 g,.int .i64 s,.slice Ao o.length co,.slice Al l.length cl,.slice Af f.length cf]] w fun e w' => e = .returned (.tuple #[.agg #[.int .i64 0,.int .i64 0,.slice none 0 0,.slice none 0 0,.slice none 0 0],.int .i64 10]) ∧ Below w.heap.size w w' := by
 have hi0 : 0 ≤ i := by omega
 have hil : i < (l.length : Int) := by omega
 obtain ⟨ad,e1,hz⟩ := Kd.at_int hT.2.1.1 i hi0 hil
 obtain ⟨z,hzz⟩ : ∃ z,z = rd l i := ⟨_,rfl⟩
 rw [← hzz] at hz hc
 cases e1
 have HT := Aside0.mk hT
 have HL := Aside0.mk hol
 have HZ := Aside0.mk hz
 have HZZ := Aside0.mk hzz
 have HLA := Aside0.mk ((last_is g s o l f hol.1).trans (congrArg some hi.symm))
 have HLO := Aside0.mk hlo
 have HN := Aside0.mk hn1
 have hi0t := eq_true hi0
 have hilt := eq_true hil
 have HI := Aside0.mk (And.intro hi0 hil)
 clear hT hol hz hzz hlo hn1 hi hil
 have hd : decide (s ≤ z) = true := decide_eq_true (by omega)
 clear hc
 go_enter Try.func29,Try.ntmps29
 go_upto_region 1 with fail
 obtain ⟨W1,hW1⟩ : ∃ W1,W1 = (w.alloc (.cells #[.int .i64 g,.int .i64 s,.slice Ao o.length co,.slice (some ad) l.length cl,.slice Af f.length cf] 28)).alloc (.cells #[.int .i64 0,.int .i64 0,.slice none 0 0,.slice none 0 0,.slice none 0 0] 28) := ⟨_,rfl⟩
 rw [← hW1]
 obtain ⟨gr,hgr⟩ : ∃ g,g = w.heap.size + 1 := ⟨_,rfl⟩
 obtain ⟨gs,hgs⟩ : ∃ g,g = w.heap.size := ⟨_,rfl⟩
 have HXs : Aside0 (W1.heap[gs]? = some (.cells #[.int .i64 g,.int .i64 s,.slice Ao o.length co,.slice (some ad) l.length cl,.slice Af f.length cf] 28 (0,0))) := ⟨by rw [hW1,hgs]; exact blk_alloc (blk_new _ _) _⟩
 have HXr : Aside0 (W1.heap[gr]? = some (.cells #[.int .i64 0,.int .i64 0,.slice none 0 0,.slice none 0 0,.slice none 0 0] 28 (0,0))) := ⟨by rw [hW1,hgr]; have := blk_new (w.alloc (.cells #[.int .i64 g,.int .i64 s,.slice Ao o.length co,.slice (some ad) l.length cl,.slice Af f.length cf] 28)) (.cells #[.int .i64 0,.int .i64 0,.slice none 0 0,.slice none 0 0,.slice none 0 0] 28); simpa using this⟩
 have HB : Aside0 (Below w.heap.size w W1) := ⟨by rw [hW1]; exact below_alloc (below_alloc (Below.refl _ _) _) _⟩
 have HGR : Aside0 (w.heap.size ≤ gr) := ⟨by omega⟩
 have NSR : Aside0 (gs ≠ gr) := ⟨by omega⟩
 rw [← hgr,← hgs]
 clear hW1 hgr hgs
 go_wp2_with fail
 refine start_ (n := 9) (S := fun w' => w'.cell? ⟨gs,0,none⟩ = some (.int .i64 g) ∧ w'.cell? ⟨gs,1,none⟩ = some (.int .i64 s) ∧ w'.cell? ⟨gs,2,none⟩ = some (.slice Ao o.length co) ∧ w'.cell? ⟨gs,3,none⟩ = some (.slice (some ad) l.length cl) ∧ w'.cell? ⟨gs,4,none⟩ = some (.slice Af f.length cf) ∧ w'.cell? (ad.add i.toNat) = some (.int .i64 z)) (ds := []) zc0 (by kernel_rfl) rfl rfl ⟨((blk_cell (blk_drew HXs.out) 0).trans rfl),((blk_cell (blk_drew HXs.out) 1).trans rfl),((blk_cell (blk_drew HXs.out) 2).trans rfl),((blk_cell (blk_drew HXs.out) 3).trans rfl),((blk_cell (blk_drew HXs.out) 4).trans rfl),(pw_cell_below (below_drew HB.out) HZ.out)⟩ (fun hHeld => ?_)
 refine with_tabW table_count.tab1 table_count.bits1 (fun HT_ HW_ => ?_)
 replace HXs := Aside0.mk (blk_drew HXs.out)
 replace HXr := Aside0.mk (blk_drew HXr.out)
 replace HB := Aside0.mk (below_drew HB.out)
 generalize W1.drew = wd1 at *
 refine pure_ (i := 0) (N := some 5) (v := ?_) (a' := ?_) zc1 rfl rfl (any_of HT_.out (by kernel_rfl)) (fun _ _ _ h => h) (Or.inl ⟨by rfl,?_⟩) ?_ ?_
 rotate_left
 ·intro w'
  go_simp
  with_reducible rfl
 rotate_left
 ·simp only [Act.put,zcI,zcs0,zcs1,i64_w,i32_w]
  rfl
 refine pure_ (i := 6) (N := some 11) (v := ?_) (a' := ?_) zc2 rfl rfl (any_of HT_.out (by kernel_rfl)) (fun _ _ _ h => h) (Or.inl ⟨by rfl,?_⟩) ?_ ?_
 rotate_left
 ·intro w'
  go_simp
  with_reducible rfl
 rotate_left
 ·simp only [Act.put,zcI,zcs0,zcs1,i64_w,i32_w]
  rfl
 refine take_ (i := 1) (N := some 6) (v := ?_) (a' := ?_) zc3 rfl rfl (take_ofW HT_.out HW_.out (by kernel_rfl)) (fun _ _ _ h => h) (Or.inl ⟨by rfl,?_⟩) hHeld ?_ ?_
 rotate_left
 ·rintro w' ⟨s0,s1,s2,s3,s4,s5⟩
  go_simp
  with_reducible rfl
 rotate_left
 ·simp only [Act.put,zcI,zcs0,zcs1,i64_w,i32_w]
  rfl
 refine take_ (i := 2) (N := some 7) (v := ?_) (a' := ?_) zc4 rfl rfl (take_ofW HT_.out HW_.out (by kernel_rfl)) (fun _ _ _ h => h) (Or.inl ⟨by rfl,?_⟩) hHeld ?_ ?_
 rotate_left
 ·rintro w' ⟨s0,s1,s2,s3,s4,s5⟩
  go_simp
  with_reducible rfl
 rotate_left
 ·simp only [Act.put,zcI,zcs0,zcs1,i64_w,i32_w]
  rfl
 refine take_ (i := 7) (N := some 12) (v := ?_) (a' := ?_) zc5 rfl rfl (take_ofW HT_.out HW_.out (by kernel_rfl)) (fun _ _ _ h => h) (Or.inl ⟨by rfl,?_⟩) hHeld ?_ ?_
 rotate_left
 ·rintro w' ⟨s0,s1,s2,s3,s4,s5⟩
  go_simp
  with_reducible rfl
 rotate_left
 ·simp only [Act.put,zcI,zcs0,zcs1,i64_w,i32_w]
  rfl
 refine one_ (i := 3) (N := some 8) zc6 rfl rfl (one_of HT_.out (by kernel_rfl)) (by decide) (fun K hK => ?_)
 refine goes_ Try.func41 (by kernel_rfl) rfl #[.agg #[.int .i64 g,.int .i64 s,.slice Ao o.length co,.slice (some ad) l.length cl,.slice Af f.length cf]] (by rfl) rfl rfl (by simp only [List.map_toArray,List.map_cons,List.map_nil]; rfl) ?_
 with_reducible refine (last_calls g s _ _ o _ _ l _ _ f _ (TC_below HT.out HB.out) i HLA.out).mono ?_
 rintro e_ wc1 ⟨rfl,hb⟩
 refine ⟨_,rfl,?_⟩
 replace HXs := mB HXs hb
 replace HXr := mB HXr hb
 replace HB := mS HB hb
 clear hb
 refine hK.out _ _ ⟨(cL HXs 0 rfl),(cL HXs 1 rfl),(cL HXs 2 rfl),(cL HXs 3 rfl),(cL HXs 4 rfl),(pw_cell_below HB.out HZ.out)⟩ (fun hHeld => ?_)
 clear hK K
 refine norm_ (a' := ?_) ?_ ?_
 rotate_left
 ·show Act.put _ (some 8) _ = _
  simp only [Act.put,zcI,zcs0,zcs1,i64_w,i32_w]
  rfl
 refine pure_ (i := 4) (N := some 9) (v := ?_) (a' := ?_) zc7 rfl rfl (any_of HT_.out (by kernel_rfl)) (fun _ _ _ h => h) (Or.inl ⟨by rfl,?_⟩) ?_ ?_
 rotate_left
 ·intro w'
  go_simp
  with_reducible rfl
 rotate_left
 ·simp only [Act.put,zcI,zcs0,zcs1,i64_w,i32_w]
  rfl
 refine take_ (i := 5) (N := some 10) (v := ?_) (a' := ?_) zc8 rfl rfl (take_ofW HT_.out HW_.out (by kernel_rfl)) (fun _ _ _ h => h) (Or.inl ⟨by rfl,?_⟩) hHeld ?_ ?_
 rotate_left
 ·rintro w' ⟨s0,s1,s2,s3,s4,s5⟩
  go_simp
  with_reducible rfl
 rotate_left
 ·simp only [Act.put,zcI,zcs0,zcs1,i64_w,i32_w]
  rfl
 refine pure_ (i := 8) (N := some 13) (v := ?_) (a' := ?_) zc9 rfl rfl (any_of HT_.out (by kernel_rfl)) (fun _ _ _ h => h) (Or.inl ⟨by rfl,?_⟩) ?_ ?_
 rotate_left
 ·intro w'
  go_simp
  with_reducible rfl
 rotate_left
 ·simp only [Act.put,zcI,zcs0,zcs1,i64_w,i32_w]
  rfl
 refine done_ (done_of HT_.out (by kernel_rfl)) ?_
 clear HT_ HW_ hHeld
 have x0 : wc1.cell? ⟨gr,0,none⟩ = some (.int .i64 0) := cL HXr 0 rfl
 have x1 : wc1.cell? ⟨gr,1,none⟩ = some (.int .i64 0) := cL HXr 1 rfl
 have x2 : wc1.cell? ⟨gr,2,none⟩ = some (.slice none 0 0) := cL HXr 2 rfl
 have x3 : wc1.cell? ⟨gr,3,none⟩ = some (.slice none 0 0) := cL HXr 3 rfl
 have x4 : wc1.cell? ⟨gr,4,none⟩ = some (.slice none 0 0) := cL HXr 4 rfl
 have xf0 := blk_frozen HXr.out 0
 have xf1 := blk_frozen HXr.out 1
 have xf2 := blk_frozen HXr.out 2
 have xf3 := blk_frozen HXr.out 3
 have xf4 := blk_frozen HXr.out 4
 go_wp2_with fail
 obtain ⟨W3,hW⟩ : ∃ W_,W_ = (((((wc1.setCell ⟨gr,0,none⟩ (.int .i64 0)).setCell ⟨gr,1,none⟩ (.int .i64 0)).setCell ⟨gr,2,none⟩ (.slice none 0 0)).setCell ⟨gr,3,none⟩ (.slice none 0 0)).setCell ⟨gr,4,none⟩ (.slice none 0 0)) := ⟨_,rfl⟩
 rw [← hW]
 refine bodyPost_ret (results_ct rfl _ _ gr 28 _ (0,0) _ rfl (set5 hW HXr.out) Try.underlying28 rfl (by kernel_rfl)) rfl ?_
 exact ⟨rfl,below5 hW HB.out HGR.out⟩
set_option maxHeartbeats 8000000 in
set_option maxRecDepth 100000 in
theorem count_yes (g s : Int) (Ao : Option Addr) (co : Nat) (o : List Int) (Al : Option Addr) (cl : Nat) (l : List Int) (Af : Option Addr) (cf : Nat) (f : List Int) (w : World) (hT : TC w Ao co o Al cl l Af cf f) (hol : o.length ≤ 1000 ∧ f.length ≤ 1000) (hn1 : 1 ≤ o.length) (hlo : l.length = o.length) (i : Int) (hi : i = (o.length : Int) - 1) (hc : rd l i < s) (hs : 0 ≤ rd l i ∧ s ≤ 30) :
  Calls Try.prog 29 #[.agg #[.int .i64 g,.int .i64 s,.slice Ao o.length co,.slice Al l.length cl,.slice Af f.length cf]] w fun e w' => ∃ A1 d1 A2 d2 A3 d3,e = .returned (.tuple #[.agg #[.int .i64 g,.int .i64 s,.slice A1 o.length d1,.slice A2 (l.set i.toNat (rd l i + 1)).length d2,.slice A3 f.length d3],.int .i64 0]) ∧ TR w' w.heap.size A1 d1 o A2 d2 (l.set i.toNat (rd l i + 1)) A3 d3 f ∧ Below w.heap.size w w' := by
 have hi0 : 0 ≤ i := by omega
 have hil : i < (l.length : Int) := by omega
 obtain ⟨ad,e1,hz⟩ := Kd.at_int hT.2.1.1 i hi0 hil
 obtain ⟨z,hzz⟩ : ∃ z,z = rd l i := ⟨_,rfl⟩
 rw [← hzz] at hz hc hs
 cases e1
 have HT := Aside0.mk hT
 have HL := Aside0.mk hol
 have HZ := Aside0.mk hz
 have HZZ := Aside0.mk hzz
 have HLA := Aside0.mk ((last_is g s o l f hol.1).trans (congrArg some hi.symm))
 have HLO := Aside0.mk hlo
 have HN := Aside0.mk hn1
 have hi0t := eq_true hi0
 have hilt := eq_true hil
 have HI := Aside0.mk (And.intro hi0 hil)
 clear hT hol hz hzz hlo hn1 hi hil
 have hd : decide (s ≤ z) = false := decide_eq_false (by omega)
 have hz64 : z + 1 ≤ 9223372036854775807 := by omega
 have hz65 : -9223372036854775808 ≤ z + 1 := by omega
 clear hc hs
 go_enter Try.func29,Try.ntmps29
 go_upto_region 1 with fail
 obtain ⟨W1,hW1⟩ : ∃ W1,W1 = (w.alloc (.cells #[.int .i64 g,.int .i64 s,.slice Ao o.length co,.slice (some ad) l.length cl,.slice Af f.length cf] 28)).alloc (.cells #[.int .i64 0,.int .i64 0,.slice none 0 0,.slice none 0 0,.slice none 0 0] 28) := ⟨_,rfl⟩
 rw [← hW1]
 obtain ⟨gr,hgr⟩ : ∃ g,g = w.heap.size + 1 := ⟨_,rfl⟩
 obtain ⟨gs,hgs⟩ : ∃ g,g = w.heap.size := ⟨_,rfl⟩
 have HXs : Aside0 (W1.heap[gs]? = some (.cells #[.int .i64 g,.int .i64 s,.slice Ao o.length co,.slice (some ad) l.length cl,.slice Af f.length cf] 28 (0,0))) := ⟨by rw [hW1,hgs]; exact blk_alloc (blk_new _ _) _⟩
 have HXr : Aside0 (W1.heap[gr]? = some (.cells #[.int .i64 0,.int .i64 0,.slice none 0 0,.slice none 0 0,.slice none 0 0] 28 (0,0))) := ⟨by rw [hW1,hgr]; have := blk_new (w.alloc (.cells #[.int .i64 g,.int .i64 s,.slice Ao o.length co,.slice (some ad) l.length cl,.slice Af f.length cf] 28)) (.cells #[.int .i64 0,.int .i64 0,.slice none 0 0,.slice none 0 0,.slice none 0 0] 28); simpa using this⟩
 have HB : Aside0 (Below w.heap.size w W1) := ⟨by rw [hW1]; exact below_alloc (below_alloc (Below.refl _ _) _) _⟩
 have HGR : Aside0 (w.heap.size ≤ gr) := ⟨by omega⟩
 have NSR : Aside0 (gs ≠ gr) := ⟨by omega⟩
 rw [← hgr,← hgs]
 clear hW1 hgr hgs
 go_wp2_with fail
 refine start_ (n := 9) (S := fun w' => w'.cell? ⟨gs,0,none⟩ = some (.int .i64 g) ∧ w'.cell? ⟨gs,1,none⟩ = some (.int .i64 s) ∧ w'.cell? ⟨gs,2,none⟩ = some (.slice Ao o.length co) ∧ w'.cell? ⟨gs,3,none⟩ = some (.slice (some ad) l.length cl) ∧ w'.cell? ⟨gs,4,none⟩ = some (.slice Af f.length cf) ∧ w'.cell? (ad.add i.toNat) = some (.int .i64 z)) (ds := []) zc0 (by kernel_rfl) rfl rfl ⟨((blk_cell (blk_drew HXs.out) 0).trans rfl),((blk_cell (blk_drew HXs.out) 1).trans rfl),((blk_cell (blk_drew HXs.out) 2).trans rfl),((blk_cell (blk_drew HXs.out) 3).trans rfl),((blk_cell (blk_drew HXs.out) 4).trans rfl),(pw_cell_below (below_drew HB.out) HZ.out)⟩ (fun hHeld => ?_)
 refine with_tabW table_count.tab1 table_count.bits1 (fun HT_ HW_ => ?_)
 replace HXs := Aside0.mk (blk_drew HXs.out)
 replace HXr := Aside0.mk (blk_drew HXr.out)
 replace HB := Aside0.mk (below_drew HB.out)
 generalize W1.drew = wd1 at *
 refine pure_ (i := 0) (N := some 5) (v := ?_) (a' := ?_) zc1 rfl rfl (any_of HT_.out (by kernel_rfl)) (fun _ _ _ h => h) (Or.inl ⟨by rfl,?_⟩) ?_ ?_
 rotate_left
 ·intro w'
  go_simp
  with_reducible rfl
 rotate_left
 ·simp only [Act.put,zcI,zcs0,zcs1,i64_w,i32_w]
  rfl
 refine pure_ (i := 6) (N := some 11) (v := ?_) (a' := ?_) zc2 rfl rfl (any_of HT_.out (by kernel_rfl)) (fun _ _ _ h => h) (Or.inl ⟨by rfl,?_⟩) ?_ ?_
 rotate_left
 ·intro w'
  go_simp
  with_reducible rfl
 rotate_left
 ·simp only [Act.put,zcI,zcs0,zcs1,i64_w,i32_w]
  rfl
 refine take_ (i := 1) (N := some 6) (v := ?_) (a' := ?_) zc3 rfl rfl (take_ofW HT_.out HW_.out (by kernel_rfl)) (fun _ _ _ h => h) (Or.inl ⟨by rfl,?_⟩) hHeld ?_ ?_
 rotate_left
 ·rintro w' ⟨s0,s1,s2,s3,s4,s5⟩
  go_simp
  with_reducible rfl
 rotate_left
 ·simp only [Act.put,zcI,zcs0,zcs1,i64_w,i32_w]
  rfl
 refine take_ (i := 2) (N := some 7) (v := ?_) (a' := ?_) zc4 rfl rfl (take_ofW HT_.out HW_.out (by kernel_rfl)) (fun _ _ _ h => h) (Or.inl ⟨by rfl,?_⟩) hHeld ?_ ?_
 rotate_left
 ·rintro w' ⟨s0,s1,s2,s3,s4,s5⟩
  go_simp
  with_reducible rfl
 rotate_left
 ·simp only [Act.put,zcI,zcs0,zcs1,i64_w,i32_w]
  rfl
 refine take_ (i := 7) (N := some 12) (v := ?_) (a' := ?_) zc5 rfl rfl (take_ofW HT_.out HW_.out (by kernel_rfl)) (fun _ _ _ h => h) (Or.inl ⟨by rfl,?_⟩) hHeld ?_ ?_
 rotate_left
 ·rintro w' ⟨s0,s1,s2,s3,s4,s5⟩
  go_simp
  with_reducible rfl
 rotate_left
 ·simp only [Act.put,zcI,zcs0,zcs1,i64_w,i32_w]
  rfl
 refine one_ (i := 3) (N := some 8) zc6 rfl rfl (one_of HT_.out (by kernel_rfl)) (by decide) (fun K hK => ?_)
 refine goes_ Try.func41 (by kernel_rfl) rfl #[.agg #[.int .i64 g,.int .i64 s,.slice Ao o.length co,.slice (some ad) l.length cl,.slice Af f.length cf]] (by rfl) rfl rfl (by simp only [List.map_toArray,List.map_cons,List.map_nil]; rfl) ?_
 with_reducible refine (last_calls g s _ _ o _ _ l _ _ f _ (TC_below HT.out HB.out) i HLA.out).mono ?_
 rintro e_ wc1 ⟨rfl,hb⟩
 refine ⟨_,rfl,?_⟩
 replace HXs := mB HXs hb
 replace HXr := mB HXr hb
 replace HB := mS HB hb
 clear hb
 refine hK.out _ _ ⟨(cL HXs 0 rfl),(cL HXs 1 rfl),(cL HXs 2 rfl),(cL HXs 3 rfl),(cL HXs 4 rfl),(pw_cell_below HB.out HZ.out)⟩ (fun hHeld => ?_)
 clear hK K
 refine norm_ (a' := ?_) ?_ ?_
 rotate_left
 ·show Act.put _ (some 8) _ = _
  simp only [Act.put,zcI,zcs0,zcs1,i64_w,i32_w]
  rfl
 refine pure_ (i := 4) (N := some 9) (v := ?_) (a' := ?_) zc7 rfl rfl (any_of HT_.out (by kernel_rfl)) (fun _ _ _ h => h) (Or.inl ⟨by rfl,?_⟩) ?_ ?_
 rotate_left
 ·intro w'
  go_simp
  with_reducible rfl
 rotate_left
 ·simp only [Act.put,zcI,zcs0,zcs1,i64_w,i32_w]
  rfl
 refine take_ (i := 5) (N := some 10) (v := ?_) (a' := ?_) zc8 rfl rfl (take_ofW HT_.out HW_.out (by kernel_rfl)) (fun _ _ _ h => h) (Or.inl ⟨by rfl,?_⟩) hHeld ?_ ?_
 rotate_left
 ·rintro w' ⟨s0,s1,s2,s3,s4,s5⟩
  go_simp
  with_reducible rfl
 rotate_left
 ·simp only [Act.put,zcI,zcs0,zcs1,i64_w,i32_w]
  rfl
 refine pure_ (i := 8) (N := some 13) (v := ?_) (a' := ?_) zc9 rfl rfl (any_of HT_.out (by kernel_rfl)) (fun _ _ _ h => h) (Or.inl ⟨by rfl,?_⟩) ?_ ?_
 rotate_left
 ·intro w'
  go_simp
  with_reducible rfl
 rotate_left
 ·simp only [Act.put,zcI,zcs0,zcs1,i64_w,i32_w]
  rfl
 refine done_ (done_of HT_.out (by kernel_rfl)) ?_
 clear HT_ HW_ hHeld
 have s_0 : wc1.cell? ⟨gs,0,none⟩ = some (.int .i64 g) := cL HXs 0 rfl
 have s_1 : wc1.cell? ⟨gs,1,none⟩ = some (.int .i64 s) := cL HXs 1 rfl
 have s_2 : wc1.cell? ⟨gs,2,none⟩ = some (.slice Ao o.length co) := cL HXs 2 rfl
 have s_3 : wc1.cell? ⟨gs,3,none⟩ = some (.slice (some ad) l.length cl) := cL HXs 3 rfl
 have s_4 : wc1.cell? ⟨gs,4,none⟩ = some (.slice Af f.length cf) := cL HXs 4 rfl
 go_wp2_with fail
 clear s_0 s_1 s_2 s_3 s_4
 refine (own_calls g s Ao co o _ cl l Af cf f _ (TC_below HT.out HB.out) ⟨HL.out.1,by rw [HLO.out]; exact HL.out.1,HL.out.2⟩).mono ?_
 rintro e_ w2 ⟨A1,d1,A2,d2,A3,d3,rfl,hr,hb⟩
 have HTR := Aside0.mk (TR_lower hr (below_size HB.out))
 replace HXs := mB HXs hb
 replace HXr := mB HXr hb
 replace HB := mS HB hb
 clear hr hb
 obtain ⟨gl,cl2,e2,_,_,_,_⟩ := Kd.R_form HTR.out.1.2.1 (by have := HLO.out; have := HN.out; omega)
 cases e2
 go_upto_region 4 with ((with_reducible refine gate_dst (N := 4) rfl ?_); refine box_event ?hg (N := 4) ?hd (cs := #[.int .i64 0,.int .i64 0,.slice none 0 0,.slice none 0 0,.slice none 0 0]) (t := 28) ?hr ?_; (case hd => rfl); (case hg => rfl); (case hr => first | (go_simp; done) | (go_simp; rfl)); intro go hgo w3 hbox hbb; have HBO := Aside0.mk hbox; have HBB := Aside0.mk hbb; have HGO := Aside0.mk hgo; have y0 : w3.cell? ⟨go,0,none⟩ = some (.int .i64 0) := (blk_cell hbox 0).trans rfl; have y1 : w3.cell? ⟨go,1,none⟩ = some (.int .i64 0) := (blk_cell hbox 1).trans rfl; have y2 : w3.cell? ⟨go,2,none⟩ = some (.slice none 0 0) := (blk_cell hbox 2).trans rfl; have y3 : w3.cell? ⟨go,3,none⟩ = some (.slice none 0 0) := (blk_cell hbox 3).trans rfl; have y4 : w3.cell? ⟨go,4,none⟩ = some (.slice none 0 0) := (blk_cell hbox 4).trans rfl; have yf0 := blk_frozen hbox 0; have yf1 := blk_frozen hbox 1; have yf2 := blk_frozen hbox 2; have yf3 := blk_frozen hbox 3; have yf4 := blk_frozen hbox 4; clear hbox hbb hgo)
 clear y0 y1 y2 y3 y4 yf0 yf1 yf2 yf3 yf4
 obtain ⟨W4,hW⟩ : ∃ W_,W_ = (((((w3.setCell ⟨go,0,none⟩ (.int .i64 g)).setCell ⟨go,1,none⟩ (.int .i64 s)).setCell ⟨go,2,none⟩ (.slice A1 o.length d1)).setCell ⟨go,3,none⟩ (.slice (some ⟨gl,0,none⟩) l.length d2)).setCell ⟨go,4,none⟩ (.slice A3 f.length d3)) := ⟨_,rfl⟩
 rw [← hW]
 have HGO2 : Aside0 (w.heap.size ≤ go) := ⟨by rw [HGO.out]; exact below_size HB.out⟩
 have NSO : Aside0 (gs ≠ go) := ⟨by rw [HGO.out]; exact Nat.ne_of_lt (blk_lt HXs.out)⟩
 have NRO : Aside0 (gr ≠ go) := ⟨by rw [HGO.out]; exact Nat.ne_of_lt (blk_lt HXr.out)⟩
 replace HTR := Aside0.mk (tr5 hW HBO.out (by decide) (by decide) (TR_below HTR.out HBB.out))
 replace HXr := Aside0.mk (far5 hW (blk_below HXr.out HBB.out) NRO.out)
 have HXo := Aside0.mk (set5 hW HBO.out)
 replace HB := Aside0.mk (below5 hW (below_step HB.out HBB.out) HGO2.out)
 clear hW HBO HBB HGO HXs
 have hwz : IntKind.i64.wrap (z + 1) = z + 1 := by rw [i64_w]; unfold wrap64; omega
 go_wp2_with fail
 refine start_ (n := 9) (S := fun w' => w'.cell? ⟨go,0,none⟩ = some (.int .i64 g) ∧ w'.cell? ⟨go,1,none⟩ = some (.int .i64 s) ∧ w'.cell? ⟨go,2,none⟩ = some (.slice A1 o.length d1) ∧ w'.cell? ⟨go,3,none⟩ = some (.slice (some ⟨gl,0,none⟩) l.length d2) ∧ w'.cell? ⟨go,4,none⟩ = some (.slice A3 f.length d3) ∧ w'.cell? ⟨gl,i.toNat,none⟩ = some (.int .i64 z)) (ds := [8]) zc0 (by kernel_rfl) rfl rfl ⟨((blk_cell (blk_drew HXo.out) 0).trans rfl),((blk_cell (blk_drew HXo.out) 1).trans rfl),((blk_cell (blk_drew HXo.out) 2).trans rfl),((blk_cell (blk_drew HXo.out) 3).trans rfl),((blk_cell (blk_drew HXo.out) 4).trans rfl),((Kd.R_celln (enc := Value.int .i64) (h1 := fun _ => rfl) 0 (TR_below HTR.out (below_drew (Below.refl _ _))).1.2.1 i HI.out.1 HI.out.2).1.trans (by rw [HZZ.out]; rfl))⟩ (fun hHeld => ?_)
 refine with_tabW table_count.tab4 table_count.bits4 (fun HT_ HW_ => ?_)
 replace HXo := Aside0.mk (blk_drew HXo.out)
 replace HXr := Aside0.mk (blk_drew HXr.out)
 replace HTR := Aside0.mk (TR_below HTR.out (below_drew (Below.refl _ _)))
 replace HB := Aside0.mk (below_drew HB.out)
 generalize W4.drew = wd4 at *
 refine pure_ (i := 0) (N := some 17) (v := ?_) (a' := ?_) zc1 rfl rfl (any_of HT_.out (by kernel_rfl)) (fun _ _ _ h => h) (Or.inl ⟨by rfl,?_⟩) ?_ ?_
 rotate_left
 ·intro w'
  go_simp
  with_reducible rfl
 rotate_left
 ·simp only [Act.put,zcI,zcs0,zcs1,i64_w,i32_w]
  rfl
 refine take_ (i := 1) (N := some 18) (v := ?_) (a' := ?_) zc10 rfl rfl (take_ofW HT_.out HW_.out (by kernel_rfl)) (fun _ _ _ h => h) (Or.inl ⟨by rfl,?_⟩) hHeld ?_ ?_
 rotate_left
 ·rintro w' ⟨s0,s1,s2,s3,s4,s5⟩
  go_simp
  with_reducible rfl
 rotate_left
 ·simp only [Act.put,zcI,zcs0,zcs1,i64_w,i32_w]
  rfl
 refine take_ (i := 2) (N := some 19) (v := ?_) (a' := ?_) zc11 rfl rfl (take_ofW HT_.out HW_.out (by kernel_rfl)) (fun _ _ _ h => h) (Or.inl ⟨by rfl,?_⟩) hHeld ?_ ?_
 rotate_left
 ·rintro w' ⟨s0,s1,s2,s3,s4,s5⟩
  go_simp
  with_reducible rfl
 rotate_left
 ·simp only [Act.put,zcI,zcs0,zcs1,i64_w,i32_w]
  rfl
 refine one_ (i := 3) (N := some 20) zc12 rfl rfl (one_of HT_.out (by kernel_rfl)) (by decide) (fun K hK => ?_)
 refine goes_ Try.func41 (by kernel_rfl) rfl #[.agg #[.int .i64 g,.int .i64 s,.slice A1 o.length d1,.slice (some ⟨gl,0,none⟩) l.length d2,.slice A3 f.length d3]] (by rfl) rfl rfl (by simp only [List.map_toArray,List.map_cons,List.map_nil]; rfl) ?_
 with_reducible refine (last_calls g s _ _ o _ _ l _ _ f _ (TR_TC HTR.out) i HLA.out).mono ?_
 rintro e_ wc2 ⟨rfl,hb⟩
 refine ⟨_,rfl,?_⟩
 replace HXo := mB HXo hb
 replace HXr := mB HXr hb
 replace HTR := Aside0.mk (TR_below HTR.out hb)
 replace HB := mS HB hb
 clear hb
 refine hK.out _ _ ⟨(cL HXo 0 rfl),(cL HXo 1 rfl),(cL HXo 2 rfl),(cL HXo 3 rfl),(cL HXo 4 rfl),((Kd.R_celln (enc := Value.int .i64) (h1 := fun _ => rfl) 0 HTR.out.1.2.1 i HI.out.1 HI.out.2).1.trans (by rw [HZZ.out]; rfl))⟩ (fun hHeld => ?_)
 clear hK K
 refine norm_ (a' := ?_) ?_ ?_
 rotate_left
 ·show Act.put _ (some 20) _ = _
  simp only [Act.put,zcI,zcs0,zcs1,i64_w,i32_w]
  rfl
 refine pure_ (i := 4) (N := some 21) (v := ?_) (a' := ?_) zc13 rfl rfl (any_of HT_.out (by kernel_rfl)) (fun _ _ _ h => h) (Or.inl ⟨by rfl,?_⟩) ?_ ?_
 rotate_left
 ·intro w'
  go_simp
  with_reducible rfl
 rotate_left
 ·simp only [Act.put,zcI,zcs0,zcs1,i64_w,i32_w]
  rfl
 refine take_ (i := 5) (N := some 22) (v := ?_) (a' := ?_) zc14 rfl rfl (take_ofW HT_.out HW_.out (by kernel_rfl)) (fun _ _ _ h => h) (Or.inl ⟨by rfl,?_⟩) hHeld ?_ ?_
 rotate_left
 ·rintro w' ⟨s0,s1,s2,s3,s4,s5⟩
  go_simp
  with_reducible rfl
 rotate_left
 ·simp only [Act.put,zcI,zcs0,zcs1,i64_w,i32_w]
  rfl
 refine pure_ (i := 6) (N := some 23) (v := ?_) (a' := ?_) zc15 rfl rfl (any_of HT_.out (by kernel_rfl)) (fun _ _ _ h => h) (Or.inl ⟨by rfl,?_⟩) ?_ ?_
 rotate_left
 ·intro w'
  go_simp
  with_reducible rfl
 rotate_left
 ·simp only [Act.put,zcI,zcs0,zcs1,i64_w,i32_w]
  rfl
 refine pure_ (i := 7) (N := some 24) (v := ?_) (a' := ?_) zc8 rfl rfl (any_of HT_.out (by kernel_rfl)) (fun _ _ _ h => h) (Or.inl ⟨by rfl,?_⟩) ?_ ?_
 rotate_left
 ·intro w'
  go_simp
  with_reducible rfl
 rotate_left
 ·simp only [Act.put,zcI,zcs0,zcs1,i64_w,i32_w]
  rfl
 refine last_ (i := 8) (N := none) zc9 rfl rfl (one_of HT_.out (by kernel_rfl)) (by decide) (fun K hK => ?_)
 have hzf := (Kd.R_celln (enc := Value.int .i64) (h1 := fun _ => rfl) 0 HTR.out.1.2.1 i HI.out.1 HI.out.2).2
 have hz : wc2.cell? ⟨gl,i.toNat,none⟩ = some (.int .i64 z) := ((Kd.R_celln (enc := Value.int .i64) (h1 := fun _ => rfl) 0 HTR.out.1.2.1 i HI.out.1 HI.out.2).1.trans (by rw [HZZ.out]; rfl))
 refine skip_ (w1 := ?_) (by rfl) rfl ?_ ?_
 rotate_left
 ·go_simp
  rfl
 clear hzf hz
 obtain ⟨W5,hW⟩ : ∃ W_,W_ = wc2.setCell ⟨gl,i.toNat,none⟩ (.int .i64 (z + 1)) := ⟨_,rfl⟩
 rw [← hW]
 have q1 := TR_put_l HTR.out (by have := HLO.out; have := HN.out; omega) i (z + 1)
 have q2 := blk_far HXo.out (p := ⟨gl,i.toNat,none⟩) (TR_blk_l HTR.out (by have := HLO.out; have := HN.out; omega) HXo.out (by decide)) (.int .i64 (z + 1))
 have q3 := blk_far HXr.out (p := ⟨gl,i.toNat,none⟩) (TR_blk_l HTR.out (by have := HLO.out; have := HN.out; omega) HXr.out (by decide)) (.int .i64 (z + 1))
 have q4 := below_set (j := i.toNat) (v := .int .i64 (z + 1)) HB.out (TR_base_l HTR.out)
 rw [← hW] at q1 q2 q3 q4
 clear hW
 have HTR2 := Aside0.mk q1
 replace HXo := Aside0.mk q2
 replace HXr := Aside0.mk q3
 replace HB := Aside0.mk q4
 clear q1 q2 q3 q4 HTR
 refine hK.out _ _ ?_
 clear hK K
 refine done_ (done_of HT_.out (by kernel_rfl)) ?_
 clear HT_ HW_ hHeld
 clear hwz
 have s_0 : W5.cell? ⟨go,0,none⟩ = some (.int .i64 g) := cL HXo 0 rfl
 have s_1 : W5.cell? ⟨go,1,none⟩ = some (.int .i64 s) := cL HXo 1 rfl
 have s_2 : W5.cell? ⟨go,2,none⟩ = some (.slice A1 o.length d1) := cL HXo 2 rfl
 have s_3 : W5.cell? ⟨go,3,none⟩ = some (.slice (some ⟨gl,0,none⟩) l.length d2) := cL HXo 3 rfl
 have s_4 : W5.cell? ⟨go,4,none⟩ = some (.slice A3 f.length d3) := cL HXo 4 rfl
 have r_0 : W5.cell? ⟨gr,0,none⟩ = some (.int .i64 0) := cL HXr 0 rfl
 have r_1 : W5.cell? ⟨gr,1,none⟩ = some (.int .i64 0) := cL HXr 1 rfl
 have r_2 : W5.cell? ⟨gr,2,none⟩ = some (.slice none 0 0) := cL HXr 2 rfl
 have r_3 : W5.cell? ⟨gr,3,none⟩ = some (.slice none 0 0) := cL HXr 3 rfl
 have r_4 : W5.cell? ⟨gr,4,none⟩ = some (.slice none 0 0) := cL HXr 4 rfl
 have rf_0 := blk_frozen HXr.out 0
 have rf_1 := blk_frozen HXr.out 1
 have rf_2 := blk_frozen HXr.out 2
 have rf_3 := blk_frozen HXr.out 3
 have rf_4 := blk_frozen HXr.out 4
 have n1_ := NRO.out
 have n2_ := Ne.symm NRO.out
 go_wp2_with fail
 obtain ⟨W7,hW⟩ : ∃ W_,W_ = (((((W5.setCell ⟨gr,0,none⟩ (.int .i64 g)).setCell ⟨gr,1,none⟩ (.int .i64 s)).setCell ⟨gr,2,none⟩ (.slice A1 o.length d1)).setCell ⟨gr,3,none⟩ (.slice (some ⟨gl,0,none⟩) l.length d2)).setCell ⟨gr,4,none⟩ (.slice A3 f.length d3)) := ⟨_,rfl⟩
 rw [← hW]
 refine bodyPost_ret (results_ct rfl _ _ gr 28 _ (0,0) _ rfl (set5 hW HXr.out) Try.underlying28 rfl (by kernel_rfl)) rfl ?_
 rw [← HZZ.out]
 exact ⟨A1,d1,_,d2,A3,d3,by rw [List.length_set]; rfl,tr5 hW HXr.out (by decide) (by decide) HTR2.out,below5 hW HB.out HGR.out⟩
end Go.Proofs.Ytbefoehjlgdcgaa.H
