/-
The walk of TableSectors.
-/
import Derived.Test.YtbefoehjlgdcgaaFx
namespace Go.Proofs.Ytbefoehjlgdcgaa.H
open Go.RowKit Go.Proofs.YtbefoehjlgdcgaaW.PrintWords Go.Proofs.YtbefoehjlgdcgaaW.PrintLast Go.Proofs.YtbefoehjlgdcgaaW.PrintMore
attribute [local go_sem] max2_int min2_int max_two min_two max_three min_three max_four min_four
set_option linter.unusedVariables false
set_option linter.unusedSimpArgs false
def zs0 : Array Bool := #[false,false,false,false,false,false,false,false,false,false,false,false]
def zs1 : Array Bool := #[true,false,false,false,false,false,false,false,false,false,false,false]
def zs2 : Array Bool := #[true,false,false,true,false,false,false,false,false,false,false,false]
def zs3 : Array Bool := #[true,false,false,true,false,false,true,false,false,false,false,false]
def zs4 : Array Bool := #[true,false,false,true,false,false,true,true,false,false,false,false]
def zs5 : Array Bool := #[true,true,false,true,false,false,true,true,false,false,false,false]
def zs6 : Array Bool := #[true,true,true,true,false,false,true,true,false,false,false,false]
def zs7 : Array Bool := #[true,true,true,true,true,false,true,true,false,false,false,false]
def zs8 : Array Bool := #[true,true,true,true,true,true,true,true,false,false,false,false]
def zs9 : Array Bool := #[true,true,true,true,true,true,true,true,true,false,false,false]
def zs10 : Array Bool := #[true,true,true,true,true,true,true,true,true,true,false,false]
def zs11 : Array Bool := #[true,true,true,true,true,true,true,true,true,true,true,false]
def zs12 : Array Bool := #[true,true,true,true,true,true,true,true,true,true,true,true]
def zs13 : Array Bool := #[false,false,false,false,false,false,false,false]
def zs14 : Array Bool := #[true,false,false,false,false,false,false,false]
def zs15 : Array Bool := #[true,false,false,true,false,false,false,false]
def zs16 : Array Bool := #[true,true,false,true,false,false,false,false]
def zs17 : Array Bool := #[true,true,false,true,true,false,false,false]
def zs18 : Array Bool := #[true,true,true,true,true,false,false,false]
def zs19 : Array Bool := #[true,true,true,true,true,true,false,false]
def zs20 : Array Bool := #[true,true,true,true,true,true,true,false]
def zs21 : Array Bool := #[true,true,true,true,true,true,true,true]
theorem zsI {α : Type} (l : List α) (i : Nat) (a : α) : l.toArray.setIfInBounds i a = (l.set i a).toArray := List.setIfInBounds_toArray l i a
theorem zss0 {α : Type} (x : α) (l : List α) (a : α) : (x :: l).set 0 a = a :: l := rfl
theorem zss1 {α : Type} (x : α) (l : List α) (i : Nat) (a : α) : (x :: l).set (i + 1) a = x :: l.set i a := rfl
theorem and_le (x : Int) (m : Nat) (hm : m < 9223372036854775808) : 0 ≤ bits .and .i64 x (m : Int) ∧ bits .and .i64 x (m : Int) ≤ m := by
 have e : bits .and .i64 x (m : Int) = IntKind.i64.wrap (((BitVec.ofInt 64 x &&& BitVec.ofInt 64 (m : Int)).toNat : Nat) : Int) := rfl
 have h2 : (BitVec.ofInt 64 (m : Int)).toNat = m := by
  rw [BitVec.ofInt_natCast,BitVec.toNat_ofNat]
  exact Nat.mod_eq_of_lt (by omega)
 have h1 : (BitVec.ofInt 64 x &&& BitVec.ofInt 64 (m : Int)).toNat ≤ m := by
  rw [BitVec.toNat_and,h2]
  exact Nat.and_le_right
 rw [e,i64_w]
 generalize (BitVec.ofInt 64 x &&& BitVec.ofInt 64 (m : Int)).toNat = q at h1
 unfold wrap64
 omega
theorem rem_le {x n : Int} (hx : 0 ≤ x) (hn : 1 ≤ n) : 0 ≤ x.tmod (n + 1) ∧ x.tmod (n + 1) ≤ n := by
 rw [Int.tmod_eq_emod_of_nonneg hx]
 have h1 := Int.emod_nonneg x (b := n + 1) (by omega)
 have h2 := Int.emod_lt_of_pos x (b := n + 1) (by omega)
 omega
theorem sect_mul {n a : Int} (hn : 1 ≤ n ∧ n ≤ 30) (ha : 0 ≤ a ∧ a ≤ 15) : 0 ≤ a * (n + 1) ∧ a * (n + 1) ≤ 15 * (n + 1) := ⟨Int.mul_nonneg ha.1 (by omega),Int.mul_le_mul_of_nonneg_right ha.2 (by omega)⟩
theorem sector_is {n a b : Int} (hn : 1 ≤ n ∧ n ≤ 30) (ha : 0 ≤ a ∧ a ≤ 15) (hb : 0 ≤ b ∧ b ≤ n) : table_Sector.f n a b = some (2 + a * (n + 1) + b) := by
 unfold table_Sector.f
 have h := sect_mul hn ha
 rw [if_neg (by omega),if_neg (by omega),if_neg (by omega),if_neg (by omega),if_neg (by omega),if_neg (by omega)]
 have e1 : wrap64 (n + 1) = n + 1 := by unfold wrap64; omega
 rw [e1]
 generalize a * (n + 1) = m at h
 congr 1
 unfold wrap64
 omega
theorem sect_ne {n a b c d : Int} (hn : 1 ≤ n ∧ n ≤ 30) (hb : 0 ≤ b ∧ b ≤ n) (hd : 0 ≤ d ∧ d ≤ n) (h : 2 + a * (n + 1) + b = 2 + c * (n + 1) + d) : a = c ∧ b = d := by
 have hac : a = c := by
  rcases Int.lt_trichotomy a c with q | q | q
  ·have := Int.mul_le_mul_of_nonneg_right (show a + 1 ≤ c by omega) (show (0 : Int) ≤ n + 1 by omega)
   rw [Int.add_mul,Int.one_mul] at this
   omega
  ·exact q
  ·have := Int.mul_le_mul_of_nonneg_right (show c + 1 ≤ a by omega) (show (0 : Int) ≤ n + 1 by omega)
   rw [Int.add_mul,Int.one_mul] at this
   omega
 subst hac
 exact ⟨rfl,by omega⟩
def sectors.T2 : Bool × List (List Nat × List Nat) := (true,[([],[]),([0],[0]),([1],[1]),([],[]),([3],[3]),([4],[4]),([],[]),([6],[6]),([5,7],[5,7]),([2,8],[2,8]),([],[]),([10,9,0,1,2,3,4,5,6,7,8,9,10],[9,10])])
def sectors.B2 : List Nat := [0,1,3,0,8,24,0,64,248,511,0,2047]
theorem sectors.tab2 : rtab .any (opsOf Try.f7 2) = sectors.T2 := by kernel_rfl
theorem sectors.bits2 : waitsOk sectors.T2.2 sectors.B2 = true := by kernel_rfl
def sectors.T3 : Bool × List (List Nat × List Nat) := (true,[([],[]),([0],[0]),([1],[1]),([],[]),([3],[3]),([4],[4]),([],[]),([6],[6]),([5,7],[5,7]),([2,8],[2,8]),([],[]),([10,9,0,1,2,3,4,5,6,7,8,9,10],[9,10])])
def sectors.B3 : List Nat := [0,1,3,0,8,24,0,64,248,511,0,2047]
theorem sectors.tab3 : rtab .any (opsOf Try.f7 3) = sectors.T3 := by kernel_rfl
theorem sectors.bits3 : waitsOk sectors.T3.2 sectors.B3 = true := by kernel_rfl
def sectors.T4 : Bool × List (List Nat × List Nat) := (true,[([],[]),([],[]),([0,1],[0,1]),([],[]),([],[]),([3,4,2],[3,4]),([2,5,0,1,2],[2]),([5,6,0,1,2,3,4,5,6],[5])])
def sectors.B4 : List Nat := [0,0,3,0,0,31,63,127]
theorem sectors.tab4 : rtab .any (opsOf Try.f7 4) = sectors.T4 := by kernel_rfl
theorem sectors.bits4 : waitsOk sectors.T4.2 sectors.B4 = true := by kernel_rfl
set_option maxHeartbeats 8000000 in
set_option maxRecDepth 100000 in
theorem TableSectors_walk0 (u a0 a1 b0 b1 : Int) (hu : 0 ≤ u ∧ u ≤ 255) (w : World) :
  Calls Try.prog 7 #[.int .u8 u,.agg #[.int .i64 a0,.int .i64 a1],.agg #[.int .i64 b0,.int .i64 b1]] w fun e w' => e = .returned (.bool true) ∧ Below w.heap.size w w' := by
 go_enter Try.func7,Try.ntmps7
 go_upto_region 2 with fail
 obtain ⟨n,hn⟩ : ∃ n,n = 1 + u % 30 := ⟨_,rfl⟩
 rw [← hn]
 have hn1 : 1 ≤ n := by omega
 have hn30 : n ≤ 30 := by omega
 have HN := Aside0.mk (And.intro hn1 hn30)
 clear hn hu
 obtain ⟨W1,hW1⟩ : ∃ W1,W1 = (w.alloc (.cells #[.int .i64 a0,.int .i64 a1] 53)).alloc (.cells #[.int .i64 b0,.int .i64 b1] 53) := ⟨_,rfl⟩
 rw [← hW1]
 obtain ⟨g2,hg2⟩ : ∃ g,g = w.heap.size + 1 := ⟨_,rfl⟩
 obtain ⟨g1,hg1⟩ : ∃ g,g = w.heap.size := ⟨_,rfl⟩
 have HX1 : Aside0 (W1.heap[g1]? = some (.cells #[.int .i64 a0,.int .i64 a1] 53 (0,0))) := ⟨by rw [hW1,hg1]; exact blk_alloc (blk_new _ _) _⟩
 have HX2 : Aside0 (W1.heap[g2]? = some (.cells #[.int .i64 b0,.int .i64 b1] 53 (0,0))) := ⟨by rw [hW1,hg2]; have := blk_new (w.alloc (.cells #[.int .i64 a0,.int .i64 a1] 53)) (.cells #[.int .i64 b0,.int .i64 b1] 53); simpa using this⟩
 have HB : Aside0 (Below w.heap.size w W1) := ⟨by rw [hW1]; exact below_alloc (below_alloc (Below.refl _ _) _) _⟩
 rw [← hg2,← hg1]
 clear hW1 hg2 hg1
 obtain ⟨x0,hx0⟩ : ∃ z,bits BinOp.and IntKind.i64 a0 15 = z := ⟨_,rfl⟩
 obtain ⟨tx,htx⟩ : ∃ z,bits BinOp.and IntKind.i64 a1 255 = z := ⟨_,rfl⟩
 obtain ⟨x1,hx1⟩ : ∃ z,tx.tmod (n + 1) = z := ⟨_,rfl⟩
 have HQx : Aside0 ((0 ≤ x0 ∧ x0 ≤ 15) ∧ 0 ≤ x1 ∧ x1 ≤ n) := ⟨by rw [← hx0,← hx1]; refine ⟨and_le _ 15 (by decide),rem_le ?_ hn1⟩; rw [← htx]; exact (and_le _ 255 (by decide)).1⟩
 obtain ⟨y0,hy0⟩ : ∃ z,bits BinOp.and IntKind.i64 b0 15 = z := ⟨_,rfl⟩
 obtain ⟨ty,hty⟩ : ∃ z,bits BinOp.and IntKind.i64 b1 255 = z := ⟨_,rfl⟩
 obtain ⟨y1,hy1⟩ : ∃ z,ty.tmod (n + 1) = z := ⟨_,rfl⟩
 have HQy : Aside0 ((0 ≤ y0 ∧ y0 ≤ 15) ∧ 0 ≤ y1 ∧ y1 ≤ n) := ⟨by rw [← hy0,← hy1]; refine ⟨and_le _ 15 (by decide),rem_le ?_ hn1⟩; rw [← hty]; exact (and_le _ 255 (by decide)).1⟩
 have hz1 : (n + 1 = 0) = False := eq_false (by omega)
 have hz2 : n + 1 ≤ 9223372036854775807 := by omega
 have hz3 : IntKind.i64.wrap (n + 1) = n + 1 := by rw [i64_w]; unfold wrap64; omega
 refine start_ (n := 12) (S := fun w' => w'.cell? ⟨g1,0,none⟩ = some (.int .i64 a0) ∧ w'.cell? ⟨g1,1,none⟩ = some (.int .i64 a1)) (ds := [11]) zs0 (by kernel_rfl) rfl rfl ⟨((blk_cell (blk_drew HX1.out) 0).trans rfl),((blk_cell (blk_drew HX1.out) 1).trans rfl)⟩ (fun hHeld => ?_)
 refine with_tabW sectors.tab2 sectors.bits2 (fun HT_ HW_ => ?_)
 replace HX1 := Aside0.mk (blk_drew HX1.out)
 replace HX2 := Aside0.mk (blk_drew HX2.out)
 replace HB := Aside0.mk (below_drew HB.out)
 generalize W1.drew = wd1 at *
 refine pure_ (i := 0) (N := some 16) (v := ?_) (a' := ?_) zs1 rfl rfl (any_of HT_.out (by kernel_rfl)) (fun _ _ _ h => h) (Or.inl ⟨by rfl,?_⟩) ?_ ?_
 rotate_left
 ·intro w'
  go_simp
  with_reducible rfl
 rotate_left
 ·simp only [Act.put,zsI,zss0,zss1,i64_w,i32_w]
  rfl
 refine pure_ (i := 3) (N := some 19) (v := ?_) (a' := ?_) zs2 rfl rfl (any_of HT_.out (by kernel_rfl)) (fun _ _ _ h => h) (Or.inl ⟨by rfl,?_⟩) ?_ ?_
 rotate_left
 ·intro w'
  go_simp
  with_reducible rfl
 rotate_left
 ·simp only [Act.put,zsI,zss0,zss1,i64_w,i32_w]
  rfl
 refine pure_ (i := 6) (N := some 22) (v := ?_) (a' := ?_) zs3 rfl rfl (any_of HT_.out (by kernel_rfl)) (fun _ _ _ h => h) (Or.inl ⟨by rfl,?_⟩) ?_ ?_
 rotate_left
 ·intro w'
  go_simp
  with_reducible rfl
 rotate_left
 ·simp only [Act.put,zsI,zss0,zss1,i64_w,i32_w]
  rfl
 refine pure_ (i := 7) (N := some 23) (v := ?_) (a' := ?_) zs4 rfl rfl (any_of HT_.out (by kernel_rfl)) (fun _ _ _ h => h) (Or.inl ⟨by rfl,?_⟩) ?_ ?_
 rotate_left
 ·intro w'
  go_simp
  with_reducible rfl
 rotate_left
 ·simp only [Act.put,zsI,zss0,zss1,i64_w,i32_w]
  rfl
 refine take_ (i := 1) (N := some 17) (v := ?_) (a' := ?_) zs5 rfl rfl (take_ofW HT_.out HW_.out (by kernel_rfl)) (fun _ _ _ h => h) (Or.inl ⟨by rfl,?_⟩) hHeld ?_ ?_
 rotate_left
 ·rintro w' ⟨s0,s1⟩
  go_simp
  with_reducible rfl
 rotate_left
 ·simp only [Act.put,zsI,zss0,zss1,i64_w,i32_w]
  rfl
 refine pure_ (i := 2) (N := some 18) (v := ?_) (a' := ?_) zs6 rfl rfl (any_of HT_.out (by kernel_rfl)) (fun _ _ _ h => h) (Or.inl ⟨by rfl,?_⟩) ?_ ?_
 rotate_left
 ·intro w'
  go_simp
  with_reducible rfl
 rotate_left
 ·simp only [Act.put,zsI,zss0,zss1,i64_w,i32_w]
  rfl
 refine take_ (i := 4) (N := some 20) (v := ?_) (a' := ?_) zs7 rfl rfl (take_ofW HT_.out HW_.out (by kernel_rfl)) (fun _ _ _ h => h) (Or.inl ⟨by rfl,?_⟩) hHeld ?_ ?_
 rotate_left
 ·rintro w' ⟨s0,s1⟩
  go_simp
  with_reducible rfl
 rotate_left
 ·simp only [Act.put,zsI,zss0,zss1,i64_w,i32_w]
  rfl
 refine pure_ (i := 5) (N := some 21) (v := ?_) (a' := ?_) zs8 rfl rfl (any_of HT_.out (by kernel_rfl)) (fun _ _ _ h => h) (Or.inl ⟨by rfl,?_⟩) ?_ ?_
 rotate_left
 ·intro w'
  go_simp
  with_reducible rfl
 rotate_left
 ·simp only [Act.put,zsI,zss0,zss1,i64_w,i32_w]
  rfl
 refine pure_ (i := 8) (N := some 24) (v := ?_) (a' := ?_) zs9 rfl rfl (any_of HT_.out (by kernel_rfl)) (fun _ _ _ h => h) (Or.inl ⟨by rfl,?_⟩) ?_ ?_
 rotate_left
 ·intro w'
  go_simp
  with_reducible rfl
 rotate_left
 ·simp only [Act.put,zsI,zss0,zss1,i64_w,i32_w]
  rfl
 refine pure_ (i := 9) (N := some 25) (v := ?_) (a' := ?_) zs10 rfl rfl (any_of HT_.out (by kernel_rfl)) (fun _ _ _ h => h) (Or.inl ⟨by rfl,?_⟩) ?_ ?_
 rotate_left
 ·intro w'
  go_simp
  with_reducible rfl
 rotate_left
 ·simp only [Act.put,zsI,zss0,zss1,i64_w,i32_w]
  rfl
 refine one_ (i := 10) (N := some 8) zs11 rfl rfl (one_of HT_.out (by kernel_rfl)) (by decide) (fun K hK => ?_)
 refine value_ (w1 := ?_) (v := ?_) (by rfl) rfl ?_ ?_
 rotate_left 2
 ·go_simp
  constructor
  ·rfl
  ·rfl
 obtain ⟨wa1,hW⟩ : ∃ W_,W_ = wd1.alloc (.cells #[.int .i64 0,.int .i64 0] 53) := ⟨_,rfl⟩
 obtain ⟨gx,hh⟩ : ∃ g_,g_ = wd1.heap.size := ⟨_,rfl⟩
 rw [← hW,← hh]
 have hb_ : Below wd1.heap.size wd1 wa1 := by rw [hW]; exact below_alloc (Below.refl _ _) _
 have HXx : Aside0 (wa1.heap[gx]? = some (.cells #[.int .i64 0,.int .i64 0] 53 (0,0))) := ⟨by rw [hW,hh]; exact blk_new _ _⟩
 have HGx : Aside0 (w.heap.size ≤ gx) := ⟨by rw [hh]; exact below_size HB.out⟩
 have NEHX1x : Aside0 (g1 ≠ gx) := ⟨by rw [hh]; exact Nat.ne_of_lt (blk_lt HX1.out)⟩
 have NEHX2x : Aside0 (g2 ≠ gx) := ⟨by rw [hh]; exact Nat.ne_of_lt (blk_lt HX2.out)⟩
 replace HX1 := Aside0.mk (blk_below HX1.out hb_)
 replace HX2 := Aside0.mk (blk_below HX2.out hb_)
 replace HB := Aside0.mk (below_step HB.out hb_)
 clear hW hh hb_
 refine hK.out _ _ ⟨((blk_cell HX1.out 0).trans rfl),((blk_cell HX1.out 1).trans rfl)⟩ (fun hHeld => ?_)
 clear hK K
 refine norm_ (a' := ?_) ?_ ?_
 rotate_left
 ·show Act.put _ (some 8) _ = _
  simp only [Act.put,zsI,zss0,zss1,i64_w,i32_w]
  rfl
 refine last_ (i := 11) (N := none) zs12 rfl rfl (one_of HT_.out (by kernel_rfl)) (by decide) (fun K hK => ?_)
 have c_0 : wa1.cell? ⟨gx,0,none⟩ = some (.int .i64 0) := (blk_cell HXx.out 0).trans rfl
 have c_1 : wa1.cell? ⟨gx,1,none⟩ = some (.int .i64 0) := (blk_cell HXx.out 1).trans rfl
 have cf_0 := blk_frozen HXx.out 0
 have cf_1 := blk_frozen HXx.out 1
 refine skip_ (w1 := ?_) (by rfl) rfl ?_ ?_
 rotate_left
 ·go_simp
  rfl
 clear c_0 c_1 cf_0 cf_1
 obtain ⟨ws1,hW⟩ : ∃ W_,W_ = (wa1.setCell ⟨gx,0,none⟩ (.int .i64 x0)).setCell ⟨gx,1,none⟩ (.int .i64 x1) := ⟨_,rfl⟩
 rw [← hW]
 have q1 := blk_set (blk_set HXx.out 0 (.int .i64 x0)) 1 (.int .i64 x1)
 simp only [zsI,zss0,zss1] at q1
 have qHX1 := blk_far (blk_far HX1.out (p := ⟨gx,0,none⟩) NEHX1x.out (.int .i64 x0)) (p := ⟨gx,1,none⟩) NEHX1x.out (.int .i64 x1)
 have qHX2 := blk_far (blk_far HX2.out (p := ⟨gx,0,none⟩) NEHX2x.out (.int .i64 x0)) (p := ⟨gx,1,none⟩) NEHX2x.out (.int .i64 x1)
 have q2 := below_set (j := 1) (v := .int .i64 x1) (below_set (j := 0) (v := .int .i64 x0) HB.out HGx.out) HGx.out
 rw [← hW] at q1 q2 qHX1 qHX2
 clear hW
 replace HXx := Aside0.mk (q1)
 replace HX1 := Aside0.mk (qHX1)
 replace HX2 := Aside0.mk (qHX2)
 replace HB := Aside0.mk (q2)
 clear q1 q2 qHX1 qHX2
 refine hK.out _ _ ?_
 clear hK K
 refine done_ (done_of HT_.out (by kernel_rfl)) ?_
 clear HT_ HW_ hHeld
 go_upto_region 3 with fail
 refine start_ (n := 12) (S := fun w' => w'.cell? ⟨g2,0,none⟩ = some (.int .i64 b0) ∧ w'.cell? ⟨g2,1,none⟩ = some (.int .i64 b1)) (ds := [11]) zs0 (by kernel_rfl) rfl rfl ⟨((blk_cell (blk_drew HX2.out) 0).trans rfl),((blk_cell (blk_drew HX2.out) 1).trans rfl)⟩ (fun hHeld => ?_)
 refine with_tabW sectors.tab3 sectors.bits3 (fun HT_ HW_ => ?_)
 replace HX1 := Aside0.mk (blk_drew HX1.out)
 replace HX2 := Aside0.mk (blk_drew HX2.out)
 replace HXx := Aside0.mk (blk_drew HXx.out)
 replace HB := Aside0.mk (below_drew HB.out)
 generalize ws1.drew = wd2 at *
 refine pure_ (i := 0) (N := some 26) (v := ?_) (a' := ?_) zs1 rfl rfl (any_of HT_.out (by kernel_rfl)) (fun _ _ _ h => h) (Or.inl ⟨by rfl,?_⟩) ?_ ?_
 rotate_left
 ·intro w'
  go_simp
  with_reducible rfl
 rotate_left
 ·simp only [Act.put,zsI,zss0,zss1,i64_w,i32_w]
  rfl
 refine pure_ (i := 3) (N := some 29) (v := ?_) (a' := ?_) zs2 rfl rfl (any_of HT_.out (by kernel_rfl)) (fun _ _ _ h => h) (Or.inl ⟨by rfl,?_⟩) ?_ ?_
 rotate_left
 ·intro w'
  go_simp
  with_reducible rfl
 rotate_left
 ·simp only [Act.put,zsI,zss0,zss1,i64_w,i32_w]
  rfl
 refine pure_ (i := 6) (N := some 32) (v := ?_) (a' := ?_) zs3 rfl rfl (any_of HT_.out (by kernel_rfl)) (fun _ _ _ h => h) (Or.inl ⟨by rfl,?_⟩) ?_ ?_
 rotate_left
 ·intro w'
  go_simp
  with_reducible rfl
 rotate_left
 ·simp only [Act.put,zsI,zss0,zss1,i64_w,i32_w]
  rfl
 refine pure_ (i := 7) (N := some 33) (v := ?_) (a' := ?_) zs4 rfl rfl (any_of HT_.out (by kernel_rfl)) (fun _ _ _ h => h) (Or.inl ⟨by rfl,?_⟩) ?_ ?_
 rotate_left
 ·intro w'
  go_simp
  with_reducible rfl
 rotate_left
 ·simp only [Act.put,zsI,zss0,zss1,i64_w,i32_w]
  rfl
 refine take_ (i := 1) (N := some 27) (v := ?_) (a' := ?_) zs5 rfl rfl (take_ofW HT_.out HW_.out (by kernel_rfl)) (fun _ _ _ h => h) (Or.inl ⟨by rfl,?_⟩) hHeld ?_ ?_
 rotate_left
 ·rintro w' ⟨s0,s1⟩
  go_simp
  with_reducible rfl
 rotate_left
 ·simp only [Act.put,zsI,zss0,zss1,i64_w,i32_w]
  rfl
 refine pure_ (i := 2) (N := some 28) (v := ?_) (a' := ?_) zs6 rfl rfl (any_of HT_.out (by kernel_rfl)) (fun _ _ _ h => h) (Or.inl ⟨by rfl,?_⟩) ?_ ?_
 rotate_left
 ·intro w'
  go_simp
  with_reducible rfl
 rotate_left
 ·simp only [Act.put,zsI,zss0,zss1,i64_w,i32_w]
  rfl
 refine take_ (i := 4) (N := some 30) (v := ?_) (a' := ?_) zs7 rfl rfl (take_ofW HT_.out HW_.out (by kernel_rfl)) (fun _ _ _ h => h) (Or.inl ⟨by rfl,?_⟩) hHeld ?_ ?_
 rotate_left
 ·rintro w' ⟨s0,s1⟩
  go_simp
  with_reducible rfl
 rotate_left
 ·simp only [Act.put,zsI,zss0,zss1,i64_w,i32_w]
  rfl
 refine pure_ (i := 5) (N := some 31) (v := ?_) (a' := ?_) zs8 rfl rfl (any_of HT_.out (by kernel_rfl)) (fun _ _ _ h => h) (Or.inl ⟨by rfl,?_⟩) ?_ ?_
 rotate_left
 ·intro w'
  go_simp
  with_reducible rfl
 rotate_left
 ·simp only [Act.put,zsI,zss0,zss1,i64_w,i32_w]
  rfl
 refine pure_ (i := 8) (N := some 34) (v := ?_) (a' := ?_) zs9 rfl rfl (any_of HT_.out (by kernel_rfl)) (fun _ _ _ h => h) (Or.inl ⟨by rfl,?_⟩) ?_ ?_
 rotate_left
 ·intro w'
  go_simp
  with_reducible rfl
 rotate_left
 ·simp only [Act.put,zsI,zss0,zss1,i64_w,i32_w]
  rfl
 refine pure_ (i := 9) (N := some 35) (v := ?_) (a' := ?_) zs10 rfl rfl (any_of HT_.out (by kernel_rfl)) (fun _ _ _ h => h) (Or.inl ⟨by rfl,?_⟩) ?_ ?_
 rotate_left
 ·intro w'
  go_simp
  with_reducible rfl
 rotate_left
 ·simp only [Act.put,zsI,zss0,zss1,i64_w,i32_w]
  rfl
 refine one_ (i := 10) (N := some 9) zs11 rfl rfl (one_of HT_.out (by kernel_rfl)) (by decide) (fun K hK => ?_)
 refine value_ (w1 := ?_) (v := ?_) (by rfl) rfl ?_ ?_
 rotate_left 2
 ·go_simp
  constructor
  ·rfl
  ·rfl
 obtain ⟨wa2,hW⟩ : ∃ W_,W_ = wd2.alloc (.cells #[.int .i64 0,.int .i64 0] 53) := ⟨_,rfl⟩
 obtain ⟨gy,hh⟩ : ∃ g_,g_ = wd2.heap.size := ⟨_,rfl⟩
 rw [← hW,← hh]
 have hb_ : Below wd2.heap.size wd2 wa2 := by rw [hW]; exact below_alloc (Below.refl _ _) _
 have HXy : Aside0 (wa2.heap[gy]? = some (.cells #[.int .i64 0,.int .i64 0] 53 (0,0))) := ⟨by rw [hW,hh]; exact blk_new _ _⟩
 have HGy : Aside0 (w.heap.size ≤ gy) := ⟨by rw [hh]; exact below_size HB.out⟩
 have NEHX1y : Aside0 (g1 ≠ gy) := ⟨by rw [hh]; exact Nat.ne_of_lt (blk_lt HX1.out)⟩
 have NEHX2y : Aside0 (g2 ≠ gy) := ⟨by rw [hh]; exact Nat.ne_of_lt (blk_lt HX2.out)⟩
 have NEHXxy : Aside0 (gx ≠ gy) := ⟨by rw [hh]; exact Nat.ne_of_lt (blk_lt HXx.out)⟩
 replace HX1 := Aside0.mk (blk_below HX1.out hb_)
 replace HX2 := Aside0.mk (blk_below HX2.out hb_)
 replace HXx := Aside0.mk (blk_below HXx.out hb_)
 replace HB := Aside0.mk (below_step HB.out hb_)
 clear hW hh hb_
 refine hK.out _ _ ⟨((blk_cell HX2.out 0).trans rfl),((blk_cell HX2.out 1).trans rfl)⟩ (fun hHeld => ?_)
 clear hK K
 refine norm_ (a' := ?_) ?_ ?_
 rotate_left
 ·show Act.put _ (some 9) _ = _
  simp only [Act.put,zsI,zss0,zss1,i64_w,i32_w]
  rfl
 refine last_ (i := 11) (N := none) zs12 rfl rfl (one_of HT_.out (by kernel_rfl)) (by decide) (fun K hK => ?_)
 have c_0 : wa2.cell? ⟨gy,0,none⟩ = some (.int .i64 0) := (blk_cell HXy.out 0).trans rfl
 have c_1 : wa2.cell? ⟨gy,1,none⟩ = some (.int .i64 0) := (blk_cell HXy.out 1).trans rfl
 have cf_0 := blk_frozen HXy.out 0
 have cf_1 := blk_frozen HXy.out 1
 refine skip_ (w1 := ?_) (by rfl) rfl ?_ ?_
 rotate_left
 ·go_simp
  rfl
 clear c_0 c_1 cf_0 cf_1
 obtain ⟨ws2,hW⟩ : ∃ W_,W_ = (wa2.setCell ⟨gy,0,none⟩ (.int .i64 y0)).setCell ⟨gy,1,none⟩ (.int .i64 y1) := ⟨_,rfl⟩
 rw [← hW]
 have q1 := blk_set (blk_set HXy.out 0 (.int .i64 y0)) 1 (.int .i64 y1)
 simp only [zsI,zss0,zss1] at q1
 have qHX1 := blk_far (blk_far HX1.out (p := ⟨gy,0,none⟩) NEHX1y.out (.int .i64 y0)) (p := ⟨gy,1,none⟩) NEHX1y.out (.int .i64 y1)
 have qHX2 := blk_far (blk_far HX2.out (p := ⟨gy,0,none⟩) NEHX2y.out (.int .i64 y0)) (p := ⟨gy,1,none⟩) NEHX2y.out (.int .i64 y1)
 have qHXx := blk_far (blk_far HXx.out (p := ⟨gy,0,none⟩) NEHXxy.out (.int .i64 y0)) (p := ⟨gy,1,none⟩) NEHXxy.out (.int .i64 y1)
 have q2 := below_set (j := 1) (v := .int .i64 y1) (below_set (j := 0) (v := .int .i64 y0) HB.out HGy.out) HGy.out
 rw [← hW] at q1 q2 qHX1 qHX2 qHXx
 clear hW
 replace HXy := Aside0.mk (q1)
 replace HX1 := Aside0.mk (qHX1)
 replace HX2 := Aside0.mk (qHX2)
 replace HXx := Aside0.mk (qHXx)
 replace HB := Aside0.mk (q2)
 clear q1 q2 qHX1 qHX2 qHXx
 refine hK.out _ _ ?_
 clear hK K
 refine done_ (done_of HT_.out (by kernel_rfl)) ?_
 clear HT_ HW_ hHeld
 clear hx0 htx hx1 hy0 hty hy1 HX1 HX2 hz1 NEHX1x NEHX1y NEHX2x NEHX2y NEHXxy
 go_upto_region 4 with fail
 refine start_ (n := 8) (S := fun w' => w'.cell? ⟨gx,0,none⟩ = some (.int .i64 x0) ∧ w'.cell? ⟨gx,1,none⟩ = some (.int .i64 x1) ∧ w'.cell? ⟨gy,0,none⟩ = some (.int .i64 y0) ∧ w'.cell? ⟨gy,1,none⟩ = some (.int .i64 y1)) (ds := []) zs13 (by kernel_rfl) rfl rfl ⟨((blk_cell (blk_drew HXx.out) 0).trans rfl),((blk_cell (blk_drew HXx.out) 1).trans rfl),((blk_cell (blk_drew HXy.out) 0).trans rfl),((blk_cell (blk_drew HXy.out) 1).trans rfl)⟩ (fun hHeld => ?_)
 refine with_tabW sectors.tab4 sectors.bits4 (fun HT_ HW_ => ?_)
 replace HXx := Aside0.mk (blk_drew HXx.out)
 replace HXy := Aside0.mk (blk_drew HXy.out)
 replace HB := Aside0.mk (below_drew HB.out)
 generalize ws2.drew = wd3 at *
 refine pure_ (i := 0) (N := some 36) (v := ?_) (a' := ?_) zs14 rfl rfl (any_of HT_.out (by kernel_rfl)) (fun _ _ _ h => h) (Or.inl ⟨by rfl,?_⟩) ?_ ?_
 rotate_left
 ·intro w'
  go_simp
  with_reducible rfl
 rotate_left
 ·simp only [Act.put,zsI,zss0,zss1,i64_w,i32_w]
  rfl
 refine pure_ (i := 3) (N := some 39) (v := ?_) (a' := ?_) zs15 rfl rfl (any_of HT_.out (by kernel_rfl)) (fun _ _ _ h => h) (Or.inl ⟨by rfl,?_⟩) ?_ ?_
 rotate_left
 ·intro w'
  go_simp
  with_reducible rfl
 rotate_left
 ·simp only [Act.put,zsI,zss0,zss1,i64_w,i32_w]
  rfl
 refine take_ (i := 1) (N := some 37) (v := ?_) (a' := ?_) zs16 rfl rfl (take_ofW HT_.out HW_.out (by kernel_rfl)) (fun _ _ _ h => h) (Or.inl ⟨by rfl,?_⟩) hHeld ?_ ?_
 rotate_left
 ·rintro w' ⟨s0,s1,s2,s3⟩
  go_simp
  with_reducible rfl
 rotate_left
 ·simp only [Act.put,zsI,zss0,zss1,i64_w,i32_w]
  rfl
 refine take_ (i := 4) (N := some 40) (v := ?_) (a' := ?_) zs17 rfl rfl (take_ofW HT_.out HW_.out (by kernel_rfl)) (fun _ _ _ h => h) (Or.inl ⟨by rfl,?_⟩) hHeld ?_ ?_
 rotate_left
 ·rintro w' ⟨s0,s1,s2,s3⟩
  go_simp
  with_reducible rfl
 rotate_left
 ·simp only [Act.put,zsI,zss0,zss1,i64_w,i32_w]
  rfl
 refine one_ (i := 2) (N := some 38) zs18 rfl rfl (one_of HT_.out (by kernel_rfl)) (by decide) (fun K hK => ?_)
 refine goes_ Try.func27 (by kernel_rfl) rfl #[.int .i64 n,.agg #[.int .i64 x0,.int .i64 x1]] (by rfl) rfl rfl (by simp only [List.map_toArray,List.map_cons,List.map_nil]; rfl) ?_
 with_reducible refine (table_Sector.calls n x0 x1 _ _ (sector_is HN.out HQx.out.1 HQx.out.2)).mono ?_
 rintro e_ wc1 ⟨rfl,hb⟩
 refine ⟨_,rfl,?_⟩
 replace HXx := Aside0.mk (blk_below HXx.out hb)
 replace HXy := Aside0.mk (blk_below HXy.out hb)
 replace HB := Aside0.mk (below_step HB.out hb)
 clear hb
 refine hK.out _ _ ⟨((blk_cell HXx.out 0).trans rfl),((blk_cell HXx.out 1).trans rfl),((blk_cell HXy.out 0).trans rfl),((blk_cell HXy.out 1).trans rfl)⟩ (fun hHeld => ?_)
 clear hK K
 refine norm_ (a' := ?_) ?_ ?_
 rotate_left
 ·show Act.put _ (some 38) _ = _
  simp only [Act.put,zsI,zss0,zss1,i64_w,i32_w]
  rfl
 refine one_ (i := 5) (N := some 41) zs19 rfl rfl (one_of HT_.out (by kernel_rfl)) (by decide) (fun K hK => ?_)
 refine goes_ Try.func27 (by kernel_rfl) rfl #[.int .i64 n,.agg #[.int .i64 y0,.int .i64 y1]] (by rfl) rfl rfl (by simp only [List.map_toArray,List.map_cons,List.map_nil]; rfl) ?_
 with_reducible refine (table_Sector.calls n y0 y1 _ _ (sector_is HN.out HQy.out.1 HQy.out.2)).mono ?_
 rintro e_ wc2 ⟨rfl,hb⟩
 refine ⟨_,rfl,?_⟩
 replace HXx := Aside0.mk (blk_below HXx.out hb)
 replace HXy := Aside0.mk (blk_below HXy.out hb)
 replace HB := Aside0.mk (below_step HB.out hb)
 clear hb
 refine hK.out _ _ ⟨((blk_cell HXx.out 0).trans rfl),((blk_cell HXx.out 1).trans rfl),((blk_cell HXy.out 0).trans rfl),((blk_cell HXy.out 1).trans rfl)⟩ (fun hHeld => ?_)
 clear hK K
 refine norm_ (a' := ?_) ?_ ?_
 rotate_left
 ·show Act.put _ (some 41) _ = _
  simp only [Act.put,zsI,zss0,zss1,i64_w,i32_w]
  rfl
 refine pure_ (i := 6) (N := some 10) (v := ?_) (a' := ?_) zs20 rfl rfl (any_of HT_.out (by kernel_rfl)) (fun _ _ _ h => h) (Or.inl ⟨by rfl,?_⟩) ?_ ?_
 rotate_left
 ·intro w'
  go_simp
  with_reducible rfl
 rotate_left
 ·simp only [Act.put,zsI,zss0,zss1,i64_w,i32_w]
  rfl
 refine pure_ (i := 7) (N := some 11) (v := ?_) (a' := ?_) zs21 rfl rfl (any_of HT_.out (by kernel_rfl)) (fun _ _ _ h => h) (Or.inl ⟨by rfl,?_⟩) ?_ ?_
 rotate_left
 ·intro w'
  go_simp
  with_reducible rfl
 rotate_left
 ·simp only [Act.put,zsI,zss0,zss1,i64_w,i32_w]
  rfl
 refine done_ (done_of HT_.out (by kernel_rfl)) ?_
 clear HT_ HW_ hHeld
 obtain ⟨i,hi⟩ : ∃ z,z = 2 + x0 * (n + 1) + x1 := ⟨_,rfl⟩
 obtain ⟨k,hk⟩ : ∃ z,z = 2 + y0 * (n + 1) + y1 := ⟨_,rfl⟩
 rw [← hi,← hk]
 have HI := Aside0.mk hi
 have HK := Aside0.mk hk
 have hm1 := sect_mul HN.out HQx.out.1
 have hm2 := sect_mul HN.out HQy.out.1
 have hv1 := HQx.out.2
 have hv2 := HQy.out.2
 have t1 : decide (2 ≤ i) = true := decide_eq_true (by omega)
 have t2 : decide (i < 2 + 16 * (n + 1)) = true := decide_eq_true (by omega)
 have t3 : decide (2 ≤ k) = true := decide_eq_true (by omega)
 have hz4 : 16 * (n + 1) ≤ 9223372036854775807 := by omega
 have hz5 : 2 + 16 * (n + 1) ≤ 9223372036854775807 := by omega
 have hz6 : -9223372036854775808 ≤ 16 * (n + 1) := by omega
 have hz7 : -9223372036854775808 ≤ 2 + 16 * (n + 1) := by omega
 clear hi hk hm1 hm2 hv1 hv2
 have cx_0 : wc2.cell? ⟨gx,0,none⟩ = some (.int .i64 x0) := (blk_cell HXx.out 0).trans rfl
 have cx_1 : wc2.cell? ⟨gx,1,none⟩ = some (.int .i64 x1) := (blk_cell HXx.out 1).trans rfl
 have cy_0 : wc2.cell? ⟨gy,0,none⟩ = some (.int .i64 y0) := (blk_cell HXy.out 0).trans rfl
 have cy_1 : wc2.cell? ⟨gy,1,none⟩ = some (.int .i64 y1) := (blk_cell HXy.out 1).trans rfl
 have heq : (i == k) = (x0 == y0 && x1 == y1) := by
  by_cases h : i = k
  ·obtain ⟨h1,h2⟩ := sect_ne HN.out HQx.out.2 HQy.out.2 (HI.out.symm.trans (h.trans HK.out))
   rw [beq_iff_eq.2 h,beq_iff_eq.2 h1,beq_iff_eq.2 h2]; rfl
  ·have hne : ¬ (x0 = y0 ∧ x1 = y1) := fun q => h (by rw [HI.out,HK.out,q.1,q.2])
   rw [beq_eq_false_iff_ne.2 h]
   symm
   rw [Bool.and_eq_false_iff]
   by_cases h1 : x0 = y0
   ·exact .inr (beq_eq_false_iff_ne.2 (fun h2 => hne ⟨h1,h2⟩))
   ·exact .inl (beq_eq_false_iff_ne.2 h1)
 go_wp2_with fail
 all_goals (refine (fixed_calls _).mono ?_; rintro e_ w9 ⟨rfl,hb⟩; replace HB := Aside0.mk (below_step HB.out hb); clear hb; go_wp2_with fail; go_ret; first | exact ⟨rfl,HB.out⟩ | (refine ⟨congrArg (fun b_ => Ending.returned (Value.bool b_)) ?_,HB.out⟩; clear heq; first | (simp; done) | (simp; assumption) | (simp; exact Or.inl (by assumption)) | (simp; intro; assumption) | simp [*]))
end Go.Proofs.Ytbefoehjlgdcgaa.H
