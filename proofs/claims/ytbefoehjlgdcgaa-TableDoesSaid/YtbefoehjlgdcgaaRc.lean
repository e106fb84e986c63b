/-
lodgerref08.Count: a record more.
-/
import Derived.Test.YtbefoehjlgdcgaaRo
namespace Go.Proofs.Ytbefoehjlgdcgaa.H
open Go.RowKit Go.Proofs.YtbefoehjlgdcgaaW.PrintWords Go.Proofs.YtbefoehjlgdcgaaW.PrintLast Go.Proofs.YtbefoehjlgdcgaaW.PrintMore
attribute [local go_sem] min2_int min_two
set_option linter.unusedVariables false
set_option linter.unusedSimpArgs false
def zp0 : Array Bool := #[false,false,false,false,false,false,false,false,false]
def zp1 : Array Bool := #[false,false,true,false,false,false,false,false,false]
def zp2 : Array Bool := #[true,false,true,false,false,false,false,false,false]
def zp3 : Array Bool := #[true,false,true,true,false,false,false,false,false]
def zp4 : Array Bool := #[true,false,true,true,true,false,false,false,false]
def zp5 : Array Bool := #[true,false,true,true,true,true,false,false,false]
def zp6 : Array Bool := #[true,true,true,true,true,true,true,false,false]
def zp7 : Array Bool := #[true,true,true,true,true,true,false,false,false]
def zp8 : Array Bool := #[true,false,true,true,true,true,true,false,false]
def zp9 : Array Bool := #[true,true,true,true,true,true,true,true,false]
def zp10 : Array Bool := #[true,true,true,true,true,true,true,true,true]
def zp11 : Array Bool := #[false,false,false,false,false,false,false,false,false,false,false]
def zp12 : Array Bool := #[true,false,false,false,false,false,false,false,false,false,false]
def zp13 : Array Bool := #[true,false,true,false,false,false,false,false,false,false,false]
def zp14 : Array Bool := #[true,false,true,true,false,false,false,false,false,false,false]
def zp15 : Array Bool := #[true,false,true,true,false,true,false,false,false,false,false]
def zp16 : Array Bool := #[true,true,true,true,false,true,false,false,false,false,false]
def zp17 : Array Bool := #[true,true,true,true,true,true,false,false,false,false,false]
def zp18 : Array Bool := #[true,true,true,true,true,true,true,false,false,false,false]
def zp19 : Array Bool := #[true,true,true,true,true,true,true,true,false,false,false]
def zp20 : Array Bool := #[true,true,true,true,true,true,true,true,true,false,false]
def zp21 : Array Bool := #[true,true,true,true,true,true,true,true,true,true,false]
def zp22 : Array Bool := #[true,true,true,true,true,true,true,true,true,true,true]
theorem zpI {α : Type} (l : List α) (i : Nat) (a : α) : l.toArray.setIfInBounds i a = (l.set i a).toArray := List.setIfInBounds_toArray l i a
theorem zps0 {α : Type} (x : α) (l : List α) (a : α) : (x :: l).set 0 a = a :: l := rfl
theorem zps1 {α : Type} (x : α) (l : List α) (i : Nat) (a : α) : (x :: l).set (i + 1) a = x :: l.set i a := rfl
def rcount.T1 : Bool × List (List Nat × List Nat) := (true,[([],[]),([0],[0]),([],[]),([2],[2]),([3],[3]),([4],[4]),([],[]),([6,1,1,0,1,6],[1,6]),([5,7,0,1,2,3,4,5,6,7],[5])])
def rcount.B1 : List Nat := [0,1,0,4,12,28,0,67,255]
theorem rcount.tab1 : rtab .any (opsOf Try.f36 1) = rcount.T1 := by kernel_rfl
theorem rcount.bits1 : waitsOk rcount.T1.2 rcount.B1 = true := by kernel_rfl
def rcount.T4 : Bool × List (List Nat × List Nat) := (true,[([],[]),([0],[0]),([],[]),([],[]),([3],[3]),([],[]),([4,5],[4,5]),([6],[6]),([7],[7]),([1,2,0,1,2,3,4,5,6,7,8],[1,2]),([9,8,0,1,2,3,4,5,6,7,8],[8,9])])
def rcount.B4 : List Nat := [0,1,0,0,8,0,56,120,248,511,1023]
theorem rcount.tab4 : rtab .any (opsOf Try.f36 4) = rcount.T4 := by kernel_rfl
theorem rcount.bits4 : waitsOk rcount.T4.2 rcount.B4 = true := by kernel_rfl
set_option maxHeartbeats 8000000 in
set_option maxRecDepth 100000 in
theorem rcount_no (g s : Int) (Ao : Option Addr) (co : Nat) (o : List Int) (Al : Option Addr) (cl : Nat) (l : List Int) (Af : Option Addr) (cf : Nat) (f : List Int) (w : World) (hT : TC w Ao co o Al cl l Af cf f) (hol : o.length ≤ 1000 ∧ l.length ≤ 1000 ∧ f.length ≤ 1000) (hn1 : 1 ≤ l.length) (hc : s ≤ rd l ((l.length : Int) - 1)) :
  Calls Try.prog 36 #[.agg #[.int .i64 g,.int .i64 s,.slice Ao o.length co,.slice Al l.length cl,.slice Af f.length cf]] w fun e w' => e = .returned (.tuple #[.agg #[.int .i64 0,.int .i64 0,.slice none 0 0,.slice none 0 0,.slice none 0 0],.int .i64 10]) ∧ Below w.heap.size w w' := by
 have hi0 : 0 ≤ (l.length : Int) - 1 := by omega
 obtain ⟨i,hi⟩ : ∃ i,i = (l.length : Int) - 1 := ⟨_,rfl⟩
 obtain ⟨ad,e1,hz⟩ := Kd.at_int hT.2.1.1 ((l.length : Int) - 1) hi0 (by omega)
 rw [← hi] at hz hc hi0
 obtain ⟨z,hzz⟩ : ∃ z,z = rd l i := ⟨_,rfl⟩
 rw [← hzz] at hz hc
 cases e1
 have HT := Aside0.mk hT
 have HL := Aside0.mk hol
 have HZ := Aside0.mk hz
 have HZZ := Aside0.mk hzz
 have HN := Aside0.mk hn1
 have HI := Aside0.mk hi
 have hi2 := hi.symm
 have hi3 : IntKind.i64.wrap ((l.length : Int) - 1) = i := by rw [i64_w]; unfold wrap64; omega
 have hi4 : wrap64 i = i := by unfold wrap64; omega
 have hi1 : (i < (l.length : Int)) = True := eq_true (by omega)
 replace hi0 := eq_true hi0
 have hd : decide (s ≤ z) = true := decide_eq_true (by omega)
 clear hT hol hn1 hz hzz hi hc
 go_enter Try.func36,Try.ntmps36
 go_upto_region 1 with fail
 obtain ⟨W1,hW1⟩ : ∃ W1,W1 = (w.alloc (.cells #[.int .i64 g,.int .i64 s,.slice Ao o.length co,.slice (some ad) l.length cl,.slice Af f.length cf] 32)).alloc (.cells #[.int .i64 0,.int .i64 0,.slice none 0 0,.slice none 0 0,.slice none 0 0] 32) := ⟨_,rfl⟩
 rw [← hW1]
 obtain ⟨gr,hgr⟩ : ∃ g,g = w.heap.size + 1 := ⟨_,rfl⟩
 obtain ⟨gs,hgs⟩ : ∃ g,g = w.heap.size := ⟨_,rfl⟩
 have HXs : Aside0 (W1.heap[gs]? = some (.cells #[.int .i64 g,.int .i64 s,.slice Ao o.length co,.slice (some ad) l.length cl,.slice Af f.length cf] 32 (0,0))) := ⟨by rw [hW1,hgs]; exact blk_alloc (blk_new _ _) _⟩
 have HXr : Aside0 (W1.heap[gr]? = some (.cells #[.int .i64 0,.int .i64 0,.slice none 0 0,.slice none 0 0,.slice none 0 0] 32 (0,0))) := ⟨by rw [hW1,hgr]; have := blk_new (w.alloc (.cells #[.int .i64 g,.int .i64 s,.slice Ao o.length co,.slice (some ad) l.length cl,.slice Af f.length cf] 32)) (.cells #[.int .i64 0,.int .i64 0,.slice none 0 0,.slice none 0 0,.slice none 0 0] 32); simpa using this⟩
 have HB : Aside0 (Below w.heap.size w W1) := ⟨by rw [hW1]; exact below_alloc (below_alloc (Below.refl _ _) _) _⟩
 have HGR : Aside0 (w.heap.size ≤ gr) := ⟨by omega⟩
 rw [← hgr,← hgs]
 clear hW1 hgr hgs
 refine start_ (n := 9) (S := fun w' => w'.cell? ⟨gs,0,none⟩ = some (.int .i64 g) ∧ w'.cell? ⟨gs,1,none⟩ = some (.int .i64 s) ∧ w'.cell? ⟨gs,2,none⟩ = some (.slice Ao o.length co) ∧ w'.cell? ⟨gs,3,none⟩ = some (.slice (some ad) l.length cl) ∧ w'.cell? ⟨gs,4,none⟩ = some (.slice Af f.length cf)) (ds := []) zp0 (by kernel_rfl) rfl rfl ⟨((blk_cell (blk_drew HXs.out) 0).trans rfl),((blk_cell (blk_drew HXs.out) 1).trans rfl),((blk_cell (blk_drew HXs.out) 2).trans rfl),((blk_cell (blk_drew HXs.out) 3).trans rfl),((blk_cell (blk_drew HXs.out) 4).trans rfl)⟩ (fun hHeld => ?_)
 refine with_tabW rcount.tab1 rcount.bits1 (fun HT_ HW_ => ?_)
 replace HXs := Aside0.mk (blk_drew HXs.out)
 replace HXr := Aside0.mk (blk_drew HXr.out)
 replace HB := Aside0.mk (below_drew HB.out)
 generalize W1.drew = wd1 at *
 refine pure_ (i := 2) (N := some 8) (v := ?_) (a' := ?_) zp1 rfl rfl (any_of HT_.out (by kernel_rfl)) (fun _ _ _ h => h) (Or.inl ⟨by rfl,?_⟩) ?_ ?_
 rotate_left
 ·intro w'
  go_simp
  with_reducible rfl
 rotate_left
 ·simp only [Act.put,zpI,zps0,zps1,i64_w,i32_w]
  rfl
 refine take_ (i := 0) (N := some 6) (v := ?_) (a' := ?_) zp2 rfl rfl (take_ofW HT_.out HW_.out (by kernel_rfl)) (fun _ _ _ h => h) (Or.inl ⟨by rfl,?_⟩) hHeld ?_ ?_
 rotate_left
 ·rintro w' ⟨s0,s1,s2,s3,s4⟩
  go_simp
  with_reducible rfl
 rotate_left
 ·simp only [Act.put,zpI,zps0,zps1,i64_w,i32_w]
  rfl
 refine take_ (i := 3) (N := some 9) (v := ?_) (a' := ?_) zp3 rfl rfl (take_ofW HT_.out HW_.out (by kernel_rfl)) (fun _ _ _ h => h) (Or.inl ⟨by rfl,?_⟩) hHeld ?_ ?_
 rotate_left
 ·rintro w' ⟨s0,s1,s2,s3,s4⟩
  go_simp
  with_reducible rfl
 rotate_left
 ·simp only [Act.put,zpI,zps0,zps1,i64_w,i32_w]
  rfl
 refine pure_ (i := 4) (N := some 10) (v := ?_) (a' := ?_) zp4 rfl rfl (any_of HT_.out (by kernel_rfl)) (fun _ _ _ h => h) (Or.inl ⟨by rfl,?_⟩) ?_ ?_
 rotate_left
 ·intro w'
  go_simp
  with_reducible rfl
 rotate_left
 ·simp only [Act.put,zpI,zps0,zps1,i64_w,i32_w]
  rfl
 refine pure_ (i := 5) (N := some 11) (v := ?_) (a' := ?_) zp5 rfl rfl (any_of HT_.out (by kernel_rfl)) (fun _ _ _ h => h) (Or.inl ⟨by rfl,?_⟩) ?_ ?_
 rotate_left
 ·intro w'
  go_simp
  with_reducible rfl
 rotate_left
 ·simp only [Act.put,zpI,zps0,zps1,i64_w,i32_w]
  rfl
 refine join_ (σ := Value × Value) 2 zp6 (fun s_ => [(7,s_.1),(4,s_.2)]) (fun s_ w' => ∃ go A1 d1 A2 d2 A3 d3,s_.1 = .agg #[.int .i64 g,.int .i64 s,.slice A1 o.length d1,.slice A2 l.length d2,.slice A3 f.length d3] ∧ s_.2 = .pointer (some ⟨go,0,none⟩) ∧ TR w' w.heap.size A1 d1 o A2 d2 l A3 d3 f ∧ w'.heap[gs]? = some (.cells #[.int .i64 g,.int .i64 s,.slice Ao o.length co,.slice (some ad) l.length cl,.slice Af f.length cf] 32 (0,0)) ∧ w'.heap[gr]? = some (.cells #[.int .i64 0,.int .i64 0,.slice none 0 0,.slice none 0 0,.slice none 0 0] 32 (0,0)) ∧ w'.heap[go]? = some (.cells #[.int .i64 0,.int .i64 0,.slice none 0 0,.slice none 0 0,.slice none 0 0] 32 (0,0)) ∧ ((gs ≠ go ∧ gr ≠ go) ∧ w.heap.size ≤ go) ∧ Below w.heap.size w w') ?_ ?_
 rotate_left
 ·intro hCont
  refine two_ (i := 1) (j := 6) (Ni := some 7) (Nj := some 4) zp7 zp8 rfl rfl rfl rfl (two_of HT_.out (by kernel_rfl)) (by decide) (by decide) (fun K hK => ?_) (fun K hK => ?_)
  ·skip
   refine goes_ Try.func46 (by kernel_rfl) rfl #[.agg #[.int .i64 g,.int .i64 s,.slice Ao o.length co,.slice (some ad) l.length cl,.slice Af f.length cf]] (by rfl) rfl rfl (by simp only [List.map_toArray,List.map_cons,List.map_nil]; rfl) ?_
   with_reducible refine (rown_calls g s _ _ o _ _ l _ _ f _ (TC_below HT.out HB.out) HL.out).mono ?_
   rintro e_ wr1 ⟨A1,d1,A2,d2,A3,d3,rfl,hr_,hb_⟩
   refine ⟨_,rfl,?_⟩
   have HTR := Aside0.mk (TR_lower hr_ (below_size HB.out))
   replace HXs := mB HXs hb_
   replace HXr := mB HXr hb_
   replace HB := mS HB hb_
   clear hr_ hb_
   refine hK.out _ _ ⟨(cL HXs 0 rfl),(cL HXs 1 rfl),(cL HXs 2 rfl),(cL HXs 3 rfl),(cL HXs 4 rfl)⟩ (fun hHeld => ?_)
   clear hK K
   refine norm_ (a' := ?_) ?_ ?_
   rotate_left
   ·show Act.put _ (some 7) _ = _
    simp only [Act.put,zpI,zps0,zps1,i64_w,i32_w]
    rfl
   refine one_ (i := 6) (N := some 4) zp6 rfl rfl (one_of HT_.out (by kernel_rfl)) (by decide) (fun K hK => ?_)
   refine value_ (w1 := ?_) (v := ?_) (by rfl) rfl ?_ ?_
   rotate_left 2
   ·go_simp
    constructor
    ·rfl
    ·rfl
   obtain ⟨wr2,hW⟩ : ∃ W_,W_ = wr1.alloc (.cells #[.int .i64 0,.int .i64 0,.slice none 0 0,.slice none 0 0,.slice none 0 0] 32) := ⟨_,rfl⟩
   obtain ⟨go,hh⟩ : ∃ g_,g_ = wr1.heap.size := ⟨_,rfl⟩
   rw [← hW,← hh]
   have hb_ : Below wr1.heap.size wr1 wr2 := by rw [hW]; exact below_alloc (Below.refl _ _) _
   have HXo : Aside0 (wr2.heap[go]? = some (.cells #[.int .i64 0,.int .i64 0,.slice none 0 0,.slice none 0 0,.slice none 0 0] 32 (0,0))) := ⟨by rw [hW,hh]; exact blk_new _ _⟩
   have HNE : Aside0 ((gs ≠ go ∧ gr ≠ go) ∧ w.heap.size ≤ go) := ⟨by rw [hh]; exact ⟨⟨Nat.ne_of_lt (blk_lt HXs.out),Nat.ne_of_lt (blk_lt HXr.out)⟩,below_size HB.out⟩⟩
   replace HTR := Aside0.mk (TR_below HTR.out hb_)
   replace HXs := mB HXs hb_
   replace HXr := mB HXr hb_
   replace HB := mS HB hb_
   clear hW hh hb_
   refine hK.out _ _ ⟨(cL HXs 0 rfl),(cL HXs 1 rfl),(cL HXs 2 rfl),(cL HXs 3 rfl),(cL HXs 4 rfl)⟩ (fun hHeld => ?_)
   clear hK K
   refine norm_ (a' := ?_) ?_ ?_
   rotate_left
   ·show Act.put _ (some 4) _ = _
    simp only [Act.put,zpI,zps0,zps1,i64_w,i32_w]
    rfl
   exact norm_ (by first | (simp only [putAll,Act.put,zpI,zps0,zps1]; done) | (simp only [putAll,Act.put,zpI,zps0,zps1]; rfl)) (hCont (.agg #[.int .i64 g,.int .i64 s,.slice A1 o.length d1,.slice A2 l.length d2,.slice A3 f.length d3],.pointer (some ⟨go,0,none⟩)) _ ⟨go,A1,d1,A2,d2,A3,d3,rfl,rfl,HTR.out,HXs.out,HXr.out,HXo.out,HNE.out,HB.out⟩)
  ·skip
   refine value_ (w1 := ?_) (v := ?_) (by rfl) rfl ?_ ?_
   rotate_left 2
   ·go_simp
    constructor
    ·rfl
    ·rfl
   obtain ⟨wr1,hW⟩ : ∃ W_,W_ = wd1.alloc (.cells #[.int .i64 0,.int .i64 0,.slice none 0 0,.slice none 0 0,.slice none 0 0] 32) := ⟨_,rfl⟩
   obtain ⟨go,hh⟩ : ∃ g_,g_ = wd1.heap.size := ⟨_,rfl⟩
   rw [← hW,← hh]
   have hb_ : Below wd1.heap.size wd1 wr1 := by rw [hW]; exact below_alloc (Below.refl _ _) _
   have HXo : Aside0 (wr1.heap[go]? = some (.cells #[.int .i64 0,.int .i64 0,.slice none 0 0,.slice none 0 0,.slice none 0 0] 32 (0,0))) := ⟨by rw [hW,hh]; exact blk_new _ _⟩
   have HNE : Aside0 ((gs ≠ go ∧ gr ≠ go) ∧ w.heap.size ≤ go) := ⟨by rw [hh]; exact ⟨⟨Nat.ne_of_lt (blk_lt HXs.out),Nat.ne_of_lt (blk_lt HXr.out)⟩,below_size HB.out⟩⟩
   replace HXs := mB HXs hb_
   replace HXr := mB HXr hb_
   replace HB := mS HB hb_
   clear hW hh hb_
   refine hK.out _ _ ⟨(cL HXs 0 rfl),(cL HXs 1 rfl),(cL HXs 2 rfl),(cL HXs 3 rfl),(cL HXs 4 rfl)⟩ (fun hHeld => ?_)
   clear hK K
   refine norm_ (a' := ?_) ?_ ?_
   rotate_left
   ·show Act.put _ (some 4) _ = _
    simp only [Act.put,zpI,zps0,zps1,i64_w,i32_w]
    rfl
   refine one_ (i := 1) (N := some 7) zp6 rfl rfl (one_of HT_.out (by kernel_rfl)) (by decide) (fun K hK => ?_)
   refine goes_ Try.func46 (by kernel_rfl) rfl #[.agg #[.int .i64 g,.int .i64 s,.slice Ao o.length co,.slice (some ad) l.length cl,.slice Af f.length cf]] (by rfl) rfl rfl (by simp only [List.map_toArray,List.map_cons,List.map_nil]; rfl) ?_
   with_reducible refine (rown_calls g s _ _ o _ _ l _ _ f _ (TC_below HT.out HB.out) HL.out).mono ?_
   rintro e_ wr2 ⟨A1,d1,A2,d2,A3,d3,rfl,hr_,hb_⟩
   refine ⟨_,rfl,?_⟩
   have HTR := Aside0.mk (TR_lower hr_ (below_size HB.out))
   replace HXo := mB HXo hb_
   replace HXs := mB HXs hb_
   replace HXr := mB HXr hb_
   replace HB := mS HB hb_
   clear hr_ hb_
   refine hK.out _ _ ⟨(cL HXs 0 rfl),(cL HXs 1 rfl),(cL HXs 2 rfl),(cL HXs 3 rfl),(cL HXs 4 rfl)⟩ (fun hHeld => ?_)
   clear hK K
   refine norm_ (a' := ?_) ?_ ?_
   rotate_left
   ·show Act.put _ (some 7) _ = _
    simp only [Act.put,zpI,zps0,zps1,i64_w,i32_w]
    rfl
   exact norm_ (by first | (simp only [putAll,Act.put,zpI,zps0,zps1]; done) | (simp only [putAll,Act.put,zpI,zps0,zps1]; rfl)) (hCont (.agg #[.int .i64 g,.int .i64 s,.slice A1 o.length d1,.slice A2 l.length d2,.slice A3 f.length d3],.pointer (some ⟨go,0,none⟩)) _ ⟨go,A1,d1,A2,d2,A3,d3,rfl,rfl,HTR.out,HXs.out,HXr.out,HXo.out,HNE.out,HB.out⟩)
 rintro ⟨v7,v4⟩ w3 ⟨go,A1,d1,A2,d2,A3,d3,h1,h2,h3,h4,h5,h6,h7,h8⟩
 dsimp only at h1 h2
 subst h1 h2
 clear HXs HXr HB
 have HTR := Aside0.mk h3
 have HXs := Aside0.mk h4
 have HXr := Aside0.mk h5
 have HXo := Aside0.mk h6
 have HNE := Aside0.mk h7
 have HB := Aside0.mk h8
 clear h3 h4 h5 h6 h7 h8
 have hHeld : (fun w' => w'.cell? ⟨gs,0,none⟩ = some (.int .i64 g) ∧ w'.cell? ⟨gs,1,none⟩ = some (.int .i64 s) ∧ w'.cell? ⟨gs,2,none⟩ = some (.slice Ao o.length co) ∧ w'.cell? ⟨gs,3,none⟩ = some (.slice (some ad) l.length cl) ∧ w'.cell? ⟨gs,4,none⟩ = some (.slice Af f.length cf)) w3 := ⟨(cL HXs 0 rfl),(cL HXs 1 rfl),(cL HXs 2 rfl),(cL HXs 3 rfl),(cL HXs 4 rfl)⟩
 refine norm_ (a' := ?_) ?_ ?_
 rotate_left
 ·simp only [putAll,Act.put,zpI,zps0,zps1]
  rfl
 refine one_ (i := 7) (N := none) zp9 rfl rfl (one_of HT_.out (by kernel_rfl)) (by decide) (fun K hK => ?_)
 have r_0 : w3.cell? ⟨go,0,none⟩ = some (.int .i64 0) := cL HXo 0 rfl
 have r_1 : w3.cell? ⟨go,1,none⟩ = some (.int .i64 0) := cL HXo 1 rfl
 have r_2 : w3.cell? ⟨go,2,none⟩ = some (.slice none 0 0) := cL HXo 2 rfl
 have r_3 : w3.cell? ⟨go,3,none⟩ = some (.slice none 0 0) := cL HXo 3 rfl
 have r_4 : w3.cell? ⟨go,4,none⟩ = some (.slice none 0 0) := cL HXo 4 rfl
 have rf_0 := blk_frozen HXo.out 0
 have rf_1 := blk_frozen HXo.out 1
 have rf_2 := blk_frozen HXo.out 2
 have rf_3 := blk_frozen HXo.out 3
 have rf_4 := blk_frozen HXo.out 4
 refine skip_ (w1 := ?_) (by rfl) rfl ?_ ?_
 rotate_left
 ·go_simp
  rfl
 clear r_0 r_1 r_2 r_3 r_4 rf_0 rf_1 rf_2 rf_3 rf_4
 obtain ⟨W4,hW⟩ : ∃ W_,W_ = (((((w3.setCell ⟨go,0,none⟩ (.int .i64 g)).setCell ⟨go,1,none⟩ (.int .i64 s)).setCell ⟨go,2,none⟩ (.slice A1 o.length d1)).setCell ⟨go,3,none⟩ (.slice A2 l.length d2)).setCell ⟨go,4,none⟩ (.slice A3 f.length d3)) := ⟨_,rfl⟩
 rw [← hW]
 replace HTR := Aside0.mk (tr5 hW HXo.out (by decide) (by decide) HTR.out)
 replace HXs := Aside0.mk (far5 hW HXs.out HNE.out.1.1)
 replace HXr := Aside0.mk (far5 hW HXr.out HNE.out.1.2)
 replace HXo := Aside0.mk (set5 hW HXo.out)
 replace HB := Aside0.mk (below5 hW HB.out HNE.out.2)
 clear hW
 refine hK.out _ _ ⟨(cL HXs 0 rfl),(cL HXs 1 rfl),(cL HXs 2 rfl),(cL HXs 3 rfl),(cL HXs 4 rfl)⟩ (fun hHeld => ?_)
 clear hK K
 refine pure_ (i := 8) (N := some 5) (v := ?_) (a' := ?_) zp10 rfl rfl (any_of HT_.out (by kernel_rfl)) (fun _ _ _ h => h) (Or.inl ⟨by rfl,?_⟩) ?_ ?_
 rotate_left
 ·intro w'
  go_simp
  with_reducible rfl
 rotate_left
 ·simp only [Act.put,zpI,zps0,zps1,i64_w,i32_w]
  rfl
 refine done_ (done_of HT_.out (by kernel_rfl)) ?_
 clear HT_ HW_ hHeld
 clear hi2 hi3 hi4
 have s_0 : W4.cell? ⟨gs,0,none⟩ = some (.int .i64 g) := cL HXs 0 rfl
 have s_1 : W4.cell? ⟨gs,1,none⟩ = some (.int .i64 s) := cL HXs 1 rfl
 have s_2 : W4.cell? ⟨gs,2,none⟩ = some (.slice Ao o.length co) := cL HXs 2 rfl
 have s_3 : W4.cell? ⟨gs,3,none⟩ = some (.slice (some ad) l.length cl) := cL HXs 3 rfl
 have s_4 : W4.cell? ⟨gs,4,none⟩ = some (.slice Af f.length cf) := cL HXs 4 rfl
 have hz : W4.cell? (ad.add i.toNat) = some (.int .i64 z) := pw_cell_below HB.out HZ.out
 go_upto_region 2 with fail
 go_quiet (fail)
 clear s_0 s_1 s_2 s_3 s_4
 clear hz
 replace HXs := Aside0.mk (blk_below HXs.out (pw_below_drewN (Below.refl _ _) nq))
 replace HXr := Aside0.mk (blk_below HXr.out (pw_below_drewN (Below.refl _ _) nq))
 replace HXo := Aside0.mk (blk_below HXo.out (pw_below_drewN (Below.refl _ _) nq))
 replace HTR := Aside0.mk (TR_below HTR.out (pw_below_drewN (Below.refl _ _) nq))
 replace HB := Aside0.mk (pw_below_drewN HB.out nq)
 generalize W4.drewN nq = W5 at *
 have x_0 : W5.cell? ⟨gr,0,none⟩ = some (.int .i64 0) := cL HXr 0 rfl
 have x_1 : W5.cell? ⟨gr,1,none⟩ = some (.int .i64 0) := cL HXr 1 rfl
 have x_2 : W5.cell? ⟨gr,2,none⟩ = some (.slice none 0 0) := cL HXr 2 rfl
 have x_3 : W5.cell? ⟨gr,3,none⟩ = some (.slice none 0 0) := cL HXr 3 rfl
 have x_4 : W5.cell? ⟨gr,4,none⟩ = some (.slice none 0 0) := cL HXr 4 rfl
 have xf_0 := blk_frozen HXr.out 0
 have xf_1 := blk_frozen HXr.out 1
 have xf_2 := blk_frozen HXr.out 2
 have xf_3 := blk_frozen HXr.out 3
 have xf_4 := blk_frozen HXr.out 4
 go_wp2_with fail
 obtain ⟨W6,hW⟩ : ∃ W_,W_ = (((((W5.setCell ⟨gr,0,none⟩ (.int .i64 0)).setCell ⟨gr,1,none⟩ (.int .i64 0)).setCell ⟨gr,2,none⟩ (.slice none 0 0)).setCell ⟨gr,3,none⟩ (.slice none 0 0)).setCell ⟨gr,4,none⟩ (.slice none 0 0)) := ⟨_,rfl⟩
 rw [← hW]
 refine bodyPost_ret (results_ct rfl _ _ gr 32 _ (0,0) _ rfl (set5 hW HXr.out) Try.underlying32 rfl (by kernel_rfl)) rfl ?_
 exact ⟨rfl,below5 hW HB.out HGR.out⟩
set_option maxHeartbeats 8000000 in
set_option maxRecDepth 100000 in
theorem rcount_yes (g s : Int) (Ao : Option Addr) (co : Nat) (o : List Int) (Al : Option Addr) (cl : Nat) (l : List Int) (Af : Option Addr) (cf : Nat) (f : List Int) (w : World) (hT : TC w Ao co o Al cl l Af cf f) (hol : o.length ≤ 1000 ∧ l.length ≤ 1000 ∧ f.length ≤ 1000) (hn1 : 1 ≤ l.length) (hc : rd l ((l.length : Int) - 1) < s) (hs : 0 ≤ rd l ((l.length : Int) - 1) ∧ s ≤ 30) :
  Calls Try.prog 36 #[.agg #[.int .i64 g,.int .i64 s,.slice Ao o.length co,.slice Al l.length cl,.slice Af f.length cf]] w fun e w' => ∃ A1 d1 A2 d2 A3 d3,e = .returned (.tuple #[.agg #[.int .i64 g,.int .i64 s,.slice A1 o.length d1,.slice A2 (l.set ((l.length : Int) - 1).toNat (rd l ((l.length : Int) - 1) + 1)).length d2,.slice A3 f.length d3],.int .i64 0]) ∧ TR w' w.heap.size A1 d1 o A2 d2 (l.set ((l.length : Int) - 1).toNat (rd l ((l.length : Int) - 1) + 1)) A3 d3 f ∧ Below w.heap.size w w' := by
 have hi0 : 0 ≤ (l.length : Int) - 1 := by omega
 obtain ⟨i,hi⟩ : ∃ i,i = (l.length : Int) - 1 := ⟨_,rfl⟩
 obtain ⟨ad,e1,hz⟩ := Kd.at_int hT.2.1.1 ((l.length : Int) - 1) hi0 (by omega)
 rw [← hi] at hz hc hi0 hs
 obtain ⟨z,hzz⟩ : ∃ z,z = rd l i := ⟨_,rfl⟩
 rw [← hzz] at hz hc hs
 cases e1
 have HT := Aside0.mk hT
 have HL := Aside0.mk hol
 have HZ := Aside0.mk hz
 have HZZ := Aside0.mk hzz
 have HN := Aside0.mk hn1
 have HI := Aside0.mk hi
 have hi2 := hi.symm
 have hi3 : IntKind.i64.wrap ((l.length : Int) - 1) = i := by rw [i64_w]; unfold wrap64; omega
 have hi4 : wrap64 i = i := by unfold wrap64; omega
 have hi1 : (i < (l.length : Int)) = True := eq_true (by omega)
 replace hi0 := eq_true hi0
 have hd : decide (s ≤ z) = false := decide_eq_false (by omega)
 have HSS := Aside0.mk (And.intro hs hc)
 clear hT hol hn1 hz hzz hi hc hs
 go_enter Try.func36,Try.ntmps36
 go_upto_region 1 with fail
 obtain ⟨W1,hW1⟩ : ∃ W1,W1 = (w.alloc (.cells #[.int .i64 g,.int .i64 s,.slice Ao o.length co,.slice (some ad) l.length cl,.slice Af f.length cf] 32)).alloc (.cells #[.int .i64 0,.int .i64 0,.slice none 0 0,.slice none 0 0,.slice none 0 0] 32) := ⟨_,rfl⟩
 rw [← hW1]
 obtain ⟨gr,hgr⟩ : ∃ g,g = w.heap.size + 1 := ⟨_,rfl⟩
 obtain ⟨gs,hgs⟩ : ∃ g,g = w.heap.size := ⟨_,rfl⟩
 have HXs : Aside0 (W1.heap[gs]? = some (.cells #[.int .i64 g,.int .i64 s,.slice Ao o.length co,.slice (some ad) l.length cl,.slice Af f.length cf] 32 (0,0))) := ⟨by rw [hW1,hgs]; exact blk_alloc (blk_new _ _) _⟩
 have HXr : Aside0 (W1.heap[gr]? = some (.cells #[.int .i64 0,.int .i64 0,.slice none 0 0,.slice none 0 0,.slice none 0 0] 32 (0,0))) := ⟨by rw [hW1,hgr]; have := blk_new (w.alloc (.cells #[.int .i64 g,.int .i64 s,.slice Ao o.length co,.slice (some ad) l.length cl,.slice Af f.length cf] 32)) (.cells #[.int .i64 0,.int .i64 0,.slice none 0 0,.slice none 0 0,.slice none 0 0] 32); simpa using this⟩
 have HB : Aside0 (Below w.heap.size w W1) := ⟨by rw [hW1]; exact below_alloc (below_alloc (Below.refl _ _) _) _⟩
 have HGR : Aside0 (w.heap.size ≤ gr) := ⟨by omega⟩
 rw [← hgr,← hgs]
 clear hW1 hgr hgs
 refine start_ (n := 9) (S := fun w' => w'.cell? ⟨gs,0,none⟩ = some (.int .i64 g) ∧ w'.cell? ⟨gs,1,none⟩ = some (.int .i64 s) ∧ w'.cell? ⟨gs,2,none⟩ = some (.slice Ao o.length co) ∧ w'.cell? ⟨gs,3,none⟩ = some (.slice (some ad) l.length cl) ∧ w'.cell? ⟨gs,4,none⟩ = some (.slice Af f.length cf)) (ds := []) zp0 (by kernel_rfl) rfl rfl ⟨((blk_cell (blk_drew HXs.out) 0).trans rfl),((blk_cell (blk_drew HXs.out) 1).trans rfl),((blk_cell (blk_drew HXs.out) 2).trans rfl),((blk_cell (blk_drew HXs.out) 3).trans rfl),((blk_cell (blk_drew HXs.out) 4).trans rfl)⟩ (fun hHeld => ?_)
 refine with_tabW rcount.tab1 rcount.bits1 (fun HT_ HW_ => ?_)
 replace HXs := Aside0.mk (blk_drew HXs.out)
 replace HXr := Aside0.mk (blk_drew HXr.out)
 replace HB := Aside0.mk (below_drew HB.out)
 generalize W1.drew = wd1 at *
 refine pure_ (i := 2) (N := some 8) (v := ?_) (a' := ?_) zp1 rfl rfl (any_of HT_.out (by kernel_rfl)) (fun _ _ _ h => h) (Or.inl ⟨by rfl,?_⟩) ?_ ?_
 rotate_left
 ·intro w'
  go_simp
  with_reducible rfl
 rotate_left
 ·simp only [Act.put,zpI,zps0,zps1,i64_w,i32_w]
  rfl
 refine take_ (i := 0) (N := some 6) (v := ?_) (a' := ?_) zp2 rfl rfl (take_ofW HT_.out HW_.out (by kernel_rfl)) (fun _ _ _ h => h) (Or.inl ⟨by rfl,?_⟩) hHeld ?_ ?_
 rotate_left
 ·rintro w' ⟨s0,s1,s2,s3,s4⟩
  go_simp
  with_reducible rfl
 rotate_left
 ·simp only [Act.put,zpI,zps0,zps1,i64_w,i32_w]
  rfl
 refine take_ (i := 3) (N := some 9) (v := ?_) (a' := ?_) zp3 rfl rfl (take_ofW HT_.out HW_.out (by kernel_rfl)) (fun _ _ _ h => h) (Or.inl ⟨by rfl,?_⟩) hHeld ?_ ?_
 rotate_left
 ·rintro w' ⟨s0,s1,s2,s3,s4⟩
  go_simp
  with_reducible rfl
 rotate_left
 ·simp only [Act.put,zpI,zps0,zps1,i64_w,i32_w]
  rfl
 refine pure_ (i := 4) (N := some 10) (v := ?_) (a' := ?_) zp4 rfl rfl (any_of HT_.out (by kernel_rfl)) (fun _ _ _ h => h) (Or.inl ⟨by rfl,?_⟩) ?_ ?_
 rotate_left
 ·intro w'
  go_simp
  with_reducible rfl
 rotate_left
 ·simp only [Act.put,zpI,zps0,zps1,i64_w,i32_w]
  rfl
 refine pure_ (i := 5) (N := some 11) (v := ?_) (a' := ?_) zp5 rfl rfl (any_of HT_.out (by kernel_rfl)) (fun _ _ _ h => h) (Or.inl ⟨by rfl,?_⟩) ?_ ?_
 rotate_left
 ·intro w'
  go_simp
  with_reducible rfl
 rotate_left
 ·simp only [Act.put,zpI,zps0,zps1,i64_w,i32_w]
  rfl
 refine join_ (σ := Value × Value) 2 zp6 (fun s_ => [(7,s_.1),(4,s_.2)]) (fun s_ w' => ∃ go A1 d1 A2 d2 A3 d3,s_.1 = .agg #[.int .i64 g,.int .i64 s,.slice A1 o.length d1,.slice A2 l.length d2,.slice A3 f.length d3] ∧ s_.2 = .pointer (some ⟨go,0,none⟩) ∧ TR w' w.heap.size A1 d1 o A2 d2 l A3 d3 f ∧ w'.heap[gs]? = some (.cells #[.int .i64 g,.int .i64 s,.slice Ao o.length co,.slice (some ad) l.length cl,.slice Af f.length cf] 32 (0,0)) ∧ w'.heap[gr]? = some (.cells #[.int .i64 0,.int .i64 0,.slice none 0 0,.slice none 0 0,.slice none 0 0] 32 (0,0)) ∧ w'.heap[go]? = some (.cells #[.int .i64 0,.int .i64 0,.slice none 0 0,.slice none 0 0,.slice none 0 0] 32 (0,0)) ∧ ((gs ≠ go ∧ gr ≠ go) ∧ w.heap.size ≤ go) ∧ Below w.heap.size w w') ?_ ?_
 rotate_left
 ·intro hCont
  refine two_ (i := 1) (j := 6) (Ni := some 7) (Nj := some 4) zp7 zp8 rfl rfl rfl rfl (two_of HT_.out (by kernel_rfl)) (by decide) (by decide) (fun K hK => ?_) (fun K hK => ?_)
  ·skip
   refine goes_ Try.func46 (by kernel_rfl) rfl #[.agg #[.int .i64 g,.int .i64 s,.slice Ao o.length co,.slice (some ad) l.length cl,.slice Af f.length cf]] (by rfl) rfl rfl (by simp only [List.map_toArray,List.map_cons,List.map_nil]; rfl) ?_
   with_reducible refine (rown_calls g s _ _ o _ _ l _ _ f _ (TC_below HT.out HB.out) HL.out).mono ?_
   rintro e_ wr1 ⟨A1,d1,A2,d2,A3,d3,rfl,hr_,hb_⟩
   refine ⟨_,rfl,?_⟩
   have HTR := Aside0.mk (TR_lower hr_ (below_size HB.out))
   replace HXs := mB HXs hb_
   replace HXr := mB HXr hb_
   replace HB := mS HB hb_
   clear hr_ hb_
   refine hK.out _ _ ⟨(cL HXs 0 rfl),(cL HXs 1 rfl),(cL HXs 2 rfl),(cL HXs 3 rfl),(cL HXs 4 rfl)⟩ (fun hHeld => ?_)
   clear hK K
   refine norm_ (a' := ?_) ?_ ?_
   rotate_left
   ·show Act.put _ (some 7) _ = _
    simp only [Act.put,zpI,zps0,zps1,i64_w,i32_w]
    rfl
   refine one_ (i := 6) (N := some 4) zp6 rfl rfl (one_of HT_.out (by kernel_rfl)) (by decide) (fun K hK => ?_)
   refine value_ (w1 := ?_) (v := ?_) (by rfl) rfl ?_ ?_
   rotate_left 2
   ·go_simp
    constructor
    ·rfl
    ·rfl
   obtain ⟨wr2,hW⟩ : ∃ W_,W_ = wr1.alloc (.cells #[.int .i64 0,.int .i64 0,.slice none 0 0,.slice none 0 0,.slice none 0 0] 32) := ⟨_,rfl⟩
   obtain ⟨go,hh⟩ : ∃ g_,g_ = wr1.heap.size := ⟨_,rfl⟩
   rw [← hW,← hh]
   have hb_ : Below wr1.heap.size wr1 wr2 := by rw [hW]; exact below_alloc (Below.refl _ _) _
   have HXo : Aside0 (wr2.heap[go]? = some (.cells #[.int .i64 0,.int .i64 0,.slice none 0 0,.slice none 0 0,.slice none 0 0] 32 (0,0))) := ⟨by rw [hW,hh]; exact blk_new _ _⟩
   have HNE : Aside0 ((gs ≠ go ∧ gr ≠ go) ∧ w.heap.size ≤ go) := ⟨by rw [hh]; exact ⟨⟨Nat.ne_of_lt (blk_lt HXs.out),Nat.ne_of_lt (blk_lt HXr.out)⟩,below_size HB.out⟩⟩
   replace HTR := Aside0.mk (TR_below HTR.out hb_)
   replace HXs := mB HXs hb_
   replace HXr := mB HXr hb_
   replace HB := mS HB hb_
   clear hW hh hb_
   refine hK.out _ _ ⟨(cL HXs 0 rfl),(cL HXs 1 rfl),(cL HXs 2 rfl),(cL HXs 3 rfl),(cL HXs 4 rfl)⟩ (fun hHeld => ?_)
   clear hK K
   refine norm_ (a' := ?_) ?_ ?_
   rotate_left
   ·show Act.put _ (some 4) _ = _
    simp only [Act.put,zpI,zps0,zps1,i64_w,i32_w]
    rfl
   exact norm_ (by first | (simp only [putAll,Act.put,zpI,zps0,zps1]; done) | (simp only [putAll,Act.put,zpI,zps0,zps1]; rfl)) (hCont (.agg #[.int .i64 g,.int .i64 s,.slice A1 o.length d1,.slice A2 l.length d2,.slice A3 f.length d3],.pointer (some ⟨go,0,none⟩)) _ ⟨go,A1,d1,A2,d2,A3,d3,rfl,rfl,HTR.out,HXs.out,HXr.out,HXo.out,HNE.out,HB.out⟩)
  ·skip
   refine value_ (w1 := ?_) (v := ?_) (by rfl) rfl ?_ ?_
   rotate_left 2
   ·go_simp
    constructor
    ·rfl
    ·rfl
   obtain ⟨wr1,hW⟩ : ∃ W_,W_ = wd1.alloc (.cells #[.int .i64 0,.int .i64 0,.slice none 0 0,.slice none 0 0,.slice none 0 0] 32) := ⟨_,rfl⟩
   obtain ⟨go,hh⟩ : ∃ g_,g_ = wd1.heap.size := ⟨_,rfl⟩
   rw [← hW,← hh]
   have hb_ : Below wd1.heap.size wd1 wr1 := by rw [hW]; exact below_alloc (Below.refl _ _) _
   have HXo : Aside0 (wr1.heap[go]? = some (.cells #[.int .i64 0,.int .i64 0,.slice none 0 0,.slice none 0 0,.slice none 0 0] 32 (0,0))) := ⟨by rw [hW,hh]; exact blk_new _ _⟩
   have HNE : Aside0 ((gs ≠ go ∧ gr ≠ go) ∧ w.heap.size ≤ go) := ⟨by rw [hh]; exact ⟨⟨Nat.ne_of_lt (blk_lt HXs.out),Nat.ne_of_lt (blk_lt HXr.out)⟩,below_size HB.out⟩⟩
   replace HXs := mB HXs hb_
   replace HXr := mB HXr hb_
   replace HB := mS HB hb_
   clear hW hh hb_
   refine hK.out _ _ ⟨(cL HXs 0 rfl),(cL HXs 1 rfl),(cL HXs 2 rfl),(cL HXs 3 rfl),(cL HXs 4 rfl)⟩ (fun hHeld => ?_)
   clear hK K
   refine norm_ (a' := ?_) ?_ ?_
   rotate_left
   ·show Act.put _ (some 4) _ = _
    simp only [Act.put,zpI,zps0,zps1,i64_w,i32_w]
    rfl
   refine one_ (i := 1) (N := some 7) zp6 rfl rfl (one_of HT_.out (by kernel_rfl)) (by decide) (fun K hK => ?_)
   refine goes_ Try.func46 (by kernel_rfl) rfl #[.agg #[.int .i64 g,.int .i64 s,.slice Ao o.length co,.slice (some ad) l.length cl,.slice Af f.length cf]] (by rfl) rfl rfl (by simp only [List.map_toArray,List.map_cons,List.map_nil]; rfl) ?_
   with_reducible refine (rown_calls g s _ _ o _ _ l _ _ f _ (TC_below HT.out HB.out) HL.out).mono ?_
   rintro e_ wr2 ⟨A1,d1,A2,d2,A3,d3,rfl,hr_,hb_⟩
   refine ⟨_,rfl,?_⟩
   have HTR := Aside0.mk (TR_lower hr_ (below_size HB.out))
   replace HXo := mB HXo hb_
   replace HXs := mB HXs hb_
   replace HXr := mB HXr hb_
   replace HB := mS HB hb_
   clear hr_ hb_
   refine hK.out _ _ ⟨(cL HXs 0 rfl),(cL HXs 1 rfl),(cL HXs 2 rfl),(cL HXs 3 rfl),(cL HXs 4 rfl)⟩ (fun hHeld => ?_)
   clear hK K
   refine norm_ (a' := ?_) ?_ ?_
   rotate_left
   ·show Act.put _ (some 7) _ = _
    simp only [Act.put,zpI,zps0,zps1,i64_w,i32_w]
    rfl
   exact norm_ (by first | (simp only [putAll,Act.put,zpI,zps0,zps1]; done) | (simp only [putAll,Act.put,zpI,zps0,zps1]; rfl)) (hCont (.agg #[.int .i64 g,.int .i64 s,.slice A1 o.length d1,.slice A2 l.length d2,.slice A3 f.length d3],.pointer (some ⟨go,0,none⟩)) _ ⟨go,A1,d1,A2,d2,A3,d3,rfl,rfl,HTR.out,HXs.out,HXr.out,HXo.out,HNE.out,HB.out⟩)
 rintro ⟨v7,v4⟩ w3 ⟨go,A1,d1,A2,d2,A3,d3,h1,h2,h3,h4,h5,h6,h7,h8⟩
 dsimp only at h1 h2
 subst h1 h2
 clear HXs HXr HB
 have HTR := Aside0.mk h3
 have HXs := Aside0.mk h4
 have HXr := Aside0.mk h5
 have HXo := Aside0.mk h6
 have HNE := Aside0.mk h7
 have HB := Aside0.mk h8
 clear h3 h4 h5 h6 h7 h8
 have hHeld : (fun w' => w'.cell? ⟨gs,0,none⟩ = some (.int .i64 g) ∧ w'.cell? ⟨gs,1,none⟩ = some (.int .i64 s) ∧ w'.cell? ⟨gs,2,none⟩ = some (.slice Ao o.length co) ∧ w'.cell? ⟨gs,3,none⟩ = some (.slice (some ad) l.length cl) ∧ w'.cell? ⟨gs,4,none⟩ = some (.slice Af f.length cf)) w3 := ⟨(cL HXs 0 rfl),(cL HXs 1 rfl),(cL HXs 2 rfl),(cL HXs 3 rfl),(cL HXs 4 rfl)⟩
 refine norm_ (a' := ?_) ?_ ?_
 rotate_left
 ·simp only [putAll,Act.put,zpI,zps0,zps1]
  rfl
 refine one_ (i := 7) (N := none) zp9 rfl rfl (one_of HT_.out (by kernel_rfl)) (by decide) (fun K hK => ?_)
 have r_0 : w3.cell? ⟨go,0,none⟩ = some (.int .i64 0) := cL HXo 0 rfl
 have r_1 : w3.cell? ⟨go,1,none⟩ = some (.int .i64 0) := cL HXo 1 rfl
 have r_2 : w3.cell? ⟨go,2,none⟩ = some (.slice none 0 0) := cL HXo 2 rfl
 have r_3 : w3.cell? ⟨go,3,none⟩ = some (.slice none 0 0) := cL HXo 3 rfl
 have r_4 : w3.cell? ⟨go,4,none⟩ = some (.slice none 0 0) := cL HXo 4 rfl
 have rf_0 := blk_frozen HXo.out 0
 have rf_1 := blk_frozen HXo.out 1
 have rf_2 := blk_frozen HXo.out 2
 have rf_3 := blk_frozen HXo.out 3
 have rf_4 := blk_frozen HXo.out 4
 refine skip_ (w1 := ?_) (by rfl) rfl ?_ ?_
 rotate_left
 ·go_simp
  rfl
 clear r_0 r_1 r_2 r_3 r_4 rf_0 rf_1 rf_2 rf_3 rf_4
 obtain ⟨W4,hW⟩ : ∃ W_,W_ = (((((w3.setCell ⟨go,0,none⟩ (.int .i64 g)).setCell ⟨go,1,none⟩ (.int .i64 s)).setCell ⟨go,2,none⟩ (.slice A1 o.length d1)).setCell ⟨go,3,none⟩ (.slice A2 l.length d2)).setCell ⟨go,4,none⟩ (.slice A3 f.length d3)) := ⟨_,rfl⟩
 rw [← hW]
 replace HTR := Aside0.mk (tr5 hW HXo.out (by decide) (by decide) HTR.out)
 replace HXs := Aside0.mk (far5 hW HXs.out HNE.out.1.1)
 replace HXr := Aside0.mk (far5 hW HXr.out HNE.out.1.2)
 replace HXo := Aside0.mk (set5 hW HXo.out)
 replace HB := Aside0.mk (below5 hW HB.out HNE.out.2)
 clear hW
 refine hK.out _ _ ⟨(cL HXs 0 rfl),(cL HXs 1 rfl),(cL HXs 2 rfl),(cL HXs 3 rfl),(cL HXs 4 rfl)⟩ (fun hHeld => ?_)
 clear hK K
 refine pure_ (i := 8) (N := some 5) (v := ?_) (a' := ?_) zp10 rfl rfl (any_of HT_.out (by kernel_rfl)) (fun _ _ _ h => h) (Or.inl ⟨by rfl,?_⟩) ?_ ?_
 rotate_left
 ·intro w'
  go_simp
  with_reducible rfl
 rotate_left
 ·simp only [Act.put,zpI,zps0,zps1,i64_w,i32_w]
  rfl
 refine done_ (done_of HT_.out (by kernel_rfl)) ?_
 clear HT_ HW_ hHeld
 clear hi2 hi3 hi4
 have s_0 : W4.cell? ⟨gs,0,none⟩ = some (.int .i64 g) := cL HXs 0 rfl
 have s_1 : W4.cell? ⟨gs,1,none⟩ = some (.int .i64 s) := cL HXs 1 rfl
 have s_2 : W4.cell? ⟨gs,2,none⟩ = some (.slice Ao o.length co) := cL HXs 2 rfl
 have s_3 : W4.cell? ⟨gs,3,none⟩ = some (.slice (some ad) l.length cl) := cL HXs 3 rfl
 have s_4 : W4.cell? ⟨gs,4,none⟩ = some (.slice Af f.length cf) := cL HXs 4 rfl
 have hz : W4.cell? (ad.add i.toNat) = some (.int .i64 z) := pw_cell_below HB.out HZ.out
 go_upto_region 2 with fail
 go_quiet (fail)
 clear s_0 s_1 s_2 s_3 s_4
 clear hz
 replace HXs := Aside0.mk (blk_below HXs.out (pw_below_drewN (Below.refl _ _) nq))
 replace HXr := Aside0.mk (blk_below HXr.out (pw_below_drewN (Below.refl _ _) nq))
 replace HXo := Aside0.mk (blk_below HXo.out (pw_below_drewN (Below.refl _ _) nq))
 replace HTR := Aside0.mk (TR_below HTR.out (pw_below_drewN (Below.refl _ _) nq))
 replace HB := Aside0.mk (pw_below_drewN HB.out nq)
 generalize W4.drewN nq = W5 at *
 obtain ⟨gl,cl2,e2,_,_,_,_⟩ := Kd.R_form (TR_l HTR.out) (by have := HN.out; omega)
 cases e2
 have hi5 : i = (l.length : Int) - 1 := HI.out
 have HII : Aside0 (0 ≤ i ∧ i < (l.length : Int)) := ⟨by have := HN.out; omega⟩
 clear hi5
 go_upto_region 4 with fail
 have hz64 : z + 1 ≤ 9223372036854775807 := by have := HSS.out; omega
 have hz65 : -9223372036854775808 ≤ z + 1 := by have := HSS.out; omega
 have hwz : IntKind.i64.wrap (z + 1) = z + 1 := by rw [i64_w]; unfold wrap64; omega
 refine start_ (n := 11) (S := fun w' => w'.cell? ⟨go,0,none⟩ = some (.int .i64 g) ∧ w'.cell? ⟨go,1,none⟩ = some (.int .i64 s) ∧ w'.cell? ⟨go,2,none⟩ = some (.slice A1 o.length d1) ∧ w'.cell? ⟨go,3,none⟩ = some (.slice (some ⟨gl,0,none⟩) l.length d2) ∧ w'.cell? ⟨go,4,none⟩ = some (.slice A3 f.length d3) ∧ w'.cell? ⟨gl,i.toNat,none⟩ = some (.int .i64 z)) (ds := [10]) zp11 (by kernel_rfl) rfl rfl ⟨((blk_cell (blk_drew HXo.out) 0).trans rfl),((blk_cell (blk_drew HXo.out) 1).trans rfl),((blk_cell (blk_drew HXo.out) 2).trans rfl),((blk_cell (blk_drew HXo.out) 3).trans rfl),((blk_cell (blk_drew HXo.out) 4).trans rfl),((Kd.R_celln (enc := Value.int .i64) (h1 := fun _ => rfl) 0 (TR_l (TR_below HTR.out (below_drew (Below.refl _ _)))) i HII.out.1 HII.out.2).1.trans (by rw [HZZ.out]; rfl))⟩ (fun hHeld => ?_)
 refine with_tabW rcount.tab4 rcount.bits4 (fun HT_ HW_ => ?_)
 replace HXo := Aside0.mk (blk_drew HXo.out)
 replace HXr := Aside0.mk (blk_drew HXr.out)
 replace HTR := Aside0.mk (TR_below HTR.out (below_drew (Below.refl _ _)))
 replace HB := Aside0.mk (below_drew HB.out)
 generalize W5.drew = wd4 at *
 refine pure_ (i := 0) (N := some 21) (v := ?_) (a' := ?_) zp12 rfl rfl (any_of HT_.out (by kernel_rfl)) (fun _ _ _ h => h) (Or.inl ⟨by rfl,?_⟩) ?_ ?_
 rotate_left
 ·intro w'
  go_simp
  with_reducible rfl
 rotate_left
 ·simp only [Act.put,zpI,zps0,zps1,i64_w,i32_w]
  rfl
 refine pure_ (i := 2) (N := some 23) (v := ?_) (a' := ?_) zp13 rfl rfl (any_of HT_.out (by kernel_rfl)) (fun _ _ _ h => h) (Or.inl ⟨by rfl,?_⟩) ?_ ?_
 rotate_left
 ·intro w'
  go_simp
  with_reducible rfl
 rotate_left
 ·simp only [Act.put,zpI,zps0,zps1,i64_w,i32_w]
  rfl
 refine pure_ (i := 3) (N := some 24) (v := ?_) (a' := ?_) zp14 rfl rfl (any_of HT_.out (by kernel_rfl)) (fun _ _ _ h => h) (Or.inl ⟨by rfl,?_⟩) ?_ ?_
 rotate_left
 ·intro w'
  go_simp
  with_reducible rfl
 rotate_left
 ·simp only [Act.put,zpI,zps0,zps1,i64_w,i32_w]
  rfl
 refine pure_ (i := 5) (N := some 26) (v := ?_) (a' := ?_) zp15 rfl rfl (any_of HT_.out (by kernel_rfl)) (fun _ _ _ h => h) (Or.inl ⟨by rfl,?_⟩) ?_ ?_
 rotate_left
 ·intro w'
  go_simp
  with_reducible rfl
 rotate_left
 ·simp only [Act.put,zpI,zps0,zps1,i64_w,i32_w]
  rfl
 refine take_ (i := 1) (N := some 22) (v := ?_) (a' := ?_) zp16 rfl rfl (take_ofW HT_.out HW_.out (by kernel_rfl)) (fun _ _ _ h => h) (Or.inl ⟨by rfl,?_⟩) hHeld ?_ ?_
 rotate_left
 ·rintro w' ⟨s0,s1,s2,s3,s4,s5⟩
  go_simp
  with_reducible rfl
 rotate_left
 ·simp only [Act.put,zpI,zps0,zps1,i64_w,i32_w]
  rfl
 refine take_ (i := 4) (N := some 25) (v := ?_) (a' := ?_) zp17 rfl rfl (take_ofW HT_.out HW_.out (by kernel_rfl)) (fun _ _ _ h => h) (Or.inl ⟨by rfl,?_⟩) hHeld ?_ ?_
 rotate_left
 ·rintro w' ⟨s0,s1,s2,s3,s4,s5⟩
  go_simp
  with_reducible rfl
 rotate_left
 ·simp only [Act.put,zpI,zps0,zps1,i64_w,i32_w]
  rfl
 refine pure_ (i := 6) (N := some 27) (v := ?_) (a' := ?_) zp18 rfl rfl (any_of HT_.out (by kernel_rfl)) (fun _ _ _ h => h) (Or.inl ⟨by rfl,?_⟩) ?_ ?_
 rotate_left
 ·intro w'
  go_simp
  with_reducible rfl
 rotate_left
 ·simp only [Act.put,zpI,zps0,zps1,i64_w,i32_w]
  rfl
 refine take_ (i := 7) (N := some 28) (v := ?_) (a' := ?_) zp19 rfl rfl (take_ofW HT_.out HW_.out (by kernel_rfl)) (fun _ _ _ h => h) (Or.inl ⟨by rfl,?_⟩) hHeld ?_ ?_
 rotate_left
 ·rintro w' ⟨s0,s1,s2,s3,s4,s5⟩
  go_simp
  with_reducible rfl
 rotate_left
 ·simp only [Act.put,zpI,zps0,zps1,i64_w,i32_w]
  rfl
 refine pure_ (i := 8) (N := some 29) (v := ?_) (a' := ?_) zp20 rfl rfl (any_of HT_.out (by kernel_rfl)) (fun _ _ _ h => h) (Or.inl ⟨by rfl,?_⟩) ?_ ?_
 rotate_left
 ·intro w'
  go_simp
  with_reducible rfl
 rotate_left
 ·simp only [Act.put,zpI,zps0,zps1,i64_w,i32_w]
  rfl
 refine pure_ (i := 9) (N := some 30) (v := ?_) (a' := ?_) zp21 rfl rfl (any_of HT_.out (by kernel_rfl)) (fun _ _ _ h => h) (Or.inl ⟨by rfl,?_⟩) ?_ ?_
 rotate_left
 ·intro w'
  go_simp
  with_reducible rfl
 rotate_left
 ·simp only [Act.put,zpI,zps0,zps1,i64_w,i32_w]
  rfl
 refine last_ (i := 10) (N := none) zp22 rfl rfl (one_of HT_.out (by kernel_rfl)) (by decide) (fun K hK => ?_)
 have hzf := (Kd.R_celln (enc := Value.int .i64) (h1 := fun _ => rfl) 0 (TR_l HTR.out) i HII.out.1 HII.out.2).2
 have hz : wd4.cell? ⟨gl,i.toNat,none⟩ = some (.int .i64 z) := ((Kd.R_celln (enc := Value.int .i64) (h1 := fun _ => rfl) 0 (TR_l HTR.out) i HII.out.1 HII.out.2).1.trans (by rw [HZZ.out]; rfl))
 refine skip_ (w1 := ?_) (by rfl) rfl ?_ ?_
 rotate_left
 ·go_simp
  rfl
 clear hzf hz
 obtain ⟨W8,hW⟩ : ∃ W_,W_ = wd4.setCell ⟨gl,i.toNat,none⟩ (.int .i64 (z + 1)) := ⟨_,rfl⟩
 rw [← hW]
 have q1 := TR_put_l HTR.out (by have := HN.out; omega) i (z + 1)
 have q2 := blk_far HXo.out (p := ⟨gl,i.toNat,none⟩) (TR_blk_l HTR.out (by have := HN.out; omega) HXo.out (by decide)) (.int .i64 (z + 1))
 have q3 := blk_far HXr.out (p := ⟨gl,i.toNat,none⟩) (TR_blk_l HTR.out (by have := HN.out; omega) HXr.out (by decide)) (.int .i64 (z + 1))
 have q4 := below_set (j := i.toNat) (v := .int .i64 (z + 1)) HB.out (TR_base_l HTR.out)
 rw [← hW] at q1 q2 q3 q4
 clear hW
 have HTR2 := Aside0.mk q1
 replace HXo := Aside0.mk (q2)
 replace HXr := Aside0.mk (q3)
 replace HB := Aside0.mk (q4)
 clear q1 q2 q3 q4 HTR
 refine hK.out _ _ ?_
 clear hK K
 refine done_ (done_of HT_.out (by kernel_rfl)) ?_
 clear HT_ HW_ hHeld
 clear hwz hz64 hz65
 have s_0 : W8.cell? ⟨go,0,none⟩ = some (.int .i64 g) := cL HXo 0 rfl
 have s_1 : W8.cell? ⟨go,1,none⟩ = some (.int .i64 s) := cL HXo 1 rfl
 have s_2 : W8.cell? ⟨go,2,none⟩ = some (.slice A1 o.length d1) := cL HXo 2 rfl
 have s_3 : W8.cell? ⟨go,3,none⟩ = some (.slice (some ⟨gl,0,none⟩) l.length d2) := cL HXo 3 rfl
 have s_4 : W8.cell? ⟨go,4,none⟩ = some (.slice A3 f.length d3) := cL HXo 4 rfl
 have r_0 : W8.cell? ⟨gr,0,none⟩ = some (.int .i64 0) := cL HXr 0 rfl
 have r_1 : W8.cell? ⟨gr,1,none⟩ = some (.int .i64 0) := cL HXr 1 rfl
 have r_2 : W8.cell? ⟨gr,2,none⟩ = some (.slice none 0 0) := cL HXr 2 rfl
 have r_3 : W8.cell? ⟨gr,3,none⟩ = some (.slice none 0 0) := cL HXr 3 rfl
 have r_4 : W8.cell? ⟨gr,4,none⟩ = some (.slice none 0 0) := cL HXr 4 rfl
 have rf_0 := blk_frozen HXr.out 0
 have rf_1 := blk_frozen HXr.out 1
 have rf_2 := blk_frozen HXr.out 2
 have rf_3 := blk_frozen HXr.out 3
 have rf_4 := blk_frozen HXr.out 4
 have n1_ := HNE.out.1.2
 have n2_ := Ne.symm HNE.out.1.2
 go_wp2_with fail
 obtain ⟨W9,hW⟩ : ∃ W_,W_ = (((((W8.setCell ⟨gr,0,none⟩ (.int .i64 g)).setCell ⟨gr,1,none⟩ (.int .i64 s)).setCell ⟨gr,2,none⟩ (.slice A1 o.length d1)).setCell ⟨gr,3,none⟩ (.slice (some ⟨gl,0,none⟩) l.length d2)).setCell ⟨gr,4,none⟩ (.slice A3 f.length d3)) := ⟨_,rfl⟩
 rw [← hW]
 refine bodyPost_ret (results_ct rfl _ _ gr 32 _ (0,0) _ rfl (set5 hW HXr.out) Try.underlying32 rfl (by kernel_rfl)) rfl ?_
 rw [← HI.out,← HZZ.out]
 have e9 : i.toNat = l.length - 1 := by have := HI.out; have := HN.out; omega
 rw [e9] at HTR2
 exact ⟨A1,d1,_,d2,A3,d3,rfl,tr5 hW HXr.out (by decide) (by decide) HTR2.out,below5 hW HB.out HGR.out⟩
end Go.Proofs.Ytbefoehjlgdcgaa.H
