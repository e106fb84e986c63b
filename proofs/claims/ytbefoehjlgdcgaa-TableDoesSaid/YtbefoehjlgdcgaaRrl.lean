/-
lodgerref08.Roll: a segment more.
-/
import Derived.Test.YtbefoehjlgdcgaaRo
import Derived.Test.YtbefoehjlgdcgaaCy
namespace Go.Proofs.Ytbefoehjlgdcgaa.H
open Go.RowKit Go.Proofs.YtbefoehjlgdcgaaW.PrintWords Go.Proofs.YtbefoehjlgdcgaaW.PrintLast Go.Proofs.YtbefoehjlgdcgaaW.PrintMore
attribute [local go_sem] min2_int min_two
set_option linter.unusedVariables false
set_option linter.unusedSimpArgs false
def zw0 : Array Bool := #[false,false,false,false,false,false,false]
def zw1 : Array Bool := #[true,false,false,false,false,false,false]
def zw2 : Array Bool := #[true,false,true,false,false,false,false]
def zw3 : Array Bool := #[true,true,true,true,true,false,false]
def zw4 : Array Bool := #[true,true,true,false,false,false,false]
def zw5 : Array Bool := #[true,false,true,false,true,false,false]
def zw6 : Array Bool := #[true,true,true,true,false,false,false]
def zw7 : Array Bool := #[true,true,true,false,true,false,false]
def zw8 : Array Bool := #[true,true,true,true,true,true,false]
def zw9 : Array Bool := #[true,true,true,true,true,true,true]
def zw10 : Array Bool := #[false,false,false,false,false,false,false,false,false]
def zw11 : Array Bool := #[true,false,false,false,false,false,false,false,false]
def zw12 : Array Bool := #[true,false,true,false,false,false,false,false,false]
def zw13 : Array Bool := #[true,false,true,true,false,false,false,false,false]
def zw14 : Array Bool := #[true,true,true,true,false,false,false,false,false]
def zw15 : Array Bool := #[true,true,true,true,true,false,false,false,false]
def zw16 : Array Bool := #[true,true,true,true,true,true,false,false,false]
def zw17 : Array Bool := #[true,true,true,true,true,true,true,false,false]
def zw18 : Array Bool := #[true,true,true,true,true,true,true,true,false]
def zw19 : Array Bool := #[true,true,true,true,true,true,true,true,true]
theorem zwI {α : Type} (l : List α) (i : Nat) (a : α) : l.toArray.setIfInBounds i a = (l.set i a).toArray := List.setIfInBounds_toArray l i a
theorem zws0 {α : Type} (x : α) (l : List α) (a : α) : (x :: l).set 0 a = a :: l := rfl
theorem zws1 {α : Type} (x : α) (l : List α) (i : Nat) (a : α) : (x :: l).set (i + 1) a = x :: l.set i a := rfl
theorem add_none (a : Addr) : a.add 0 = a := by
 obtain ⟨b,o,x⟩ := a
 unfold Addr.add
 cases x <;> simp
def rroll.T1 : Bool × List (List Nat × List Nat) := (true,[([],[]),([0],[0]),([],[]),([2,1],[2]),([],[]),([1,3,0,1,4],[1]),([4,3,5,0,1,2,3,4,5],[3,4])])
def rroll.B1 : List Nat := [0,1,0,7,0,31,63]
theorem rroll.tab1 : rtab .any (opsOf Try.f37 1) = rroll.T1 := by kernel_rfl
theorem rroll.bits1 : waitsOk rroll.T1.2 rroll.B1 = true := by kernel_rfl
def rroll.T4 : Bool × List (List Nat × List Nat) := (true,[([],[]),([0],[0]),([],[]),([2],[2]),([3],[3]),([4],[4]),([1,5],[1,5]),([0,1,2,3,4,5,6],[]),([7,6,6,0,1,2,3,4,5,6],[6,7])])
def rroll.B4 : List Nat := [0,1,0,4,12,28,63,127,255]
theorem rroll.tab4 : rtab .any (opsOf Try.f37 4) = rroll.T4 := by kernel_rfl
theorem rroll.bits4 : waitsOk rroll.T4.2 rroll.B4 = true := by kernel_rfl
set_option maxHeartbeats 8000000 in
set_option maxRecDepth 100000 in
theorem rroll_no (g s : Int) (Ao : Option Addr) (co : Nat) (o : List Int) (Al : Option Addr) (cl : Nat) (l : List Int) (Af : Option Addr) (cf : Nat) (f : List Int) (first : Int) (w : World) (hT : TC w Ao co o Al cl l Af cf f) (hol : o.length ≤ 1000 ∧ l.length ≤ 1000 ∧ f.length ≤ 1000) (fr : List Int) (hf : lodgerref08_Free.f 40 g s o l f = some fr) (hfr : fr = []) :
  Calls Try.prog 37 #[.agg #[.int .i64 g,.int .i64 s,.slice Ao o.length co,.slice Al l.length cl,.slice Af f.length cf],.int .u64 first] w fun e w' => e = .returned (.tuple #[.agg #[.int .i64 0,.int .i64 0,.slice none 0 0,.slice none 0 0,.slice none 0 0],.int .i64 10]) ∧ Below w.heap.size w w' := by
 have HT := Aside0.mk hT
 have HL := Aside0.mk hol
 have HF := Aside0.mk hf
 clear hT hol hf
 go_enter Try.func37,Try.ntmps37
 go_upto_region 1 with fail
 obtain ⟨W1,hW1⟩ : ∃ W1,W1 = (w.alloc (.cells #[.int .i64 g,.int .i64 s,.slice Ao o.length co,.slice Al l.length cl,.slice Af f.length cf] 32)).alloc (.cells #[.int .i64 0,.int .i64 0,.slice none 0 0,.slice none 0 0,.slice none 0 0] 32) := ⟨_,rfl⟩
 rw [← hW1]
 obtain ⟨gr,hgr⟩ : ∃ g,g = w.heap.size + 1 := ⟨_,rfl⟩
 obtain ⟨gs,hgs⟩ : ∃ g,g = w.heap.size := ⟨_,rfl⟩
 have HXs : Aside0 (W1.heap[gs]? = some (.cells #[.int .i64 g,.int .i64 s,.slice Ao o.length co,.slice Al l.length cl,.slice Af f.length cf] 32 (0,0))) := ⟨by rw [hW1,hgs]; exact blk_alloc (blk_new _ _) _⟩
 have HXr : Aside0 (W1.heap[gr]? = some (.cells #[.int .i64 0,.int .i64 0,.slice none 0 0,.slice none 0 0,.slice none 0 0] 32 (0,0))) := ⟨by rw [hW1,hgr]; have := blk_new (w.alloc (.cells #[.int .i64 g,.int .i64 s,.slice Ao o.length co,.slice Al l.length cl,.slice Af f.length cf] 32)) (.cells #[.int .i64 0,.int .i64 0,.slice none 0 0,.slice none 0 0,.slice none 0 0] 32); simpa using this⟩
 have HB : Aside0 (Below w.heap.size w W1) := ⟨by rw [hW1]; exact below_alloc (below_alloc (Below.refl _ _) _) _⟩
 have HGR : Aside0 (w.heap.size ≤ gr) := ⟨by omega⟩
 rw [← hgr,← hgs]
 clear hW1 hgr hgs
 refine start_ (n := 7) (S := fun w' => w'.cell? ⟨gs,0,none⟩ = some (.int .i64 g) ∧ w'.cell? ⟨gs,1,none⟩ = some (.int .i64 s) ∧ w'.cell? ⟨gs,2,none⟩ = some (.slice Ao o.length co) ∧ w'.cell? ⟨gs,3,none⟩ = some (.slice Al l.length cl) ∧ w'.cell? ⟨gs,4,none⟩ = some (.slice Af f.length cf)) (ds := []) zw0 (by kernel_rfl) rfl rfl ⟨((blk_cell (blk_drew HXs.out) 0).trans rfl),((blk_cell (blk_drew HXs.out) 1).trans rfl),((blk_cell (blk_drew HXs.out) 2).trans rfl),((blk_cell (blk_drew HXs.out) 3).trans rfl),((blk_cell (blk_drew HXs.out) 4).trans rfl)⟩ (fun hHeld => ?_)
 refine with_tabW rroll.tab1 rroll.bits1 (fun HT_ HW_ => ?_)
 replace HXs := Aside0.mk (blk_drew HXs.out)
 replace HXr := Aside0.mk (blk_drew HXr.out)
 replace HB := Aside0.mk (below_drew HB.out)
 generalize W1.drew = wd1 at *
 refine take_ (i := 0) (N := some 8) (v := ?_) (a' := ?_) zw1 rfl rfl (take_ofW HT_.out HW_.out (by kernel_rfl)) (fun _ _ _ h => h) (Or.inl ⟨by rfl,?_⟩) hHeld ?_ ?_
 rotate_left
 ·rintro w' ⟨s0,s1,s2,s3,s4⟩
  go_simp
  with_reducible rfl
 rotate_left
 ·simp only [Act.put,zwI,zws0,zws1,i64_w,i32_w]
  rfl
 refine take_ (i := 2) (N := some 10) (v := ?_) (a' := ?_) zw2 rfl rfl (take_ofW HT_.out HW_.out (by kernel_rfl)) (fun _ _ _ h => h) (Or.inl ⟨by rfl,?_⟩) hHeld ?_ ?_
 rotate_left
 ·rintro w' ⟨s0,s1,s2,s3,s4⟩
  go_simp
  with_reducible rfl
 rotate_left
 ·simp only [Act.put,zwI,zws0,zws1,i64_w,i32_w]
  rfl
 refine join_ (σ := Value × Value × Value) 2 zw3 (fun s_ => [(9,s_.1),(11,s_.2.1),(7,s_.2.2)]) (fun s_ w' => ∃ go A1 d1 A2 d2 A3 d3,s_.2.1 = .agg #[.int .i64 g,.int .i64 s,.slice A1 o.length d1,.slice A2 l.length d2,.slice A3 f.length d3] ∧ s_.2.2 = .pointer (some ⟨go,0,none⟩) ∧ Kd.R (Kd.int .i64) 3 w' w.heap.size (fun _ => True) s_.1 fr ∧ TR w' w.heap.size A1 d1 o A2 d2 l A3 d3 f ∧ w'.heap[gs]? = some (.cells #[.int .i64 g,.int .i64 s,.slice Ao o.length co,.slice Al l.length cl,.slice Af f.length cf] 32 (0,0)) ∧ w'.heap[gr]? = some (.cells #[.int .i64 0,.int .i64 0,.slice none 0 0,.slice none 0 0,.slice none 0 0] 32 (0,0)) ∧ w'.heap[go]? = some (.cells #[.int .i64 0,.int .i64 0,.slice none 0 0,.slice none 0 0,.slice none 0 0] 32 (0,0)) ∧ ((gs ≠ go ∧ gr ≠ go) ∧ w.heap.size ≤ go) ∧ Below w.heap.size w w') ?_ ?_
 rotate_left
 ·intro hCont
  refine two_ (i := 1) (j := 4) (Ni := some 9) (Nj := some 7) zw4 zw5 rfl rfl rfl rfl (two_of HT_.out (by kernel_rfl)) (by decide) (by decide) (fun K hK => ?_) (fun K hK => ?_)
  ·skip
   refine goes_ Try.func18 (by kernel_rfl) rfl #[.agg #[.int .i64 g,.int .i64 s,.slice Ao o.length co,.slice Al l.length cl,.slice Af f.length cf]] (by rfl) rfl rfl (by simp only [List.map_toArray,List.map_cons,List.map_nil]; rfl) ?_
   with_reducible refine (rfree_calls 40 g s _ _ o _ _ l _ _ f _ (TC_below HT.out HB.out) fr HF.out).mono ?_
   rintro e_ wr1 ⟨vf,rfl,hr_,hb_⟩
   refine ⟨_,rfl,?_⟩
   have HV := Aside0.mk (Kd.R_lower hr_ (below_size HB.out))
   clear hr_
   replace HXs := mB HXs hb_
   replace HXr := mB HXr hb_
   replace HB := mS HB hb_
   clear hb_
   refine hK.out _ _ ⟨(cL HXs 0 rfl),(cL HXs 1 rfl),(cL HXs 2 rfl),(cL HXs 3 rfl),(cL HXs 4 rfl)⟩ (fun hHeld => ?_)
   clear hK K
   refine norm_ (a' := ?_) ?_ ?_
   rotate_left
   ·show Act.put _ (some 9) _ = _
    simp only [Act.put,zwI,zws0,zws1,i64_w,i32_w]
    rfl
   refine two_ (i := 3) (j := 4) (Ni := some 11) (Nj := some 7) zw6 zw7 rfl rfl rfl rfl (two_of HT_.out (by kernel_rfl)) (by decide) (by decide) (fun K hK => ?_) (fun K hK => ?_)
   ·skip
    refine goes_ Try.func46 (by kernel_rfl) rfl #[.agg #[.int .i64 g,.int .i64 s,.slice Ao o.length co,.slice Al l.length cl,.slice Af f.length cf]] (by rfl) rfl rfl (by simp only [List.map_toArray,List.map_cons,List.map_nil]; rfl) ?_
    with_reducible refine (rown_calls g s _ _ o _ _ l _ _ f _ (TC_below HT.out HB.out) HL.out).mono ?_
    rintro e_ wr2 ⟨A1,d1,A2,d2,A3,d3,rfl,hr_,hb_⟩
    refine ⟨_,rfl,?_⟩
    replace HV := Aside0.mk (Kd.R_below HV.out hb_)
    have HTR := Aside0.mk (TR_lower hr_ (below_size HB.out))
    clear hr_
    replace HXs := mB HXs hb_
    replace HXr := mB HXr hb_
    replace HB := mS HB hb_
    clear hb_
    refine hK.out _ _ ⟨(cL HXs 0 rfl),(cL HXs 1 rfl),(cL HXs 2 rfl),(cL HXs 3 rfl),(cL HXs 4 rfl)⟩ (fun hHeld => ?_)
    clear hK K
    refine norm_ (a' := ?_) ?_ ?_
    rotate_left
    ·show Act.put _ (some 11) _ = _
     simp only [Act.put,zwI,zws0,zws1,i64_w,i32_w]
     rfl
    refine one_ (i := 4) (N := some 7) zw3 rfl rfl (one_of HT_.out (by kernel_rfl)) (by decide) (fun K hK => ?_)
    refine value_ (w1 := ?_) (v := ?_) (by rfl) rfl ?_ ?_
    rotate_left 2
    ·go_simp
     constructor
     ·rfl
     ·rfl
    obtain ⟨wr3,hW⟩ : ∃ W_,W_ = wr2.alloc (.cells #[.int .i64 0,.int .i64 0,.slice none 0 0,.slice none 0 0,.slice none 0 0] 32) := ⟨_,rfl⟩
    obtain ⟨go,hh⟩ : ∃ g_,g_ = wr2.heap.size := ⟨_,rfl⟩
    rw [← hW,← hh]
    have hb_ : Below wr2.heap.size wr2 wr3 := by rw [hW]; exact below_alloc (Below.refl _ _) _
    have HXo : Aside0 (wr3.heap[go]? = some (.cells #[.int .i64 0,.int .i64 0,.slice none 0 0,.slice none 0 0,.slice none 0 0] 32 (0,0))) := ⟨by rw [hW,hh]; exact blk_new _ _⟩
    have HNE : Aside0 ((gs ≠ go ∧ gr ≠ go) ∧ w.heap.size ≤ go) := ⟨by rw [hh]; exact ⟨⟨Nat.ne_of_lt (blk_lt HXs.out),Nat.ne_of_lt (blk_lt HXr.out)⟩,below_size HB.out⟩⟩
    clear hW hh
    replace HV := Aside0.mk (Kd.R_below HV.out hb_)
    replace HTR := Aside0.mk (TR_below HTR.out hb_)
    replace HXs := mB HXs hb_
    replace HXr := mB HXr hb_
    replace HB := mS HB hb_
    clear hb_
    refine hK.out _ _ ⟨(cL HXs 0 rfl),(cL HXs 1 rfl),(cL HXs 2 rfl),(cL HXs 3 rfl),(cL HXs 4 rfl)⟩ (fun hHeld => ?_)
    clear hK K
    refine norm_ (a' := ?_) ?_ ?_
    rotate_left
    ·show Act.put _ (some 7) _ = _
     simp only [Act.put,zwI,zws0,zws1,i64_w,i32_w]
     rfl
    exact norm_ (by first | (simp only [putAll,Act.put,zwI,zws0,zws1]; done) | (simp only [putAll,Act.put,zwI,zws0,zws1]; rfl)) (hCont (vf,.agg #[.int .i64 g,.int .i64 s,.slice A1 o.length d1,.slice A2 l.length d2,.slice A3 f.length d3],.pointer (some ⟨go,0,none⟩)) _ ⟨go,A1,d1,A2,d2,A3,d3,rfl,rfl,HV.out,HTR.out,HXs.out,HXr.out,HXo.out,HNE.out,HB.out⟩)
   ·skip
    refine value_ (w1 := ?_) (v := ?_) (by rfl) rfl ?_ ?_
    rotate_left 2
    ·go_simp
     constructor
     ·rfl
     ·rfl
    obtain ⟨wr2,hW⟩ : ∃ W_,W_ = wr1.alloc (.cells #[.int .i64 0,.int .i64 0,.slice none 0 0,.slice none 0 0,.slice none 0 0] 32) := ⟨_,rfl⟩
    obtain ⟨go,hh⟩ : ∃ g_,g_ = wr1.heap.size := ⟨_,rfl⟩
    rw [← hW,← hh]
    have hb_ : Below wr1.heap.size wr1 wr2 := by rw [hW]; exact below_alloc (Below.refl _ _) _
    have HXo : Aside0 (wr2.heap[go]? = some (.cells #[.int .i64 0,.int .i64 0,.slice none 0 0,.slice none 0 0,.slice none 0 0] 32 (0,0))) := ⟨by rw [hW,hh]; exact blk_new _ _⟩
    have HNE : Aside0 ((gs ≠ go ∧ gr ≠ go) ∧ w.heap.size ≤ go) := ⟨by rw [hh]; exact ⟨⟨Nat.ne_of_lt (blk_lt HXs.out),Nat.ne_of_lt (blk_lt HXr.out)⟩,below_size HB.out⟩⟩
    clear hW hh
    replace HV := Aside0.mk (Kd.R_below HV.out hb_)
    replace HXs := mB HXs hb_
    replace HXr := mB HXr hb_
    replace HB := mS HB hb_
    clear hb_
    refine hK.out _ _ ⟨(cL HXs 0 rfl),(cL HXs 1 rfl),(cL HXs 2 rfl),(cL HXs 3 rfl),(cL HXs 4 rfl)⟩ (fun hHeld => ?_)
    clear hK K
    refine norm_ (a' := ?_) ?_ ?_
    rotate_left
    ·show Act.put _ (some 7) _ = _
     simp only [Act.put,zwI,zws0,zws1,i64_w,i32_w]
     rfl
    refine one_ (i := 3) (N := some 11) zw3 rfl rfl (one_of HT_.out (by kernel_rfl)) (by decide) (fun K hK => ?_)
    refine goes_ Try.func46 (by kernel_rfl) rfl #[.agg #[.int .i64 g,.int .i64 s,.slice Ao o.length co,.slice Al l.length cl,.slice Af f.length cf]] (by rfl) rfl rfl (by simp only [List.map_toArray,List.map_cons,List.map_nil]; rfl) ?_
    with_reducible refine (rown_calls g s _ _ o _ _ l _ _ f _ (TC_below HT.out HB.out) HL.out).mono ?_
    rintro e_ wr3 ⟨A1,d1,A2,d2,A3,d3,rfl,hr_,hb_⟩
    refine ⟨_,rfl,?_⟩
    replace HXo := mB HXo hb_
    replace HV := Aside0.mk (Kd.R_below HV.out hb_)
    have HTR := Aside0.mk (TR_lower hr_ (below_size HB.out))
    clear hr_
    replace HXs := mB HXs hb_
    replace HXr := mB HXr hb_
    replace HB := mS HB hb_
    clear hb_
    refine hK.out _ _ ⟨(cL HXs 0 rfl),(cL HXs 1 rfl),(cL HXs 2 rfl),(cL HXs 3 rfl),(cL HXs 4 rfl)⟩ (fun hHeld => ?_)
    clear hK K
    refine norm_ (a' := ?_) ?_ ?_
    rotate_left
    ·show Act.put _ (some 11) _ = _
     simp only [Act.put,zwI,zws0,zws1,i64_w,i32_w]
     rfl
    exact norm_ (by first | (simp only [putAll,Act.put,zwI,zws0,zws1]; done) | (simp only [putAll,Act.put,zwI,zws0,zws1]; rfl)) (hCont (vf,.agg #[.int .i64 g,.int .i64 s,.slice A1 o.length d1,.slice A2 l.length d2,.slice A3 f.length d3],.pointer (some ⟨go,0,none⟩)) _ ⟨go,A1,d1,A2,d2,A3,d3,rfl,rfl,HV.out,HTR.out,HXs.out,HXr.out,HXo.out,HNE.out,HB.out⟩)
  ·skip
   refine value_ (w1 := ?_) (v := ?_) (by rfl) rfl ?_ ?_
   rotate_left 2
   ·go_simp
    constructor
    ·rfl
    ·rfl
   obtain ⟨wr1,hW⟩ : ∃ W_,W_ = wd1.alloc (.cells #[.int .i64 0,.int .i64 0,.slice none 0 0,.slice none 0 0,.slice none 0 0] 32) := ⟨_,rfl⟩
   obtain ⟨go,hh⟩ : ∃ g_,g_ = wd1.heap.size := ⟨_,rfl⟩
   rw [← hW,← hh]
   have hb_ : Below wd1.heap.size wd1 wr1 := by rw [hW]; exact below_alloc (Below.refl _ _) _
   have HXo : Aside0 (wr1.heap[go]? = some (.cells #[.int .i64 0,.int .i64 0,.slice none 0 0,.slice none 0 0,.slice none 0 0] 32 (0,0))) := ⟨by rw [hW,hh]; exact blk_new _ _⟩
   have HNE : Aside0 ((gs ≠ go ∧ gr ≠ go) ∧ w.heap.size ≤ go) := ⟨by rw [hh]; exact ⟨⟨Nat.ne_of_lt (blk_lt HXs.out),Nat.ne_of_lt (blk_lt HXr.out)⟩,below_size HB.out⟩⟩
   clear hW hh
   replace HXs := mB HXs hb_
   replace HXr := mB HXr hb_
   replace HB := mS HB hb_
   clear hb_
   refine hK.out _ _ ⟨(cL HXs 0 rfl),(cL HXs 1 rfl),(cL HXs 2 rfl),(cL HXs 3 rfl),(cL HXs 4 rfl)⟩ (fun hHeld => ?_)
   clear hK K
   refine norm_ (a' := ?_) ?_ ?_
   rotate_left
   ·show Act.put _ (some 7) _ = _
    simp only [Act.put,zwI,zws0,zws1,i64_w,i32_w]
    rfl
   refine one_ (i := 1) (N := some 9) zw7 rfl rfl (one_of HT_.out (by kernel_rfl)) (by decide) (fun K hK => ?_)
   refine goes_ Try.func18 (by kernel_rfl) rfl #[.agg #[.int .i64 g,.int .i64 s,.slice Ao o.length co,.slice Al l.length cl,.slice Af f.length cf]] (by rfl) rfl rfl (by simp only [List.map_toArray,List.map_cons,List.map_nil]; rfl) ?_
   with_reducible refine (rfree_calls 40 g s _ _ o _ _ l _ _ f _ (TC_below HT.out HB.out) fr HF.out).mono ?_
   rintro e_ wr2 ⟨vf,rfl,hr_,hb_⟩
   refine ⟨_,rfl,?_⟩
   replace HXo := mB HXo hb_
   have HV := Aside0.mk (Kd.R_lower hr_ (below_size HB.out))
   clear hr_
   replace HXs := mB HXs hb_
   replace HXr := mB HXr hb_
   replace HB := mS HB hb_
   clear hb_
   refine hK.out _ _ ⟨(cL HXs 0 rfl),(cL HXs 1 rfl),(cL HXs 2 rfl),(cL HXs 3 rfl),(cL HXs 4 rfl)⟩ (fun hHeld => ?_)
   clear hK K
   refine norm_ (a' := ?_) ?_ ?_
   rotate_left
   ·show Act.put _ (some 9) _ = _
    simp only [Act.put,zwI,zws0,zws1,i64_w,i32_w]
    rfl
   refine one_ (i := 3) (N := some 11) zw3 rfl rfl (one_of HT_.out (by kernel_rfl)) (by decide) (fun K hK => ?_)
   refine goes_ Try.func46 (by kernel_rfl) rfl #[.agg #[.int .i64 g,.int .i64 s,.slice Ao o.length co,.slice Al l.length cl,.slice Af f.length cf]] (by rfl) rfl rfl (by simp only [List.map_toArray,List.map_cons,List.map_nil]; rfl) ?_
   with_reducible refine (rown_calls g s _ _ o _ _ l _ _ f _ (TC_below HT.out HB.out) HL.out).mono ?_
   rintro e_ wr3 ⟨A1,d1,A2,d2,A3,d3,rfl,hr_,hb_⟩
   refine ⟨_,rfl,?_⟩
   replace HXo := mB HXo hb_
   replace HV := Aside0.mk (Kd.R_below HV.out hb_)
   have HTR := Aside0.mk (TR_lower hr_ (below_size HB.out))
   clear hr_
   replace HXs := mB HXs hb_
   replace HXr := mB HXr hb_
   replace HB := mS HB hb_
   clear hb_
   refine hK.out _ _ ⟨(cL HXs 0 rfl),(cL HXs 1 rfl),(cL HXs 2 rfl),(cL HXs 3 rfl),(cL HXs 4 rfl)⟩ (fun hHeld => ?_)
   clear hK K
   refine norm_ (a' := ?_) ?_ ?_
   rotate_left
   ·show Act.put _ (some 11) _ = _
    simp only [Act.put,zwI,zws0,zws1,i64_w,i32_w]
    rfl
   exact norm_ (by first | (simp only [putAll,Act.put,zwI,zws0,zws1]; done) | (simp only [putAll,Act.put,zwI,zws0,zws1]; rfl)) (hCont (vf,.agg #[.int .i64 g,.int .i64 s,.slice A1 o.length d1,.slice A2 l.length d2,.slice A3 f.length d3],.pointer (some ⟨go,0,none⟩)) _ ⟨go,A1,d1,A2,d2,A3,d3,rfl,rfl,HV.out,HTR.out,HXs.out,HXr.out,HXo.out,HNE.out,HB.out⟩)
 rintro ⟨vf,v11,v7⟩ w3 ⟨go,A1,d1,A2,d2,A3,d3,h1,h2,h0,h3,h4,h5,h6,h7,h8⟩
 dsimp only at h1 h2 h0
 subst h1 h2
 clear HXs HXr HB
 have HV := Aside0.mk h0
 have HTR := Aside0.mk h3
 have HXs := Aside0.mk h4
 have HXr := Aside0.mk h5
 have HXo := Aside0.mk h6
 have HNE := Aside0.mk h7
 have HB := Aside0.mk h8
 clear h0 h3 h4 h5 h6 h7 h8
 have hHeld : (fun w' => w'.cell? ⟨gs,0,none⟩ = some (.int .i64 g) ∧ w'.cell? ⟨gs,1,none⟩ = some (.int .i64 s) ∧ w'.cell? ⟨gs,2,none⟩ = some (.slice Ao o.length co) ∧ w'.cell? ⟨gs,3,none⟩ = some (.slice Al l.length cl) ∧ w'.cell? ⟨gs,4,none⟩ = some (.slice Af f.length cf)) w3 := ⟨(cL HXs 0 rfl),(cL HXs 1 rfl),(cL HXs 2 rfl),(cL HXs 3 rfl),(cL HXs 4 rfl)⟩
 refine norm_ (a' := ?_) ?_ ?_
 rotate_left
 ·simp only [putAll,Act.put,zwI,zws0,zws1]
  rfl
 refine pure_ (i := 5) (N := some 6) (v := ?_) (a' := ?_) zw8 rfl rfl (any_of HT_.out (by kernel_rfl)) (fun _ _ _ h => h) (Or.inl ⟨by rfl,?_⟩) ?_ ?_
 rotate_left
 ·intro w'
  go_simp
  with_reducible rfl
 rotate_left
 ·simp only [Act.put,zwI,zws0,zws1,i64_w,i32_w]
  rfl
 refine one_ (i := 6) (N := none) zw9 rfl rfl (one_of HT_.out (by kernel_rfl)) (by decide) (fun K hK => ?_)
 have r_0 : w3.cell? ⟨go,0,none⟩ = some (.int .i64 0) := cL HXo 0 rfl
 have r_1 : w3.cell? ⟨go,1,none⟩ = some (.int .i64 0) := cL HXo 1 rfl
 have r_2 : w3.cell? ⟨go,2,none⟩ = some (.slice none 0 0) := cL HXo 2 rfl
 have r_3 : w3.cell? ⟨go,3,none⟩ = some (.slice none 0 0) := cL HXo 3 rfl
 have r_4 : w3.cell? ⟨go,4,none⟩ = some (.slice none 0 0) := cL HXo 4 rfl
 have rf_0 := blk_frozen HXo.out 0
 have rf_1 := blk_frozen HXo.out 1
 have rf_2 := blk_frozen HXo.out 2
 have rf_3 := blk_frozen HXo.out 3
 have rf_4 := blk_frozen HXo.out 4
 refine skip_ (w1 := ?_) (by rfl) rfl ?_ ?_
 rotate_left
 ·go_simp
  rfl
 clear r_0 r_1 r_2 r_3 r_4 rf_0 rf_1 rf_2 rf_3 rf_4
 obtain ⟨W4,hW⟩ : ∃ W_,W_ = (((((w3.setCell ⟨go,0,none⟩ (.int .i64 g)).setCell ⟨go,1,none⟩ (.int .i64 s)).setCell ⟨go,2,none⟩ (.slice A1 o.length d1)).setCell ⟨go,3,none⟩ (.slice A2 l.length d2)).setCell ⟨go,4,none⟩ (.slice A3 f.length d3)) := ⟨_,rfl⟩
 rw [← hW]
 replace HV := Aside0.mk (R5 hW HXo.out HV.out)
 replace HTR := Aside0.mk (tr5 hW HXo.out (by decide) (by decide) HTR.out)
 replace HXs := Aside0.mk (far5 hW HXs.out HNE.out.1.1)
 replace HXr := Aside0.mk (far5 hW HXr.out HNE.out.1.2)
 replace HXo := Aside0.mk (set5 hW HXo.out)
 replace HB := Aside0.mk (below5 hW HB.out HNE.out.2)
 clear hW
 refine hK.out _ _ ⟨(cL HXs 0 rfl),(cL HXs 1 rfl),(cL HXs 2 rfl),(cL HXs 3 rfl),(cL HXs 4 rfl)⟩ (fun hHeld => ?_)
 clear hK K
 refine done_ (done_of HT_.out (by kernel_rfl)) ?_
 clear HT_ HW_ hHeld
 obtain ⟨Av,cv,hv1⟩ := Kd.R_slice HV.out
 subst hv1
 obtain rfl : fr = [] := hfr
 have x_0 : W4.cell? ⟨gr,0,none⟩ = some (.int .i64 0) := cL HXr 0 rfl
 have x_1 : W4.cell? ⟨gr,1,none⟩ = some (.int .i64 0) := cL HXr 1 rfl
 have x_2 : W4.cell? ⟨gr,2,none⟩ = some (.slice none 0 0) := cL HXr 2 rfl
 have x_3 : W4.cell? ⟨gr,3,none⟩ = some (.slice none 0 0) := cL HXr 3 rfl
 have x_4 : W4.cell? ⟨gr,4,none⟩ = some (.slice none 0 0) := cL HXr 4 rfl
 have xf_0 := blk_frozen HXr.out 0
 have xf_1 := blk_frozen HXr.out 1
 have xf_2 := blk_frozen HXr.out 2
 have xf_3 := blk_frozen HXr.out 3
 have xf_4 := blk_frozen HXr.out 4
 go_wp2_with fail
 obtain ⟨W6,hW⟩ : ∃ W_,W_ = (((((W4.setCell ⟨gr,0,none⟩ (.int .i64 0)).setCell ⟨gr,1,none⟩ (.int .i64 0)).setCell ⟨gr,2,none⟩ (.slice none 0 0)).setCell ⟨gr,3,none⟩ (.slice none 0 0)).setCell ⟨gr,4,none⟩ (.slice none 0 0)) := ⟨_,rfl⟩
 rw [← hW]
 refine bodyPost_ret (results_ct rfl _ _ gr 32 _ (0,0) _ rfl (set5 hW HXr.out) Try.underlying32 rfl (by kernel_rfl)) rfl ?_
 exact ⟨rfl,below5 hW HB.out HGR.out⟩
set_option maxHeartbeats 8000000 in
set_option maxRecDepth 100000 in
theorem rroll_yes (g s : Int) (Ao : Option Addr) (co : Nat) (o : List Int) (Al : Option Addr) (cl : Nat) (l : List Int) (Af : Option Addr) (cf : Nat) (f : List Int) (first : Int) (w : World) (hT : TC w Ao co o Al cl l Af cf f) (hol : o.length ≤ 1000 ∧ l.length ≤ 1000 ∧ f.length ≤ 1000) (fr : List Int) (hf : lodgerref08_Free.f 40 g s o l f = some fr) (hfr : ∃ x rest,fr = x :: rest) :
  Calls Try.prog 37 #[.agg #[.int .i64 g,.int .i64 s,.slice Ao o.length co,.slice Al l.length cl,.slice Af f.length cf],.int .u64 first] w fun e w' => ∃ x rest A1 d1 A2 d2 A3 d3,fr = x :: rest ∧ e = .returned (.tuple #[.agg #[.int .i64 g,.int .i64 s,.slice A1 (o ++ [x]).length d1,.slice A2 (l ++ [0]).length d2,.slice A3 (f ++ [first]).length d3],.int .i64 0]) ∧ TR w' w.heap.size A1 d1 (o ++ [x]) A2 d2 (l ++ [0]) A3 d3 (f ++ [first]) ∧ Below w.heap.size w w' := by
 have HT := Aside0.mk hT
 have HL := Aside0.mk hol
 have HF := Aside0.mk hf
 clear hT hol hf
 go_enter Try.func37,Try.ntmps37
 go_upto_region 1 with fail
 obtain ⟨W1,hW1⟩ : ∃ W1,W1 = (w.alloc (.cells #[.int .i64 g,.int .i64 s,.slice Ao o.length co,.slice Al l.length cl,.slice Af f.length cf] 32)).alloc (.cells #[.int .i64 0,.int .i64 0,.slice none 0 0,.slice none 0 0,.slice none 0 0] 32) := ⟨_,rfl⟩
 rw [← hW1]
 obtain ⟨gr,hgr⟩ : ∃ g,g = w.heap.size + 1 := ⟨_,rfl⟩
 obtain ⟨gs,hgs⟩ : ∃ g,g = w.heap.size := ⟨_,rfl⟩
 have HXs : Aside0 (W1.heap[gs]? = some (.cells #[.int .i64 g,.int .i64 s,.slice Ao o.length co,.slice Al l.length cl,.slice Af f.length cf] 32 (0,0))) := ⟨by rw [hW1,hgs]; exact blk_alloc (blk_new _ _) _⟩
 have HXr : Aside0 (W1.heap[gr]? = some (.cells #[.int .i64 0,.int .i64 0,.slice none 0 0,.slice none 0 0,.slice none 0 0] 32 (0,0))) := ⟨by rw [hW1,hgr]; have := blk_new (w.alloc (.cells #[.int .i64 g,.int .i64 s,.slice Ao o.length co,.slice Al l.length cl,.slice Af f.length cf] 32)) (.cells #[.int .i64 0,.int .i64 0,.slice none 0 0,.slice none 0 0,.slice none 0 0] 32); simpa using this⟩
 have HB : Aside0 (Below w.heap.size w W1) := ⟨by rw [hW1]; exact below_alloc (below_alloc (Below.refl _ _) _) _⟩
 have HGR : Aside0 (w.heap.size ≤ gr) := ⟨by omega⟩
 rw [← hgr,← hgs]
 clear hW1 hgr hgs
 refine start_ (n := 7) (S := fun w' => w'.cell? ⟨gs,0,none⟩ = some (.int .i64 g) ∧ w'.cell? ⟨gs,1,none⟩ = some (.int .i64 s) ∧ w'.cell? ⟨gs,2,none⟩ = some (.slice Ao o.length co) ∧ w'.cell? ⟨gs,3,none⟩ = some (.slice Al l.length cl) ∧ w'.cell? ⟨gs,4,none⟩ = some (.slice Af f.length cf)) (ds := []) zw0 (by kernel_rfl) rfl rfl ⟨((blk_cell (blk_drew HXs.out) 0).trans rfl),((blk_cell (blk_drew HXs.out) 1).trans rfl),((blk_cell (blk_drew HXs.out) 2).trans rfl),((blk_cell (blk_drew HXs.out) 3).trans rfl),((blk_cell (blk_drew HXs.out) 4).trans rfl)⟩ (fun hHeld => ?_)
 refine with_tabW rroll.tab1 rroll.bits1 (fun HT_ HW_ => ?_)
 replace HXs := Aside0.mk (blk_drew HXs.out)
 replace HXr := Aside0.mk (blk_drew HXr.out)
 replace HB := Aside0.mk (below_drew HB.out)
 generalize W1.drew = wd1 at *
 refine take_ (i := 0) (N := some 8) (v := ?_) (a' := ?_) zw1 rfl rfl (take_ofW HT_.out HW_.out (by kernel_rfl)) (fun _ _ _ h => h) (Or.inl ⟨by rfl,?_⟩) hHeld ?_ ?_
 rotate_left
 ·rintro w' ⟨s0,s1,s2,s3,s4⟩
  go_simp
  with_reducible rfl
 rotate_left
 ·simp only [Act.put,zwI,zws0,zws1,i64_w,i32_w]
  rfl
 refine take_ (i := 2) (N := some 10) (v := ?_) (a' := ?_) zw2 rfl rfl (take_ofW HT_.out HW_.out (by kernel_rfl)) (fun _ _ _ h => h) (Or.inl ⟨by rfl,?_⟩) hHeld ?_ ?_
 rotate_left
 ·rintro w' ⟨s0,s1,s2,s3,s4⟩
  go_simp
  with_reducible rfl
 rotate_left
 ·simp only [Act.put,zwI,zws0,zws1,i64_w,i32_w]
  rfl
 refine join_ (σ := Value × Value × Value) 2 zw3 (fun s_ => [(9,s_.1),(11,s_.2.1),(7,s_.2.2)]) (fun s_ w' => ∃ go A1 d1 A2 d2 A3 d3,s_.2.1 = .agg #[.int .i64 g,.int .i64 s,.slice A1 o.length d1,.slice A2 l.length d2,.slice A3 f.length d3] ∧ s_.2.2 = .pointer (some ⟨go,0,none⟩) ∧ Kd.R (Kd.int .i64) 3 w' w.heap.size (fun _ => True) s_.1 fr ∧ TR w' w.heap.size A1 d1 o A2 d2 l A3 d3 f ∧ w'.heap[gs]? = some (.cells #[.int .i64 g,.int .i64 s,.slice Ao o.length co,.slice Al l.length cl,.slice Af f.length cf] 32 (0,0)) ∧ w'.heap[gr]? = some (.cells #[.int .i64 0,.int .i64 0,.slice none 0 0,.slice none 0 0,.slice none 0 0] 32 (0,0)) ∧ w'.heap[go]? = some (.cells #[.int .i64 0,.int .i64 0,.slice none 0 0,.slice none 0 0,.slice none 0 0] 32 (0,0)) ∧ ((gs ≠ go ∧ gr ≠ go) ∧ w.heap.size ≤ go) ∧ Below w.heap.size w w') ?_ ?_
 rotate_left
 ·intro hCont
  refine two_ (i := 1) (j := 4) (Ni := some 9) (Nj := some 7) zw4 zw5 rfl rfl rfl rfl (two_of HT_.out (by kernel_rfl)) (by decide) (by decide) (fun K hK => ?_) (fun K hK => ?_)
  ·skip
   refine goes_ Try.func18 (by kernel_rfl) rfl #[.agg #[.int .i64 g,.int .i64 s,.slice Ao o.length co,.slice Al l.length cl,.slice Af f.length cf]] (by rfl) rfl rfl (by simp only [List.map_toArray,List.map_cons,List.map_nil]; rfl) ?_
   with_reducible refine (rfree_calls 40 g s _ _ o _ _ l _ _ f _ (TC_below HT.out HB.out) fr HF.out).mono ?_
   rintro e_ wr1 ⟨vf,rfl,hr_,hb_⟩
   refine ⟨_,rfl,?_⟩
   have HV := Aside0.mk (Kd.R_lower hr_ (below_size HB.out))
   clear hr_
   replace HXs := mB HXs hb_
   replace HXr := mB HXr hb_
   replace HB := mS HB hb_
   clear hb_
   refine hK.out _ _ ⟨(cL HXs 0 rfl),(cL HXs 1 rfl),(cL HXs 2 rfl),(cL HXs 3 rfl),(cL HXs 4 rfl)⟩ (fun hHeld => ?_)
   clear hK K
   refine norm_ (a' := ?_) ?_ ?_
   rotate_left
   ·show Act.put _ (some 9) _ = _
    simp only [Act.put,zwI,zws0,zws1,i64_w,i32_w]
    rfl
   refine two_ (i := 3) (j := 4) (Ni := some 11) (Nj := some 7) zw6 zw7 rfl rfl rfl rfl (two_of HT_.out (by kernel_rfl)) (by decide) (by decide) (fun K hK => ?_) (fun K hK => ?_)
   ·skip
    refine goes_ Try.func46 (by kernel_rfl) rfl #[.agg #[.int .i64 g,.int .i64 s,.slice Ao o.length co,.slice Al l.length cl,.slice Af f.length cf]] (by rfl) rfl rfl (by simp only [List.map_toArray,List.map_cons,List.map_nil]; rfl) ?_
    with_reducible refine (rown_calls g s _ _ o _ _ l _ _ f _ (TC_below HT.out HB.out) HL.out).mono ?_
    rintro e_ wr2 ⟨A1,d1,A2,d2,A3,d3,rfl,hr_,hb_⟩
    refine ⟨_,rfl,?_⟩
    replace HV := Aside0.mk (Kd.R_below HV.out hb_)
    have HTR := Aside0.mk (TR_lower hr_ (below_size HB.out))
    clear hr_
    replace HXs := mB HXs hb_
    replace HXr := mB HXr hb_
    replace HB := mS HB hb_
    clear hb_
    refine hK.out _ _ ⟨(cL HXs 0 rfl),(cL HXs 1 rfl),(cL HXs 2 rfl),(cL HXs 3 rfl),(cL HXs 4 rfl)⟩ (fun hHeld => ?_)
    clear hK K
    refine norm_ (a' := ?_) ?_ ?_
    rotate_left
    ·show Act.put _ (some 11) _ = _
     simp only [Act.put,zwI,zws0,zws1,i64_w,i32_w]
     rfl
    refine one_ (i := 4) (N := some 7) zw3 rfl rfl (one_of HT_.out (by kernel_rfl)) (by decide) (fun K hK => ?_)
    refine value_ (w1 := ?_) (v := ?_) (by rfl) rfl ?_ ?_
    rotate_left 2
    ·go_simp
     constructor
     ·rfl
     ·rfl
    obtain ⟨wr3,hW⟩ : ∃ W_,W_ = wr2.alloc (.cells #[.int .i64 0,.int .i64 0,.slice none 0 0,.slice none 0 0,.slice none 0 0] 32) := ⟨_,rfl⟩
    obtain ⟨go,hh⟩ : ∃ g_,g_ = wr2.heap.size := ⟨_,rfl⟩
    rw [← hW,← hh]
    have hb_ : Below wr2.heap.size wr2 wr3 := by rw [hW]; exact below_alloc (Below.refl _ _) _
    have HXo : Aside0 (wr3.heap[go]? = some (.cells #[.int .i64 0,.int .i64 0,.slice none 0 0,.slice none 0 0,.slice none 0 0] 32 (0,0))) := ⟨by rw [hW,hh]; exact blk_new _ _⟩
    have HNE : Aside0 ((gs ≠ go ∧ gr ≠ go) ∧ w.heap.size ≤ go) := ⟨by rw [hh]; exact ⟨⟨Nat.ne_of_lt (blk_lt HXs.out),Nat.ne_of_lt (blk_lt HXr.out)⟩,below_size HB.out⟩⟩
    clear hW hh
    replace HV := Aside0.mk (Kd.R_below HV.out hb_)
    replace HTR := Aside0.mk (TR_below HTR.out hb_)
    replace HXs := mB HXs hb_
    replace HXr := mB HXr hb_
    replace HB := mS HB hb_
    clear hb_
    refine hK.out _ _ ⟨(cL HXs 0 rfl),(cL HXs 1 rfl),(cL HXs 2 rfl),(cL HXs 3 rfl),(cL HXs 4 rfl)⟩ (fun hHeld => ?_)
    clear hK K
    refine norm_ (a' := ?_) ?_ ?_
    rotate_left
    ·show Act.put _ (some 7) _ = _
     simp only [Act.put,zwI,zws0,zws1,i64_w,i32_w]
     rfl
    exact norm_ (by first | (simp only [putAll,Act.put,zwI,zws0,zws1]; done) | (simp only [putAll,Act.put,zwI,zws0,zws1]; rfl)) (hCont (vf,.agg #[.int .i64 g,.int .i64 s,.slice A1 o.length d1,.slice A2 l.length d2,.slice A3 f.length d3],.pointer (some ⟨go,0,none⟩)) _ ⟨go,A1,d1,A2,d2,A3,d3,rfl,rfl,HV.out,HTR.out,HXs.out,HXr.out,HXo.out,HNE.out,HB.out⟩)
   ·skip
    refine value_ (w1 := ?_) (v := ?_) (by rfl) rfl ?_ ?_
    rotate_left 2
    ·go_simp
     constructor
     ·rfl
     ·rfl
    obtain ⟨wr2,hW⟩ : ∃ W_,W_ = wr1.alloc (.cells #[.int .i64 0,.int .i64 0,.slice none 0 0,.slice none 0 0,.slice none 0 0] 32) := ⟨_,rfl⟩
    obtain ⟨go,hh⟩ : ∃ g_,g_ = wr1.heap.size := ⟨_,rfl⟩
    rw [← hW,← hh]
    have hb_ : Below wr1.heap.size wr1 wr2 := by rw [hW]; exact below_alloc (Below.refl _ _) _
    have HXo : Aside0 (wr2.heap[go]? = some (.cells #[.int .i64 0,.int .i64 0,.slice none 0 0,.slice none 0 0,.slice none 0 0] 32 (0,0))) := ⟨by rw [hW,hh]; exact blk_new _ _⟩
    have HNE : Aside0 ((gs ≠ go ∧ gr ≠ go) ∧ w.heap.size ≤ go) := ⟨by rw [hh]; exact ⟨⟨Nat.ne_of_lt (blk_lt HXs.out),Nat.ne_of_lt (blk_lt HXr.out)⟩,below_size HB.out⟩⟩
    clear hW hh
    replace HV := Aside0.mk (Kd.R_below HV.out hb_)
    replace HXs := mB HXs hb_
    replace HXr := mB HXr hb_
    replace HB := mS HB hb_
    clear hb_
    refine hK.out _ _ ⟨(cL HXs 0 rfl),(cL HXs 1 rfl),(cL HXs 2 rfl),(cL HXs 3 rfl),(cL HXs 4 rfl)⟩ (fun hHeld => ?_)
    clear hK K
    refine norm_ (a' := ?_) ?_ ?_
    rotate_left
    ·show Act.put _ (some 7) _ = _
     simp only [Act.put,zwI,zws0,zws1,i64_w,i32_w]
     rfl
    refine one_ (i := 3) (N := some 11) zw3 rfl rfl (one_of HT_.out (by kernel_rfl)) (by decide) (fun K hK => ?_)
    refine goes_ Try.func46 (by kernel_rfl) rfl #[.agg #[.int .i64 g,.int .i64 s,.slice Ao o.length co,.slice Al l.length cl,.slice Af f.length cf]] (by rfl) rfl rfl (by simp only [List.map_toArray,List.map_cons,List.map_nil]; rfl) ?_
    with_reducible refine (rown_calls g s _ _ o _ _ l _ _ f _ (TC_below HT.out HB.out) HL.out).mono ?_
    rintro e_ wr3 ⟨A1,d1,A2,d2,A3,d3,rfl,hr_,hb_⟩
    refine ⟨_,rfl,?_⟩
    replace HXo := mB HXo hb_
    replace HV := Aside0.mk (Kd.R_below HV.out hb_)
    have HTR := Aside0.mk (TR_lower hr_ (below_size HB.out))
    clear hr_
    replace HXs := mB HXs hb_
    replace HXr := mB HXr hb_
    replace HB := mS HB hb_
    clear hb_
    refine hK.out _ _ ⟨(cL HXs 0 rfl),(cL HXs 1 rfl),(cL HXs 2 rfl),(cL HXs 3 rfl),(cL HXs 4 rfl)⟩ (fun hHeld => ?_)
    clear hK K
    refine norm_ (a' := ?_) ?_ ?_
    rotate_left
    ·show Act.put _ (some 11) _ = _
     simp only [Act.put,zwI,zws0,zws1,i64_w,i32_w]
     rfl
    exact norm_ (by first | (simp only [putAll,Act.put,zwI,zws0,zws1]; done) | (simp only [putAll,Act.put,zwI,zws0,zws1]; rfl)) (hCont (vf,.agg #[.int .i64 g,.int .i64 s,.slice A1 o.length d1,.slice A2 l.length d2,.slice A3 f.length d3],.pointer (some ⟨go,0,none⟩)) _ ⟨go,A1,d1,A2,d2,A3,d3,rfl,rfl,HV.out,HTR.out,HXs.out,HXr.out,HXo.out,HNE.out,HB.out⟩)
  ·skip
   refine value_ (w1 := ?_) (v := ?_) (by rfl) rfl ?_ ?_
   rotate_left 2
   ·go_simp
    constructor
    ·rfl
    ·rfl
   obtain ⟨wr1,hW⟩ : ∃ W_,W_ = wd1.alloc (.cells #[.int .i64 0,.int .i64 0,.slice none 0 0,.slice none 0 0,.slice none 0 0] 32) := ⟨_,rfl⟩
   obtain ⟨go,hh⟩ : ∃ g_,g_ = wd1.heap.size := ⟨_,rfl⟩
   rw [← hW,← hh]
   have hb_ : Below wd1.heap.size wd1 wr1 := by rw [hW]; exact below_alloc (Below.refl _ _) _
   have HXo : Aside0 (wr1.heap[go]? = some (.cells #[.int .i64 0,.int .i64 0,.slice none 0 0,.slice none 0 0,.slice none 0 0] 32 (0,0))) := ⟨by rw [hW,hh]; exact blk_new _ _⟩
   have HNE : Aside0 ((gs ≠ go ∧ gr ≠ go) ∧ w.heap.size ≤ go) := ⟨by rw [hh]; exact ⟨⟨Nat.ne_of_lt (blk_lt HXs.out),Nat.ne_of_lt (blk_lt HXr.out)⟩,below_size HB.out⟩⟩
   clear hW hh
   replace HXs := mB HXs hb_
   replace HXr := mB HXr hb_
   replace HB := mS HB hb_
   clear hb_
   refine hK.out _ _ ⟨(cL HXs 0 rfl),(cL HXs 1 rfl),(cL HXs 2 rfl),(cL HXs 3 rfl),(cL HXs 4 rfl)⟩ (fun hHeld => ?_)
   clear hK K
   refine norm_ (a' := ?_) ?_ ?_
   rotate_left
   ·show Act.put _ (some 7) _ = _
    simp only [Act.put,zwI,zws0,zws1,i64_w,i32_w]
    rfl
   refine one_ (i := 1) (N := some 9) zw7 rfl rfl (one_of HT_.out (by kernel_rfl)) (by decide) (fun K hK => ?_)
   refine goes_ Try.func18 (by kernel_rfl) rfl #[.agg #[.int .i64 g,.int .i64 s,.slice Ao o.length co,.slice Al l.length cl,.slice Af f.length cf]] (by rfl) rfl rfl (by simp only [List.map_toArray,List.map_cons,List.map_nil]; rfl) ?_
   with_reducible refine (rfree_calls 40 g s _ _ o _ _ l _ _ f _ (TC_below HT.out HB.out) fr HF.out).mono ?_
   rintro e_ wr2 ⟨vf,rfl,hr_,hb_⟩
   refine ⟨_,rfl,?_⟩
   replace HXo := mB HXo hb_
   have HV := Aside0.mk (Kd.R_lower hr_ (below_size HB.out))
   clear hr_
   replace HXs := mB HXs hb_
   replace HXr := mB HXr hb_
   replace HB := mS HB hb_
   clear hb_
   refine hK.out _ _ ⟨(cL HXs 0 rfl),(cL HXs 1 rfl),(cL HXs 2 rfl),(cL HXs 3 rfl),(cL HXs 4 rfl)⟩ (fun hHeld => ?_)
   clear hK K
   refine norm_ (a' := ?_) ?_ ?_
   rotate_left
   ·show Act.put _ (some 9) _ = _
    simp only [Act.put,zwI,zws0,zws1,i64_w,i32_w]
    rfl
   refine one_ (i := 3) (N := some 11) zw3 rfl rfl (one_of HT_.out (by kernel_rfl)) (by decide) (fun K hK => ?_)
   refine goes_ Try.func46 (by kernel_rfl) rfl #[.agg #[.int .i64 g,.int .i64 s,.slice Ao o.length co,.slice Al l.length cl,.slice Af f.length cf]] (by rfl) rfl rfl (by simp only [List.map_toArray,List.map_cons,List.map_nil]; rfl) ?_
   with_reducible refine (rown_calls g s _ _ o _ _ l _ _ f _ (TC_below HT.out HB.out) HL.out).mono ?_
   rintro e_ wr3 ⟨A1,d1,A2,d2,A3,d3,rfl,hr_,hb_⟩
   refine ⟨_,rfl,?_⟩
   replace HXo := mB HXo hb_
   replace HV := Aside0.mk (Kd.R_below HV.out hb_)
   have HTR := Aside0.mk (TR_lower hr_ (below_size HB.out))
   clear hr_
   replace HXs := mB HXs hb_
   replace HXr := mB HXr hb_
   replace HB := mS HB hb_
   clear hb_
   refine hK.out _ _ ⟨(cL HXs 0 rfl),(cL HXs 1 rfl),(cL HXs 2 rfl),(cL HXs 3 rfl),(cL HXs 4 rfl)⟩ (fun hHeld => ?_)
   clear hK K
   refine norm_ (a' := ?_) ?_ ?_
   rotate_left
   ·show Act.put _ (some 11) _ = _
    simp only [Act.put,zwI,zws0,zws1,i64_w,i32_w]
    rfl
   exact norm_ (by first | (simp only [putAll,Act.put,zwI,zws0,zws1]; done) | (simp only [putAll,Act.put,zwI,zws0,zws1]; rfl)) (hCont (vf,.agg #[.int .i64 g,.int .i64 s,.slice A1 o.length d1,.slice A2 l.length d2,.slice A3 f.length d3],.pointer (some ⟨go,0,none⟩)) _ ⟨go,A1,d1,A2,d2,A3,d3,rfl,rfl,HV.out,HTR.out,HXs.out,HXr.out,HXo.out,HNE.out,HB.out⟩)
 rintro ⟨vf,v11,v7⟩ w3 ⟨go,A1,d1,A2,d2,A3,d3,h1,h2,h0,h3,h4,h5,h6,h7,h8⟩
 dsimp only at h1 h2 h0
 subst h1 h2
 clear HXs HXr HB
 have HV := Aside0.mk h0
 have HTR := Aside0.mk h3
 have HXs := Aside0.mk h4
 have HXr := Aside0.mk h5
 have HXo := Aside0.mk h6
 have HNE := Aside0.mk h7
 have HB := Aside0.mk h8
 clear h0 h3 h4 h5 h6 h7 h8
 have hHeld : (fun w' => w'.cell? ⟨gs,0,none⟩ = some (.int .i64 g) ∧ w'.cell? ⟨gs,1,none⟩ = some (.int .i64 s) ∧ w'.cell? ⟨gs,2,none⟩ = some (.slice Ao o.length co) ∧ w'.cell? ⟨gs,3,none⟩ = some (.slice Al l.length cl) ∧ w'.cell? ⟨gs,4,none⟩ = some (.slice Af f.length cf)) w3 := ⟨(cL HXs 0 rfl),(cL HXs 1 rfl),(cL HXs 2 rfl),(cL HXs 3 rfl),(cL HXs 4 rfl)⟩
 refine norm_ (a' := ?_) ?_ ?_
 rotate_left
 ·simp only [putAll,Act.put,zwI,zws0,zws1]
  rfl
 refine pure_ (i := 5) (N := some 6) (v := ?_) (a' := ?_) zw8 rfl rfl (any_of HT_.out (by kernel_rfl)) (fun _ _ _ h => h) (Or.inl ⟨by rfl,?_⟩) ?_ ?_
 rotate_left
 ·intro w'
  go_simp
  with_reducible rfl
 rotate_left
 ·simp only [Act.put,zwI,zws0,zws1,i64_w,i32_w]
  rfl
 refine one_ (i := 6) (N := none) zw9 rfl rfl (one_of HT_.out (by kernel_rfl)) (by decide) (fun K hK => ?_)
 have r_0 : w3.cell? ⟨go,0,none⟩ = some (.int .i64 0) := cL HXo 0 rfl
 have r_1 : w3.cell? ⟨go,1,none⟩ = some (.int .i64 0) := cL HXo 1 rfl
 have r_2 : w3.cell? ⟨go,2,none⟩ = some (.slice none 0 0) := cL HXo 2 rfl
 have r_3 : w3.cell? ⟨go,3,none⟩ = some (.slice none 0 0) := cL HXo 3 rfl
 have r_4 : w3.cell? ⟨go,4,none⟩ = some (.slice none 0 0) := cL HXo 4 rfl
 have rf_0 := blk_frozen HXo.out 0
 have rf_1 := blk_frozen HXo.out 1
 have rf_2 := blk_frozen HXo.out 2
 have rf_3 := blk_frozen HXo.out 3
 have rf_4 := blk_frozen HXo.out 4
 refine skip_ (w1 := ?_) (by rfl) rfl ?_ ?_
 rotate_left
 ·go_simp
  rfl
 clear r_0 r_1 r_2 r_3 r_4 rf_0 rf_1 rf_2 rf_3 rf_4
 obtain ⟨W4,hW⟩ : ∃ W_,W_ = (((((w3.setCell ⟨go,0,none⟩ (.int .i64 g)).setCell ⟨go,1,none⟩ (.int .i64 s)).setCell ⟨go,2,none⟩ (.slice A1 o.length d1)).setCell ⟨go,3,none⟩ (.slice A2 l.length d2)).setCell ⟨go,4,none⟩ (.slice A3 f.length d3)) := ⟨_,rfl⟩
 rw [← hW]
 replace HV := Aside0.mk (R5 hW HXo.out HV.out)
 replace HTR := Aside0.mk (tr5 hW HXo.out (by decide) (by decide) HTR.out)
 replace HXs := Aside0.mk (far5 hW HXs.out HNE.out.1.1)
 replace HXr := Aside0.mk (far5 hW HXr.out HNE.out.1.2)
 replace HXo := Aside0.mk (set5 hW HXo.out)
 replace HB := Aside0.mk (below5 hW HB.out HNE.out.2)
 clear hW
 refine hK.out _ _ ⟨(cL HXs 0 rfl),(cL HXs 1 rfl),(cL HXs 2 rfl),(cL HXs 3 rfl),(cL HXs 4 rfl)⟩ (fun hHeld => ?_)
 clear hK K
 refine done_ (done_of HT_.out (by kernel_rfl)) ?_
 clear HT_ HW_ hHeld
 obtain ⟨Av,cv,hv1⟩ := Kd.R_slice HV.out
 subst hv1
 obtain ⟨x,rest,rfl⟩ : ∃ x rest,fr = x :: rest := hfr
 obtain ⟨ad,ea,hz⟩ := Kd.at_int (Kd.R_reads' HV.out).2.2 0 (Int.le_refl _) (by simp)
 have hz2 : W4.cell? ad = some (.int .i64 x) := by have h_ : W4.cell? (ad.add 0) = some (.int .i64 x) := hz; rwa [add_none] at h_
 have HZ := Aside0.mk hz2
 cases ea
 clear hz hz2
 have hlz : ((rest.length : Int) + 1 == 0) = false := beq_eq_false_iff_ne.2 (by omega)
 go_upto_region 4 with fail
 clear hlz
 refine start_ (n := 9) (S := fun w' => w'.cell? ⟨go,0,none⟩ = some (.int .i64 g) ∧ w'.cell? ⟨go,1,none⟩ = some (.int .i64 s) ∧ w'.cell? ⟨go,2,none⟩ = some (.slice A1 o.length d1) ∧ w'.cell? ⟨go,3,none⟩ = some (.slice A2 l.length d2) ∧ w'.cell? ⟨go,4,none⟩ = some (.slice A3 f.length d3) ∧ w'.cell? ad = some (.int .i64 x)) (ds := [6,8]) zw10 (by kernel_rfl) rfl rfl ⟨((blk_cell (blk_drew HXo.out) 0).trans rfl),((blk_cell (blk_drew HXo.out) 1).trans rfl),((blk_cell (blk_drew HXo.out) 2).trans rfl),((blk_cell (blk_drew HXo.out) 3).trans rfl),((blk_cell (blk_drew HXo.out) 4).trans rfl),(pw_cell_below (below_drew (Below.refl _ _)) HZ.out)⟩ (fun hHeld => ?_)
 refine with_tabW rroll.tab4 rroll.bits4 (fun HT_ HW_ => ?_)
 replace HZ := Aside0.mk (pw_cell_below (below_drew (Below.refl _ _)) HZ.out)
 replace HXr := Aside0.mk (blk_drew HXr.out)
 replace HXo := Aside0.mk (blk_drew HXo.out)
 replace HTR := Aside0.mk (TR_below HTR.out (below_drew (Below.refl _ _)))
 replace HB := Aside0.mk (below_drew HB.out)
 generalize W4.drew = wd4 at *
 refine pure_ (i := 0) (N := some 16) (v := ?_) (a' := ?_) zw11 rfl rfl (any_of HT_.out (by kernel_rfl)) (fun _ _ _ h => h) (Or.inl ⟨by rfl,?_⟩) ?_ ?_
 rotate_left
 ·intro w'
  go_simp
  with_reducible rfl
 rotate_left
 ·simp only [Act.put,zwI,zws0,zws1,i64_w,i32_w]
  rfl
 refine pure_ (i := 2) (N := some 18) (v := ?_) (a' := ?_) zw12 rfl rfl (any_of HT_.out (by kernel_rfl)) (fun _ _ _ h => h) (Or.inl ⟨by rfl,?_⟩) ?_ ?_
 rotate_left
 ·intro w'
  go_simp
  with_reducible rfl
 rotate_left
 ·simp only [Act.put,zwI,zws0,zws1,i64_w,i32_w]
  rfl
 refine pure_ (i := 3) (N := some 19) (v := ?_) (a' := ?_) zw13 rfl rfl (any_of HT_.out (by kernel_rfl)) (fun _ _ _ h => h) (Or.inl ⟨by rfl,?_⟩) ?_ ?_
 rotate_left
 ·intro w'
  go_simp
  with_reducible rfl
 rotate_left
 ·simp only [Act.put,zwI,zws0,zws1,i64_w,i32_w]
  rfl
 refine take_ (i := 1) (N := some 17) (v := ?_) (a' := ?_) zw14 rfl rfl (take_ofW HT_.out HW_.out (by kernel_rfl)) (fun _ _ _ h => h) (Or.inl ⟨by rfl,?_⟩) hHeld ?_ ?_
 rotate_left
 ·rintro w' ⟨s0,s1,s2,s3,s4,s5⟩
  go_simp
  with_reducible rfl
 rotate_left
 ·simp only [Act.put,zwI,zws0,zws1,i64_w,i32_w]
  rfl
 refine take_ (i := 4) (N := some 20) (v := ?_) (a' := ?_) zw15 rfl rfl (take_ofW HT_.out HW_.out (by kernel_rfl)) (fun _ _ _ h => h) (Or.inl ⟨by rfl,?_⟩) hHeld ?_ ?_
 rotate_left
 ·rintro w' ⟨s0,s1,s2,s3,s4,s5⟩
  go_simp
  with_reducible rfl
 rotate_left
 ·simp only [Act.put,zwI,zws0,zws1,i64_w,i32_w]
  rfl
 refine one_ (i := 5) (N := some 21) zw16 rfl rfl (one_of HT_.out (by kernel_rfl)) (by decide) (fun K hK => ?_)
 refine value_ (w1 := ?_) (v := ?_) (by rfl) rfl ?_ ?_
 rotate_left 2
 ·go_simp
  constructor
  ·rfl
  ·rfl
 obtain ⟨wb1,hW⟩ : ∃ W_,W_ = wd4.alloc (.cells #[.int .i64 x] 3) := ⟨_,rfl⟩
 obtain ⟨h5,hh⟩ : ∃ g_,g_ = wd4.heap.size := ⟨_,rfl⟩
 rw [← hW,← hh]
 have hb_ : Below wd4.heap.size wd4 wb1 := by rw [hW]; exact below_alloc (Below.refl _ _) _
 have H5 : Aside0 (Kd.R (Kd.int .i64) 3 wb1 w.heap.size (fun _ => True) (.slice (some ⟨h5,0,none⟩) 1 1) [x]) := ⟨by rw [hW,hh]; exact R_one (below_size HB.out)⟩
 replace HTR := Aside0.mk (TR_below HTR.out hb_)
 replace HXr := mB HXr hb_
 replace HXo := mB HXo hb_
 replace HB := mS HB hb_
 replace HZ := Aside0.mk (pw_cell_below hb_ HZ.out)
 clear hW hh hb_
 refine hK.out _ _ ⟨(cL HXo 0 rfl),(cL HXo 1 rfl),(cL HXo 2 rfl),(cL HXo 3 rfl),(cL HXo 4 rfl),HZ.out⟩ (fun hHeld => ?_)
 clear hK K
 refine norm_ (a' := ?_) ?_ ?_
 rotate_left
 ·show Act.put _ (some 21) _ = _
  simp only [Act.put,zwI,zws0,zws1,i64_w,i32_w]
  rfl
 refine last_ (i := 6) (N := some 22) zw17 rfl rfl (one_of HT_.out (by kernel_rfl)) (by decide) (fun K hK => ?_)
 refine Kd.R_append_rows_step (Kd.int .i64) (w0 := w) w.heap.size (by rfl) (.tmp 17) (.tmp 21) 25 3 (.int .i64 0) 8 rfl Try.underlying25 info3 rfl (by decide) (by omega) (.slice A1 o.length d1) o [x] _ _ _ (fun _ => True) (fun _ => False) rfl rfl ?aO ?aR (fun _ _ h => h) (fun _ h => h.elim) ?aF ?aB ?aS ?aL ?_
 (case aR => exact one_C H5.out)
 (case aB => exact HB.out)
 (case aF => exact (fun _ _ => trivial))
 (case aO => exact TR_o HTR.out)
 (case aS => exact below_size HB.out)
 (case aL => have := HL.out; omega)
 intro v_ wb2 ho_ hb_ hg_ hat_
 replace HXr := Aside0.mk (blk_grown HXr.out hg_ (Kd.R_ne (TR_o HTR.out) HXr.out (by decide)))
 replace HXo := Aside0.mk (blk_grown HXo.out hg_ (Kd.R_ne (TR_o HTR.out) HXo.out (by decide)))
 replace HB := Aside0.mk (hb_)
 obtain ⟨B1,e1,hv_,hT_⟩ := app_o HTR.out ho_ hg_ hat_
 replace HTR := Aside0.mk hT_
 subst hv_
 obtain ⟨o2,ho2⟩ : ∃ z_,z_ = o ++ [x] := ⟨_,rfl⟩
 rw [← ho2] at HTR ⊢
 have HEo := Aside0.mk ho2
 clear ho_ hb_ hg_ hat_ hT_ ho2 H5
 refine hK.out _ _ ?_
 clear hK K
 refine norm_ (a' := ?_) ?_ ?_
 rotate_left
 ·show Act.put _ (some 22) _ = _
  simp only [Act.put,zwI,zws0,zws1,i64_w,i32_w]
  rfl
 refine pure_ (i := 7) (N := some 23) (v := ?_) (a' := ?_) zw18 rfl rfl (any_of HT_.out (by kernel_rfl)) (fun _ _ _ h => h) (Or.inl ⟨by rfl,?_⟩) ?_ ?_
 rotate_left
 ·intro w'
  go_simp
  with_reducible rfl
 rotate_left
 ·simp only [Act.put,zwI,zws0,zws1,i64_w,i32_w]
  rfl
 refine last_ (i := 8) (N := none) zw19 rfl rfl (one_of HT_.out (by kernel_rfl)) (by decide) (fun K hK => ?_)
 have hs_ : wb2.cell? ⟨go,2,none⟩ = some (.slice A1 o.length d1) := cL HXo 2 rfl
 have hsf_ := blk_frozen HXo.out 2
 refine skip_ (w1 := ?_) (by rfl) rfl ?_ ?_
 rotate_left
 ·go_simp
  rfl
 clear hs_ hsf_
 obtain ⟨W5,hW⟩ : ∃ W_,W_ = wb2.setCell ⟨go,2,none⟩ (.slice B1 o2.length e1) := ⟨_,rfl⟩
 rw [← hW]
 have q1 := TR_set HTR.out HXo.out (by decide) (by decide) 2 (.slice B1 o2.length e1)
 have q2 : W5.heap[go]? = some (.cells #[.int .i64 g,.int .i64 s,.slice B1 o2.length e1,.slice A2 l.length d2,.slice A3 f.length d3] 32 (0,0)) := by rw [hW]; exact (blk_set HXo.out 2 (.slice B1 o2.length e1)).trans (by simp only [zwI,zws0,zws1])
 have q3 := blk_far HXr.out (p := ⟨go,2,none⟩) HNE.out.1.2 (.slice B1 o2.length e1)
 have q4 := below_set (j := 2) (v := .slice B1 o2.length e1) HB.out HNE.out.2
 rw [← hW] at q1 q3 q4
 clear hW
 replace HTR := Aside0.mk (q1)
 replace HXo := Aside0.mk (q2)
 replace HXr := Aside0.mk (q3)
 replace HB := Aside0.mk (q4)
 clear q1 q2 q3 q4
 refine hK.out _ _ ?_
 clear hK K
 refine done_ (done_of HT_.out (by kernel_rfl)) ?_
 clear HT_ HW_ hHeld
 go_upto_region 5 with fail
 skip
 have z_0 : W5.cell? ⟨go,0,none⟩ = some (.int .i64 g) := cL HXo 0 rfl
 have z_1 : W5.cell? ⟨go,1,none⟩ = some (.int .i64 s) := cL HXo 1 rfl
 have z_2 : W5.cell? ⟨go,2,none⟩ = some (.slice B1 o2.length e1) := cL HXo 2 rfl
 have z_3 : W5.cell? ⟨go,3,none⟩ = some (.slice A2 l.length d2) := cL HXo 3 rfl
 have z_4 : W5.cell? ⟨go,4,none⟩ = some (.slice A3 f.length d3) := cL HXo 4 rfl
 go_upto_region 6 with ((with_reducible refine gate_builtin (b := .append) (xs := #[.tmp 25,.tmp 26]) rfl ?_); at_builtin; refine Kd.R_append (Kd.int .i64) (w0 := w) w.heap.size rfl (.tmp 25) (.tmp 26) 25 3 (.int .i64 0) 8 rfl Try.underlying25 info3 rfl (by decide) (by omega) (.slice A2 l.length d2) l (0) [.int .i64 0] (fun _ => True) (fun _ => False) rfl (by first | (go_simp; done) | (go_simp; rfl)) ?aP (fun _ hk => hk.elim) ?aF ?aO ?aB ?aS ?aL ?_; (case aP => exact rfl); (case aB => exact HB.out); (case aF => exact (fun _ _ => trivial)); (case aO => exact TR_l HTR.out); (case aS => exact below_size HB.out); (case aL => have := HL.out; omega); intro v_ wb3 ho_ hb_ hg_ hat_; replace HXr := Aside0.mk (blk_grown HXr.out hg_ (Kd.R_ne (TR_l HTR.out) HXr.out (by decide))); replace HXo := Aside0.mk (blk_grown HXo.out hg_ (Kd.R_ne (TR_l HTR.out) HXo.out (by decide))); replace HB := Aside0.mk (hb_); obtain ⟨B2,e2,hv_,hT_⟩ := app_l HTR.out ho_ hg_ hat_; replace HTR := Aside0.mk hT_; subst hv_; obtain ⟨l2,hl2⟩ : ∃ z_,z_ = l ++ [0] := ⟨_,rfl⟩; rw [← hl2] at HTR; rw [← hl2]; have HEl := Aside0.mk hl2; clear ho_ hb_ hg_ hat_ hT_ hl2; have hs_ : wb3.cell? ⟨go,3,none⟩ = some (.slice A2 l.length d2) := cL HXo 3 rfl; have hsf_ := blk_frozen HXo.out 3)
 clear z_0 z_1 z_2 z_3 z_4
 clear hs_ hsf_
 obtain ⟨W6,hW⟩ : ∃ W_,W_ = wb3.setCell ⟨go,3,none⟩ (.slice B2 l2.length e2) := ⟨_,rfl⟩
 rw [← hW]
 have q1 := TR_set HTR.out HXo.out (by decide) (by decide) 3 (.slice B2 l2.length e2)
 have q2 : W6.heap[go]? = some (.cells #[.int .i64 g,.int .i64 s,.slice B1 o2.length e1,.slice B2 l2.length e2,.slice A3 f.length d3] 32 (0,0)) := by rw [hW]; exact (blk_set HXo.out 3 (.slice B2 l2.length e2)).trans (by simp only [zwI,zws0,zws1])
 have q3 := blk_far HXr.out (p := ⟨go,3,none⟩) HNE.out.1.2 (.slice B2 l2.length e2)
 have q4 := below_set (j := 3) (v := .slice B2 l2.length e2) HB.out HNE.out.2
 rw [← hW] at q1 q3 q4
 clear hW
 replace HTR := Aside0.mk (q1)
 replace HXo := Aside0.mk (q2)
 replace HXr := Aside0.mk (q3)
 replace HB := Aside0.mk (q4)
 clear q1 q2 q3 q4
 have z_0 : W6.cell? ⟨go,0,none⟩ = some (.int .i64 g) := cL HXo 0 rfl
 have z_1 : W6.cell? ⟨go,1,none⟩ = some (.int .i64 s) := cL HXo 1 rfl
 have z_2 : W6.cell? ⟨go,2,none⟩ = some (.slice B1 o2.length e1) := cL HXo 2 rfl
 have z_3 : W6.cell? ⟨go,3,none⟩ = some (.slice B2 l2.length e2) := cL HXo 3 rfl
 have z_4 : W6.cell? ⟨go,4,none⟩ = some (.slice A3 f.length d3) := cL HXo 4 rfl
 go_upto_region 7 with ((with_reducible refine gate_builtin (b := .append) (xs := #[.tmp 30,.tmp 32]) rfl ?_); at_builtin; refine Kd.R_append (Kd.int .u64) (w0 := w) w.heap.size rfl (.tmp 30) (.tmp 32) 26 23 (.int .u64 0) 8 rfl Try.underlying26 info23 rfl (by decide) (by omega) (.slice A3 f.length d3) f (first) [.int .u64 first] (fun _ => True) (fun _ => False) rfl (by first | (go_simp; done) | (go_simp; rfl)) ?aP (fun _ hk => hk.elim) ?aF ?aO ?aB ?aS ?aL ?_; (case aP => exact rfl); (case aB => exact HB.out); (case aF => exact (fun _ _ => trivial)); (case aO => exact TR_f HTR.out); (case aS => exact below_size HB.out); (case aL => have := HL.out; omega); intro v_ wb4 ho_ hb_ hg_ hat_; replace HXr := Aside0.mk (blk_grown HXr.out hg_ (Kd.R_ne (TR_f HTR.out) HXr.out (by decide))); replace HXo := Aside0.mk (blk_grown HXo.out hg_ (Kd.R_ne (TR_f HTR.out) HXo.out (by decide))); replace HB := Aside0.mk (hb_); obtain ⟨B3,e3,hv_,hT_⟩ := app_f HTR.out ho_ hg_; replace HTR := Aside0.mk hT_; subst hv_; obtain ⟨f2,hf2⟩ : ∃ z_,z_ = f ++ [first] := ⟨_,rfl⟩; rw [← hf2] at HTR; rw [← hf2]; have HEf := Aside0.mk hf2; clear ho_ hb_ hg_ hat_ hT_ hf2; have hs_ : wb4.cell? ⟨go,4,none⟩ = some (.slice A3 f.length d3) := cL HXo 4 rfl; have hsf_ := blk_frozen HXo.out 4)
 clear z_0 z_1 z_2 z_3 z_4
 clear hs_ hsf_
 obtain ⟨W7,hW⟩ : ∃ W_,W_ = wb4.setCell ⟨go,4,none⟩ (.slice B3 f2.length e3) := ⟨_,rfl⟩
 rw [← hW]
 have q1 := TR_set HTR.out HXo.out (by decide) (by decide) 4 (.slice B3 f2.length e3)
 have q2 : W7.heap[go]? = some (.cells #[.int .i64 g,.int .i64 s,.slice B1 o2.length e1,.slice B2 l2.length e2,.slice B3 f2.length e3] 32 (0,0)) := by rw [hW]; exact (blk_set HXo.out 4 (.slice B3 f2.length e3)).trans (by simp only [zwI,zws0,zws1])
 have q3 := blk_far HXr.out (p := ⟨go,4,none⟩) HNE.out.1.2 (.slice B3 f2.length e3)
 have q4 := below_set (j := 4) (v := .slice B3 f2.length e3) HB.out HNE.out.2
 rw [← hW] at q1 q3 q4
 clear hW
 replace HTR := Aside0.mk (q1)
 replace HXo := Aside0.mk (q2)
 replace HXr := Aside0.mk (q3)
 replace HB := Aside0.mk (q4)
 clear q1 q2 q3 q4
 have z_0 : W7.cell? ⟨go,0,none⟩ = some (.int .i64 g) := cL HXo 0 rfl
 have z_1 : W7.cell? ⟨go,1,none⟩ = some (.int .i64 s) := cL HXo 1 rfl
 have z_2 : W7.cell? ⟨go,2,none⟩ = some (.slice B1 o2.length e1) := cL HXo 2 rfl
 have z_3 : W7.cell? ⟨go,3,none⟩ = some (.slice B2 l2.length e2) := cL HXo 3 rfl
 have z_4 : W7.cell? ⟨go,4,none⟩ = some (.slice B3 f2.length e3) := cL HXo 4 rfl
 have x_0 : W7.cell? ⟨gr,0,none⟩ = some (.int .i64 0) := cL HXr 0 rfl
 have x_1 : W7.cell? ⟨gr,1,none⟩ = some (.int .i64 0) := cL HXr 1 rfl
 have x_2 : W7.cell? ⟨gr,2,none⟩ = some (.slice none 0 0) := cL HXr 2 rfl
 have x_3 : W7.cell? ⟨gr,3,none⟩ = some (.slice none 0 0) := cL HXr 3 rfl
 have x_4 : W7.cell? ⟨gr,4,none⟩ = some (.slice none 0 0) := cL HXr 4 rfl
 have xf_0 := blk_frozen HXr.out 0
 have xf_1 := blk_frozen HXr.out 1
 have xf_2 := blk_frozen HXr.out 2
 have xf_3 := blk_frozen HXr.out 3
 have xf_4 := blk_frozen HXr.out 4
 have n1_ := HNE.out.1.2
 have n2_ := Ne.symm HNE.out.1.2
 go_wp2_with fail
 obtain ⟨W8,hW⟩ : ∃ W_,W_ = (((((W7.setCell ⟨gr,0,none⟩ (.int .i64 g)).setCell ⟨gr,1,none⟩ (.int .i64 s)).setCell ⟨gr,2,none⟩ (.slice B1 o2.length e1)).setCell ⟨gr,3,none⟩ (.slice B2 l2.length e2)).setCell ⟨gr,4,none⟩ (.slice B3 f2.length e3)) := ⟨_,rfl⟩
 rw [← hW]
 refine bodyPost_ret (results_ct rfl _ _ gr 32 _ (0,0) _ rfl (set5 hW HXr.out) Try.underlying32 rfl (by kernel_rfl)) rfl ?_
 obtain rfl := HEo.out
 obtain rfl := HEl.out
 obtain rfl := HEf.out
 refine ⟨B1,e1,B2,e2,B3,e3,?_,tr5 hW HXr.out (by decide) (by decide) HTR.out,below5 hW HB.out HGR.out⟩
 rw [List.length_append,List.length_append,List.length_append]
 rfl
end Go.Proofs.Ytbefoehjlgdcgaa.H
