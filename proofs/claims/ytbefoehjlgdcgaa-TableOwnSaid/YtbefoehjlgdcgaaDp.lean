/-
table.Drop: a segment less.
-/
import Derived.Test.YtbefoehjlgdcgaaOw
import Derived.Test.YtbefoehjlgdcgaaTk
import Derived.Test.YtbefoehjlgdcgaaTd
namespace Go.Proofs.Ytbefoehjlgdcgaa.H
open Go.RowKit Go.Proofs.YtbefoehjlgdcgaaW.PrintWords Go.Proofs.YtbefoehjlgdcgaaW.PrintLast Go.Proofs.YtbefoehjlgdcgaaW.PrintMore
attribute [local go_sem] min2_int min_two
set_option linter.unusedVariables false
set_option linter.unusedSimpArgs false
def zd0 : Array Bool := #[false,false,false,false,false,false,false,false,false,false,false,false,false,false,false,false,false,false,false,false,false,false,false,false]
def zd1 : Array Bool := #[true,false,false,false,false,false,false,false,false,false,false,false,false,false,false,false,false,false,false,false,false,false,false,false]
def zd2 : Array Bool := #[true,false,true,false,false,false,false,false,false,false,false,false,false,false,false,false,false,false,false,false,false,false,false,false]
def zd3 : Array Bool := #[true,false,true,true,false,false,false,false,false,false,false,false,false,false,false,false,false,false,false,false,false,false,false,false]
def zd4 : Array Bool := #[true,false,true,true,true,false,false,false,false,false,false,false,false,false,false,false,false,false,false,false,false,false,false,false]
def zd5 : Array Bool := #[true,false,true,true,true,false,true,false,false,false,false,false,false,false,false,false,false,false,false,false,false,false,false,false]
def zd6 : Array Bool := #[true,false,true,true,true,false,true,false,true,false,false,false,false,false,false,false,false,false,false,false,false,false,false,false]
def zd7 : Array Bool := #[true,false,true,true,true,false,true,false,true,true,false,false,false,false,false,false,false,false,false,false,false,false,false,false]
def zd8 : Array Bool := #[true,false,true,true,true,false,true,false,true,true,true,false,false,false,false,false,false,false,false,false,false,false,false,false]
def zd9 : Array Bool := #[true,false,true,true,true,false,true,false,true,true,true,false,true,false,false,false,false,false,false,false,false,false,false,false]
def zd10 : Array Bool := #[true,false,true,true,true,false,true,false,true,true,true,false,true,false,true,false,false,false,false,false,false,false,false,false]
def zd11 : Array Bool := #[true,false,true,true,true,false,true,false,true,true,true,false,true,false,true,true,false,false,false,false,false,false,false,false]
def zd12 : Array Bool := #[true,false,true,true,true,false,true,false,true,true,true,false,true,false,true,true,true,false,false,false,false,false,false,false]
def zd13 : Array Bool := #[true,true,true,true,true,false,true,false,true,true,true,false,true,false,true,true,true,false,false,false,false,false,false,false]
def zd14 : Array Bool := #[true,true,true,true,true,false,true,true,true,true,true,false,true,false,true,true,true,false,false,false,false,false,false,false]
def zd15 : Array Bool := #[true,true,true,true,true,false,true,true,true,true,true,false,true,true,true,true,true,false,false,false,false,false,false,false]
def zd16 : Array Bool := #[true,true,true,true,true,true,true,true,true,true,true,false,true,true,true,true,true,false,false,false,false,false,false,false]
def zd17 : Array Bool := #[true,true,true,true,true,true,true,true,true,true,true,false,true,true,true,true,true,false,true,false,false,false,false,false]
def zd18 : Array Bool := #[true,true,true,true,true,true,true,true,true,true,true,true,true,true,true,true,true,false,true,false,false,false,false,false]
def zd19 : Array Bool := #[true,true,true,true,true,true,true,true,true,true,true,true,true,true,true,true,true,true,true,false,false,false,false,false]
def zd20 : Array Bool := #[true,true,true,true,true,true,true,true,true,true,true,true,true,true,true,true,true,true,true,true,false,false,false,false]
def zd21 : Array Bool := #[true,true,true,true,true,true,true,true,true,true,true,true,true,true,true,true,true,true,true,true,true,false,false,false]
def zd22 : Array Bool := #[true,true,true,true,true,true,true,true,true,true,true,true,true,true,true,true,true,true,true,true,true,true,false,false]
def zd23 : Array Bool := #[true,true,true,true,true,true,true,true,true,true,true,true,true,true,true,true,true,true,true,true,true,true,true,false]
def zd24 : Array Bool := #[true,true,true,true,true,true,true,true,true,true,true,true,true,true,true,true,true,true,true,true,true,true,true,true]
theorem zdI {α : Type} (l : List α) (i : Nat) (a : α) : l.toArray.setIfInBounds i a = (l.set i a).toArray := List.setIfInBounds_toArray l i a
theorem zds0 {α : Type} (x : α) (l : List α) (a : α) : (x :: l).set 0 a = a :: l := rfl
theorem zds1 {α : Type} (x : α) (l : List α) (i : Nat) (a : α) : (x :: l).set (i + 1) a = x :: l.set i a := rfl
def table_drop.T5 : Bool × List (List Nat × List Nat) := (true,[([],[]),([0],[0]),([],[]),([],[]),([3],[3]),([1,2,4],[1,2,4]),([],[]),([6],[6]),([],[]),([],[]),([9],[9]),([7,8,10,5],[7,8,10]),([],[]),([12],[12]),([],[]),([],[]),([15],[15]),([13,14,16,11],[13,14,16]),([0,1,2,3,4,5,6,7,12,13],[]),([18,5,17,0,1,2,3,4,5,6,7,12,13],[5,18]),([0,1,2,3,4,5,6,7,8,9,10,11,12,13,18,19],[]),([20,11,19,0,1,2,3,4,5,6,7,8,9,10,11,12,13,18,19],[11,20]),([0,1,2,3,4,5,6,7,8,9,10,11,12,13,14,15,16,17,18,19,20,21],[]),([22,17,21,0,1,2,3,4,5,6,7,8,9,10,11,12,13,14,15,16,17,18,19,20,21],[17,22])])
def table_drop.B5 : List Nat := [0,1,0,0,8,31,0,64,0,0,512,2047,0,4096,0,0,32768,131071,12543,524287,1048575,2097151,4194303,8388607]
theorem table_drop.tab5 : rtab .any (opsOf Try.f31 5) = table_drop.T5 := by kernel_rfl
theorem table_drop.bits5 : waitsOk table_drop.T5.2 table_drop.B5 = true := by kernel_rfl
set_option maxHeartbeats 8000000 in
set_option maxRecDepth 100000 in
theorem drop_neg (g s : Int) (Ao : Option Addr) (co : Nat) (o : List Int) (Al : Option Addr) (cl : Nat) (l : List Int) (Af : Option Addr) (cf : Nat) (f : List Int) (seg : Int) (w : World) (hT : TC w Ao co o Al cl l Af cf f) (hol : o.length ≤ 1000 ∧ f.length ≤ 1000) (hn1 : 1 ≤ o.length) (hlo : l.length = o.length) (hfo : f.length = o.length) (hp : pl o seg < 0) :
  Calls Try.prog 31 #[.agg #[.int .i64 g,.int .i64 s,.slice Ao o.length co,.slice Al l.length cl,.slice Af f.length cf],.int .i64 seg] w fun e w' => e = .returned (.tuple #[.agg #[.int .i64 0,.int .i64 0,.slice none 0 0,.slice none 0 0,.slice none 0 0],.int .i64 1]) ∧ Below w.heap.size w w' := by
 have HT := Aside0.mk hT
 have HL := Aside0.mk hol
 obtain ⟨p,hpp⟩ : ∃ p,p = pl o seg := ⟨_,rfl⟩
 have HLA := Aside0.mk (last_is g s o l f hol.1)
 have HIX := Aside0.mk (index_pl o seg (by omega) (o.length + 1) (by omega))
 have hb1 := (pl_lo o seg).1
 have hb2 := (pl_lo o seg).2.1
 rw [← hpp] at hp hb1 hb2 HIX
 have HLO := Aside0.mk hlo
 have HFO := Aside0.mk hfo
 have HN := Aside0.mk hn1
 have ht1 : decide (p < 0) = true := decide_eq_true hp
 have hp64 : p + 1 ≤ 9223372036854775807 := by omega
 have hp65 : -9223372036854775808 ≤ p + 1 := by omega
 clear hT hol hlo hfo hn1 hb1 hb2 hp hpp
 go_enter Try.func31,Try.ntmps31
 go_upto_region 1 with fail
 obtain ⟨W1,hW1⟩ : ∃ W1,W1 = (w.alloc (.cells #[.int .i64 g,.int .i64 s,.slice Ao o.length co,.slice Al l.length cl,.slice Af f.length cf] 28)).alloc (.cells #[.int .i64 0,.int .i64 0,.slice none 0 0,.slice none 0 0,.slice none 0 0] 28) := ⟨_,rfl⟩
 rw [← hW1]
 obtain ⟨gr,hgr⟩ : ∃ g,g = w.heap.size + 1 := ⟨_,rfl⟩
 obtain ⟨gs,hgs⟩ : ∃ g,g = w.heap.size := ⟨_,rfl⟩
 have HXs : Aside0 (W1.heap[gs]? = some (.cells #[.int .i64 g,.int .i64 s,.slice Ao o.length co,.slice Al l.length cl,.slice Af f.length cf] 28 (0,0))) := ⟨by rw [hW1,hgs]; exact blk_alloc (blk_new _ _) _⟩
 have HXr : Aside0 (W1.heap[gr]? = some (.cells #[.int .i64 0,.int .i64 0,.slice none 0 0,.slice none 0 0,.slice none 0 0] 28 (0,0))) := ⟨by rw [hW1,hgr]; have := blk_new (w.alloc (.cells #[.int .i64 g,.int .i64 s,.slice Ao o.length co,.slice Al l.length cl,.slice Af f.length cf] 28)) (.cells #[.int .i64 0,.int .i64 0,.slice none 0 0,.slice none 0 0,.slice none 0 0] 28); simpa using this⟩
 have HB : Aside0 (Below w.heap.size w W1) := ⟨by rw [hW1]; exact below_alloc (below_alloc (Below.refl _ _) _) _⟩
 have HGR : Aside0 (w.heap.size ≤ gr) := ⟨by omega⟩
 have NSR : Aside0 (gs ≠ gr) := ⟨by omega⟩
 rw [← hgr,← hgs]
 clear hW1 hgr hgs
 have s_0 : W1.cell? ⟨gs,0,none⟩ = some (.int .i64 g) := cL HXs 0 rfl
 have s_1 : W1.cell? ⟨gs,1,none⟩ = some (.int .i64 s) := cL HXs 1 rfl
 have s_2 : W1.cell? ⟨gs,2,none⟩ = some (.slice Ao o.length co) := cL HXs 2 rfl
 have s_3 : W1.cell? ⟨gs,3,none⟩ = some (.slice Al l.length cl) := cL HXs 3 rfl
 have s_4 : W1.cell? ⟨gs,4,none⟩ = some (.slice Af f.length cf) := cL HXs 4 rfl
 go_upto_region 2 with (refine (slices_Index_int_int.calls (o.length + 1) Ao co o seg p _ (TC_below HT.out HB.out).1.1 (TC_below HT.out HB.out).1.2 HIX.out).mono ?_; rintro e_ wi ⟨rfl,hbi⟩)
 clear s_0 s_1 s_2 s_3 s_4
 replace hbi := Drawn0.below hbi
 replace HXs := mB HXs hbi
 replace HXr := mB HXr hbi
 replace HB := mS HB hbi
 clear hbi
 have s_0 : wi.cell? ⟨gs,0,none⟩ = some (.int .i64 g) := cL HXs 0 rfl
 have s_1 : wi.cell? ⟨gs,1,none⟩ = some (.int .i64 s) := cL HXs 1 rfl
 have s_2 : wi.cell? ⟨gs,2,none⟩ = some (.slice Ao o.length co) := cL HXs 2 rfl
 have s_3 : wi.cell? ⟨gs,3,none⟩ = some (.slice Al l.length cl) := cL HXs 3 rfl
 have s_4 : wi.cell? ⟨gs,4,none⟩ = some (.slice Af f.length cf) := cL HXs 4 rfl
 have x0 : wi.cell? ⟨gr,0,none⟩ = some (.int .i64 0) := cL HXr 0 rfl
 have x1 : wi.cell? ⟨gr,1,none⟩ = some (.int .i64 0) := cL HXr 1 rfl
 have x2 : wi.cell? ⟨gr,2,none⟩ = some (.slice none 0 0) := cL HXr 2 rfl
 have x3 : wi.cell? ⟨gr,3,none⟩ = some (.slice none 0 0) := cL HXr 3 rfl
 have x4 : wi.cell? ⟨gr,4,none⟩ = some (.slice none 0 0) := cL HXr 4 rfl
 have xf0 := blk_frozen HXr.out 0
 have xf1 := blk_frozen HXr.out 1
 have xf2 := blk_frozen HXr.out 2
 have xf3 := blk_frozen HXr.out 3
 have xf4 := blk_frozen HXr.out 4
 go_wp2_with fail
 obtain ⟨W3,hW⟩ : ∃ W_,W_ = (((((wi.setCell ⟨gr,0,none⟩ (.int .i64 0)).setCell ⟨gr,1,none⟩ (.int .i64 0)).setCell ⟨gr,2,none⟩ (.slice none 0 0)).setCell ⟨gr,3,none⟩ (.slice none 0 0)).setCell ⟨gr,4,none⟩ (.slice none 0 0)) := ⟨_,rfl⟩
 rw [← hW]
 refine bodyPost_ret (results_ct rfl _ _ gr 28 _ (0,0) _ rfl (set5 hW HXr.out) Try.underlying28 rfl (by kernel_rfl)) rfl ?_
 exact ⟨rfl,below5 hW HB.out HGR.out⟩
set_option maxHeartbeats 8000000 in
set_option maxRecDepth 100000 in
theorem drop_last (g s : Int) (Ao : Option Addr) (co : Nat) (o : List Int) (Al : Option Addr) (cl : Nat) (l : List Int) (Af : Option Addr) (cf : Nat) (f : List Int) (seg : Int) (w : World) (hT : TC w Ao co o Al cl l Af cf f) (hol : o.length ≤ 1000 ∧ f.length ≤ 1000) (hn1 : 1 ≤ o.length) (hlo : l.length = o.length) (hfo : f.length = o.length) (hp : pl o seg = (o.length : Int) - 1) :
  Calls Try.prog 31 #[.agg #[.int .i64 g,.int .i64 s,.slice Ao o.length co,.slice Al l.length cl,.slice Af f.length cf],.int .i64 seg] w fun e w' => e = .returned (.tuple #[.agg #[.int .i64 0,.int .i64 0,.slice none 0 0,.slice none 0 0,.slice none 0 0],.int .i64 1]) ∧ Below w.heap.size w w' := by
 have HT := Aside0.mk hT
 have HL := Aside0.mk hol
 obtain ⟨p,hpp⟩ : ∃ p,p = pl o seg := ⟨_,rfl⟩
 have HLA := Aside0.mk (last_is g s o l f hol.1)
 have HIX := Aside0.mk (index_pl o seg (by omega) (o.length + 1) (by omega))
 have hb1 := (pl_lo o seg).1
 have hb2 := (pl_lo o seg).2.1
 rw [← hpp] at hp hb1 hb2 HIX
 have HLO := Aside0.mk hlo
 have HFO := Aside0.mk hfo
 have HN := Aside0.mk hn1
 have ht1 : decide (p < 0) = false := decide_eq_false (by omega)
 have ht2 : (p == (o.length : Int) - 1) = true := beq_iff_eq.2 (by omega)
 have hp64 : p + 1 ≤ 9223372036854775807 := by omega
 have hp65 : -9223372036854775808 ≤ p + 1 := by omega
 clear hT hol hlo hfo hn1 hb1 hb2 hp hpp
 go_enter Try.func31,Try.ntmps31
 go_upto_region 1 with fail
 obtain ⟨W1,hW1⟩ : ∃ W1,W1 = (w.alloc (.cells #[.int .i64 g,.int .i64 s,.slice Ao o.length co,.slice Al l.length cl,.slice Af f.length cf] 28)).alloc (.cells #[.int .i64 0,.int .i64 0,.slice none 0 0,.slice none 0 0,.slice none 0 0] 28) := ⟨_,rfl⟩
 rw [← hW1]
 obtain ⟨gr,hgr⟩ : ∃ g,g = w.heap.size + 1 := ⟨_,rfl⟩
 obtain ⟨gs,hgs⟩ : ∃ g,g = w.heap.size := ⟨_,rfl⟩
 have HXs : Aside0 (W1.heap[gs]? = some (.cells #[.int .i64 g,.int .i64 s,.slice Ao o.length co,.slice Al l.length cl,.slice Af f.length cf] 28 (0,0))) := ⟨by rw [hW1,hgs]; exact blk_alloc (blk_new _ _) _⟩
 have HXr : Aside0 (W1.heap[gr]? = some (.cells #[.int .i64 0,.int .i64 0,.slice none 0 0,.slice none 0 0,.slice none 0 0] 28 (0,0))) := ⟨by rw [hW1,hgr]; have := blk_new (w.alloc (.cells #[.int .i64 g,.int .i64 s,.slice Ao o.length co,.slice Al l.length cl,.slice Af f.length cf] 28)) (.cells #[.int .i64 0,.int .i64 0,.slice none 0 0,.slice none 0 0,.slice none 0 0] 28); simpa using this⟩
 have HB : Aside0 (Below w.heap.size w W1) := ⟨by rw [hW1]; exact below_alloc (below_alloc (Below.refl _ _) _) _⟩
 have HGR : Aside0 (w.heap.size ≤ gr) := ⟨by omega⟩
 have NSR : Aside0 (gs ≠ gr) := ⟨by omega⟩
 rw [← hgr,← hgs]
 clear hW1 hgr hgs
 have s_0 : W1.cell? ⟨gs,0,none⟩ = some (.int .i64 g) := cL HXs 0 rfl
 have s_1 : W1.cell? ⟨gs,1,none⟩ = some (.int .i64 s) := cL HXs 1 rfl
 have s_2 : W1.cell? ⟨gs,2,none⟩ = some (.slice Ao o.length co) := cL HXs 2 rfl
 have s_3 : W1.cell? ⟨gs,3,none⟩ = some (.slice Al l.length cl) := cL HXs 3 rfl
 have s_4 : W1.cell? ⟨gs,4,none⟩ = some (.slice Af f.length cf) := cL HXs 4 rfl
 go_upto_region 2 with (refine (slices_Index_int_int.calls (o.length + 1) Ao co o seg p _ (TC_below HT.out HB.out).1.1 (TC_below HT.out HB.out).1.2 HIX.out).mono ?_; rintro e_ wi ⟨rfl,hbi⟩)
 clear s_0 s_1 s_2 s_3 s_4
 replace hbi := Drawn0.below hbi
 replace HXs := mB HXs hbi
 replace HXr := mB HXr hbi
 replace HB := mS HB hbi
 clear hbi
 have s_0 : wi.cell? ⟨gs,0,none⟩ = some (.int .i64 g) := cL HXs 0 rfl
 have s_1 : wi.cell? ⟨gs,1,none⟩ = some (.int .i64 s) := cL HXs 1 rfl
 have s_2 : wi.cell? ⟨gs,2,none⟩ = some (.slice Ao o.length co) := cL HXs 2 rfl
 have s_3 : wi.cell? ⟨gs,3,none⟩ = some (.slice Al l.length cl) := cL HXs 3 rfl
 have s_4 : wi.cell? ⟨gs,4,none⟩ = some (.slice Af f.length cf) := cL HXs 4 rfl
 go_wp2_with fail
 refine (last_calls g s _ _ o _ _ l _ _ f _ (TC_below HT.out HB.out) _ HLA.out).mono ?_; rintro e_ wl ⟨rfl,hbl⟩
 clear s_0 s_1 s_2 s_3 s_4
 replace HXs := mB HXs hbl
 replace HXr := mB HXr hbl
 replace HB := mS HB hbl
 clear hbl
 have x0 : wl.cell? ⟨gr,0,none⟩ = some (.int .i64 0) := cL HXr 0 rfl
 have x1 : wl.cell? ⟨gr,1,none⟩ = some (.int .i64 0) := cL HXr 1 rfl
 have x2 : wl.cell? ⟨gr,2,none⟩ = some (.slice none 0 0) := cL HXr 2 rfl
 have x3 : wl.cell? ⟨gr,3,none⟩ = some (.slice none 0 0) := cL HXr 3 rfl
 have x4 : wl.cell? ⟨gr,4,none⟩ = some (.slice none 0 0) := cL HXr 4 rfl
 have xf0 := blk_frozen HXr.out 0
 have xf1 := blk_frozen HXr.out 1
 have xf2 := blk_frozen HXr.out 2
 have xf3 := blk_frozen HXr.out 3
 have xf4 := blk_frozen HXr.out 4
 go_wp2_with fail
 obtain ⟨W3,hW⟩ : ∃ W_,W_ = (((((wl.setCell ⟨gr,0,none⟩ (.int .i64 0)).setCell ⟨gr,1,none⟩ (.int .i64 0)).setCell ⟨gr,2,none⟩ (.slice none 0 0)).setCell ⟨gr,3,none⟩ (.slice none 0 0)).setCell ⟨gr,4,none⟩ (.slice none 0 0)) := ⟨_,rfl⟩
 rw [← hW]
 refine bodyPost_ret (results_ct rfl _ _ gr 28 _ (0,0) _ rfl (set5 hW HXr.out) Try.underlying28 rfl (by kernel_rfl)) rfl ?_
 exact ⟨rfl,below5 hW HB.out HGR.out⟩
set_option maxHeartbeats 8000000 in
set_option maxRecDepth 100000 in
theorem drop_yes (g s : Int) (Ao : Option Addr) (co : Nat) (o : List Int) (Al : Option Addr) (cl : Nat) (l : List Int) (Af : Option Addr) (cf : Nat) (f : List Int) (seg : Int) (w : World) (hT : TC w Ao co o Al cl l Af cf f) (hol : o.length ≤ 1000 ∧ f.length ≤ 1000) (hn1 : 1 ≤ o.length) (hlo : l.length = o.length) (hfo : f.length = o.length) (hp : 0 ≤ pl o seg ∧ pl o seg < (o.length : Int) - 1) :
  Calls Try.prog 31 #[.agg #[.int .i64 g,.int .i64 s,.slice Ao o.length co,.slice Al l.length cl,.slice Af f.length cf],.int .i64 seg] w fun e w' => ∃ A1 d1 A2 d2 A3 d3,e = .returned (.tuple #[.agg #[.int .i64 g,.int .i64 s,.slice A1 (o.eraseIdx (pl o seg).toNat).length d1,.slice A2 (l.eraseIdx (pl o seg).toNat).length d2,.slice A3 (f.eraseIdx (pl o seg).toNat).length d3],.int .i64 0]) ∧ TR w' w.heap.size A1 d1 (o.eraseIdx (pl o seg).toNat) A2 d2 (l.eraseIdx (pl o seg).toNat) A3 d3 (f.eraseIdx (pl o seg).toNat) ∧ Below w.heap.size w w' := by
 have HT := Aside0.mk hT
 have HL := Aside0.mk hol
 obtain ⟨p,hpp⟩ : ∃ p,p = pl o seg := ⟨_,rfl⟩
 have HLA := Aside0.mk (last_is g s o l f hol.1)
 have HIX := Aside0.mk (index_pl o seg (by omega) (o.length + 1) (by omega))
 have hb1 := (pl_lo o seg).1
 have hb2 := (pl_lo o seg).2.1
 rw [← hpp] at hp hb1 hb2 HIX
 have HLO := Aside0.mk hlo
 have HFO := Aside0.mk hfo
 have HN := Aside0.mk hn1
 have ht1 : decide (p < 0) = false := decide_eq_false (by omega)
 have ht2 : (p == (o.length : Int) - 1) = false := beq_eq_false_iff_ne.2 (by omega)
 have HP := Aside0.mk (show 0 ≤ p ∧ p < (o.length : Int) - 1 from hp)
 have HPP := Aside0.mk hpp
 have hp64 : p + 1 ≤ 9223372036854775807 := by omega
 have hp65 : -9223372036854775808 ≤ p + 1 := by omega
 clear hT hol hlo hfo hn1 hb1 hb2 hp hpp
 go_enter Try.func31,Try.ntmps31
 go_upto_region 1 with fail
 obtain ⟨W1,hW1⟩ : ∃ W1,W1 = (w.alloc (.cells #[.int .i64 g,.int .i64 s,.slice Ao o.length co,.slice Al l.length cl,.slice Af f.length cf] 28)).alloc (.cells #[.int .i64 0,.int .i64 0,.slice none 0 0,.slice none 0 0,.slice none 0 0] 28) := ⟨_,rfl⟩
 rw [← hW1]
 obtain ⟨gr,hgr⟩ : ∃ g,g = w.heap.size + 1 := ⟨_,rfl⟩
 obtain ⟨gs,hgs⟩ : ∃ g,g = w.heap.size := ⟨_,rfl⟩
 have HXs : Aside0 (W1.heap[gs]? = some (.cells #[.int .i64 g,.int .i64 s,.slice Ao o.length co,.slice Al l.length cl,.slice Af f.length cf] 28 (0,0))) := ⟨by rw [hW1,hgs]; exact blk_alloc (blk_new _ _) _⟩
 have HXr : Aside0 (W1.heap[gr]? = some (.cells #[.int .i64 0,.int .i64 0,.slice none 0 0,.slice none 0 0,.slice none 0 0] 28 (0,0))) := ⟨by rw [hW1,hgr]; have := blk_new (w.alloc (.cells #[.int .i64 g,.int .i64 s,.slice Ao o.length co,.slice Al l.length cl,.slice Af f.length cf] 28)) (.cells #[.int .i64 0,.int .i64 0,.slice none 0 0,.slice none 0 0,.slice none 0 0] 28); simpa using this⟩
 have HB : Aside0 (Below w.heap.size w W1) := ⟨by rw [hW1]; exact below_alloc (below_alloc (Below.refl _ _) _) _⟩
 have HGR : Aside0 (w.heap.size ≤ gr) := ⟨by omega⟩
 have NSR : Aside0 (gs ≠ gr) := ⟨by omega⟩
 rw [← hgr,← hgs]
 clear hW1 hgr hgs
 have s_0 : W1.cell? ⟨gs,0,none⟩ = some (.int .i64 g) := cL HXs 0 rfl
 have s_1 : W1.cell? ⟨gs,1,none⟩ = some (.int .i64 s) := cL HXs 1 rfl
 have s_2 : W1.cell? ⟨gs,2,none⟩ = some (.slice Ao o.length co) := cL HXs 2 rfl
 have s_3 : W1.cell? ⟨gs,3,none⟩ = some (.slice Al l.length cl) := cL HXs 3 rfl
 have s_4 : W1.cell? ⟨gs,4,none⟩ = some (.slice Af f.length cf) := cL HXs 4 rfl
 go_upto_region 2 with (refine (slices_Index_int_int.calls (o.length + 1) Ao co o seg p _ (TC_below HT.out HB.out).1.1 (TC_below HT.out HB.out).1.2 HIX.out).mono ?_; rintro e_ wi ⟨rfl,hbi⟩)
 clear s_0 s_1 s_2 s_3 s_4
 replace hbi := Drawn0.below hbi
 replace HXs := mB HXs hbi
 replace HXr := mB HXr hbi
 replace HB := mS HB hbi
 clear hbi
 have s_0 : wi.cell? ⟨gs,0,none⟩ = some (.int .i64 g) := cL HXs 0 rfl
 have s_1 : wi.cell? ⟨gs,1,none⟩ = some (.int .i64 s) := cL HXs 1 rfl
 have s_2 : wi.cell? ⟨gs,2,none⟩ = some (.slice Ao o.length co) := cL HXs 2 rfl
 have s_3 : wi.cell? ⟨gs,3,none⟩ = some (.slice Al l.length cl) := cL HXs 3 rfl
 have s_4 : wi.cell? ⟨gs,4,none⟩ = some (.slice Af f.length cf) := cL HXs 4 rfl
 go_wp2_with fail
 refine (last_calls g s _ _ o _ _ l _ _ f _ (TC_below HT.out HB.out) _ HLA.out).mono ?_; rintro e_ wl ⟨rfl,hbl⟩
 clear s_0 s_1 s_2 s_3 s_4
 replace HXs := mB HXs hbl
 replace HXr := mB HXr hbl
 replace HB := mS HB hbl
 clear hbl
 have s_0 : wl.cell? ⟨gs,0,none⟩ = some (.int .i64 g) := cL HXs 0 rfl
 have s_1 : wl.cell? ⟨gs,1,none⟩ = some (.int .i64 s) := cL HXs 1 rfl
 have s_2 : wl.cell? ⟨gs,2,none⟩ = some (.slice Ao o.length co) := cL HXs 2 rfl
 have s_3 : wl.cell? ⟨gs,3,none⟩ = some (.slice Al l.length cl) := cL HXs 3 rfl
 have s_4 : wl.cell? ⟨gs,4,none⟩ = some (.slice Af f.length cf) := cL HXs 4 rfl
 go_wp2_with fail
 clear s_0 s_1 s_2 s_3 s_4
 refine (own_calls g s Ao co o _ cl l Af cf f _ (TC_below HT.out HB.out) ⟨HL.out.1,by rw [HLO.out]; exact HL.out.1,HL.out.2⟩).mono ?_
 rintro e_ w2 ⟨A1,d1,A2,d2,A3,d3,rfl,hr,hb⟩
 have HTR := Aside0.mk (TR_lower hr (below_size HB.out))
 replace HXs := mB HXs hb
 replace HXr := mB HXr hb
 replace HB := mS HB hb
 clear hr hb
 obtain ⟨g1,c1_,e1,_,_,_,_⟩ := Kd.R_form HTR.out.1.1 (by have := HN.out; omega)
 obtain ⟨g2,c2_,e2,_,_,_,_⟩ := Kd.R_form HTR.out.1.2.1 (by have := HLO.out; have := HN.out; omega)
 obtain ⟨g3,c3_,e3,_,_,_,_⟩ := Kd.R_form HTR.out.1.2.2 (by have := HFO.out; have := HN.out; omega)
 cases e1
 cases e2
 cases e3
 go_upto_region 5 with ((with_reducible refine gate_dst (N := 7) rfl ?_); refine box_event ?hg (N := 7) ?hd (cs := #[.int .i64 0,.int .i64 0,.slice none 0 0,.slice none 0 0,.slice none 0 0]) (t := 28) ?hr ?_; (case hd => rfl); (case hg => rfl); (case hr => first | (go_simp; done) | (go_simp; rfl)); intro go hgo w3 hbox hbb; have HBO := Aside0.mk hbox; have HBB := Aside0.mk hbb; have HGO := Aside0.mk hgo; have y0 : w3.cell? ⟨go,0,none⟩ = some (.int .i64 0) := (blk_cell hbox 0).trans rfl; have y1 : w3.cell? ⟨go,1,none⟩ = some (.int .i64 0) := (blk_cell hbox 1).trans rfl; have y2 : w3.cell? ⟨go,2,none⟩ = some (.slice none 0 0) := (blk_cell hbox 2).trans rfl; have y3 : w3.cell? ⟨go,3,none⟩ = some (.slice none 0 0) := (blk_cell hbox 3).trans rfl; have y4 : w3.cell? ⟨go,4,none⟩ = some (.slice none 0 0) := (blk_cell hbox 4).trans rfl; have yf0 := blk_frozen hbox 0; have yf1 := blk_frozen hbox 1; have yf2 := blk_frozen hbox 2; have yf3 := blk_frozen hbox 3; have yf4 := blk_frozen hbox 4; clear hbox hbb hgo)
 clear y0 y1 y2 y3 y4 yf0 yf1 yf2 yf3 yf4
 obtain ⟨W4,hW⟩ : ∃ W_,W_ = (((((w3.setCell ⟨go,0,none⟩ (.int .i64 g)).setCell ⟨go,1,none⟩ (.int .i64 s)).setCell ⟨go,2,none⟩ (.slice (some ⟨g1,0,none⟩) o.length d1)).setCell ⟨go,3,none⟩ (.slice (some ⟨g2,0,none⟩) l.length d2)).setCell ⟨go,4,none⟩ (.slice (some ⟨g3,0,none⟩) f.length d3)) := ⟨_,rfl⟩
 rw [← hW]
 have HGO2 : Aside0 (w.heap.size ≤ go) := ⟨by rw [HGO.out]; exact below_size HB.out⟩
 have NRO : Aside0 (gr ≠ go) := ⟨by rw [HGO.out]; exact Nat.ne_of_lt (blk_lt HXr.out)⟩
 replace HTR := Aside0.mk (tr5 hW HBO.out (by decide) (by decide) (TR_below HTR.out HBB.out))
 replace HXr := Aside0.mk (far5 hW (blk_below HXr.out HBB.out) NRO.out)
 have HXo := Aside0.mk (set5 hW HBO.out)
 replace HB := Aside0.mk (below5 hW (below_step HB.out HBB.out) HGO2.out)
 clear hW HBO HBB HGO HXs
 have hwz : IntKind.i64.wrap (p + 1) = p + 1 := by rw [i64_w]; unfold wrap64; omega
 go_wp2_with fail
 refine start_ (n := 24) (S := fun w' => w'.cell? ⟨go,2,none⟩ = some (.slice (some ⟨g1,0,none⟩) o.length d1) ∧ w'.cell? ⟨go,3,none⟩ = some (.slice (some ⟨g2,0,none⟩) l.length d2) ∧ w'.cell? ⟨go,4,none⟩ = some (.slice (some ⟨g3,0,none⟩) f.length d3)) (ds := [19,21,23]) zd0 (by kernel_rfl) rfl rfl ⟨((blk_cell (blk_drew HXo.out) 2).trans rfl),((blk_cell (blk_drew HXo.out) 3).trans rfl),((blk_cell (blk_drew HXo.out) 4).trans rfl)⟩ (fun hHeld => ?_)
 refine with_tabW table_drop.tab5 table_drop.bits5 (fun HT_ HW_ => ?_)
 replace HXo := Aside0.mk (blk_drew HXo.out)
 replace HXr := Aside0.mk (blk_drew HXr.out)
 replace HTR := Aside0.mk (TR_below HTR.out (below_drew (Below.refl _ _)))
 replace HB := Aside0.mk (below_drew HB.out)
 generalize W4.drew = wd4 at *
 refine pure_ (i := 0) (N := some 23) (v := ?_) (a' := ?_) zd1 rfl rfl (any_of HT_.out (by kernel_rfl)) (fun _ _ _ h => h) (Or.inl ⟨by rfl,?_⟩) ?_ ?_
 rotate_left
 ·intro w'
  go_simp
  with_reducible rfl
 rotate_left
 ·simp only [Act.put,zdI,zds0,zds1,i64_w,i32_w]
  rfl
 refine pure_ (i := 2) (N := some 25) (v := ?_) (a' := ?_) zd2 rfl rfl (any_of HT_.out (by kernel_rfl)) (fun _ _ _ h => h) (Or.inl ⟨by rfl,?_⟩) ?_ ?_
 rotate_left
 ·intro w'
  go_simp
  with_reducible rfl
 rotate_left
 ·simp only [Act.put,zdI,zds0,zds1,i64_w,i32_w]
  rfl
 refine pure_ (i := 3) (N := some 26) (v := ?_) (a' := ?_) zd3 rfl rfl (any_of HT_.out (by kernel_rfl)) (fun _ _ _ h => h) (Or.inl ⟨by rfl,?_⟩) ?_ ?_
 rotate_left
 ·intro w'
  go_simp
  with_reducible rfl
 rotate_left
 ·simp only [Act.put,zdI,zds0,zds1,i64_w,i32_w]
  rfl
 refine pure_ (i := 4) (N := some 27) (v := ?_) (a' := ?_) zd4 rfl rfl (any_of HT_.out (by kernel_rfl)) (fun _ _ _ h => h) (Or.inl ⟨by rfl,?_⟩) ?_ ?_
 rotate_left
 ·intro w'
  go_simp
  with_reducible rfl
 rotate_left
 ·simp only [Act.put,zdI,zds0,zds1,i64_w,i32_w]
  rfl
 refine pure_ (i := 6) (N := some 29) (v := ?_) (a' := ?_) zd5 rfl rfl (any_of HT_.out (by kernel_rfl)) (fun _ _ _ h => h) (Or.inl ⟨by rfl,?_⟩) ?_ ?_
 rotate_left
 ·intro w'
  go_simp
  with_reducible rfl
 rotate_left
 ·simp only [Act.put,zdI,zds0,zds1,i64_w,i32_w]
  rfl
 refine pure_ (i := 8) (N := some 31) (v := ?_) (a' := ?_) zd6 rfl rfl (any_of HT_.out (by kernel_rfl)) (fun _ _ _ h => h) (Or.inl ⟨by rfl,?_⟩) ?_ ?_
 rotate_left
 ·intro w'
  go_simp
  with_reducible rfl
 rotate_left
 ·simp only [Act.put,zdI,zds0,zds1,i64_w,i32_w]
  rfl
 refine pure_ (i := 9) (N := some 32) (v := ?_) (a' := ?_) zd7 rfl rfl (any_of HT_.out (by kernel_rfl)) (fun _ _ _ h => h) (Or.inl ⟨by rfl,?_⟩) ?_ ?_
 rotate_left
 ·intro w'
  go_simp
  with_reducible rfl
 rotate_left
 ·simp only [Act.put,zdI,zds0,zds1,i64_w,i32_w]
  rfl
 refine pure_ (i := 10) (N := some 33) (v := ?_) (a' := ?_) zd8 rfl rfl (any_of HT_.out (by kernel_rfl)) (fun _ _ _ h => h) (Or.inl ⟨by rfl,?_⟩) ?_ ?_
 rotate_left
 ·intro w'
  go_simp
  with_reducible rfl
 rotate_left
 ·simp only [Act.put,zdI,zds0,zds1,i64_w,i32_w]
  rfl
 refine pure_ (i := 12) (N := some 35) (v := ?_) (a' := ?_) zd9 rfl rfl (any_of HT_.out (by kernel_rfl)) (fun _ _ _ h => h) (Or.inl ⟨by rfl,?_⟩) ?_ ?_
 rotate_left
 ·intro w'
  go_simp
  with_reducible rfl
 rotate_left
 ·simp only [Act.put,zdI,zds0,zds1,i64_w,i32_w]
  rfl
 refine pure_ (i := 14) (N := some 37) (v := ?_) (a' := ?_) zd10 rfl rfl (any_of HT_.out (by kernel_rfl)) (fun _ _ _ h => h) (Or.inl ⟨by rfl,?_⟩) ?_ ?_
 rotate_left
 ·intro w'
  go_simp
  with_reducible rfl
 rotate_left
 ·simp only [Act.put,zdI,zds0,zds1,i64_w,i32_w]
  rfl
 refine pure_ (i := 15) (N := some 38) (v := ?_) (a' := ?_) zd11 rfl rfl (any_of HT_.out (by kernel_rfl)) (fun _ _ _ h => h) (Or.inl ⟨by rfl,?_⟩) ?_ ?_
 rotate_left
 ·intro w'
  go_simp
  with_reducible rfl
 rotate_left
 ·simp only [Act.put,zdI,zds0,zds1,i64_w,i32_w]
  rfl
 refine pure_ (i := 16) (N := some 39) (v := ?_) (a' := ?_) zd12 rfl rfl (any_of HT_.out (by kernel_rfl)) (fun _ _ _ h => h) (Or.inl ⟨by rfl,?_⟩) ?_ ?_
 rotate_left
 ·intro w'
  go_simp
  with_reducible rfl
 rotate_left
 ·simp only [Act.put,zdI,zds0,zds1,i64_w,i32_w]
  rfl
 refine take_ (i := 1) (N := some 24) (v := ?_) (a' := ?_) zd13 rfl rfl (take_ofW HT_.out HW_.out (by kernel_rfl)) (fun _ _ _ h => h) (Or.inl ⟨by rfl,?_⟩) hHeld ?_ ?_
 rotate_left
 ·rintro w' ⟨s0,s1,s2⟩
  go_simp
  with_reducible rfl
 rotate_left
 ·simp only [Act.put,zdI,zds0,zds1,i64_w,i32_w]
  rfl
 refine take_ (i := 7) (N := some 30) (v := ?_) (a' := ?_) zd14 rfl rfl (take_ofW HT_.out HW_.out (by kernel_rfl)) (fun _ _ _ h => h) (Or.inl ⟨by rfl,?_⟩) hHeld ?_ ?_
 rotate_left
 ·rintro w' ⟨s0,s1,s2⟩
  go_simp
  with_reducible rfl
 rotate_left
 ·simp only [Act.put,zdI,zds0,zds1,i64_w,i32_w]
  rfl
 refine take_ (i := 13) (N := some 36) (v := ?_) (a' := ?_) zd15 rfl rfl (take_ofW HT_.out HW_.out (by kernel_rfl)) (fun _ _ _ h => h) (Or.inl ⟨by rfl,?_⟩) hHeld ?_ ?_
 rotate_left
 ·rintro w' ⟨s0,s1,s2⟩
  go_simp
  with_reducible rfl
 rotate_left
 ·simp only [Act.put,zdI,zds0,zds1,i64_w,i32_w]
  rfl
 refine one_ (i := 5) (N := some 28) zd16 rfl rfl (one_of HT_.out (by kernel_rfl)) (by decide) (fun K hK => ?_)
 refine goes_ Try.func44 (by kernel_rfl) rfl #[.slice (some ⟨g1,0,none⟩) o.length d1,.int .i64 p,.int .i64 (p + 1)] (by rfl) rfl rfl (by simp only [List.map_toArray,List.map_cons,List.map_nil]; rfl) ?_
 with_reducible refine (delete_i (TR_o HTR.out) p HP.out.1 (by have := HP.out; omega)).mono ?_
 rintro e_ wa ⟨rfl,hr_,hg_⟩
 refine ⟨_,rfl,?_⟩
 replace HXo := Aside0.mk (del_box (TR_o HTR.out) HXo.out (by decide) hg_)
 replace HXr := Aside0.mk (del_box (TR_o HTR.out) HXr.out (by decide) hg_)
 replace HB := Aside0.mk (del_below (TR_o HTR.out) HB.out hg_)
 replace HTR := Aside0.mk (tr_del_o HTR.out HP.out.1 (by have := HP.out; omega) hr_ hg_)
 clear hr_ hg_
 refine hK.out _ _ ⟨(cL HXo 2 rfl),(cL HXo 3 rfl),(cL HXo 4 rfl)⟩ (fun hHeld => ?_)
 clear hK K
 refine norm_ (a' := ?_) ?_ ?_
 rotate_left
 ·show Act.put _ (some 28) _ = _
  simp only [Act.put,zdI,zds0,zds1,i64_w,i32_w]
  rfl
 refine pure_ (i := 18) (N := some 41) (v := ?_) (a' := ?_) zd17 rfl rfl (any_of HT_.out (by kernel_rfl)) (fun _ _ _ h => h) (Or.inl ⟨by rfl,?_⟩) ?_ ?_
 rotate_left
 ·intro w'
  go_simp
  with_reducible rfl
 rotate_left
 ·simp only [Act.put,zdI,zds0,zds1,i64_w,i32_w]
  rfl
 refine one_ (i := 11) (N := some 34) zd18 rfl rfl (one_of HT_.out (by kernel_rfl)) (by decide) (fun K hK => ?_)
 refine goes_ Try.func44 (by kernel_rfl) rfl #[.slice (some ⟨g2,0,none⟩) l.length d2,.int .i64 p,.int .i64 (p + 1)] (by rfl) rfl rfl (by simp only [List.map_toArray,List.map_cons,List.map_nil]; rfl) ?_
 with_reducible refine (delete_i (TR_l HTR.out) p HP.out.1 (by have := HP.out; have := HLO.out; omega)).mono ?_
 rintro e_ wb ⟨rfl,hr_,hg_⟩
 refine ⟨_,rfl,?_⟩
 replace HXo := Aside0.mk (del_box (TR_l HTR.out) HXo.out (by decide) hg_)
 replace HXr := Aside0.mk (del_box (TR_l HTR.out) HXr.out (by decide) hg_)
 replace HB := Aside0.mk (del_below (TR_l HTR.out) HB.out hg_)
 replace HTR := Aside0.mk (tr_del_l HTR.out HP.out.1 (by have := HP.out; have := HLO.out; omega) hr_ hg_)
 clear hr_ hg_
 refine hK.out _ _ ⟨(cL HXo 2 rfl),(cL HXo 3 rfl),(cL HXo 4 rfl)⟩ (fun hHeld => ?_)
 clear hK K
 refine norm_ (a' := ?_) ?_ ?_
 rotate_left
 ·show Act.put _ (some 34) _ = _
  simp only [Act.put,zdI,zds0,zds1,i64_w,i32_w]
  rfl
 refine one_ (i := 17) (N := some 40) zd19 rfl rfl (one_of HT_.out (by kernel_rfl)) (by decide) (fun K hK => ?_)
 refine goes_ Try.func45 (by kernel_rfl) rfl #[.slice (some ⟨g3,0,none⟩) f.length d3,.int .i64 p,.int .i64 (p + 1)] (by rfl) rfl rfl (by simp only [List.map_toArray,List.map_cons,List.map_nil]; rfl) ?_
 with_reducible refine (delete_u (TR_f HTR.out) p HP.out.1 (by have := HP.out; have := HFO.out; omega)).mono ?_
 rintro e_ wc ⟨rfl,hr_,hg_⟩
 refine ⟨_,rfl,?_⟩
 replace HXo := Aside0.mk (del_box (TR_f HTR.out) HXo.out (by decide) hg_)
 replace HXr := Aside0.mk (del_box (TR_f HTR.out) HXr.out (by decide) hg_)
 replace HB := Aside0.mk (del_below (TR_f HTR.out) HB.out hg_)
 replace HTR := Aside0.mk (tr_del_f HTR.out HP.out.1 (by have := HP.out; have := HFO.out; omega) hr_ hg_)
 clear hr_ hg_
 refine hK.out _ _ ⟨(cL HXo 2 rfl),(cL HXo 3 rfl),(cL HXo 4 rfl)⟩ (fun hHeld => ?_)
 clear hK K
 refine norm_ (a' := ?_) ?_ ?_
 rotate_left
 ·show Act.put _ (some 40) _ = _
  simp only [Act.put,zdI,zds0,zds1,i64_w,i32_w]
  rfl
 refine last_ (i := 19) (N := none) zd20 rfl rfl (one_of HT_.out (by kernel_rfl)) (by decide) (fun K hK => ?_)
 have hs_ : wc.cell? ⟨go,2,none⟩ = some (.slice (some ⟨g1,0,none⟩) o.length d1) := cL HXo 2 rfl
 have hsf_ := blk_frozen HXo.out 2
 refine skip_ (w1 := ?_) (by rfl) rfl ?_ ?_
 rotate_left
 ·go_simp
  rfl
 clear hs_ hsf_
 obtain ⟨We,hW⟩ : ∃ W_,W_ = wc.setCell ⟨go,2,none⟩ (.slice (some ⟨g1,0,none⟩) (o.length - 1) d1) := ⟨_,rfl⟩
 rw [← hW]
 have q1 := TR_set HTR.out HXo.out (by decide) (by decide) 2 (.slice (some ⟨g1,0,none⟩) (o.length - 1) d1)
 have q2 : We.heap[go]? = some (.cells #[.int .i64 g,.int .i64 s,.slice (some ⟨g1,0,none⟩) (o.length - 1) d1,.slice (some ⟨g2,0,none⟩) l.length d2,.slice (some ⟨g3,0,none⟩) f.length d3] 28 (0,0)) := by rw [hW]; exact (blk_set HXo.out 2 (.slice (some ⟨g1,0,none⟩) (o.length - 1) d1)).trans (by simp only [zdI,zds0,zds1])
 have q3 := blk_far HXr.out (p := ⟨go,2,none⟩) NRO.out (.slice (some ⟨g1,0,none⟩) (o.length - 1) d1)
 have q4 := below_set (j := 2) (v := .slice (some ⟨g1,0,none⟩) (o.length - 1) d1) HB.out HGO2.out
 rw [← hW] at q1 q3 q4
 clear hW
 replace HTR := Aside0.mk (q1)
 replace HXo := Aside0.mk (q2)
 replace HXr := Aside0.mk (q3)
 replace HB := Aside0.mk (q4)
 clear q1 q2 q3 q4
 refine hK.out _ _ ?_
 clear hK K
 refine pure_ (i := 20) (N := some 42) (v := ?_) (a' := ?_) zd21 rfl rfl (any_of HT_.out (by kernel_rfl)) (fun _ _ _ h => h) (Or.inl ⟨by rfl,?_⟩) ?_ ?_
 rotate_left
 ·intro w'
  go_simp
  with_reducible rfl
 rotate_left
 ·simp only [Act.put,zdI,zds0,zds1,i64_w,i32_w]
  rfl
 refine last_ (i := 21) (N := none) zd22 rfl rfl (one_of HT_.out (by kernel_rfl)) (by decide) (fun K hK => ?_)
 have hs_ : We.cell? ⟨go,3,none⟩ = some (.slice (some ⟨g2,0,none⟩) l.length d2) := cL HXo 3 rfl
 have hsf_ := blk_frozen HXo.out 3
 refine skip_ (w1 := ?_) (by rfl) rfl ?_ ?_
 rotate_left
 ·go_simp
  rfl
 clear hs_ hsf_
 obtain ⟨Wf,hW⟩ : ∃ W_,W_ = We.setCell ⟨go,3,none⟩ (.slice (some ⟨g2,0,none⟩) (l.length - 1) d2) := ⟨_,rfl⟩
 rw [← hW]
 have q1 := TR_set HTR.out HXo.out (by decide) (by decide) 3 (.slice (some ⟨g2,0,none⟩) (l.length - 1) d2)
 have q2 : Wf.heap[go]? = some (.cells #[.int .i64 g,.int .i64 s,.slice (some ⟨g1,0,none⟩) (o.length - 1) d1,.slice (some ⟨g2,0,none⟩) (l.length - 1) d2,.slice (some ⟨g3,0,none⟩) f.length d3] 28 (0,0)) := by rw [hW]; exact (blk_set HXo.out 3 (.slice (some ⟨g2,0,none⟩) (l.length - 1) d2)).trans (by simp only [zdI,zds0,zds1])
 have q3 := blk_far HXr.out (p := ⟨go,3,none⟩) NRO.out (.slice (some ⟨g2,0,none⟩) (l.length - 1) d2)
 have q4 := below_set (j := 3) (v := .slice (some ⟨g2,0,none⟩) (l.length - 1) d2) HB.out HGO2.out
 rw [← hW] at q1 q3 q4
 clear hW
 replace HTR := Aside0.mk (q1)
 replace HXo := Aside0.mk (q2)
 replace HXr := Aside0.mk (q3)
 replace HB := Aside0.mk (q4)
 clear q1 q2 q3 q4
 refine hK.out _ _ ?_
 clear hK K
 refine pure_ (i := 22) (N := some 43) (v := ?_) (a' := ?_) zd23 rfl rfl (any_of HT_.out (by kernel_rfl)) (fun _ _ _ h => h) (Or.inl ⟨by rfl,?_⟩) ?_ ?_
 rotate_left
 ·intro w'
  go_simp
  with_reducible rfl
 rotate_left
 ·simp only [Act.put,zdI,zds0,zds1,i64_w,i32_w]
  rfl
 refine last_ (i := 23) (N := none) zd24 rfl rfl (one_of HT_.out (by kernel_rfl)) (by decide) (fun K hK => ?_)
 have hs_ : Wf.cell? ⟨go,4,none⟩ = some (.slice (some ⟨g3,0,none⟩) f.length d3) := cL HXo 4 rfl
 have hsf_ := blk_frozen HXo.out 4
 refine skip_ (w1 := ?_) (by rfl) rfl ?_ ?_
 rotate_left
 ·go_simp
  rfl
 clear hs_ hsf_
 obtain ⟨Wg,hW⟩ : ∃ W_,W_ = Wf.setCell ⟨go,4,none⟩ (.slice (some ⟨g3,0,none⟩) (f.length - 1) d3) := ⟨_,rfl⟩
 rw [← hW]
 have q1 := TR_set HTR.out HXo.out (by decide) (by decide) 4 (.slice (some ⟨g3,0,none⟩) (f.length - 1) d3)
 have q2 : Wg.heap[go]? = some (.cells #[.int .i64 g,.int .i64 s,.slice (some ⟨g1,0,none⟩) (o.length - 1) d1,.slice (some ⟨g2,0,none⟩) (l.length - 1) d2,.slice (some ⟨g3,0,none⟩) (f.length - 1) d3] 28 (0,0)) := by rw [hW]; exact (blk_set HXo.out 4 (.slice (some ⟨g3,0,none⟩) (f.length - 1) d3)).trans (by simp only [zdI,zds0,zds1])
 have q3 := blk_far HXr.out (p := ⟨go,4,none⟩) NRO.out (.slice (some ⟨g3,0,none⟩) (f.length - 1) d3)
 have q4 := below_set (j := 4) (v := .slice (some ⟨g3,0,none⟩) (f.length - 1) d3) HB.out HGO2.out
 rw [← hW] at q1 q3 q4
 clear hW
 replace HTR := Aside0.mk (q1)
 replace HXo := Aside0.mk (q2)
 replace HXr := Aside0.mk (q3)
 replace HB := Aside0.mk (q4)
 clear q1 q2 q3 q4
 refine hK.out _ _ ?_
 clear hK K
 refine done_ (done_of HT_.out (by kernel_rfl)) ?_
 clear HT_ HW_ hHeld
 clear hwz
 have s_0 : Wg.cell? ⟨go,0,none⟩ = some (.int .i64 g) := cL HXo 0 rfl
 have s_1 : Wg.cell? ⟨go,1,none⟩ = some (.int .i64 s) := cL HXo 1 rfl
 have s_2 : Wg.cell? ⟨go,2,none⟩ = some (.slice (some ⟨g1,0,none⟩) (o.length - 1) d1) := cL HXo 2 rfl
 have s_3 : Wg.cell? ⟨go,3,none⟩ = some (.slice (some ⟨g2,0,none⟩) (l.length - 1) d2) := cL HXo 3 rfl
 have s_4 : Wg.cell? ⟨go,4,none⟩ = some (.slice (some ⟨g3,0,none⟩) (f.length - 1) d3) := cL HXo 4 rfl
 have r_0 : Wg.cell? ⟨gr,0,none⟩ = some (.int .i64 0) := cL HXr 0 rfl
 have r_1 : Wg.cell? ⟨gr,1,none⟩ = some (.int .i64 0) := cL HXr 1 rfl
 have r_2 : Wg.cell? ⟨gr,2,none⟩ = some (.slice none 0 0) := cL HXr 2 rfl
 have r_3 : Wg.cell? ⟨gr,3,none⟩ = some (.slice none 0 0) := cL HXr 3 rfl
 have r_4 : Wg.cell? ⟨gr,4,none⟩ = some (.slice none 0 0) := cL HXr 4 rfl
 have rf_0 := blk_frozen HXr.out 0
 have rf_1 := blk_frozen HXr.out 1
 have rf_2 := blk_frozen HXr.out 2
 have rf_3 := blk_frozen HXr.out 3
 have rf_4 := blk_frozen HXr.out 4
 have n1_ := NRO.out
 have n2_ := Ne.symm NRO.out
 go_wp2_with fail
 obtain ⟨W7,hW⟩ : ∃ W_,W_ = (((((Wg.setCell ⟨gr,0,none⟩ (.int .i64 g)).setCell ⟨gr,1,none⟩ (.int .i64 s)).setCell ⟨gr,2,none⟩ (.slice (some ⟨g1,0,none⟩) (o.length - 1) d1)).setCell ⟨gr,3,none⟩ (.slice (some ⟨g2,0,none⟩) (l.length - 1) d2)).setCell ⟨gr,4,none⟩ (.slice (some ⟨g3,0,none⟩) (f.length - 1) d3)) := ⟨_,rfl⟩
 rw [← hW]
 refine bodyPost_ret (results_ct rfl _ _ gr 28 _ (0,0) _ rfl (set5 hW HXr.out) Try.underlying28 rfl (by kernel_rfl)) rfl ?_
 have e1 := del_len HP.out.1 (o := o) (by have := HP.out; omega)
 have e2 := del_len HP.out.1 (o := l) (by have := HP.out; have := HLO.out; omega)
 have e3 := del_len HP.out.1 (o := f) (by have := HP.out; have := HFO.out; omega)
 rw [← HPP.out]
 refine ⟨_,d1,_,d2,_,d3,?_,tr5 hW HXr.out (by decide) (by decide) HTR.out,below5 hW HB.out HGR.out⟩
 rw [e1,e2,e3]
 rfl
end Go.Proofs.Ytbefoehjlgdcgaa.H
