/-
table.Roll: a segment more.
-/
import Derived.Test.YtbefoehjlgdcgaaAp
import Derived.Test.YtbefoehjlgdcgaaOw
import Derived.Test.YtbefoehjlgdcgaaNw
namespace Go.Proofs.Ytbefoehjlgdcgaa.H
open Go.RowKit Go.Proofs.YtbefoehjlgdcgaaW.PrintWords Go.Proofs.YtbefoehjlgdcgaaW.PrintLast Go.Proofs.YtbefoehjlgdcgaaW.PrintMore
attribute [local go_sem] min2_int min_two
set_option linter.unusedVariables false
set_option linter.unusedSimpArgs false
def zr0 : Array Bool := #[false,false,false,false,false,false,false,false,false,false,false,false,false,false,false,false,false,false,false,false]
def zr1 : Array Bool := #[true,false,false,false,false,false,false,false,false,false,false,false,false,false,false,false,false,false,false,false]
def zr2 : Array Bool := #[true,false,true,false,false,false,false,false,false,false,false,false,false,false,false,false,false,false,false,false]
def zr3 : Array Bool := #[true,false,true,false,false,true,false,false,false,false,false,false,false,false,false,false,false,false,false,false]
def zr4 : Array Bool := #[true,false,true,false,false,true,false,false,false,true,false,false,false,false,false,false,false,false,false,false]
def zr5 : Array Bool := #[true,true,true,false,false,true,false,false,false,true,false,false,false,false,false,false,false,false,false,false]
def zr6 : Array Bool := #[true,true,true,false,false,true,true,false,false,true,false,false,false,false,false,false,false,false,false,false]
def zr7 : Array Bool := #[true,true,true,false,false,true,true,false,false,true,true,false,false,false,false,false,false,false,false,false]
def zr8 : Array Bool := #[true,true,true,false,false,true,true,false,false,true,true,true,false,false,false,false,false,false,false,false]
def zr9 : Array Bool := #[true,true,true,true,true,true,true,true,true,true,true,true,true,false,true,false,false,false,false,false]
def zr10 : Array Bool := #[true,true,true,true,false,true,true,false,false,true,true,true,false,false,false,false,false,false,false,false]
def zr11 : Array Bool := #[true,true,true,false,false,true,true,true,false,true,true,true,false,false,false,false,false,false,false,false]
def zr12 : Array Bool := #[true,true,true,false,false,true,true,false,false,true,true,true,true,false,false,false,false,false,false,false]
def zr13 : Array Bool := #[true,true,true,true,true,true,true,false,false,true,true,true,false,false,false,false,false,false,false,false]
def zr14 : Array Bool := #[true,true,true,true,false,true,true,true,false,true,true,true,false,false,false,false,false,false,false,false]
def zr15 : Array Bool := #[true,true,true,true,false,true,true,false,false,true,true,true,true,false,false,false,false,false,false,false]
def zr16 : Array Bool := #[true,true,true,true,true,true,true,false,false,true,true,true,false,false,true,false,false,false,false,false]
def zr17 : Array Bool := #[true,true,true,true,true,true,true,true,false,true,true,true,false,false,true,false,false,false,false,false]
def zr18 : Array Bool := #[true,true,true,true,true,true,true,false,false,true,true,true,true,false,true,false,false,false,false,false]
def zr19 : Array Bool := #[true,true,true,true,true,true,true,true,true,true,true,true,false,false,true,false,false,false,false,false]
def zr20 : Array Bool := #[true,true,true,true,true,true,true,true,false,true,true,true,true,false,true,false,false,false,false,false]
def zr21 : Array Bool := #[true,true,true,true,true,true,true,true,false,true,true,true,false,false,false,false,false,false,false,false]
def zr22 : Array Bool := #[true,true,true,true,false,true,true,true,false,true,true,true,true,false,false,false,false,false,false,false]
def zr23 : Array Bool := #[true,true,true,true,true,true,true,true,false,true,true,true,true,false,false,false,false,false,false,false]
def zr24 : Array Bool := #[true,true,true,true,true,true,true,false,false,true,true,true,true,false,false,false,false,false,false,false]
def zr25 : Array Bool := #[true,true,true,false,false,true,true,true,false,true,true,true,true,false,false,false,false,false,false,false]
def zr26 : Array Bool := #[true,true,true,true,true,true,true,true,true,true,true,true,true,true,true,false,false,false,false,false]
def zr27 : Array Bool := #[true,true,true,true,true,true,true,true,true,true,true,true,true,true,true,true,false,false,false,false]
def zr28 : Array Bool := #[true,true,true,true,true,true,true,true,true,true,true,true,true,true,true,true,true,false,false,false]
def zr29 : Array Bool := #[true,true,true,true,true,true,true,true,true,true,true,true,true,true,true,true,true,true,false,false]
def zr30 : Array Bool := #[true,true,true,true,true,true,true,true,true,true,true,true,true,true,true,true,true,true,true,false]
def zr31 : Array Bool := #[true,true,true,true,true,true,true,true,true,true,true,true,true,true,true,true,true,true,true,true]
theorem zrI {α : Type} (l : List α) (i : Nat) (a : α) : l.toArray.setIfInBounds i a = (l.set i a).toArray := List.setIfInBounds_toArray l i a
theorem zrs0 {α : Type} (x : α) (l : List α) (a : α) : (x :: l).set 0 a = a :: l := rfl
theorem zrs1 {α : Type} (x : α) (l : List α) (i : Nat) (a : α) : (x :: l).set (i + 1) a = x :: l.set i a := rfl
open Go.Shelf Go.Proofs.Ytbefoehjlgdcgaa.Rf
attribute [local go_sem] Oper.semAt_some
def table_roll.T4 : Bool × List (List Nat × List Nat) := (true,[([],[]),([0],[0]),([],[]),([2],[2]),([1,3],[1,3]),([],[]),([5],[5]),([],[]),([6,7,4],[6,7]),([],[]),([9],[9]),([],[]),([11],[11]),([10,12,8],[10,12]),([0,1,2,3,4,5,6,9,10],[]),([14,4,13,0,1,2,3,4,5,6,9,10],[4,14]),([0,1,2,3,4,5,6,7,8,9,10,14,15],[]),([16,8,15,0,1,2,3,4,5,6,7,8,9,10,14,15],[8,16]),([0,1,2,3,4,5,6,7,8,9,10,11,12,13,14,15,16,17],[]),([18,13,17,0,1,2,3,4,5,6,7,8,9,10,11,12,13,14,15,16,17],[13,18])])
def table_roll.B4 : List Nat := [0,1,0,4,15,0,32,0,255,0,512,0,2048,8191,1663,32767,65535,131071,262143,524287]
theorem table_roll.tab4 : rtab .any (opsOf Try.f30 4) = table_roll.T4 := by kernel_rfl
theorem table_roll.bits4 : waitsOk table_roll.T4.2 table_roll.B4 = true := by kernel_rfl
set_option maxHeartbeats 8000000 in
set_option maxRecDepth 100000 in
theorem roll_calls (g s : Int) (Ao : Option Addr) (co : Nat) (o : List Int) (Al : Option Addr) (cl : Nat) (l : List Int) (Af : Option Addr) (cf : Nat) (f : List Int) (first : Int) (w : World) (hT : TC w Ao co o Al cl l Af cf f) (hol : o.length ≤ 20 ∧ l.length ≤ 1000 ∧ f.length ≤ 1000) (hg : 0 ≤ g ∧ g ≤ 16) :
  Calls Try.prog 30 #[.agg #[.int .i64 g,.int .i64 s,.slice Ao o.length co,.slice Al l.length cl,.slice Af f.length cf],.int .u64 first] w fun e w' => Below w.heap.size w w' ∧ ((frk g.toNat o = [] ∧ e = .returned (.tuple #[.agg #[.int .i64 0,.int .i64 0,.slice none 0 0,.slice none 0 0,.slice none 0 0],.int .i64 10])) ∨ ∃ x rest A1 d1 A2 d2 A3 d3,frk g.toNat o = x :: rest ∧ e = .returned (.tuple #[.agg #[.int .i64 g,.int .i64 s,.slice A1 (o ++ [x]).length d1,.slice A2 (l ++ [0]).length d2,.slice A3 (f ++ [first]).length d3],.int .i64 0]) ∧ TR w' w.heap.size A1 d1 (o ++ [x]) A2 d2 (l ++ [0]) A3 d3 (f ++ [first])) := by
 have HT := Aside0.mk hT
 have HL := Aside0.mk hol
 have HG := Aside0.mk hg
 clear hT hol hg
 refine (callsIn_wide (n := 5)).1 ?_
 refine callsIn_of_wp_marks Try.func30 rfl trivial ?_ rfl
 refine wpIn_wide.2 ?_
 simp only [Try.ntmps30,List.size_toArray,List.length_cons,List.length_nil,Nat.reduceAdd,Nat.reduceSub,Array.replicate_succ,Array.replicate_zero,List.push_toArray,List.append_toArray,List.nil_append,List.cons_append]
 go_upto_region 1 with fail
 obtain ⟨W1,hW1⟩ : ∃ W1,W1 = ((((w.alloc (.cells #[.int .i64 g,.int .i64 s,.slice Ao o.length co,.slice Al l.length cl,.slice Af f.length cf] 28)).alloc (.cells #[.int .u64 first] 23)).alloc (.cells #[.int .i64 0,.int .i64 0,.slice none 0 0,.slice none 0 0,.slice none 0 0] 28)).alloc (.cells #[.int .i64 0] 29)) := ⟨_,rfl⟩
 rw [← hW1]
 obtain ⟨gs,hgs⟩ : ∃ g_,g_ = w.heap.size := ⟨_,rfl⟩
 obtain ⟨gf,hgf⟩ : ∃ g_,g_ = w.heap.size + 1 := ⟨_,rfl⟩
 obtain ⟨gr,hgr⟩ : ∃ g_,g_ = w.heap.size + 2 := ⟨_,rfl⟩
 obtain ⟨ge,hge⟩ : ∃ g_,g_ = w.heap.size + 3 := ⟨_,rfl⟩
 have HXs : Aside0 (W1.heap[gs]? = some (.cells #[.int .i64 g,.int .i64 s,.slice Ao o.length co,.slice Al l.length cl,.slice Af f.length cf] 28 (0,0))) := ⟨by rw [hW1,hgs]; exact blk_alloc (blk_alloc (blk_alloc (blk_new _ _) _) _) _⟩
 have HXf : Aside0 (W1.heap[gf]? = some (.cells #[.int .u64 first] 23 (0,0))) := ⟨by rw [hW1,hgf]; have := blk_alloc (blk_alloc (blk_new (w.alloc (.cells #[.int .i64 g,.int .i64 s,.slice Ao o.length co,.slice Al l.length cl,.slice Af f.length cf] 28)) (.cells #[.int .u64 first] 23)) (.cells #[.int .i64 0,.int .i64 0,.slice none 0 0,.slice none 0 0,.slice none 0 0] 28)) (.cells #[.int .i64 0] 29); simpa using this⟩
 have HXr : Aside0 (W1.heap[gr]? = some (.cells #[.int .i64 0,.int .i64 0,.slice none 0 0,.slice none 0 0,.slice none 0 0] 28 (0,0))) := ⟨by rw [hW1,hgr]; have := blk_alloc (blk_new ((w.alloc (.cells #[.int .i64 g,.int .i64 s,.slice Ao o.length co,.slice Al l.length cl,.slice Af f.length cf] 28)).alloc (.cells #[.int .u64 first] 23)) (.cells #[.int .i64 0,.int .i64 0,.slice none 0 0,.slice none 0 0,.slice none 0 0] 28)) (.cells #[.int .i64 0] 29); simpa using this⟩
 have HXe : Aside0 (W1.heap[ge]? = some (.cells #[.int .i64 0] 29 (0,0))) := ⟨by rw [hW1,hge]; have := blk_new (((w.alloc (.cells #[.int .i64 g,.int .i64 s,.slice Ao o.length co,.slice Al l.length cl,.slice Af f.length cf] 28)).alloc (.cells #[.int .u64 first] 23)).alloc (.cells #[.int .i64 0,.int .i64 0,.slice none 0 0,.slice none 0 0,.slice none 0 0] 28)) (.cells #[.int .i64 0] 29); simpa using this⟩
 have HB : Aside0 (Below w.heap.size w W1) := ⟨by rw [hW1]; exact below_alloc (below_alloc (below_alloc (below_alloc (Below.refl _ _) _) _) _) _⟩
 have NR : Aside0 (gr ≠ ge ∧ ge ≠ gr) := ⟨by omega⟩
 have NR3 : Aside0 (w.heap.size ≤ gr ∧ w.heap.size ≤ ge) := ⟨by omega⟩
 rw [← hge,← hgr,← hgf,← hgs]
 clear hW1 hge hgr hgf hgs
 have s_0 : W1.cell? ⟨gs,0,none⟩ = some (.int .i64 g) := cL HXs 0 rfl
 have s_1 : W1.cell? ⟨gs,1,none⟩ = some (.int .i64 s) := cL HXs 1 rfl
 have s_2 : W1.cell? ⟨gs,2,none⟩ = some (.slice Ao o.length co) := cL HXs 2 rfl
 have s_3 : W1.cell? ⟨gs,3,none⟩ = some (.slice Al l.length cl) := cL HXs 3 rfl
 have s_4 : W1.cell? ⟨gs,4,none⟩ = some (.slice Af f.length cf) := cL HXs 4 rfl
 go_wp2_with fail
 clear s_0 s_1 s_2 s_3 s_4
 refine (own_calls g s Ao co o Al cl l Af cf f _ (TC_below HT.out HB.out) ⟨by have := HL.out.1; omega,HL.out.2⟩).mono ?_
 rintro e_ w2 ⟨A1,d1,A2,d2,A3,d3,rfl,hr,hb⟩
 have NF : Aside0 (∀ k,(Value.slice A3 f.length d3).ownBlock = some k → k ≠ gf) := ⟨fun k hk => by have := Kd.R_base (TR_f hr) k hk; have := blk_lt HXf.out; omega⟩
 have HTR := Aside0.mk (TR_lower hr (below_size HB.out))
 replace HXs := mB HXs hb
 replace HXf := mB HXf hb
 replace HXr := mB HXr hb
 replace HXe := mB HXe hb
 replace HB := mS HB hb
 clear hr hb
 go_upto_region 2 with ((with_reducible refine gate_dst (N := 6) rfl ?_); refine box_event ?hg (N := 6) ?hd (cs := #[.int .i64 0,.int .i64 0,.slice none 0 0,.slice none 0 0,.slice none 0 0]) (t := 28) ?hr ?_; (case hd => rfl); (case hg => rfl); (case hr => first | (go_simp; done) | (go_simp; rfl)); intro go hgo w3 hbox hbb; have HBO := Aside0.mk hbox; have HBB := Aside0.mk hbb; have HGO := Aside0.mk hgo; have y0 : w3.cell? ⟨go,0,none⟩ = some (.int .i64 0) := (blk_cell hbox 0).trans rfl; have y1 : w3.cell? ⟨go,1,none⟩ = some (.int .i64 0) := (blk_cell hbox 1).trans rfl; have y2 : w3.cell? ⟨go,2,none⟩ = some (.slice none 0 0) := (blk_cell hbox 2).trans rfl; have y3 : w3.cell? ⟨go,3,none⟩ = some (.slice none 0 0) := (blk_cell hbox 3).trans rfl; have y4 : w3.cell? ⟨go,4,none⟩ = some (.slice none 0 0) := (blk_cell hbox 4).trans rfl; have yf0 := blk_frozen hbox 0; have yf1 := blk_frozen hbox 1; have yf2 := blk_frozen hbox 2; have yf3 := blk_frozen hbox 3; have yf4 := blk_frozen hbox 4; clear hbox hbb hgo)
 clear y0 y1 y2 y3 y4 yf0 yf1 yf2 yf3 yf4
 obtain ⟨W4,hW⟩ : ∃ W_,W_ = (((((w3.setCell ⟨go,0,none⟩ (.int .i64 g)).setCell ⟨go,1,none⟩ (.int .i64 s)).setCell ⟨go,2,none⟩ (.slice A1 o.length d1)).setCell ⟨go,3,none⟩ (.slice A2 l.length d2)).setCell ⟨go,4,none⟩ (.slice A3 f.length d3)) := ⟨_,rfl⟩
 rw [← hW]
 have HGO2 : Aside0 (w.heap.size ≤ go) := ⟨by rw [HGO.out]; exact below_size HB.out⟩
 have NO : Aside0 (gr ≠ go ∧ ge ≠ go ∧ gf ≠ go) := ⟨by rw [HGO.out]; exact ⟨Nat.ne_of_lt (blk_lt HXr.out),Nat.ne_of_lt (blk_lt HXe.out),Nat.ne_of_lt (blk_lt HXf.out)⟩⟩
 have NS : Aside0 (gs ≠ go) := ⟨by rw [HGO.out]; exact Nat.ne_of_lt (blk_lt HXs.out)⟩
 replace HTR := Aside0.mk (tr5 hW HBO.out (by decide) (by decide) (TR_below HTR.out HBB.out))
 replace HXs := Aside0.mk (far5 hW (blk_below HXs.out HBB.out) NS.out)
 replace HXr := Aside0.mk (far5 hW (blk_below HXr.out HBB.out) NO.out.1)
 replace HXe := Aside0.mk (far5 hW (blk_below HXe.out HBB.out) NO.out.2.1)
 replace HXf := Aside0.mk (far5 hW (blk_below HXf.out HBB.out) NO.out.2.2)
 have HXo := Aside0.mk (set5 hW HBO.out)
 replace HB := Aside0.mk (below5 hW (below_step HB.out HBB.out) HGO2.out)
 clear hW HBO HBB HGO NS
 have s_0 : W4.cell? ⟨gs,0,none⟩ = some (.int .i64 g) := cL HXs 0 rfl
 have s_1 : W4.cell? ⟨gs,1,none⟩ = some (.int .i64 s) := cL HXs 1 rfl
 have s_2 : W4.cell? ⟨gs,2,none⟩ = some (.slice Ao o.length co) := cL HXs 2 rfl
 have s_3 : W4.cell? ⟨gs,3,none⟩ = some (.slice Al l.length cl) := cL HXs 3 rfl
 have s_4 : W4.cell? ⟨gs,4,none⟩ = some (.slice Af f.length cf) := cL HXs 4 rfl
 go_wp2_with fail
 clear s_0 s_1 s_2 s_3 s_4
 refine (free_calls g s (.slice Ao o.length co) (.slice Al l.length cl) (.slice Af f.length cf) _).mono ?_
 rintro e_ w5 ⟨rfl,hw5⟩
 obtain ⟨Bt,hBt⟩ : ∃ b,b = W4.heap.size := ⟨_,rfl⟩
 rw [← hBt]
 have hb : Below W4.heap.size W4 w5 := by rw [hw5]; exact below_alloc (Below.refl _ _) _
 have HXt : Aside0 (w5.heap[Bt]? = some (.cells #[.int .i64 g,.int .i64 s,.slice Ao o.length co,.slice Al l.length cl,.slice Af f.length cf] 28 (0,0))) := ⟨by rw [hw5,hBt]; exact blk_new _ _⟩
 replace HTR := Aside0.mk (TR_below HTR.out hb)
 replace HXo := mB HXo hb
 replace HXr := mB HXr hb
 replace HXe := mB HXe hb
 replace HXf := mB HXf hb
 replace HB := mS HB hb
 clear hb hw5 hBt HXs
 have HC := Aside0.mk (TC_below HT.out HB.out)
 have HSEQ := Aside0.mk (free_stops (5 - 1) w5 Bt g s Ao co o _ _ HXt.out HC.out.1.1 HC.out.1.2 HG.out.1 HG.out.2 HL.out.1)
 clear HXt HC HT
 go_wp2_with fail
 rename_i Q_ K_ hK_
 refine (wpIn_wide (n := 5)).1 ?_
 refine wpIn_rangeFunc_ownF rfl (by decide) (gf := 48) (lb := #[.pointer (some ⟨Bt,0,none⟩)]) rfl trivial (enters_of Try.func48 (by kernel_rfl) rfl) HSEQ.out belowK_t (belowK_b (w := w5) (Nat.le_refl _)) (Below.refl _ _) (fun _ => rfl)
  (fun pre W => pre = [] ∧ TR W w.heap.size A1 d1 o A2 d2 l A3 d3 f ∧ W.heap[go]? = some (.cells #[.int .i64 g,.int .i64 s,.slice A1 o.length d1,.slice A2 l.length d2,.slice A3 f.length d3] 28 (0,0)) ∧ W.heap[gr]? = some (.cells #[.int .i64 0,.int .i64 0,.slice none 0 0,.slice none 0 0,.slice none 0 0] 28 (0,0)) ∧ W.heap[ge]? = some (.cells #[.int .i64 0] 29 (0,0)) ∧ W.heap[gf]? = some (.cells #[.int .u64 first] 23 (0,0)) ∧ Below w.heap.size w W)
  (fun c pre W => c = Code.ret ∧ ∃ x,pre = [x] ∧ ∃ B1 e1 B2 e2 B3 e3,TR W w.heap.size B1 e1 (o ++ [x]) B2 e2 (l ++ [0]) B3 e3 (f ++ [first]) ∧ W.heap[gr]? = some (.cells #[.int .i64 g,.int .i64 s,.slice B1 (o ++ [x]).length e1,.slice B2 (l ++ [0]).length e2,.slice B3 (f ++ [first]).length e3] 28 (0,0)) ∧ W.heap[ge]? = some (.cells #[.int .i64 0] 29 (0,0)) ∧ Below w.heap.size w W)
  (fun s_ A_ B_ row hs hg hr => ?own)
  (fun c s_ A_ B_ row hs hg hr => ?ownx)
  ⟨rfl,HTR.out,HXo.out,HXr.out,HXe.out,HXf.out,HB.out⟩
  (fun x => { tmps := #[.agg #[.int .i64 g,.int .i64 s,.slice Ao o.length co,.slice Al l.length cl,.slice Af f.length cf],.int .u64 first,.pointer (some ⟨gs,0,none⟩),.pointer (some ⟨gf,0,none⟩),.pointer (some ⟨gr,0,none⟩),.pointer (some ⟨ge,0,none⟩),.pointer (some ⟨go,0,none⟩),.int .i64 x,.agg #[.int .i64 g,.int .i64 s,.slice Ao o.length co,.slice Al l.length cl,.slice Af f.length cf],.agg #[.int .i64 g,.int .i64 s,.slice A1 o.length d1,.slice A2 l.length d2,.slice A3 f.length d3],.agg #[.int .i64 g,.int .i64 s,.slice Ao o.length co,.slice Al l.length cl,.slice Af f.length cf],.func (.func 48) #[] #[.pointer (some ⟨Bt,0,none⟩)],.int .i64 x,undef,undef,undef,undef,undef,undef,undef,undef,undef,undef,undef,undef,undef,undef,undef,undef,undef,undef,undef],defers := [] }) ?assign ?body ?done ?stop
 case own =>
  obtain ⟨h0,h1,h2,h3,h4,h5,h6⟩ := hs
  have hr2 := fun r e => (hr r e).2
  exact ⟨h0,TR_own h1 hg hr2,blk_own h2 hg hr2,blk_own h3 hg hr2,blk_own h4 hg hr2,blk_own h5 hg hr2,h6.grown hg (below_size h6) (fun k hk => Nat.le_trans (below_size HB.out) (hr k hk).1)⟩
 case ownx =>
  obtain ⟨h0,x,hx,B1,e1,B2,e2,B3,e3,h1,h2,h3,h6⟩ := hs
  have hr2 := fun r e => (hr r e).2
  exact ⟨h0,x,hx,B1,e1,B2,e2,B3,e3,TR_own h1 hg hr2,blk_own h2 hg hr2,blk_own h3 hg hr2,h6.grown hg (below_size h6) (fun k hk => Nat.le_trans (below_size HB.out) (hr k hk).1)⟩
 case assign =>
  intro l_ x W K hK
  gi_wp2
  exact hK
 case body =>
  rintro l_ pre x W ⟨rfl,hTR,hXo,hXr,hXe,hXf,hB⟩ hlen
  have HTR := Aside0.mk hTR
  have HXo := Aside0.mk hXo
  have HXr := Aside0.mk hXr
  have HXe := Aside0.mk hXe
  have HXf := Aside0.mk hXf
  have HB := Aside0.mk hB
  have HK := Aside0.mk (KeepsOthers.drew W)
  clear hTR hXo hXr hXe hXf hB hlen
  refine wpIn_block ?_
  refine wpIn_seq ?_
  refine start_in (n := 20) (S := fun w' => w'.cell? ⟨go,2,none⟩ = some (.slice A1 o.length d1) ∧ w'.cell? ⟨go,3,none⟩ = some (.slice A2 l.length d2) ∧ w'.cell? ⟨go,4,none⟩ = some (.slice A3 f.length d3) ∧ w'.cell? ⟨gf,0,none⟩ = some (.int .u64 first)) (ds := [15,17,19]) zr0 (by kernel_rfl) (by kernel_rfl) rfl rfl ⟨((blk_cell (blk_drew HXo.out) 2).trans rfl),((blk_cell (blk_drew HXo.out) 3).trans rfl),((blk_cell (blk_drew HXo.out) 4).trans rfl),((blk_cell (blk_drew HXf.out) 0).trans rfl)⟩ (fun hHeld => ?_)
  refine with_tabW table_roll.tab4 table_roll.bits4 (fun HT_ HW_ => ?_)
  replace HXo := Aside0.mk (blk_drew HXo.out)
  replace HXr := Aside0.mk (blk_drew HXr.out)
  replace HXe := Aside0.mk (blk_drew HXe.out)
  replace HXf := Aside0.mk (blk_drew HXf.out)
  replace HTR := Aside0.mk (TR_below HTR.out (below_drew (Below.refl _ _)))
  replace HB := Aside0.mk (below_drew HB.out)
  generalize W.drew = wd1 at *
  refine pure_ (i := 0) (N := some 13) (v := ?_) (a' := ?_) zr1 rfl rfl (any_of HT_.out (by kernel_rfl)) (fun _ _ _ h => h) (Or.inl ⟨by rfl,?_⟩) ?_ ?_
  rotate_left
  ·intro w'
   go_simp
   with_reducible rfl
  rotate_left
  ·simp only [Act.put,zrI,zrs0,zrs1,i64_w,i32_w]
   rfl
  refine pure_ (i := 2) (N := some 15) (v := ?_) (a' := ?_) zr2 rfl rfl (any_of HT_.out (by kernel_rfl)) (fun _ _ _ h => h) (Or.inl ⟨by rfl,?_⟩) ?_ ?_
  rotate_left
  ·intro w'
   go_simp
   with_reducible rfl
  rotate_left
  ·simp only [Act.put,zrI,zrs0,zrs1,i64_w,i32_w]
   rfl
  refine pure_ (i := 5) (N := some 18) (v := ?_) (a' := ?_) zr3 rfl rfl (any_of HT_.out (by kernel_rfl)) (fun _ _ _ h => h) (Or.inl ⟨by rfl,?_⟩) ?_ ?_
  rotate_left
  ·intro w'
   go_simp
   with_reducible rfl
  rotate_left
  ·simp only [Act.put,zrI,zrs0,zrs1,i64_w,i32_w]
   rfl
  refine pure_ (i := 9) (N := some 22) (v := ?_) (a' := ?_) zr4 rfl rfl (any_of HT_.out (by kernel_rfl)) (fun _ _ _ h => h) (Or.inl ⟨by rfl,?_⟩) ?_ ?_
  rotate_left
  ·intro w'
   go_simp
   with_reducible rfl
  rotate_left
  ·simp only [Act.put,zrI,zrs0,zrs1,i64_w,i32_w]
   rfl
  refine take_ (i := 1) (N := some 14) (v := ?_) (a' := ?_) zr5 rfl rfl (take_ofW HT_.out HW_.out (by kernel_rfl)) (fun _ _ _ h => h) (Or.inl ⟨by rfl,?_⟩) hHeld ?_ ?_
  rotate_left
  ·rintro w' ⟨s0,s1,s2,s3⟩
   go_simp
   with_reducible rfl
  rotate_left
  ·simp only [Act.put,zrI,zrs0,zrs1,i64_w,i32_w]
   rfl
  refine take_ (i := 6) (N := some 19) (v := ?_) (a' := ?_) zr6 rfl rfl (take_ofW HT_.out HW_.out (by kernel_rfl)) (fun _ _ _ h => h) (Or.inl ⟨by rfl,?_⟩) hHeld ?_ ?_
  rotate_left
  ·rintro w' ⟨s0,s1,s2,s3⟩
   go_simp
   with_reducible rfl
  rotate_left
  ·simp only [Act.put,zrI,zrs0,zrs1,i64_w,i32_w]
   rfl
  refine take_ (i := 10) (N := some 23) (v := ?_) (a' := ?_) zr7 rfl rfl (take_ofW HT_.out HW_.out (by kernel_rfl)) (fun _ _ _ h => h) (Or.inl ⟨by rfl,?_⟩) hHeld ?_ ?_
  rotate_left
  ·rintro w' ⟨s0,s1,s2,s3⟩
   go_simp
   with_reducible rfl
  rotate_left
  ·simp only [Act.put,zrI,zrs0,zrs1,i64_w,i32_w]
   rfl
  refine take_ (i := 11) (N := some 24) (v := ?_) (a' := ?_) zr8 rfl rfl (take_ofW HT_.out HW_.out (by kernel_rfl)) (fun _ _ _ h => h) (Or.inl ⟨by rfl,?_⟩) hHeld ?_ ?_
  rotate_left
  ·rintro w' ⟨s0,s1,s2,s3⟩
   go_simp
   with_reducible rfl
  rotate_left
  ·simp only [Act.put,zrI,zrs0,zrs1,i64_w,i32_w]
   rfl
  refine join_ (σ := Value × Value × Value × Value × Value) 6 zr9 (fun s_ => [(16,s_.1),(20,s_.2.1),(25,s_.2.2.1),(17,s_.2.2.2.1),(21,s_.2.2.2.2),(27,.pointer (some ⟨go,2,none⟩))]) (fun s_ w' => ∃ h12 B1 e1 B2 e2,s_.2.2.1 = .slice (some ⟨h12,0,none⟩) 1 1 ∧ s_.2.2.2.1 = .slice B1 (o ++ [x]).length e1 ∧ s_.2.2.2.2 = .slice B2 (l ++ [0]).length e2 ∧ TR w' w.heap.size B1 e1 (o ++ [x]) B2 e2 (l ++ [0]) A3 d3 f ∧ w'.heap[go]? = some (.cells #[.int .i64 g,.int .i64 s,.slice A1 o.length d1,.slice A2 l.length d2,.slice A3 f.length d3] 28 (0,0)) ∧ w'.heap[gr]? = some (.cells #[.int .i64 0,.int .i64 0,.slice none 0 0,.slice none 0 0,.slice none 0 0] 28 (0,0)) ∧ w'.heap[ge]? = some (.cells #[.int .i64 0] 29 (0,0)) ∧ w'.heap[gf]? = some (.cells #[.int .u64 first] 23 (0,0)) ∧ Below w.heap.size w w' ∧ KeepsOthers W w' ∧ Kd.R (Kd.int .u64) 23 w' w.heap.size (fun _ => True) (.slice (some ⟨h12,0,none⟩) 1 1) [first]) ?_ ?_
  rotate_left
  ·intro hCont
   refine three_ (i := 3) (j := 7) (k := 12) (Ni := some 16) (Nj := some 20) (Nk := some 25) zr10 zr11 zr12 rfl rfl rfl rfl rfl rfl (three_of HT_.out (by kernel_rfl)) (by decide) (by decide) (by decide) (fun K hK => ?_) (fun K hK => ?_) (fun K hK => ?_)
   ·skip
    refine value_ (w1 := ?_) (v := ?_) (by rfl) rfl ?_ ?_
    rotate_left 2
    ·go_simp
     constructor
     ·rfl
     ·rfl
    obtain ⟨wr1,hW⟩ : ∃ W_,W_ = wd1.alloc (.cells #[.int .i64 x] 3) := ⟨_,rfl⟩
    obtain ⟨h3,hh⟩ : ∃ g_,g_ = wd1.heap.size := ⟨_,rfl⟩
    rw [← hW,← hh]
    have hb_ : Below wd1.heap.size wd1 wr1 := by rw [hW]; exact below_alloc (Below.refl _ _) _
    have H3 : Aside0 (Kd.R (Kd.int .i64) 3 wr1 w.heap.size (fun _ => True) (.slice (some ⟨h3,0,none⟩) 1 1) [x]) := ⟨by rw [hW,hh]; exact R_one (below_size HB.out)⟩
    have q_ : KeepsOthers W wr1 := by rw [hW]; exact HK.out.trans (KeepsOthers.alloc wd1 _)
    replace HK := Aside0.mk (q_)
    replace HTR := Aside0.mk (TR_below HTR.out hb_)
    replace HXo := mB HXo hb_
    replace HXr := mB HXr hb_
    replace HXe := mB HXe hb_
    replace HXf := mB HXf hb_
    replace HB := mS HB hb_
    clear hW hh hb_ q_
    refine hK.out _ _ ⟨(cL HXo 2 rfl),(cL HXo 3 rfl),(cL HXo 4 rfl),(cL HXf 0 rfl)⟩ (fun hHeld => ?_)
    clear hK K
    refine norm_ (a' := ?_) ?_ ?_
    rotate_left
    ·show Act.put _ (some 16) _ = _
     simp only [Act.put,zrI,zrs0,zrs1,i64_w,i32_w]
     rfl
    refine three_ (i := 4) (j := 7) (k := 12) (Ni := some 17) (Nj := some 20) (Nk := some 25) zr13 zr14 zr15 rfl rfl rfl rfl rfl rfl (three_of HT_.out (by kernel_rfl)) (by decide) (by decide) (by decide) (fun K hK => ?_) (fun K hK => ?_) (fun K hK => ?_)
    ·skip
     refine Kd.R_append_rows_step (Kd.int .i64) (w0 := w) w.heap.size (by rfl) (.tmp 14) (.tmp 16) 25 3 (.int .i64 0) 8 rfl Try.underlying25 info3 rfl (by decide) (by omega) (.slice A1 o.length d1) o [x] _ _ _ (fun _ => True) (fun _ => False) rfl rfl ?aO ?aR (fun _ _ h => h) (fun _ h => h.elim) ?aF ?aB ?aS ?aL ?_
     (case aR => exact one_C H3.out)
     (case aB => exact HB.out)
     (case aF => exact (fun _ _ => trivial))
     (case aO => exact TR_o HTR.out)
     (case aS => exact below_size HB.out)
     (case aL => have := HL.out; omega)
     intro v_ wr2 ho_ hb_ hg_ hat_
     replace HXo := Aside0.mk (blk_grown HXo.out hg_ (Kd.R_ne (TR_o HTR.out) HXo.out (by decide)))
     replace HXr := Aside0.mk (blk_grown HXr.out hg_ (Kd.R_ne (TR_o HTR.out) HXr.out (by decide)))
     replace HXe := Aside0.mk (blk_grown HXe.out hg_ (Kd.R_ne (TR_o HTR.out) HXe.out (by decide)))
     replace HXf := Aside0.mk (blk_grown HXf.out hg_ (Kd.R_ne (TR_o HTR.out) HXf.out (by decide)))
     replace HK := Aside0.mk (keeps_row HK.out (TR_o HTR.out) hg_)
     replace HB := Aside0.mk (hb_)
     obtain ⟨B1,e1,hv_,hT_⟩ := app_o HTR.out ho_ hg_ hat_
     replace HTR := Aside0.mk hT_
     subst hv_
     clear ho_ hb_ hg_ hat_ hT_ H3
     refine hK.out _ _ ⟨(cL HXo 2 rfl),(cL HXo 3 rfl),(cL HXo 4 rfl),(cL HXf 0 rfl)⟩ (fun hHeld => ?_)
     clear hK K
     refine norm_ (a' := ?_) ?_ ?_
     rotate_left
     ·show Act.put _ (some 17) _ = _
      simp only [Act.put,zrI,zrs0,zrs1,i64_w,i32_w]
      rfl
     refine pure_ (i := 14) (N := some 27) (v := ?_) (a' := ?_) zr16 rfl rfl (any_of HT_.out (by kernel_rfl)) (fun _ _ _ h => h) (Or.inl ⟨by rfl,?_⟩) ?_ ?_
     rotate_left
     ·intro w'
      go_simp
      with_reducible rfl
     rotate_left
     ·simp only [Act.put,zrI,zrs0,zrs1,i64_w,i32_w]
      rfl
     refine two_ (i := 7) (j := 12) (Ni := some 20) (Nj := some 25) zr17 zr18 rfl rfl rfl rfl (two_of HT_.out (by kernel_rfl)) (by decide) (by decide) (fun K hK => ?_) (fun K hK => ?_)
     ·skip
      refine value_ (w1 := ?_) (v := ?_) (by rfl) rfl ?_ ?_
      rotate_left 2
      ·go_simp
       constructor
       ·rfl
       ·rfl
      obtain ⟨wr3,hW⟩ : ∃ W_,W_ = wr2.alloc (.cells #[.int .i64 0] 3) := ⟨_,rfl⟩
      obtain ⟨h7,hh⟩ : ∃ g_,g_ = wr2.heap.size := ⟨_,rfl⟩
      rw [← hW,← hh]
      have hb_ : Below wr2.heap.size wr2 wr3 := by rw [hW]; exact below_alloc (Below.refl _ _) _
      have H7 : Aside0 (Kd.R (Kd.int .i64) 3 wr3 w.heap.size (fun _ => True) (.slice (some ⟨h7,0,none⟩) 1 1) [0]) := ⟨by rw [hW,hh]; exact R_one (below_size HB.out)⟩
      have q_ : KeepsOthers W wr3 := by rw [hW]; exact HK.out.trans (KeepsOthers.alloc wr2 _)
      replace HK := Aside0.mk (q_)
      replace HTR := Aside0.mk (TR_below HTR.out hb_)
      replace HXo := mB HXo hb_
      replace HXr := mB HXr hb_
      replace HXe := mB HXe hb_
      replace HXf := mB HXf hb_
      replace HB := mS HB hb_
      clear hW hh hb_ q_
      refine hK.out _ _ ⟨(cL HXo 2 rfl),(cL HXo 3 rfl),(cL HXo 4 rfl),(cL HXf 0 rfl)⟩ (fun hHeld => ?_)
      clear hK K
      refine norm_ (a' := ?_) ?_ ?_
      rotate_left
      ·show Act.put _ (some 20) _ = _
       simp only [Act.put,zrI,zrs0,zrs1,i64_w,i32_w]
       rfl
      refine two_ (i := 8) (j := 12) (Ni := some 21) (Nj := some 25) zr19 zr20 rfl rfl rfl rfl (two_of HT_.out (by kernel_rfl)) (by decide) (by decide) (fun K hK => ?_) (fun K hK => ?_)
      ·skip
       refine Kd.R_append_rows_step (Kd.int .i64) (w0 := w) w.heap.size (by rfl) (.tmp 19) (.tmp 20) 25 3 (.int .i64 0) 8 rfl Try.underlying25 info3 rfl (by decide) (by omega) (.slice A2 l.length d2) l [0] _ _ _ (fun _ => True) (fun _ => False) rfl rfl ?aO ?aR (fun _ _ h => h) (fun _ h => h.elim) ?aF ?aB ?aS ?aL ?_
       (case aR => exact one_C H7.out)
       (case aB => exact HB.out)
       (case aF => exact (fun _ _ => trivial))
       (case aO => exact TR_l HTR.out)
       (case aS => exact below_size HB.out)
       (case aL => have := HL.out; omega)
       intro v_ wr4 ho_ hb_ hg_ hat_
       replace HXo := Aside0.mk (blk_grown HXo.out hg_ (Kd.R_ne (TR_l HTR.out) HXo.out (by decide)))
       replace HXr := Aside0.mk (blk_grown HXr.out hg_ (Kd.R_ne (TR_l HTR.out) HXr.out (by decide)))
       replace HXe := Aside0.mk (blk_grown HXe.out hg_ (Kd.R_ne (TR_l HTR.out) HXe.out (by decide)))
       replace HXf := Aside0.mk (blk_grown HXf.out hg_ (Kd.R_ne (TR_l HTR.out) HXf.out (by decide)))
       replace HK := Aside0.mk (keeps_row HK.out (TR_l HTR.out) hg_)
       replace HB := Aside0.mk (hb_)
       obtain ⟨B2,e2,hv_,hT_⟩ := app_l HTR.out ho_ hg_ hat_
       replace HTR := Aside0.mk hT_
       subst hv_
       clear ho_ hb_ hg_ hat_ hT_ H7
       refine hK.out _ _ ⟨(cL HXo 2 rfl),(cL HXo 3 rfl),(cL HXo 4 rfl),(cL HXf 0 rfl)⟩ (fun hHeld => ?_)
       clear hK K
       refine norm_ (a' := ?_) ?_ ?_
       rotate_left
       ·show Act.put _ (some 21) _ = _
        simp only [Act.put,zrI,zrs0,zrs1,i64_w,i32_w]
        rfl
       refine one_ (i := 12) (N := some 25) zr9 rfl rfl (one_of HT_.out (by kernel_rfl)) (by decide) (fun K hK => ?_)
       refine value_ (w1 := ?_) (v := ?_) (by rfl) rfl ?_ ?_
       rotate_left 2
       ·go_simp
        constructor
        ·rfl
        ·rfl
       obtain ⟨wr5,hW⟩ : ∃ W_,W_ = wr4.alloc (.cells #[.int .u64 first] 23) := ⟨_,rfl⟩
       obtain ⟨h12,hh⟩ : ∃ g_,g_ = wr4.heap.size := ⟨_,rfl⟩
       rw [← hW,← hh]
       have hb_ : Below wr4.heap.size wr4 wr5 := by rw [hW]; exact below_alloc (Below.refl _ _) _
       have H12 : Aside0 (Kd.R (Kd.int .u64) 23 wr5 w.heap.size (fun _ => True) (.slice (some ⟨h12,0,none⟩) 1 1) [first]) := ⟨by rw [hW,hh]; exact R_one (below_size HB.out)⟩
       have q_ : KeepsOthers W wr5 := by rw [hW]; exact HK.out.trans (KeepsOthers.alloc wr4 _)
       replace HK := Aside0.mk (q_)
       replace HTR := Aside0.mk (TR_below HTR.out hb_)
       replace HXo := mB HXo hb_
       replace HXr := mB HXr hb_
       replace HXe := mB HXe hb_
       replace HXf := mB HXf hb_
       replace HB := mS HB hb_
       clear hW hh hb_ q_
       refine hK.out _ _ ⟨(cL HXo 2 rfl),(cL HXo 3 rfl),(cL HXo 4 rfl),(cL HXf 0 rfl)⟩ (fun hHeld => ?_)
       clear hK K
       refine norm_ (a' := ?_) ?_ ?_
       rotate_left
       ·show Act.put _ (some 25) _ = _
        simp only [Act.put,zrI,zrs0,zrs1,i64_w,i32_w]
        rfl
       exact norm_ (by first | (simp only [putAll,Act.put,zrI,zrs0,zrs1]; done) | (simp only [putAll,Act.put,zrI,zrs0,zrs1]; rfl)) (hCont (.slice (some ⟨h3,0,none⟩) 1 1,.slice (some ⟨h7,0,none⟩) 1 1,.slice (some ⟨h12,0,none⟩) 1 1,.slice B1 (o ++ [x]).length e1,.slice B2 (l ++ [0]).length e2) _ ⟨h12,B1,e1,B2,e2,rfl,rfl,rfl,HTR.out,HXo.out,HXr.out,HXe.out,HXf.out,HB.out,HK.out,H12.out⟩)
      ·skip
       refine value_ (w1 := ?_) (v := ?_) (by rfl) rfl ?_ ?_
       rotate_left 2
       ·go_simp
        constructor
        ·rfl
        ·rfl
       obtain ⟨wr4,hW⟩ : ∃ W_,W_ = wr3.alloc (.cells #[.int .u64 first] 23) := ⟨_,rfl⟩
       obtain ⟨h12,hh⟩ : ∃ g_,g_ = wr3.heap.size := ⟨_,rfl⟩
       rw [← hW,← hh]
       have hb_ : Below wr3.heap.size wr3 wr4 := by rw [hW]; exact below_alloc (Below.refl _ _) _
       have H12 : Aside0 (Kd.R (Kd.int .u64) 23 wr4 w.heap.size (fun _ => True) (.slice (some ⟨h12,0,none⟩) 1 1) [first]) := ⟨by rw [hW,hh]; exact R_one (below_size HB.out)⟩
       have q_ : KeepsOthers W wr4 := by rw [hW]; exact HK.out.trans (KeepsOthers.alloc wr3 _)
       replace HK := Aside0.mk (q_)
       replace HTR := Aside0.mk (TR_below HTR.out hb_)
       replace HXo := mB HXo hb_
       replace HXr := mB HXr hb_
       replace HXe := mB HXe hb_
       replace HXf := mB HXf hb_
       replace H7 := Aside0.mk (Kd.R_below H7.out hb_)
       replace HB := mS HB hb_
       clear hW hh hb_ q_
       refine hK.out _ _ ⟨(cL HXo 2 rfl),(cL HXo 3 rfl),(cL HXo 4 rfl),(cL HXf 0 rfl)⟩ (fun hHeld => ?_)
       clear hK K
       refine norm_ (a' := ?_) ?_ ?_
       rotate_left
       ·show Act.put _ (some 25) _ = _
        simp only [Act.put,zrI,zrs0,zrs1,i64_w,i32_w]
        rfl
       refine one_ (i := 8) (N := some 21) zr9 rfl rfl (one_of HT_.out (by kernel_rfl)) (by decide) (fun K hK => ?_)
       refine Kd.R_append_rows_step (Kd.int .i64) (w0 := w) w.heap.size (by rfl) (.tmp 19) (.tmp 20) 25 3 (.int .i64 0) 8 rfl Try.underlying25 info3 rfl (by decide) (by omega) (.slice A2 l.length d2) l [0] _ _ _ (fun _ => True) (fun _ => False) rfl rfl ?aO ?aR (fun _ _ h => h) (fun _ h => h.elim) ?aF ?aB ?aS ?aL ?_
       (case aR => exact one_C H7.out)
       (case aB => exact HB.out)
       (case aF => exact (fun _ _ => trivial))
       (case aO => exact TR_l HTR.out)
       (case aS => exact below_size HB.out)
       (case aL => have := HL.out; omega)
       intro v_ wr5 ho_ hb_ hg_ hat_
       replace HXo := Aside0.mk (blk_grown HXo.out hg_ (Kd.R_ne (TR_l HTR.out) HXo.out (by decide)))
       replace HXr := Aside0.mk (blk_grown HXr.out hg_ (Kd.R_ne (TR_l HTR.out) HXr.out (by decide)))
       replace HXe := Aside0.mk (blk_grown HXe.out hg_ (Kd.R_ne (TR_l HTR.out) HXe.out (by decide)))
       replace HXf := Aside0.mk (blk_grown HXf.out hg_ (Kd.R_ne (TR_l HTR.out) HXf.out (by decide)))
       replace HK := Aside0.mk (keeps_row HK.out (TR_l HTR.out) hg_)
       replace H12 := Aside0.mk (one_type H12.out (TR_l HTR.out) (by decide) hg_)
       replace HB := Aside0.mk (hb_)
       obtain ⟨B2,e2,hv_,hT_⟩ := app_l HTR.out ho_ hg_ hat_
       replace HTR := Aside0.mk hT_
       subst hv_
       clear ho_ hb_ hg_ hat_ hT_ H7
       refine hK.out _ _ ⟨(cL HXo 2 rfl),(cL HXo 3 rfl),(cL HXo 4 rfl),(cL HXf 0 rfl)⟩ (fun hHeld => ?_)
       clear hK K
       refine norm_ (a' := ?_) ?_ ?_
       rotate_left
       ·show Act.put _ (some 21) _ = _
        simp only [Act.put,zrI,zrs0,zrs1,i64_w,i32_w]
        rfl
       exact norm_ (by first | (simp only [putAll,Act.put,zrI,zrs0,zrs1]; done) | (simp only [putAll,Act.put,zrI,zrs0,zrs1]; rfl)) (hCont (.slice (some ⟨h3,0,none⟩) 1 1,.slice (some ⟨h7,0,none⟩) 1 1,.slice (some ⟨h12,0,none⟩) 1 1,.slice B1 (o ++ [x]).length e1,.slice B2 (l ++ [0]).length e2) _ ⟨h12,B1,e1,B2,e2,rfl,rfl,rfl,HTR.out,HXo.out,HXr.out,HXe.out,HXf.out,HB.out,HK.out,H12.out⟩)
     ·skip
      refine value_ (w1 := ?_) (v := ?_) (by rfl) rfl ?_ ?_
      rotate_left 2
      ·go_simp
       constructor
       ·rfl
       ·rfl
      obtain ⟨wr3,hW⟩ : ∃ W_,W_ = wr2.alloc (.cells #[.int .u64 first] 23) := ⟨_,rfl⟩
      obtain ⟨h12,hh⟩ : ∃ g_,g_ = wr2.heap.size := ⟨_,rfl⟩
      rw [← hW,← hh]
      have hb_ : Below wr2.heap.size wr2 wr3 := by rw [hW]; exact below_alloc (Below.refl _ _) _
      have H12 : Aside0 (Kd.R (Kd.int .u64) 23 wr3 w.heap.size (fun _ => True) (.slice (some ⟨h12,0,none⟩) 1 1) [first]) := ⟨by rw [hW,hh]; exact R_one (below_size HB.out)⟩
      have q_ : KeepsOthers W wr3 := by rw [hW]; exact HK.out.trans (KeepsOthers.alloc wr2 _)
      replace HK := Aside0.mk (q_)
      replace HTR := Aside0.mk (TR_below HTR.out hb_)
      replace HXo := mB HXo hb_
      replace HXr := mB HXr hb_
      replace HXe := mB HXe hb_
      replace HXf := mB HXf hb_
      replace HB := mS HB hb_
      clear hW hh hb_ q_
      refine hK.out _ _ ⟨(cL HXo 2 rfl),(cL HXo 3 rfl),(cL HXo 4 rfl),(cL HXf 0 rfl)⟩ (fun hHeld => ?_)
      clear hK K
      refine norm_ (a' := ?_) ?_ ?_
      rotate_left
      ·show Act.put _ (some 25) _ = _
       simp only [Act.put,zrI,zrs0,zrs1,i64_w,i32_w]
       rfl
      refine one_ (i := 7) (N := some 20) zr20 rfl rfl (one_of HT_.out (by kernel_rfl)) (by decide) (fun K hK => ?_)
      refine value_ (w1 := ?_) (v := ?_) (by rfl) rfl ?_ ?_
      rotate_left 2
      ·go_simp
       constructor
       ·rfl
       ·rfl
      obtain ⟨wr4,hW⟩ : ∃ W_,W_ = wr3.alloc (.cells #[.int .i64 0] 3) := ⟨_,rfl⟩
      obtain ⟨h7,hh⟩ : ∃ g_,g_ = wr3.heap.size := ⟨_,rfl⟩
      rw [← hW,← hh]
      have hb_ : Below wr3.heap.size wr3 wr4 := by rw [hW]; exact below_alloc (Below.refl _ _) _
      have H7 : Aside0 (Kd.R (Kd.int .i64) 3 wr4 w.heap.size (fun _ => True) (.slice (some ⟨h7,0,none⟩) 1 1) [0]) := ⟨by rw [hW,hh]; exact R_one (below_size HB.out)⟩
      have q_ : KeepsOthers W wr4 := by rw [hW]; exact HK.out.trans (KeepsOthers.alloc wr3 _)
      replace HK := Aside0.mk (q_)
      replace HTR := Aside0.mk (TR_below HTR.out hb_)
      replace HXo := mB HXo hb_
      replace HXr := mB HXr hb_
      replace HXe := mB HXe hb_
      replace HXf := mB HXf hb_
      replace H12 := Aside0.mk (Kd.R_below H12.out hb_)
      replace HB := mS HB hb_
      clear hW hh hb_ q_
      refine hK.out _ _ ⟨(cL HXo 2 rfl),(cL HXo 3 rfl),(cL HXo 4 rfl),(cL HXf 0 rfl)⟩ (fun hHeld => ?_)
      clear hK K
      refine norm_ (a' := ?_) ?_ ?_
      rotate_left
      ·show Act.put _ (some 20) _ = _
       simp only [Act.put,zrI,zrs0,zrs1,i64_w,i32_w]
       rfl
      refine one_ (i := 8) (N := some 21) zr9 rfl rfl (one_of HT_.out (by kernel_rfl)) (by decide) (fun K hK => ?_)
      refine Kd.R_append_rows_step (Kd.int .i64) (w0 := w) w.heap.size (by rfl) (.tmp 19) (.tmp 20) 25 3 (.int .i64 0) 8 rfl Try.underlying25 info3 rfl (by decide) (by omega) (.slice A2 l.length d2) l [0] _ _ _ (fun _ => True) (fun _ => False) rfl rfl ?aO ?aR (fun _ _ h => h) (fun _ h => h.elim) ?aF ?aB ?aS ?aL ?_
      (case aR => exact one_C H7.out)
      (case aB => exact HB.out)
      (case aF => exact (fun _ _ => trivial))
      (case aO => exact TR_l HTR.out)
      (case aS => exact below_size HB.out)
      (case aL => have := HL.out; omega)
      intro v_ wr5 ho_ hb_ hg_ hat_
      replace HXo := Aside0.mk (blk_grown HXo.out hg_ (Kd.R_ne (TR_l HTR.out) HXo.out (by decide)))
      replace HXr := Aside0.mk (blk_grown HXr.out hg_ (Kd.R_ne (TR_l HTR.out) HXr.out (by decide)))
      replace HXe := Aside0.mk (blk_grown HXe.out hg_ (Kd.R_ne (TR_l HTR.out) HXe.out (by decide)))
      replace HXf := Aside0.mk (blk_grown HXf.out hg_ (Kd.R_ne (TR_l HTR.out) HXf.out (by decide)))
      replace HK := Aside0.mk (keeps_row HK.out (TR_l HTR.out) hg_)
      replace H12 := Aside0.mk (one_type H12.out (TR_l HTR.out) (by decide) hg_)
      replace HB := Aside0.mk (hb_)
      obtain ⟨B2,e2,hv_,hT_⟩ := app_l HTR.out ho_ hg_ hat_
      replace HTR := Aside0.mk hT_
      subst hv_
      clear ho_ hb_ hg_ hat_ hT_ H7
      refine hK.out _ _ ⟨(cL HXo 2 rfl),(cL HXo 3 rfl),(cL HXo 4 rfl),(cL HXf 0 rfl)⟩ (fun hHeld => ?_)
      clear hK K
      refine norm_ (a' := ?_) ?_ ?_
      rotate_left
      ·show Act.put _ (some 21) _ = _
       simp only [Act.put,zrI,zrs0,zrs1,i64_w,i32_w]
       rfl
      exact norm_ (by first | (simp only [putAll,Act.put,zrI,zrs0,zrs1]; done) | (simp only [putAll,Act.put,zrI,zrs0,zrs1]; rfl)) (hCont (.slice (some ⟨h3,0,none⟩) 1 1,.slice (some ⟨h7,0,none⟩) 1 1,.slice (some ⟨h12,0,none⟩) 1 1,.slice B1 (o ++ [x]).length e1,.slice B2 (l ++ [0]).length e2) _ ⟨h12,B1,e1,B2,e2,rfl,rfl,rfl,HTR.out,HXo.out,HXr.out,HXe.out,HXf.out,HB.out,HK.out,H12.out⟩)
    ·skip
     refine value_ (w1 := ?_) (v := ?_) (by rfl) rfl ?_ ?_
     rotate_left 2
     ·go_simp
      constructor
      ·rfl
      ·rfl
     obtain ⟨wr2,hW⟩ : ∃ W_,W_ = wr1.alloc (.cells #[.int .i64 0] 3) := ⟨_,rfl⟩
     obtain ⟨h7,hh⟩ : ∃ g_,g_ = wr1.heap.size := ⟨_,rfl⟩
     rw [← hW,← hh]
     have hb_ : Below wr1.heap.size wr1 wr2 := by rw [hW]; exact below_alloc (Below.refl _ _) _
     have H7 : Aside0 (Kd.R (Kd.int .i64) 3 wr2 w.heap.size (fun _ => True) (.slice (some ⟨h7,0,none⟩) 1 1) [0]) := ⟨by rw [hW,hh]; exact R_one (below_size HB.out)⟩
     have N7 : Aside0 ((Value.slice A1 o.length d1).ownBlock ≠ some h7) := ⟨by rw [hh]; exact one_ne (TR_o HTR.out)⟩
     have q_ : KeepsOthers W wr2 := by rw [hW]; exact HK.out.trans (KeepsOthers.alloc wr1 _)
     replace HK := Aside0.mk (q_)
     replace HTR := Aside0.mk (TR_below HTR.out hb_)
     replace HXo := mB HXo hb_
     replace HXr := mB HXr hb_
     replace HXe := mB HXe hb_
     replace HXf := mB HXf hb_
     replace H3 := Aside0.mk (Kd.R_below H3.out hb_)
     replace HB := mS HB hb_
     clear hW hh hb_ q_
     refine hK.out _ _ ⟨(cL HXo 2 rfl),(cL HXo 3 rfl),(cL HXo 4 rfl),(cL HXf 0 rfl)⟩ (fun hHeld => ?_)
     clear hK K
     refine norm_ (a' := ?_) ?_ ?_
     rotate_left
     ·show Act.put _ (some 20) _ = _
      simp only [Act.put,zrI,zrs0,zrs1,i64_w,i32_w]
      rfl
     refine two_ (i := 4) (j := 12) (Ni := some 17) (Nj := some 25) zr21 zr22 rfl rfl rfl rfl (two_of HT_.out (by kernel_rfl)) (by decide) (by decide) (fun K hK => ?_) (fun K hK => ?_)
     ·skip
      refine Kd.R_append_rows_step (Kd.int .i64) (w0 := w) w.heap.size (by rfl) (.tmp 14) (.tmp 16) 25 3 (.int .i64 0) 8 rfl Try.underlying25 info3 rfl (by decide) (by omega) (.slice A1 o.length d1) o [x] _ _ _ (fun _ => True) (fun _ => False) rfl rfl ?aO ?aR (fun _ _ h => h) (fun _ h => h.elim) ?aF ?aB ?aS ?aL ?_
      (case aR => exact one_C H3.out)
      (case aB => exact HB.out)
      (case aF => exact (fun _ _ => trivial))
      (case aO => exact TR_o HTR.out)
      (case aS => exact below_size HB.out)
      (case aL => have := HL.out; omega)
      intro v_ wr3 ho_ hb_ hg_ hat_
      replace HXo := Aside0.mk (blk_grown HXo.out hg_ (Kd.R_ne (TR_o HTR.out) HXo.out (by decide)))
      replace HXr := Aside0.mk (blk_grown HXr.out hg_ (Kd.R_ne (TR_o HTR.out) HXr.out (by decide)))
      replace HXe := Aside0.mk (blk_grown HXe.out hg_ (Kd.R_ne (TR_o HTR.out) HXe.out (by decide)))
      replace HXf := Aside0.mk (blk_grown HXf.out hg_ (Kd.R_ne (TR_o HTR.out) HXf.out (by decide)))
      replace HK := Aside0.mk (keeps_row HK.out (TR_o HTR.out) hg_)
      replace H7 := Aside0.mk (one_row H7.out N7.out hg_)
      replace HB := Aside0.mk (hb_)
      obtain ⟨B1,e1,hv_,hT_⟩ := app_o HTR.out ho_ hg_ hat_
      replace HTR := Aside0.mk hT_
      subst hv_
      clear ho_ hb_ hg_ hat_ hT_ H3
      refine hK.out _ _ ⟨(cL HXo 2 rfl),(cL HXo 3 rfl),(cL HXo 4 rfl),(cL HXf 0 rfl)⟩ (fun hHeld => ?_)
      clear hK K
      refine norm_ (a' := ?_) ?_ ?_
      rotate_left
      ·show Act.put _ (some 17) _ = _
       simp only [Act.put,zrI,zrs0,zrs1,i64_w,i32_w]
       rfl
      refine pure_ (i := 14) (N := some 27) (v := ?_) (a' := ?_) zr17 rfl rfl (any_of HT_.out (by kernel_rfl)) (fun _ _ _ h => h) (Or.inl ⟨by rfl,?_⟩) ?_ ?_
      rotate_left
      ·intro w'
       go_simp
       with_reducible rfl
      rotate_left
      ·simp only [Act.put,zrI,zrs0,zrs1,i64_w,i32_w]
       rfl
      refine two_ (i := 8) (j := 12) (Ni := some 21) (Nj := some 25) zr19 zr20 rfl rfl rfl rfl (two_of HT_.out (by kernel_rfl)) (by decide) (by decide) (fun K hK => ?_) (fun K hK => ?_)
      ·skip
       refine Kd.R_append_rows_step (Kd.int .i64) (w0 := w) w.heap.size (by rfl) (.tmp 19) (.tmp 20) 25 3 (.int .i64 0) 8 rfl Try.underlying25 info3 rfl (by decide) (by omega) (.slice A2 l.length d2) l [0] _ _ _ (fun _ => True) (fun _ => False) rfl rfl ?aO ?aR (fun _ _ h => h) (fun _ h => h.elim) ?aF ?aB ?aS ?aL ?_
       (case aR => exact one_C H7.out)
       (case aB => exact HB.out)
       (case aF => exact (fun _ _ => trivial))
       (case aO => exact TR_l HTR.out)
       (case aS => exact below_size HB.out)
       (case aL => have := HL.out; omega)
       intro v_ wr4 ho_ hb_ hg_ hat_
       replace HXo := Aside0.mk (blk_grown HXo.out hg_ (Kd.R_ne (TR_l HTR.out) HXo.out (by decide)))
       replace HXr := Aside0.mk (blk_grown HXr.out hg_ (Kd.R_ne (TR_l HTR.out) HXr.out (by decide)))
       replace HXe := Aside0.mk (blk_grown HXe.out hg_ (Kd.R_ne (TR_l HTR.out) HXe.out (by decide)))
       replace HXf := Aside0.mk (blk_grown HXf.out hg_ (Kd.R_ne (TR_l HTR.out) HXf.out (by decide)))
       replace HK := Aside0.mk (keeps_row HK.out (TR_l HTR.out) hg_)
       replace HB := Aside0.mk (hb_)
       obtain ⟨B2,e2,hv_,hT_⟩ := app_l HTR.out ho_ hg_ hat_
       replace HTR := Aside0.mk hT_
       subst hv_
       clear ho_ hb_ hg_ hat_ hT_ H7
       refine hK.out _ _ ⟨(cL HXo 2 rfl),(cL HXo 3 rfl),(cL HXo 4 rfl),(cL HXf 0 rfl)⟩ (fun hHeld => ?_)
       clear hK K
       refine norm_ (a' := ?_) ?_ ?_
       rotate_left
       ·show Act.put _ (some 21) _ = _
        simp only [Act.put,zrI,zrs0,zrs1,i64_w,i32_w]
        rfl
       refine one_ (i := 12) (N := some 25) zr9 rfl rfl (one_of HT_.out (by kernel_rfl)) (by decide) (fun K hK => ?_)
       refine value_ (w1 := ?_) (v := ?_) (by rfl) rfl ?_ ?_
       rotate_left 2
       ·go_simp
        constructor
        ·rfl
        ·rfl
       obtain ⟨wr5,hW⟩ : ∃ W_,W_ = wr4.alloc (.cells #[.int .u64 first] 23) := ⟨_,rfl⟩
       obtain ⟨h12,hh⟩ : ∃ g_,g_ = wr4.heap.size := ⟨_,rfl⟩
       rw [← hW,← hh]
       have hb_ : Below wr4.heap.size wr4 wr5 := by rw [hW]; exact below_alloc (Below.refl _ _) _
       have H12 : Aside0 (Kd.R (Kd.int .u64) 23 wr5 w.heap.size (fun _ => True) (.slice (some ⟨h12,0,none⟩) 1 1) [first]) := ⟨by rw [hW,hh]; exact R_one (below_size HB.out)⟩
       have q_ : KeepsOthers W wr5 := by rw [hW]; exact HK.out.trans (KeepsOthers.alloc wr4 _)
       replace HK := Aside0.mk (q_)
       replace HTR := Aside0.mk (TR_below HTR.out hb_)
       replace HXo := mB HXo hb_
       replace HXr := mB HXr hb_
       replace HXe := mB HXe hb_
       replace HXf := mB HXf hb_
       replace HB := mS HB hb_
       clear hW hh hb_ q_
       refine hK.out _ _ ⟨(cL HXo 2 rfl),(cL HXo 3 rfl),(cL HXo 4 rfl),(cL HXf 0 rfl)⟩ (fun hHeld => ?_)
       clear hK K
       refine norm_ (a' := ?_) ?_ ?_
       rotate_left
       ·show Act.put _ (some 25) _ = _
        simp only [Act.put,zrI,zrs0,zrs1,i64_w,i32_w]
        rfl
       exact norm_ (by first | (simp only [putAll,Act.put,zrI,zrs0,zrs1]; done) | (simp only [putAll,Act.put,zrI,zrs0,zrs1]; rfl)) (hCont (.slice (some ⟨h3,0,none⟩) 1 1,.slice (some ⟨h7,0,none⟩) 1 1,.slice (some ⟨h12,0,none⟩) 1 1,.slice B1 (o ++ [x]).length e1,.slice B2 (l ++ [0]).length e2) _ ⟨h12,B1,e1,B2,e2,rfl,rfl,rfl,HTR.out,HXo.out,HXr.out,HXe.out,HXf.out,HB.out,HK.out,H12.out⟩)
      ·skip
       refine value_ (w1 := ?_) (v := ?_) (by rfl) rfl ?_ ?_
       rotate_left 2
       ·go_simp
        constructor
        ·rfl
        ·rfl
       obtain ⟨wr4,hW⟩ : ∃ W_,W_ = wr3.alloc (.cells #[.int .u64 first] 23) := ⟨_,rfl⟩
       obtain ⟨h12,hh⟩ : ∃ g_,g_ = wr3.heap.size := ⟨_,rfl⟩
       rw [← hW,← hh]
       have hb_ : Below wr3.heap.size wr3 wr4 := by rw [hW]; exact below_alloc (Below.refl _ _) _
       have H12 : Aside0 (Kd.R (Kd.int .u64) 23 wr4 w.heap.size (fun _ => True) (.slice (some ⟨h12,0,none⟩) 1 1) [first]) := ⟨by rw [hW,hh]; exact R_one (below_size HB.out)⟩
       have q_ : KeepsOthers W wr4 := by rw [hW]; exact HK.out.trans (KeepsOthers.alloc wr3 _)
       replace HK := Aside0.mk (q_)
       replace HTR := Aside0.mk (TR_below HTR.out hb_)
       replace HXo := mB HXo hb_
       replace HXr := mB HXr hb_
       replace HXe := mB HXe hb_
       replace HXf := mB HXf hb_
       replace H7 := Aside0.mk (Kd.R_below H7.out hb_)
       replace HB := mS HB hb_
       clear hW hh hb_ q_
       refine hK.out _ _ ⟨(cL HXo 2 rfl),(cL HXo 3 rfl),(cL HXo 4 rfl),(cL HXf 0 rfl)⟩ (fun hHeld => ?_)
       clear hK K
       refine norm_ (a' := ?_) ?_ ?_
       rotate_left
       ·show Act.put _ (some 25) _ = _
        simp only [Act.put,zrI,zrs0,zrs1,i64_w,i32_w]
        rfl
       refine one_ (i := 8) (N := some 21) zr9 rfl rfl (one_of HT_.out (by kernel_rfl)) (by decide) (fun K hK => ?_)
       refine Kd.R_append_rows_step (Kd.int .i64) (w0 := w) w.heap.size (by rfl) (.tmp 19) (.tmp 20) 25 3 (.int .i64 0) 8 rfl Try.underlying25 info3 rfl (by decide) (by omega) (.slice A2 l.length d2) l [0] _ _ _ (fun _ => True) (fun _ => False) rfl rfl ?aO ?aR (fun _ _ h => h) (fun _ h => h.elim) ?aF ?aB ?aS ?aL ?_
       (case aR => exact one_C H7.out)
       (case aB => exact HB.out)
       (case aF => exact (fun _ _ => trivial))
       (case aO => exact TR_l HTR.out)
       (case aS => exact below_size HB.out)
       (case aL => have := HL.out; omega)
       intro v_ wr5 ho_ hb_ hg_ hat_
       replace HXo := Aside0.mk (blk_grown HXo.out hg_ (Kd.R_ne (TR_l HTR.out) HXo.out (by decide)))
       replace HXr := Aside0.mk (blk_grown HXr.out hg_ (Kd.R_ne (TR_l HTR.out) HXr.out (by decide)))
       replace HXe := Aside0.mk (blk_grown HXe.out hg_ (Kd.R_ne (TR_l HTR.out) HXe.out (by decide)))
       replace HXf := Aside0.mk (blk_grown HXf.out hg_ (Kd.R_ne (TR_l HTR.out) HXf.out (by decide)))
       replace HK := Aside0.mk (keeps_row HK.out (TR_l HTR.out) hg_)
       replace H12 := Aside0.mk (one_type H12.out (TR_l HTR.out) (by decide) hg_)
       replace HB := Aside0.mk (hb_)
       obtain ⟨B2,e2,hv_,hT_⟩ := app_l HTR.out ho_ hg_ hat_
       replace HTR := Aside0.mk hT_
       subst hv_
       clear ho_ hb_ hg_ hat_ hT_ H7
       refine hK.out _ _ ⟨(cL HXo 2 rfl),(cL HXo 3 rfl),(cL HXo 4 rfl),(cL HXf 0 rfl)⟩ (fun hHeld => ?_)
       clear hK K
       refine norm_ (a' := ?_) ?_ ?_
       rotate_left
       ·show Act.put _ (some 21) _ = _
        simp only [Act.put,zrI,zrs0,zrs1,i64_w,i32_w]
        rfl
       exact norm_ (by first | (simp only [putAll,Act.put,zrI,zrs0,zrs1]; done) | (simp only [putAll,Act.put,zrI,zrs0,zrs1]; rfl)) (hCont (.slice (some ⟨h3,0,none⟩) 1 1,.slice (some ⟨h7,0,none⟩) 1 1,.slice (some ⟨h12,0,none⟩) 1 1,.slice B1 (o ++ [x]).length e1,.slice B2 (l ++ [0]).length e2) _ ⟨h12,B1,e1,B2,e2,rfl,rfl,rfl,HTR.out,HXo.out,HXr.out,HXe.out,HXf.out,HB.out,HK.out,H12.out⟩)
     ·skip
      refine value_ (w1 := ?_) (v := ?_) (by rfl) rfl ?_ ?_
      rotate_left 2
      ·go_simp
       constructor
       ·rfl
       ·rfl
      obtain ⟨wr3,hW⟩ : ∃ W_,W_ = wr2.alloc (.cells #[.int .u64 first] 23) := ⟨_,rfl⟩
      obtain ⟨h12,hh⟩ : ∃ g_,g_ = wr2.heap.size := ⟨_,rfl⟩
      rw [← hW,← hh]
      have hb_ : Below wr2.heap.size wr2 wr3 := by rw [hW]; exact below_alloc (Below.refl _ _) _
      have H12 : Aside0 (Kd.R (Kd.int .u64) 23 wr3 w.heap.size (fun _ => True) (.slice (some ⟨h12,0,none⟩) 1 1) [first]) := ⟨by rw [hW,hh]; exact R_one (below_size HB.out)⟩
      have q_ : KeepsOthers W wr3 := by rw [hW]; exact HK.out.trans (KeepsOthers.alloc wr2 _)
      replace HK := Aside0.mk (q_)
      replace HTR := Aside0.mk (TR_below HTR.out hb_)
      replace HXo := mB HXo hb_
      replace HXr := mB HXr hb_
      replace HXe := mB HXe hb_
      replace HXf := mB HXf hb_
      replace H3 := Aside0.mk (Kd.R_below H3.out hb_)
      replace H7 := Aside0.mk (Kd.R_below H7.out hb_)
      replace HB := mS HB hb_
      clear hW hh hb_ q_
      refine hK.out _ _ ⟨(cL HXo 2 rfl),(cL HXo 3 rfl),(cL HXo 4 rfl),(cL HXf 0 rfl)⟩ (fun hHeld => ?_)
      clear hK K
      refine norm_ (a' := ?_) ?_ ?_
      rotate_left
      ·show Act.put _ (some 25) _ = _
       simp only [Act.put,zrI,zrs0,zrs1,i64_w,i32_w]
       rfl
      refine one_ (i := 4) (N := some 17) zr23 rfl rfl (one_of HT_.out (by kernel_rfl)) (by decide) (fun K hK => ?_)
      refine Kd.R_append_rows_step (Kd.int .i64) (w0 := w) w.heap.size (by rfl) (.tmp 14) (.tmp 16) 25 3 (.int .i64 0) 8 rfl Try.underlying25 info3 rfl (by decide) (by omega) (.slice A1 o.length d1) o [x] _ _ _ (fun _ => True) (fun _ => False) rfl rfl ?aO ?aR (fun _ _ h => h) (fun _ h => h.elim) ?aF ?aB ?aS ?aL ?_
      (case aR => exact one_C H3.out)
      (case aB => exact HB.out)
      (case aF => exact (fun _ _ => trivial))
      (case aO => exact TR_o HTR.out)
      (case aS => exact below_size HB.out)
      (case aL => have := HL.out; omega)
      intro v_ wr4 ho_ hb_ hg_ hat_
      replace HXo := Aside0.mk (blk_grown HXo.out hg_ (Kd.R_ne (TR_o HTR.out) HXo.out (by decide)))
      replace HXr := Aside0.mk (blk_grown HXr.out hg_ (Kd.R_ne (TR_o HTR.out) HXr.out (by decide)))
      replace HXe := Aside0.mk (blk_grown HXe.out hg_ (Kd.R_ne (TR_o HTR.out) HXe.out (by decide)))
      replace HXf := Aside0.mk (blk_grown HXf.out hg_ (Kd.R_ne (TR_o HTR.out) HXf.out (by decide)))
      replace HK := Aside0.mk (keeps_row HK.out (TR_o HTR.out) hg_)
      replace H7 := Aside0.mk (one_row H7.out N7.out hg_)
      replace H12 := Aside0.mk (one_type H12.out (TR_o HTR.out) (by decide) hg_)
      replace HB := Aside0.mk (hb_)
      obtain ⟨B1,e1,hv_,hT_⟩ := app_o HTR.out ho_ hg_ hat_
      replace HTR := Aside0.mk hT_
      subst hv_
      clear ho_ hb_ hg_ hat_ hT_ H3
      refine hK.out _ _ ⟨(cL HXo 2 rfl),(cL HXo 3 rfl),(cL HXo 4 rfl),(cL HXf 0 rfl)⟩ (fun hHeld => ?_)
      clear hK K
      refine norm_ (a' := ?_) ?_ ?_
      rotate_left
      ·show Act.put _ (some 17) _ = _
       simp only [Act.put,zrI,zrs0,zrs1,i64_w,i32_w]
       rfl
      refine pure_ (i := 14) (N := some 27) (v := ?_) (a' := ?_) zr20 rfl rfl (any_of HT_.out (by kernel_rfl)) (fun _ _ _ h => h) (Or.inl ⟨by rfl,?_⟩) ?_ ?_
      rotate_left
      ·intro w'
       go_simp
       with_reducible rfl
      rotate_left
      ·simp only [Act.put,zrI,zrs0,zrs1,i64_w,i32_w]
       rfl
      refine one_ (i := 8) (N := some 21) zr9 rfl rfl (one_of HT_.out (by kernel_rfl)) (by decide) (fun K hK => ?_)
      refine Kd.R_append_rows_step (Kd.int .i64) (w0 := w) w.heap.size (by rfl) (.tmp 19) (.tmp 20) 25 3 (.int .i64 0) 8 rfl Try.underlying25 info3 rfl (by decide) (by omega) (.slice A2 l.length d2) l [0] _ _ _ (fun _ => True) (fun _ => False) rfl rfl ?aO ?aR (fun _ _ h => h) (fun _ h => h.elim) ?aF ?aB ?aS ?aL ?_
      (case aR => exact one_C H7.out)
      (case aB => exact HB.out)
      (case aF => exact (fun _ _ => trivial))
      (case aO => exact TR_l HTR.out)
      (case aS => exact below_size HB.out)
      (case aL => have := HL.out; omega)
      intro v_ wr5 ho_ hb_ hg_ hat_
      replace HXo := Aside0.mk (blk_grown HXo.out hg_ (Kd.R_ne (TR_l HTR.out) HXo.out (by decide)))
      replace HXr := Aside0.mk (blk_grown HXr.out hg_ (Kd.R_ne (TR_l HTR.out) HXr.out (by decide)))
      replace HXe := Aside0.mk (blk_grown HXe.out hg_ (Kd.R_ne (TR_l HTR.out) HXe.out (by decide)))
      replace HXf := Aside0.mk (blk_grown HXf.out hg_ (Kd.R_ne (TR_l HTR.out) HXf.out (by decide)))
      replace HK := Aside0.mk (keeps_row HK.out (TR_l HTR.out) hg_)
      replace H12 := Aside0.mk (one_type H12.out (TR_l HTR.out) (by decide) hg_)
      replace HB := Aside0.mk (hb_)
      obtain ⟨B2,e2,hv_,hT_⟩ := app_l HTR.out ho_ hg_ hat_
      replace HTR := Aside0.mk hT_
      subst hv_
      clear ho_ hb_ hg_ hat_ hT_ H7
      refine hK.out _ _ ⟨(cL HXo 2 rfl),(cL HXo 3 rfl),(cL HXo 4 rfl),(cL HXf 0 rfl)⟩ (fun hHeld => ?_)
      clear hK K
      refine norm_ (a' := ?_) ?_ ?_
      rotate_left
      ·show Act.put _ (some 21) _ = _
       simp only [Act.put,zrI,zrs0,zrs1,i64_w,i32_w]
       rfl
      exact norm_ (by first | (simp only [putAll,Act.put,zrI,zrs0,zrs1]; done) | (simp only [putAll,Act.put,zrI,zrs0,zrs1]; rfl)) (hCont (.slice (some ⟨h3,0,none⟩) 1 1,.slice (some ⟨h7,0,none⟩) 1 1,.slice (some ⟨h12,0,none⟩) 1 1,.slice B1 (o ++ [x]).length e1,.slice B2 (l ++ [0]).length e2) _ ⟨h12,B1,e1,B2,e2,rfl,rfl,rfl,HTR.out,HXo.out,HXr.out,HXe.out,HXf.out,HB.out,HK.out,H12.out⟩)
    ·skip
     refine value_ (w1 := ?_) (v := ?_) (by rfl) rfl ?_ ?_
     rotate_left 2
     ·go_simp
      constructor
      ·rfl
      ·rfl
     obtain ⟨wr2,hW⟩ : ∃ W_,W_ = wr1.alloc (.cells #[.int .u64 first] 23) := ⟨_,rfl⟩
     obtain ⟨h12,hh⟩ : ∃ g_,g_ = wr1.heap.size := ⟨_,rfl⟩
     rw [← hW,← hh]
     have hb_ : Below wr1.heap.size wr1 wr2 := by rw [hW]; exact below_alloc (Below.refl _ _) _
     have H12 : Aside0 (Kd.R (Kd.int .u64) 23 wr2 w.heap.size (fun _ => True) (.slice (some ⟨h12,0,none⟩) 1 1) [first]) := ⟨by rw [hW,hh]; exact R_one (below_size HB.out)⟩
     have q_ : KeepsOthers W wr2 := by rw [hW]; exact HK.out.trans (KeepsOthers.alloc wr1 _)
     replace HK := Aside0.mk (q_)
     replace HTR := Aside0.mk (TR_below HTR.out hb_)
     replace HXo := mB HXo hb_
     replace HXr := mB HXr hb_
     replace HXe := mB HXe hb_
     replace HXf := mB HXf hb_
     replace H3 := Aside0.mk (Kd.R_below H3.out hb_)
     replace HB := mS HB hb_
     clear hW hh hb_ q_
     refine hK.out _ _ ⟨(cL HXo 2 rfl),(cL HXo 3 rfl),(cL HXo 4 rfl),(cL HXf 0 rfl)⟩ (fun hHeld => ?_)
     clear hK K
     refine norm_ (a' := ?_) ?_ ?_
     rotate_left
     ·show Act.put _ (some 25) _ = _
      simp only [Act.put,zrI,zrs0,zrs1,i64_w,i32_w]
      rfl
     refine two_ (i := 4) (j := 7) (Ni := some 17) (Nj := some 20) zr24 zr22 rfl rfl rfl rfl (two_of HT_.out (by kernel_rfl)) (by decide) (by decide) (fun K hK => ?_) (fun K hK => ?_)
     ·skip
      refine Kd.R_append_rows_step (Kd.int .i64) (w0 := w) w.heap.size (by rfl) (.tmp 14) (.tmp 16) 25 3 (.int .i64 0) 8 rfl Try.underlying25 info3 rfl (by decide) (by omega) (.slice A1 o.length d1) o [x] _ _ _ (fun _ => True) (fun _ => False) rfl rfl ?aO ?aR (fun _ _ h => h) (fun _ h => h.elim) ?aF ?aB ?aS ?aL ?_
      (case aR => exact one_C H3.out)
      (case aB => exact HB.out)
      (case aF => exact (fun _ _ => trivial))
      (case aO => exact TR_o HTR.out)
      (case aS => exact below_size HB.out)
      (case aL => have := HL.out; omega)
      intro v_ wr3 ho_ hb_ hg_ hat_
      replace HXo := Aside0.mk (blk_grown HXo.out hg_ (Kd.R_ne (TR_o HTR.out) HXo.out (by decide)))
      replace HXr := Aside0.mk (blk_grown HXr.out hg_ (Kd.R_ne (TR_o HTR.out) HXr.out (by decide)))
      replace HXe := Aside0.mk (blk_grown HXe.out hg_ (Kd.R_ne (TR_o HTR.out) HXe.out (by decide)))
      replace HXf := Aside0.mk (blk_grown HXf.out hg_ (Kd.R_ne (TR_o HTR.out) HXf.out (by decide)))
      replace HK := Aside0.mk (keeps_row HK.out (TR_o HTR.out) hg_)
      replace H12 := Aside0.mk (one_type H12.out (TR_o HTR.out) (by decide) hg_)
      replace HB := Aside0.mk (hb_)
      obtain ⟨B1,e1,hv_,hT_⟩ := app_o HTR.out ho_ hg_ hat_
      replace HTR := Aside0.mk hT_
      subst hv_
      clear ho_ hb_ hg_ hat_ hT_ H3
      refine hK.out _ _ ⟨(cL HXo 2 rfl),(cL HXo 3 rfl),(cL HXo 4 rfl),(cL HXf 0 rfl)⟩ (fun hHeld => ?_)
      clear hK K
      refine norm_ (a' := ?_) ?_ ?_
      rotate_left
      ·show Act.put _ (some 17) _ = _
       simp only [Act.put,zrI,zrs0,zrs1,i64_w,i32_w]
       rfl
      refine pure_ (i := 14) (N := some 27) (v := ?_) (a' := ?_) zr18 rfl rfl (any_of HT_.out (by kernel_rfl)) (fun _ _ _ h => h) (Or.inl ⟨by rfl,?_⟩) ?_ ?_
      rotate_left
      ·intro w'
       go_simp
       with_reducible rfl
      rotate_left
      ·simp only [Act.put,zrI,zrs0,zrs1,i64_w,i32_w]
       rfl
      refine one_ (i := 7) (N := some 20) zr20 rfl rfl (one_of HT_.out (by kernel_rfl)) (by decide) (fun K hK => ?_)
      refine value_ (w1 := ?_) (v := ?_) (by rfl) rfl ?_ ?_
      rotate_left 2
      ·go_simp
       constructor
       ·rfl
       ·rfl
      obtain ⟨wr4,hW⟩ : ∃ W_,W_ = wr3.alloc (.cells #[.int .i64 0] 3) := ⟨_,rfl⟩
      obtain ⟨h7,hh⟩ : ∃ g_,g_ = wr3.heap.size := ⟨_,rfl⟩
      rw [← hW,← hh]
      have hb_ : Below wr3.heap.size wr3 wr4 := by rw [hW]; exact below_alloc (Below.refl _ _) _
      have H7 : Aside0 (Kd.R (Kd.int .i64) 3 wr4 w.heap.size (fun _ => True) (.slice (some ⟨h7,0,none⟩) 1 1) [0]) := ⟨by rw [hW,hh]; exact R_one (below_size HB.out)⟩
      have q_ : KeepsOthers W wr4 := by rw [hW]; exact HK.out.trans (KeepsOthers.alloc wr3 _)
      replace HK := Aside0.mk (q_)
      replace HTR := Aside0.mk (TR_below HTR.out hb_)
      replace HXo := mB HXo hb_
      replace HXr := mB HXr hb_
      replace HXe := mB HXe hb_
      replace HXf := mB HXf hb_
      replace H12 := Aside0.mk (Kd.R_below H12.out hb_)
      replace HB := mS HB hb_
      clear hW hh hb_ q_
      refine hK.out _ _ ⟨(cL HXo 2 rfl),(cL HXo 3 rfl),(cL HXo 4 rfl),(cL HXf 0 rfl)⟩ (fun hHeld => ?_)
      clear hK K
      refine norm_ (a' := ?_) ?_ ?_
      rotate_left
      ·show Act.put _ (some 20) _ = _
       simp only [Act.put,zrI,zrs0,zrs1,i64_w,i32_w]
       rfl
      refine one_ (i := 8) (N := some 21) zr9 rfl rfl (one_of HT_.out (by kernel_rfl)) (by decide) (fun K hK => ?_)
      refine Kd.R_append_rows_step (Kd.int .i64) (w0 := w) w.heap.size (by rfl) (.tmp 19) (.tmp 20) 25 3 (.int .i64 0) 8 rfl Try.underlying25 info3 rfl (by decide) (by omega) (.slice A2 l.length d2) l [0] _ _ _ (fun _ => True) (fun _ => False) rfl rfl ?aO ?aR (fun _ _ h => h) (fun _ h => h.elim) ?aF ?aB ?aS ?aL ?_
      (case aR => exact one_C H7.out)
      (case aB => exact HB.out)
      (case aF => exact (fun _ _ => trivial))
      (case aO => exact TR_l HTR.out)
      (case aS => exact below_size HB.out)
      (case aL => have := HL.out; omega)
      intro v_ wr5 ho_ hb_ hg_ hat_
      replace HXo := Aside0.mk (blk_grown HXo.out hg_ (Kd.R_ne (TR_l HTR.out) HXo.out (by decide)))
      replace HXr := Aside0.mk (blk_grown HXr.out hg_ (Kd.R_ne (TR_l HTR.out) HXr.out (by decide)))
      replace HXe := Aside0.mk (blk_grown HXe.out hg_ (Kd.R_ne (TR_l HTR.out) HXe.out (by decide)))
      replace HXf := Aside0.mk (blk_grown HXf.out hg_ (Kd.R_ne (TR_l HTR.out) HXf.out (by decide)))
      replace HK := Aside0.mk (keeps_row HK.out (TR_l HTR.out) hg_)
      replace H12 := Aside0.mk (one_type H12.out (TR_l HTR.out) (by decide) hg_)
      replace HB := Aside0.mk (hb_)
      obtain ⟨B2,e2,hv_,hT_⟩ := app_l HTR.out ho_ hg_ hat_
      replace HTR := Aside0.mk hT_
      subst hv_
      clear ho_ hb_ hg_ hat_ hT_ H7
      refine hK.out _ _ ⟨(cL HXo 2 rfl),(cL HXo 3 rfl),(cL HXo 4 rfl),(cL HXf 0 rfl)⟩ (fun hHeld => ?_)
      clear hK K
      refine norm_ (a' := ?_) ?_ ?_
      rotate_left
      ·show Act.put _ (some 21) _ = _
       simp only [Act.put,zrI,zrs0,zrs1,i64_w,i32_w]
       rfl
      exact norm_ (by first | (simp only [putAll,Act.put,zrI,zrs0,zrs1]; done) | (simp only [putAll,Act.put,zrI,zrs0,zrs1]; rfl)) (hCont (.slice (some ⟨h3,0,none⟩) 1 1,.slice (some ⟨h7,0,none⟩) 1 1,.slice (some ⟨h12,0,none⟩) 1 1,.slice B1 (o ++ [x]).length e1,.slice B2 (l ++ [0]).length e2) _ ⟨h12,B1,e1,B2,e2,rfl,rfl,rfl,HTR.out,HXo.out,HXr.out,HXe.out,HXf.out,HB.out,HK.out,H12.out⟩)
     ·skip
      refine value_ (w1 := ?_) (v := ?_) (by rfl) rfl ?_ ?_
      rotate_left 2
      ·go_simp
       constructor
       ·rfl
       ·rfl
      obtain ⟨wr3,hW⟩ : ∃ W_,W_ = wr2.alloc (.cells #[.int .i64 0] 3) := ⟨_,rfl⟩
      obtain ⟨h7,hh⟩ : ∃ g_,g_ = wr2.heap.size := ⟨_,rfl⟩
      rw [← hW,← hh]
      have hb_ : Below wr2.heap.size wr2 wr3 := by rw [hW]; exact below_alloc (Below.refl _ _) _
      have H7 : Aside0 (Kd.R (Kd.int .i64) 3 wr3 w.heap.size (fun _ => True) (.slice (some ⟨h7,0,none⟩) 1 1) [0]) := ⟨by rw [hW,hh]; exact R_one (below_size HB.out)⟩
      have N7 : Aside0 ((Value.slice A1 o.length d1).ownBlock ≠ some h7) := ⟨by rw [hh]; exact one_ne (TR_o HTR.out)⟩
      have q_ : KeepsOthers W wr3 := by rw [hW]; exact HK.out.trans (KeepsOthers.alloc wr2 _)
      replace HK := Aside0.mk (q_)
      replace HTR := Aside0.mk (TR_below HTR.out hb_)
      replace HXo := mB HXo hb_
      replace HXr := mB HXr hb_
      replace HXe := mB HXe hb_
      replace HXf := mB HXf hb_
      replace H3 := Aside0.mk (Kd.R_below H3.out hb_)
      replace H12 := Aside0.mk (Kd.R_below H12.out hb_)
      replace HB := mS HB hb_
      clear hW hh hb_ q_
      refine hK.out _ _ ⟨(cL HXo 2 rfl),(cL HXo 3 rfl),(cL HXo 4 rfl),(cL HXf 0 rfl)⟩ (fun hHeld => ?_)
      clear hK K
      refine norm_ (a' := ?_) ?_ ?_
      rotate_left
      ·show Act.put _ (some 20) _ = _
       simp only [Act.put,zrI,zrs0,zrs1,i64_w,i32_w]
       rfl
      refine one_ (i := 4) (N := some 17) zr23 rfl rfl (one_of HT_.out (by kernel_rfl)) (by decide) (fun K hK => ?_)
      refine Kd.R_append_rows_step (Kd.int .i64) (w0 := w) w.heap.size (by rfl) (.tmp 14) (.tmp 16) 25 3 (.int .i64 0) 8 rfl Try.underlying25 info3 rfl (by decide) (by omega) (.slice A1 o.length d1) o [x] _ _ _ (fun _ => True) (fun _ => False) rfl rfl ?aO ?aR (fun _ _ h => h) (fun _ h => h.elim) ?aF ?aB ?aS ?aL ?_
      (case aR => exact one_C H3.out)
      (case aB => exact HB.out)
      (case aF => exact (fun _ _ => trivial))
      (case aO => exact TR_o HTR.out)
      (case aS => exact below_size HB.out)
      (case aL => have := HL.out; omega)
      intro v_ wr4 ho_ hb_ hg_ hat_
      replace HXo := Aside0.mk (blk_grown HXo.out hg_ (Kd.R_ne (TR_o HTR.out) HXo.out (by decide)))
      replace HXr := Aside0.mk (blk_grown HXr.out hg_ (Kd.R_ne (TR_o HTR.out) HXr.out (by decide)))
      replace HXe := Aside0.mk (blk_grown HXe.out hg_ (Kd.R_ne (TR_o HTR.out) HXe.out (by decide)))
      replace HXf := Aside0.mk (blk_grown HXf.out hg_ (Kd.R_ne (TR_o HTR.out) HXf.out (by decide)))
      replace HK := Aside0.mk (keeps_row HK.out (TR_o HTR.out) hg_)
      replace H7 := Aside0.mk (one_row H7.out N7.out hg_)
      replace H12 := Aside0.mk (one_type H12.out (TR_o HTR.out) (by decide) hg_)
      replace HB := Aside0.mk (hb_)
      obtain ⟨B1,e1,hv_,hT_⟩ := app_o HTR.out ho_ hg_ hat_
      replace HTR := Aside0.mk hT_
      subst hv_
      clear ho_ hb_ hg_ hat_ hT_ H3
      refine hK.out _ _ ⟨(cL HXo 2 rfl),(cL HXo 3 rfl),(cL HXo 4 rfl),(cL HXf 0 rfl)⟩ (fun hHeld => ?_)
      clear hK K
      refine norm_ (a' := ?_) ?_ ?_
      rotate_left
      ·show Act.put _ (some 17) _ = _
       simp only [Act.put,zrI,zrs0,zrs1,i64_w,i32_w]
       rfl
      refine pure_ (i := 14) (N := some 27) (v := ?_) (a' := ?_) zr20 rfl rfl (any_of HT_.out (by kernel_rfl)) (fun _ _ _ h => h) (Or.inl ⟨by rfl,?_⟩) ?_ ?_
      rotate_left
      ·intro w'
       go_simp
       with_reducible rfl
      rotate_left
      ·simp only [Act.put,zrI,zrs0,zrs1,i64_w,i32_w]
       rfl
      refine one_ (i := 8) (N := some 21) zr9 rfl rfl (one_of HT_.out (by kernel_rfl)) (by decide) (fun K hK => ?_)
      refine Kd.R_append_rows_step (Kd.int .i64) (w0 := w) w.heap.size (by rfl) (.tmp 19) (.tmp 20) 25 3 (.int .i64 0) 8 rfl Try.underlying25 info3 rfl (by decide) (by omega) (.slice A2 l.length d2) l [0] _ _ _ (fun _ => True) (fun _ => False) rfl rfl ?aO ?aR (fun _ _ h => h) (fun _ h => h.elim) ?aF ?aB ?aS ?aL ?_
      (case aR => exact one_C H7.out)
      (case aB => exact HB.out)
      (case aF => exact (fun _ _ => trivial))
      (case aO => exact TR_l HTR.out)
      (case aS => exact below_size HB.out)
      (case aL => have := HL.out; omega)
      intro v_ wr5 ho_ hb_ hg_ hat_
      replace HXo := Aside0.mk (blk_grown HXo.out hg_ (Kd.R_ne (TR_l HTR.out) HXo.out (by decide)))
      replace HXr := Aside0.mk (blk_grown HXr.out hg_ (Kd.R_ne (TR_l HTR.out) HXr.out (by decide)))
      replace HXe := Aside0.mk (blk_grown HXe.out hg_ (Kd.R_ne (TR_l HTR.out) HXe.out (by decide)))
      replace HXf := Aside0.mk (blk_grown HXf.out hg_ (Kd.R_ne (TR_l HTR.out) HXf.out (by decide)))
      replace HK := Aside0.mk (keeps_row HK.out (TR_l HTR.out) hg_)
      replace H12 := Aside0.mk (one_type H12.out (TR_l HTR.out) (by decide) hg_)
      replace HB := Aside0.mk (hb_)
      obtain ⟨B2,e2,hv_,hT_⟩ := app_l HTR.out ho_ hg_ hat_
      replace HTR := Aside0.mk hT_
      subst hv_
      clear ho_ hb_ hg_ hat_ hT_ H7
      refine hK.out _ _ ⟨(cL HXo 2 rfl),(cL HXo 3 rfl),(cL HXo 4 rfl),(cL HXf 0 rfl)⟩ (fun hHeld => ?_)
      clear hK K
      refine norm_ (a' := ?_) ?_ ?_
      rotate_left
      ·show Act.put _ (some 21) _ = _
       simp only [Act.put,zrI,zrs0,zrs1,i64_w,i32_w]
       rfl
      exact norm_ (by first | (simp only [putAll,Act.put,zrI,zrs0,zrs1]; done) | (simp only [putAll,Act.put,zrI,zrs0,zrs1]; rfl)) (hCont (.slice (some ⟨h3,0,none⟩) 1 1,.slice (some ⟨h7,0,none⟩) 1 1,.slice (some ⟨h12,0,none⟩) 1 1,.slice B1 (o ++ [x]).length e1,.slice B2 (l ++ [0]).length e2) _ ⟨h12,B1,e1,B2,e2,rfl,rfl,rfl,HTR.out,HXo.out,HXr.out,HXe.out,HXf.out,HB.out,HK.out,H12.out⟩)
   ·skip
    refine value_ (w1 := ?_) (v := ?_) (by rfl) rfl ?_ ?_
    rotate_left 2
    ·go_simp
     constructor
     ·rfl
     ·rfl
    obtain ⟨wr1,hW⟩ : ∃ W_,W_ = wd1.alloc (.cells #[.int .i64 0] 3) := ⟨_,rfl⟩
    obtain ⟨h7,hh⟩ : ∃ g_,g_ = wd1.heap.size := ⟨_,rfl⟩
    rw [← hW,← hh]
    have hb_ : Below wd1.heap.size wd1 wr1 := by rw [hW]; exact below_alloc (Below.refl _ _) _
    have H7 : Aside0 (Kd.R (Kd.int .i64) 3 wr1 w.heap.size (fun _ => True) (.slice (some ⟨h7,0,none⟩) 1 1) [0]) := ⟨by rw [hW,hh]; exact R_one (below_size HB.out)⟩
    have N7 : Aside0 ((Value.slice A1 o.length d1).ownBlock ≠ some h7) := ⟨by rw [hh]; exact one_ne (TR_o HTR.out)⟩
    have q_ : KeepsOthers W wr1 := by rw [hW]; exact HK.out.trans (KeepsOthers.alloc wd1 _)
    replace HK := Aside0.mk (q_)
    replace HTR := Aside0.mk (TR_below HTR.out hb_)
    replace HXo := mB HXo hb_
    replace HXr := mB HXr hb_
    replace HXe := mB HXe hb_
    replace HXf := mB HXf hb_
    replace HB := mS HB hb_
    clear hW hh hb_ q_
    refine hK.out _ _ ⟨(cL HXo 2 rfl),(cL HXo 3 rfl),(cL HXo 4 rfl),(cL HXf 0 rfl)⟩ (fun hHeld => ?_)
    clear hK K
    refine norm_ (a' := ?_) ?_ ?_
    rotate_left
    ·show Act.put _ (some 20) _ = _
     simp only [Act.put,zrI,zrs0,zrs1,i64_w,i32_w]
     rfl
    refine two_ (i := 3) (j := 12) (Ni := some 16) (Nj := some 25) zr14 zr25 rfl rfl rfl rfl (two_of HT_.out (by kernel_rfl)) (by decide) (by decide) (fun K hK => ?_) (fun K hK => ?_)
    ·skip
     refine value_ (w1 := ?_) (v := ?_) (by rfl) rfl ?_ ?_
     rotate_left 2
     ·go_simp
      constructor
      ·rfl
      ·rfl
     obtain ⟨wr2,hW⟩ : ∃ W_,W_ = wr1.alloc (.cells #[.int .i64 x] 3) := ⟨_,rfl⟩
     obtain ⟨h3,hh⟩ : ∃ g_,g_ = wr1.heap.size := ⟨_,rfl⟩
     rw [← hW,← hh]
     have hb_ : Below wr1.heap.size wr1 wr2 := by rw [hW]; exact below_alloc (Below.refl _ _) _
     have H3 : Aside0 (Kd.R (Kd.int .i64) 3 wr2 w.heap.size (fun _ => True) (.slice (some ⟨h3,0,none⟩) 1 1) [x]) := ⟨by rw [hW,hh]; exact R_one (below_size HB.out)⟩
     have q_ : KeepsOthers W wr2 := by rw [hW]; exact HK.out.trans (KeepsOthers.alloc wr1 _)
     replace HK := Aside0.mk (q_)
     replace HTR := Aside0.mk (TR_below HTR.out hb_)
     replace HXo := mB HXo hb_
     replace HXr := mB HXr hb_
     replace HXe := mB HXe hb_
     replace HXf := mB HXf hb_
     replace H7 := Aside0.mk (Kd.R_below H7.out hb_)
     replace HB := mS HB hb_
     clear hW hh hb_ q_
     refine hK.out _ _ ⟨(cL HXo 2 rfl),(cL HXo 3 rfl),(cL HXo 4 rfl),(cL HXf 0 rfl)⟩ (fun hHeld => ?_)
     clear hK K
     refine norm_ (a' := ?_) ?_ ?_
     rotate_left
     ·show Act.put _ (some 16) _ = _
      simp only [Act.put,zrI,zrs0,zrs1,i64_w,i32_w]
      rfl
     refine two_ (i := 4) (j := 12) (Ni := some 17) (Nj := some 25) zr21 zr22 rfl rfl rfl rfl (two_of HT_.out (by kernel_rfl)) (by decide) (by decide) (fun K hK => ?_) (fun K hK => ?_)
     ·skip
      refine Kd.R_append_rows_step (Kd.int .i64) (w0 := w) w.heap.size (by rfl) (.tmp 14) (.tmp 16) 25 3 (.int .i64 0) 8 rfl Try.underlying25 info3 rfl (by decide) (by omega) (.slice A1 o.length d1) o [x] _ _ _ (fun _ => True) (fun _ => False) rfl rfl ?aO ?aR (fun _ _ h => h) (fun _ h => h.elim) ?aF ?aB ?aS ?aL ?_
      (case aR => exact one_C H3.out)
      (case aB => exact HB.out)
      (case aF => exact (fun _ _ => trivial))
      (case aO => exact TR_o HTR.out)
      (case aS => exact below_size HB.out)
      (case aL => have := HL.out; omega)
      intro v_ wr3 ho_ hb_ hg_ hat_
      replace HXo := Aside0.mk (blk_grown HXo.out hg_ (Kd.R_ne (TR_o HTR.out) HXo.out (by decide)))
      replace HXr := Aside0.mk (blk_grown HXr.out hg_ (Kd.R_ne (TR_o HTR.out) HXr.out (by decide)))
      replace HXe := Aside0.mk (blk_grown HXe.out hg_ (Kd.R_ne (TR_o HTR.out) HXe.out (by decide)))
      replace HXf := Aside0.mk (blk_grown HXf.out hg_ (Kd.R_ne (TR_o HTR.out) HXf.out (by decide)))
      replace HK := Aside0.mk (keeps_row HK.out (TR_o HTR.out) hg_)
      replace H7 := Aside0.mk (one_row H7.out N7.out hg_)
      replace HB := Aside0.mk (hb_)
      obtain ⟨B1,e1,hv_,hT_⟩ := app_o HTR.out ho_ hg_ hat_
      replace HTR := Aside0.mk hT_
      subst hv_
      clear ho_ hb_ hg_ hat_ hT_ H3
      refine hK.out _ _ ⟨(cL HXo 2 rfl),(cL HXo 3 rfl),(cL HXo 4 rfl),(cL HXf 0 rfl)⟩ (fun hHeld => ?_)
      clear hK K
      refine norm_ (a' := ?_) ?_ ?_
      rotate_left
      ·show Act.put _ (some 17) _ = _
       simp only [Act.put,zrI,zrs0,zrs1,i64_w,i32_w]
       rfl
      refine pure_ (i := 14) (N := some 27) (v := ?_) (a' := ?_) zr17 rfl rfl (any_of HT_.out (by kernel_rfl)) (fun _ _ _ h => h) (Or.inl ⟨by rfl,?_⟩) ?_ ?_
      rotate_left
      ·intro w'
       go_simp
       with_reducible rfl
      rotate_left
      ·simp only [Act.put,zrI,zrs0,zrs1,i64_w,i32_w]
       rfl
      refine two_ (i := 8) (j := 12) (Ni := some 21) (Nj := some 25) zr19 zr20 rfl rfl rfl rfl (two_of HT_.out (by kernel_rfl)) (by decide) (by decide) (fun K hK => ?_) (fun K hK => ?_)
      ·skip
       refine Kd.R_append_rows_step (Kd.int .i64) (w0 := w) w.heap.size (by rfl) (.tmp 19) (.tmp 20) 25 3 (.int .i64 0) 8 rfl Try.underlying25 info3 rfl (by decide) (by omega) (.slice A2 l.length d2) l [0] _ _ _ (fun _ => True) (fun _ => False) rfl rfl ?aO ?aR (fun _ _ h => h) (fun _ h => h.elim) ?aF ?aB ?aS ?aL ?_
       (case aR => exact one_C H7.out)
       (case aB => exact HB.out)
       (case aF => exact (fun _ _ => trivial))
       (case aO => exact TR_l HTR.out)
       (case aS => exact below_size HB.out)
       (case aL => have := HL.out; omega)
       intro v_ wr4 ho_ hb_ hg_ hat_
       replace HXo := Aside0.mk (blk_grown HXo.out hg_ (Kd.R_ne (TR_l HTR.out) HXo.out (by decide)))
       replace HXr := Aside0.mk (blk_grown HXr.out hg_ (Kd.R_ne (TR_l HTR.out) HXr.out (by decide)))
       replace HXe := Aside0.mk (blk_grown HXe.out hg_ (Kd.R_ne (TR_l HTR.out) HXe.out (by decide)))
       replace HXf := Aside0.mk (blk_grown HXf.out hg_ (Kd.R_ne (TR_l HTR.out) HXf.out (by decide)))
       replace HK := Aside0.mk (keeps_row HK.out (TR_l HTR.out) hg_)
       replace HB := Aside0.mk (hb_)
       obtain ⟨B2,e2,hv_,hT_⟩ := app_l HTR.out ho_ hg_ hat_
       replace HTR := Aside0.mk hT_
       subst hv_
       clear ho_ hb_ hg_ hat_ hT_ H7
       refine hK.out _ _ ⟨(cL HXo 2 rfl),(cL HXo 3 rfl),(cL HXo 4 rfl),(cL HXf 0 rfl)⟩ (fun hHeld => ?_)
       clear hK K
       refine norm_ (a' := ?_) ?_ ?_
       rotate_left
       ·show Act.put _ (some 21) _ = _
        simp only [Act.put,zrI,zrs0,zrs1,i64_w,i32_w]
        rfl
       refine one_ (i := 12) (N := some 25) zr9 rfl rfl (one_of HT_.out (by kernel_rfl)) (by decide) (fun K hK => ?_)
       refine value_ (w1 := ?_) (v := ?_) (by rfl) rfl ?_ ?_
       rotate_left 2
       ·go_simp
        constructor
        ·rfl
        ·rfl
       obtain ⟨wr5,hW⟩ : ∃ W_,W_ = wr4.alloc (.cells #[.int .u64 first] 23) := ⟨_,rfl⟩
       obtain ⟨h12,hh⟩ : ∃ g_,g_ = wr4.heap.size := ⟨_,rfl⟩
       rw [← hW,← hh]
       have hb_ : Below wr4.heap.size wr4 wr5 := by rw [hW]; exact below_alloc (Below.refl _ _) _
       have H12 : Aside0 (Kd.R (Kd.int .u64) 23 wr5 w.heap.size (fun _ => True) (.slice (some ⟨h12,0,none⟩) 1 1) [first]) := ⟨by rw [hW,hh]; exact R_one (below_size HB.out)⟩
       have q_ : KeepsOthers W wr5 := by rw [hW]; exact HK.out.trans (KeepsOthers.alloc wr4 _)
       replace HK := Aside0.mk (q_)
       replace HTR := Aside0.mk (TR_below HTR.out hb_)
       replace HXo := mB HXo hb_
       replace HXr := mB HXr hb_
       replace HXe := mB HXe hb_
       replace HXf := mB HXf hb_
       replace HB := mS HB hb_
       clear hW hh hb_ q_
       refine hK.out _ _ ⟨(cL HXo 2 rfl),(cL HXo 3 rfl),(cL HXo 4 rfl),(cL HXf 0 rfl)⟩ (fun hHeld => ?_)
       clear hK K
       refine norm_ (a' := ?_) ?_ ?_
       rotate_left
       ·show Act.put _ (some 25) _ = _
        simp only [Act.put,zrI,zrs0,zrs1,i64_w,i32_w]
        rfl
       exact norm_ (by first | (simp only [putAll,Act.put,zrI,zrs0,zrs1]; done) | (simp only [putAll,Act.put,zrI,zrs0,zrs1]; rfl)) (hCont (.slice (some ⟨h3,0,none⟩) 1 1,.slice (some ⟨h7,0,none⟩) 1 1,.slice (some ⟨h12,0,none⟩) 1 1,.slice B1 (o ++ [x]).length e1,.slice B2 (l ++ [0]).length e2) _ ⟨h12,B1,e1,B2,e2,rfl,rfl,rfl,HTR.out,HXo.out,HXr.out,HXe.out,HXf.out,HB.out,HK.out,H12.out⟩)
      ·skip
       refine value_ (w1 := ?_) (v := ?_) (by rfl) rfl ?_ ?_
       rotate_left 2
       ·go_simp
        constructor
        ·rfl
        ·rfl
       obtain ⟨wr4,hW⟩ : ∃ W_,W_ = wr3.alloc (.cells #[.int .u64 first] 23) := ⟨_,rfl⟩
       obtain ⟨h12,hh⟩ : ∃ g_,g_ = wr3.heap.size := ⟨_,rfl⟩
       rw [← hW,← hh]
       have hb_ : Below wr3.heap.size wr3 wr4 := by rw [hW]; exact below_alloc (Below.refl _ _) _
       have H12 : Aside0 (Kd.R (Kd.int .u64) 23 wr4 w.heap.size (fun _ => True) (.slice (some ⟨h12,0,none⟩) 1 1) [first]) := ⟨by rw [hW,hh]; exact R_one (below_size HB.out)⟩
       have q_ : KeepsOthers W wr4 := by rw [hW]; exact HK.out.trans (KeepsOthers.alloc wr3 _)
       replace HK := Aside0.mk (q_)
       replace HTR := Aside0.mk (TR_below HTR.out hb_)
       replace HXo := mB HXo hb_
       replace HXr := mB HXr hb_
       replace HXe := mB HXe hb_
       replace HXf := mB HXf hb_
       replace H7 := Aside0.mk (Kd.R_below H7.out hb_)
       replace HB := mS HB hb_
       clear hW hh hb_ q_
       refine hK.out _ _ ⟨(cL HXo 2 rfl),(cL HXo 3 rfl),(cL HXo 4 rfl),(cL HXf 0 rfl)⟩ (fun hHeld => ?_)
       clear hK K
       refine norm_ (a' := ?_) ?_ ?_
       rotate_left
       ·show Act.put _ (some 25) _ = _
        simp only [Act.put,zrI,zrs0,zrs1,i64_w,i32_w]
        rfl
       refine one_ (i := 8) (N := some 21) zr9 rfl rfl (one_of HT_.out (by kernel_rfl)) (by decide) (fun K hK => ?_)
       refine Kd.R_append_rows_step (Kd.int .i64) (w0 := w) w.heap.size (by rfl) (.tmp 19) (.tmp 20) 25 3 (.int .i64 0) 8 rfl Try.underlying25 info3 rfl (by decide) (by omega) (.slice A2 l.length d2) l [0] _ _ _ (fun _ => True) (fun _ => False) rfl rfl ?aO ?aR (fun _ _ h => h) (fun _ h => h.elim) ?aF ?aB ?aS ?aL ?_
       (case aR => exact one_C H7.out)
       (case aB => exact HB.out)
       (case aF => exact (fun _ _ => trivial))
       (case aO => exact TR_l HTR.out)
       (case aS => exact below_size HB.out)
       (case aL => have := HL.out; omega)
       intro v_ wr5 ho_ hb_ hg_ hat_
       replace HXo := Aside0.mk (blk_grown HXo.out hg_ (Kd.R_ne (TR_l HTR.out) HXo.out (by decide)))
       replace HXr := Aside0.mk (blk_grown HXr.out hg_ (Kd.R_ne (TR_l HTR.out) HXr.out (by decide)))
       replace HXe := Aside0.mk (blk_grown HXe.out hg_ (Kd.R_ne (TR_l HTR.out) HXe.out (by decide)))
       replace HXf := Aside0.mk (blk_grown HXf.out hg_ (Kd.R_ne (TR_l HTR.out) HXf.out (by decide)))
       replace HK := Aside0.mk (keeps_row HK.out (TR_l HTR.out) hg_)
       replace H12 := Aside0.mk (one_type H12.out (TR_l HTR.out) (by decide) hg_)
       replace HB := Aside0.mk (hb_)
       obtain ⟨B2,e2,hv_,hT_⟩ := app_l HTR.out ho_ hg_ hat_
       replace HTR := Aside0.mk hT_
       subst hv_
       clear ho_ hb_ hg_ hat_ hT_ H7
       refine hK.out _ _ ⟨(cL HXo 2 rfl),(cL HXo 3 rfl),(cL HXo 4 rfl),(cL HXf 0 rfl)⟩ (fun hHeld => ?_)
       clear hK K
       refine norm_ (a' := ?_) ?_ ?_
       rotate_left
       ·show Act.put _ (some 21) _ = _
        simp only [Act.put,zrI,zrs0,zrs1,i64_w,i32_w]
        rfl
       exact norm_ (by first | (simp only [putAll,Act.put,zrI,zrs0,zrs1]; done) | (simp only [putAll,Act.put,zrI,zrs0,zrs1]; rfl)) (hCont (.slice (some ⟨h3,0,none⟩) 1 1,.slice (some ⟨h7,0,none⟩) 1 1,.slice (some ⟨h12,0,none⟩) 1 1,.slice B1 (o ++ [x]).length e1,.slice B2 (l ++ [0]).length e2) _ ⟨h12,B1,e1,B2,e2,rfl,rfl,rfl,HTR.out,HXo.out,HXr.out,HXe.out,HXf.out,HB.out,HK.out,H12.out⟩)
     ·skip
      refine value_ (w1 := ?_) (v := ?_) (by rfl) rfl ?_ ?_
      rotate_left 2
      ·go_simp
       constructor
       ·rfl
       ·rfl
      obtain ⟨wr3,hW⟩ : ∃ W_,W_ = wr2.alloc (.cells #[.int .u64 first] 23) := ⟨_,rfl⟩
      obtain ⟨h12,hh⟩ : ∃ g_,g_ = wr2.heap.size := ⟨_,rfl⟩
      rw [← hW,← hh]
      have hb_ : Below wr2.heap.size wr2 wr3 := by rw [hW]; exact below_alloc (Below.refl _ _) _
      have H12 : Aside0 (Kd.R (Kd.int .u64) 23 wr3 w.heap.size (fun _ => True) (.slice (some ⟨h12,0,none⟩) 1 1) [first]) := ⟨by rw [hW,hh]; exact R_one (below_size HB.out)⟩
      have q_ : KeepsOthers W wr3 := by rw [hW]; exact HK.out.trans (KeepsOthers.alloc wr2 _)
      replace HK := Aside0.mk (q_)
      replace HTR := Aside0.mk (TR_below HTR.out hb_)
      replace HXo := mB HXo hb_
      replace HXr := mB HXr hb_
      replace HXe := mB HXe hb_
      replace HXf := mB HXf hb_
      replace H3 := Aside0.mk (Kd.R_below H3.out hb_)
      replace H7 := Aside0.mk (Kd.R_below H7.out hb_)
      replace HB := mS HB hb_
      clear hW hh hb_ q_
      refine hK.out _ _ ⟨(cL HXo 2 rfl),(cL HXo 3 rfl),(cL HXo 4 rfl),(cL HXf 0 rfl)⟩ (fun hHeld => ?_)
      clear hK K
      refine norm_ (a' := ?_) ?_ ?_
      rotate_left
      ·show Act.put _ (some 25) _ = _
       simp only [Act.put,zrI,zrs0,zrs1,i64_w,i32_w]
       rfl
      refine one_ (i := 4) (N := some 17) zr23 rfl rfl (one_of HT_.out (by kernel_rfl)) (by decide) (fun K hK => ?_)
      refine Kd.R_append_rows_step (Kd.int .i64) (w0 := w) w.heap.size (by rfl) (.tmp 14) (.tmp 16) 25 3 (.int .i64 0) 8 rfl Try.underlying25 info3 rfl (by decide) (by omega) (.slice A1 o.length d1) o [x] _ _ _ (fun _ => True) (fun _ => False) rfl rfl ?aO ?aR (fun _ _ h => h) (fun _ h => h.elim) ?aF ?aB ?aS ?aL ?_
      (case aR => exact one_C H3.out)
      (case aB => exact HB.out)
      (case aF => exact (fun _ _ => trivial))
      (case aO => exact TR_o HTR.out)
      (case aS => exact below_size HB.out)
      (case aL => have := HL.out; omega)
      intro v_ wr4 ho_ hb_ hg_ hat_
      replace HXo := Aside0.mk (blk_grown HXo.out hg_ (Kd.R_ne (TR_o HTR.out) HXo.out (by decide)))
      replace HXr := Aside0.mk (blk_grown HXr.out hg_ (Kd.R_ne (TR_o HTR.out) HXr.out (by decide)))
      replace HXe := Aside0.mk (blk_grown HXe.out hg_ (Kd.R_ne (TR_o HTR.out) HXe.out (by decide)))
      replace HXf := Aside0.mk (blk_grown HXf.out hg_ (Kd.R_ne (TR_o HTR.out) HXf.out (by decide)))
      replace HK := Aside0.mk (keeps_row HK.out (TR_o HTR.out) hg_)
      replace H7 := Aside0.mk (one_row H7.out N7.out hg_)
      replace H12 := Aside0.mk (one_type H12.out (TR_o HTR.out) (by decide) hg_)
      replace HB := Aside0.mk (hb_)
      obtain ⟨B1,e1,hv_,hT_⟩ := app_o HTR.out ho_ hg_ hat_
      replace HTR := Aside0.mk hT_
      subst hv_
      clear ho_ hb_ hg_ hat_ hT_ H3
      refine hK.out _ _ ⟨(cL HXo 2 rfl),(cL HXo 3 rfl),(cL HXo 4 rfl),(cL HXf 0 rfl)⟩ (fun hHeld => ?_)
      clear hK K
      refine norm_ (a' := ?_) ?_ ?_
      rotate_left
      ·show Act.put _ (some 17) _ = _
       simp only [Act.put,zrI,zrs0,zrs1,i64_w,i32_w]
       rfl
      refine pure_ (i := 14) (N := some 27) (v := ?_) (a' := ?_) zr20 rfl rfl (any_of HT_.out (by kernel_rfl)) (fun _ _ _ h => h) (Or.inl ⟨by rfl,?_⟩) ?_ ?_
      rotate_left
      ·intro w'
       go_simp
       with_reducible rfl
      rotate_left
      ·simp only [Act.put,zrI,zrs0,zrs1,i64_w,i32_w]
       rfl
      refine one_ (i := 8) (N := some 21) zr9 rfl rfl (one_of HT_.out (by kernel_rfl)) (by decide) (fun K hK => ?_)
      refine Kd.R_append_rows_step (Kd.int .i64) (w0 := w) w.heap.size (by rfl) (.tmp 19) (.tmp 20) 25 3 (.int .i64 0) 8 rfl Try.underlying25 info3 rfl (by decide) (by omega) (.slice A2 l.length d2) l [0] _ _ _ (fun _ => True) (fun _ => False) rfl rfl ?aO ?aR (fun _ _ h => h) (fun _ h => h.elim) ?aF ?aB ?aS ?aL ?_
      (case aR => exact one_C H7.out)
      (case aB => exact HB.out)
      (case aF => exact (fun _ _ => trivial))
      (case aO => exact TR_l HTR.out)
      (case aS => exact below_size HB.out)
      (case aL => have := HL.out; omega)
      intro v_ wr5 ho_ hb_ hg_ hat_
      replace HXo := Aside0.mk (blk_grown HXo.out hg_ (Kd.R_ne (TR_l HTR.out) HXo.out (by decide)))
      replace HXr := Aside0.mk (blk_grown HXr.out hg_ (Kd.R_ne (TR_l HTR.out) HXr.out (by decide)))
      replace HXe := Aside0.mk (blk_grown HXe.out hg_ (Kd.R_ne (TR_l HTR.out) HXe.out (by decide)))
      replace HXf := Aside0.mk (blk_grown HXf.out hg_ (Kd.R_ne (TR_l HTR.out) HXf.out (by decide)))
      replace HK := Aside0.mk (keeps_row HK.out (TR_l HTR.out) hg_)
      replace H12 := Aside0.mk (one_type H12.out (TR_l HTR.out) (by decide) hg_)
      replace HB := Aside0.mk (hb_)
      obtain ⟨B2,e2,hv_,hT_⟩ := app_l HTR.out ho_ hg_ hat_
      replace HTR := Aside0.mk hT_
      subst hv_
      clear ho_ hb_ hg_ hat_ hT_ H7
      refine hK.out _ _ ⟨(cL HXo 2 rfl),(cL HXo 3 rfl),(cL HXo 4 rfl),(cL HXf 0 rfl)⟩ (fun hHeld => ?_)
      clear hK K
      refine norm_ (a' := ?_) ?_ ?_
      rotate_left
      ·show Act.put _ (some 21) _ = _
       simp only [Act.put,zrI,zrs0,zrs1,i64_w,i32_w]
       rfl
      exact norm_ (by first | (simp only [putAll,Act.put,zrI,zrs0,zrs1]; done) | (simp only [putAll,Act.put,zrI,zrs0,zrs1]; rfl)) (hCont (.slice (some ⟨h3,0,none⟩) 1 1,.slice (some ⟨h7,0,none⟩) 1 1,.slice (some ⟨h12,0,none⟩) 1 1,.slice B1 (o ++ [x]).length e1,.slice B2 (l ++ [0]).length e2) _ ⟨h12,B1,e1,B2,e2,rfl,rfl,rfl,HTR.out,HXo.out,HXr.out,HXe.out,HXf.out,HB.out,HK.out,H12.out⟩)
    ·skip
     refine value_ (w1 := ?_) (v := ?_) (by rfl) rfl ?_ ?_
     rotate_left 2
     ·go_simp
      constructor
      ·rfl
      ·rfl
     obtain ⟨wr2,hW⟩ : ∃ W_,W_ = wr1.alloc (.cells #[.int .u64 first] 23) := ⟨_,rfl⟩
     obtain ⟨h12,hh⟩ : ∃ g_,g_ = wr1.heap.size := ⟨_,rfl⟩
     rw [← hW,← hh]
     have hb_ : Below wr1.heap.size wr1 wr2 := by rw [hW]; exact below_alloc (Below.refl _ _) _
     have H12 : Aside0 (Kd.R (Kd.int .u64) 23 wr2 w.heap.size (fun _ => True) (.slice (some ⟨h12,0,none⟩) 1 1) [first]) := ⟨by rw [hW,hh]; exact R_one (below_size HB.out)⟩
     have q_ : KeepsOthers W wr2 := by rw [hW]; exact HK.out.trans (KeepsOthers.alloc wr1 _)
     replace HK := Aside0.mk (q_)
     replace HTR := Aside0.mk (TR_below HTR.out hb_)
     replace HXo := mB HXo hb_
     replace HXr := mB HXr hb_
     replace HXe := mB HXe hb_
     replace HXf := mB HXf hb_
     replace H7 := Aside0.mk (Kd.R_below H7.out hb_)
     replace HB := mS HB hb_
     clear hW hh hb_ q_
     refine hK.out _ _ ⟨(cL HXo 2 rfl),(cL HXo 3 rfl),(cL HXo 4 rfl),(cL HXf 0 rfl)⟩ (fun hHeld => ?_)
     clear hK K
     refine norm_ (a' := ?_) ?_ ?_
     rotate_left
     ·show Act.put _ (some 25) _ = _
      simp only [Act.put,zrI,zrs0,zrs1,i64_w,i32_w]
      rfl
     refine one_ (i := 3) (N := some 16) zr22 rfl rfl (one_of HT_.out (by kernel_rfl)) (by decide) (fun K hK => ?_)
     refine value_ (w1 := ?_) (v := ?_) (by rfl) rfl ?_ ?_
     rotate_left 2
     ·go_simp
      constructor
      ·rfl
      ·rfl
     obtain ⟨wr3,hW⟩ : ∃ W_,W_ = wr2.alloc (.cells #[.int .i64 x] 3) := ⟨_,rfl⟩
     obtain ⟨h3,hh⟩ : ∃ g_,g_ = wr2.heap.size := ⟨_,rfl⟩
     rw [← hW,← hh]
     have hb_ : Below wr2.heap.size wr2 wr3 := by rw [hW]; exact below_alloc (Below.refl _ _) _
     have H3 : Aside0 (Kd.R (Kd.int .i64) 3 wr3 w.heap.size (fun _ => True) (.slice (some ⟨h3,0,none⟩) 1 1) [x]) := ⟨by rw [hW,hh]; exact R_one (below_size HB.out)⟩
     have q_ : KeepsOthers W wr3 := by rw [hW]; exact HK.out.trans (KeepsOthers.alloc wr2 _)
     replace HK := Aside0.mk (q_)
     replace HTR := Aside0.mk (TR_below HTR.out hb_)
     replace HXo := mB HXo hb_
     replace HXr := mB HXr hb_
     replace HXe := mB HXe hb_
     replace HXf := mB HXf hb_
     replace H7 := Aside0.mk (Kd.R_below H7.out hb_)
     replace H12 := Aside0.mk (Kd.R_below H12.out hb_)
     replace HB := mS HB hb_
     clear hW hh hb_ q_
     refine hK.out _ _ ⟨(cL HXo 2 rfl),(cL HXo 3 rfl),(cL HXo 4 rfl),(cL HXf 0 rfl)⟩ (fun hHeld => ?_)
     clear hK K
     refine norm_ (a' := ?_) ?_ ?_
     rotate_left
     ·show Act.put _ (some 16) _ = _
      simp only [Act.put,zrI,zrs0,zrs1,i64_w,i32_w]
      rfl
     refine one_ (i := 4) (N := some 17) zr23 rfl rfl (one_of HT_.out (by kernel_rfl)) (by decide) (fun K hK => ?_)
     refine Kd.R_append_rows_step (Kd.int .i64) (w0 := w) w.heap.size (by rfl) (.tmp 14) (.tmp 16) 25 3 (.int .i64 0) 8 rfl Try.underlying25 info3 rfl (by decide) (by omega) (.slice A1 o.length d1) o [x] _ _ _ (fun _ => True) (fun _ => False) rfl rfl ?aO ?aR (fun _ _ h => h) (fun _ h => h.elim) ?aF ?aB ?aS ?aL ?_
     (case aR => exact one_C H3.out)
     (case aB => exact HB.out)
     (case aF => exact (fun _ _ => trivial))
     (case aO => exact TR_o HTR.out)
     (case aS => exact below_size HB.out)
     (case aL => have := HL.out; omega)
     intro v_ wr4 ho_ hb_ hg_ hat_
     replace HXo := Aside0.mk (blk_grown HXo.out hg_ (Kd.R_ne (TR_o HTR.out) HXo.out (by decide)))
     replace HXr := Aside0.mk (blk_grown HXr.out hg_ (Kd.R_ne (TR_o HTR.out) HXr.out (by decide)))
     replace HXe := Aside0.mk (blk_grown HXe.out hg_ (Kd.R_ne (TR_o HTR.out) HXe.out (by decide)))
     replace HXf := Aside0.mk (blk_grown HXf.out hg_ (Kd.R_ne (TR_o HTR.out) HXf.out (by decide)))
     replace HK := Aside0.mk (keeps_row HK.out (TR_o HTR.out) hg_)
     replace H7 := Aside0.mk (one_row H7.out N7.out hg_)
     replace H12 := Aside0.mk (one_type H12.out (TR_o HTR.out) (by decide) hg_)
     replace HB := Aside0.mk (hb_)
     obtain ⟨B1,e1,hv_,hT_⟩ := app_o HTR.out ho_ hg_ hat_
     replace HTR := Aside0.mk hT_
     subst hv_
     clear ho_ hb_ hg_ hat_ hT_ H3
     refine hK.out _ _ ⟨(cL HXo 2 rfl),(cL HXo 3 rfl),(cL HXo 4 rfl),(cL HXf 0 rfl)⟩ (fun hHeld => ?_)
     clear hK K
     refine norm_ (a' := ?_) ?_ ?_
     rotate_left
     ·show Act.put _ (some 17) _ = _
      simp only [Act.put,zrI,zrs0,zrs1,i64_w,i32_w]
      rfl
     refine pure_ (i := 14) (N := some 27) (v := ?_) (a' := ?_) zr20 rfl rfl (any_of HT_.out (by kernel_rfl)) (fun _ _ _ h => h) (Or.inl ⟨by rfl,?_⟩) ?_ ?_
     rotate_left
     ·intro w'
      go_simp
      with_reducible rfl
     rotate_left
     ·simp only [Act.put,zrI,zrs0,zrs1,i64_w,i32_w]
      rfl
     refine one_ (i := 8) (N := some 21) zr9 rfl rfl (one_of HT_.out (by kernel_rfl)) (by decide) (fun K hK => ?_)
     refine Kd.R_append_rows_step (Kd.int .i64) (w0 := w) w.heap.size (by rfl) (.tmp 19) (.tmp 20) 25 3 (.int .i64 0) 8 rfl Try.underlying25 info3 rfl (by decide) (by omega) (.slice A2 l.length d2) l [0] _ _ _ (fun _ => True) (fun _ => False) rfl rfl ?aO ?aR (fun _ _ h => h) (fun _ h => h.elim) ?aF ?aB ?aS ?aL ?_
     (case aR => exact one_C H7.out)
     (case aB => exact HB.out)
     (case aF => exact (fun _ _ => trivial))
     (case aO => exact TR_l HTR.out)
     (case aS => exact below_size HB.out)
     (case aL => have := HL.out; omega)
     intro v_ wr5 ho_ hb_ hg_ hat_
     replace HXo := Aside0.mk (blk_grown HXo.out hg_ (Kd.R_ne (TR_l HTR.out) HXo.out (by decide)))
     replace HXr := Aside0.mk (blk_grown HXr.out hg_ (Kd.R_ne (TR_l HTR.out) HXr.out (by decide)))
     replace HXe := Aside0.mk (blk_grown HXe.out hg_ (Kd.R_ne (TR_l HTR.out) HXe.out (by decide)))
     replace HXf := Aside0.mk (blk_grown HXf.out hg_ (Kd.R_ne (TR_l HTR.out) HXf.out (by decide)))
     replace HK := Aside0.mk (keeps_row HK.out (TR_l HTR.out) hg_)
     replace H12 := Aside0.mk (one_type H12.out (TR_l HTR.out) (by decide) hg_)
     replace HB := Aside0.mk (hb_)
     obtain ⟨B2,e2,hv_,hT_⟩ := app_l HTR.out ho_ hg_ hat_
     replace HTR := Aside0.mk hT_
     subst hv_
     clear ho_ hb_ hg_ hat_ hT_ H7
     refine hK.out _ _ ⟨(cL HXo 2 rfl),(cL HXo 3 rfl),(cL HXo 4 rfl),(cL HXf 0 rfl)⟩ (fun hHeld => ?_)
     clear hK K
     refine norm_ (a' := ?_) ?_ ?_
     rotate_left
     ·show Act.put _ (some 21) _ = _
      simp only [Act.put,zrI,zrs0,zrs1,i64_w,i32_w]
      rfl
     exact norm_ (by first | (simp only [putAll,Act.put,zrI,zrs0,zrs1]; done) | (simp only [putAll,Act.put,zrI,zrs0,zrs1]; rfl)) (hCont (.slice (some ⟨h3,0,none⟩) 1 1,.slice (some ⟨h7,0,none⟩) 1 1,.slice (some ⟨h12,0,none⟩) 1 1,.slice B1 (o ++ [x]).length e1,.slice B2 (l ++ [0]).length e2) _ ⟨h12,B1,e1,B2,e2,rfl,rfl,rfl,HTR.out,HXo.out,HXr.out,HXe.out,HXf.out,HB.out,HK.out,H12.out⟩)
   ·skip
    refine value_ (w1 := ?_) (v := ?_) (by rfl) rfl ?_ ?_
    rotate_left 2
    ·go_simp
     constructor
     ·rfl
     ·rfl
    obtain ⟨wr1,hW⟩ : ∃ W_,W_ = wd1.alloc (.cells #[.int .u64 first] 23) := ⟨_,rfl⟩
    obtain ⟨h12,hh⟩ : ∃ g_,g_ = wd1.heap.size := ⟨_,rfl⟩
    rw [← hW,← hh]
    have hb_ : Below wd1.heap.size wd1 wr1 := by rw [hW]; exact below_alloc (Below.refl _ _) _
    have H12 : Aside0 (Kd.R (Kd.int .u64) 23 wr1 w.heap.size (fun _ => True) (.slice (some ⟨h12,0,none⟩) 1 1) [first]) := ⟨by rw [hW,hh]; exact R_one (below_size HB.out)⟩
    have q_ : KeepsOthers W wr1 := by rw [hW]; exact HK.out.trans (KeepsOthers.alloc wd1 _)
    replace HK := Aside0.mk (q_)
    replace HTR := Aside0.mk (TR_below HTR.out hb_)
    replace HXo := mB HXo hb_
    replace HXr := mB HXr hb_
    replace HXe := mB HXe hb_
    replace HXf := mB HXf hb_
    replace HB := mS HB hb_
    clear hW hh hb_ q_
    refine hK.out _ _ ⟨(cL HXo 2 rfl),(cL HXo 3 rfl),(cL HXo 4 rfl),(cL HXf 0 rfl)⟩ (fun hHeld => ?_)
    clear hK K
    refine norm_ (a' := ?_) ?_ ?_
    rotate_left
    ·show Act.put _ (some 25) _ = _
     simp only [Act.put,zrI,zrs0,zrs1,i64_w,i32_w]
     rfl
    refine two_ (i := 3) (j := 7) (Ni := some 16) (Nj := some 20) zr15 zr25 rfl rfl rfl rfl (two_of HT_.out (by kernel_rfl)) (by decide) (by decide) (fun K hK => ?_) (fun K hK => ?_)
    ·skip
     refine value_ (w1 := ?_) (v := ?_) (by rfl) rfl ?_ ?_
     rotate_left 2
     ·go_simp
      constructor
      ·rfl
      ·rfl
     obtain ⟨wr2,hW⟩ : ∃ W_,W_ = wr1.alloc (.cells #[.int .i64 x] 3) := ⟨_,rfl⟩
     obtain ⟨h3,hh⟩ : ∃ g_,g_ = wr1.heap.size := ⟨_,rfl⟩
     rw [← hW,← hh]
     have hb_ : Below wr1.heap.size wr1 wr2 := by rw [hW]; exact below_alloc (Below.refl _ _) _
     have H3 : Aside0 (Kd.R (Kd.int .i64) 3 wr2 w.heap.size (fun _ => True) (.slice (some ⟨h3,0,none⟩) 1 1) [x]) := ⟨by rw [hW,hh]; exact R_one (below_size HB.out)⟩
     have q_ : KeepsOthers W wr2 := by rw [hW]; exact HK.out.trans (KeepsOthers.alloc wr1 _)
     replace HK := Aside0.mk (q_)
     replace HTR := Aside0.mk (TR_below HTR.out hb_)
     replace HXo := mB HXo hb_
     replace HXr := mB HXr hb_
     replace HXe := mB HXe hb_
     replace HXf := mB HXf hb_
     replace H12 := Aside0.mk (Kd.R_below H12.out hb_)
     replace HB := mS HB hb_
     clear hW hh hb_ q_
     refine hK.out _ _ ⟨(cL HXo 2 rfl),(cL HXo 3 rfl),(cL HXo 4 rfl),(cL HXf 0 rfl)⟩ (fun hHeld => ?_)
     clear hK K
     refine norm_ (a' := ?_) ?_ ?_
     rotate_left
     ·show Act.put _ (some 16) _ = _
      simp only [Act.put,zrI,zrs0,zrs1,i64_w,i32_w]
      rfl
     refine two_ (i := 4) (j := 7) (Ni := some 17) (Nj := some 20) zr24 zr22 rfl rfl rfl rfl (two_of HT_.out (by kernel_rfl)) (by decide) (by decide) (fun K hK => ?_) (fun K hK => ?_)
     ·skip
      refine Kd.R_append_rows_step (Kd.int .i64) (w0 := w) w.heap.size (by rfl) (.tmp 14) (.tmp 16) 25 3 (.int .i64 0) 8 rfl Try.underlying25 info3 rfl (by decide) (by omega) (.slice A1 o.length d1) o [x] _ _ _ (fun _ => True) (fun _ => False) rfl rfl ?aO ?aR (fun _ _ h => h) (fun _ h => h.elim) ?aF ?aB ?aS ?aL ?_
      (case aR => exact one_C H3.out)
      (case aB => exact HB.out)
      (case aF => exact (fun _ _ => trivial))
      (case aO => exact TR_o HTR.out)
      (case aS => exact below_size HB.out)
      (case aL => have := HL.out; omega)
      intro v_ wr3 ho_ hb_ hg_ hat_
      replace HXo := Aside0.mk (blk_grown HXo.out hg_ (Kd.R_ne (TR_o HTR.out) HXo.out (by decide)))
      replace HXr := Aside0.mk (blk_grown HXr.out hg_ (Kd.R_ne (TR_o HTR.out) HXr.out (by decide)))
      replace HXe := Aside0.mk (blk_grown HXe.out hg_ (Kd.R_ne (TR_o HTR.out) HXe.out (by decide)))
      replace HXf := Aside0.mk (blk_grown HXf.out hg_ (Kd.R_ne (TR_o HTR.out) HXf.out (by decide)))
      replace HK := Aside0.mk (keeps_row HK.out (TR_o HTR.out) hg_)
      replace H12 := Aside0.mk (one_type H12.out (TR_o HTR.out) (by decide) hg_)
      replace HB := Aside0.mk (hb_)
      obtain ⟨B1,e1,hv_,hT_⟩ := app_o HTR.out ho_ hg_ hat_
      replace HTR := Aside0.mk hT_
      subst hv_
      clear ho_ hb_ hg_ hat_ hT_ H3
      refine hK.out _ _ ⟨(cL HXo 2 rfl),(cL HXo 3 rfl),(cL HXo 4 rfl),(cL HXf 0 rfl)⟩ (fun hHeld => ?_)
      clear hK K
      refine norm_ (a' := ?_) ?_ ?_
      rotate_left
      ·show Act.put _ (some 17) _ = _
       simp only [Act.put,zrI,zrs0,zrs1,i64_w,i32_w]
       rfl
      refine pure_ (i := 14) (N := some 27) (v := ?_) (a' := ?_) zr18 rfl rfl (any_of HT_.out (by kernel_rfl)) (fun _ _ _ h => h) (Or.inl ⟨by rfl,?_⟩) ?_ ?_
      rotate_left
      ·intro w'
       go_simp
       with_reducible rfl
      rotate_left
      ·simp only [Act.put,zrI,zrs0,zrs1,i64_w,i32_w]
       rfl
      refine one_ (i := 7) (N := some 20) zr20 rfl rfl (one_of HT_.out (by kernel_rfl)) (by decide) (fun K hK => ?_)
      refine value_ (w1 := ?_) (v := ?_) (by rfl) rfl ?_ ?_
      rotate_left 2
      ·go_simp
       constructor
       ·rfl
       ·rfl
      obtain ⟨wr4,hW⟩ : ∃ W_,W_ = wr3.alloc (.cells #[.int .i64 0] 3) := ⟨_,rfl⟩
      obtain ⟨h7,hh⟩ : ∃ g_,g_ = wr3.heap.size := ⟨_,rfl⟩
      rw [← hW,← hh]
      have hb_ : Below wr3.heap.size wr3 wr4 := by rw [hW]; exact below_alloc (Below.refl _ _) _
      have H7 : Aside0 (Kd.R (Kd.int .i64) 3 wr4 w.heap.size (fun _ => True) (.slice (some ⟨h7,0,none⟩) 1 1) [0]) := ⟨by rw [hW,hh]; exact R_one (below_size HB.out)⟩
      have q_ : KeepsOthers W wr4 := by rw [hW]; exact HK.out.trans (KeepsOthers.alloc wr3 _)
      replace HK := Aside0.mk (q_)
      replace HTR := Aside0.mk (TR_below HTR.out hb_)
      replace HXo := mB HXo hb_
      replace HXr := mB HXr hb_
      replace HXe := mB HXe hb_
      replace HXf := mB HXf hb_
      replace H12 := Aside0.mk (Kd.R_below H12.out hb_)
      replace HB := mS HB hb_
      clear hW hh hb_ q_
      refine hK.out _ _ ⟨(cL HXo 2 rfl),(cL HXo 3 rfl),(cL HXo 4 rfl),(cL HXf 0 rfl)⟩ (fun hHeld => ?_)
      clear hK K
      refine norm_ (a' := ?_) ?_ ?_
      rotate_left
      ·show Act.put _ (some 20) _ = _
       simp only [Act.put,zrI,zrs0,zrs1,i64_w,i32_w]
       rfl
      refine one_ (i := 8) (N := some 21) zr9 rfl rfl (one_of HT_.out (by kernel_rfl)) (by decide) (fun K hK => ?_)
      refine Kd.R_append_rows_step (Kd.int .i64) (w0 := w) w.heap.size (by rfl) (.tmp 19) (.tmp 20) 25 3 (.int .i64 0) 8 rfl Try.underlying25 info3 rfl (by decide) (by omega) (.slice A2 l.length d2) l [0] _ _ _ (fun _ => True) (fun _ => False) rfl rfl ?aO ?aR (fun _ _ h => h) (fun _ h => h.elim) ?aF ?aB ?aS ?aL ?_
      (case aR => exact one_C H7.out)
      (case aB => exact HB.out)
      (case aF => exact (fun _ _ => trivial))
      (case aO => exact TR_l HTR.out)
      (case aS => exact below_size HB.out)
      (case aL => have := HL.out; omega)
      intro v_ wr5 ho_ hb_ hg_ hat_
      replace HXo := Aside0.mk (blk_grown HXo.out hg_ (Kd.R_ne (TR_l HTR.out) HXo.out (by decide)))
      replace HXr := Aside0.mk (blk_grown HXr.out hg_ (Kd.R_ne (TR_l HTR.out) HXr.out (by decide)))
      replace HXe := Aside0.mk (blk_grown HXe.out hg_ (Kd.R_ne (TR_l HTR.out) HXe.out (by decide)))
      replace HXf := Aside0.mk (blk_grown HXf.out hg_ (Kd.R_ne (TR_l HTR.out) HXf.out (by decide)))
      replace HK := Aside0.mk (keeps_row HK.out (TR_l HTR.out) hg_)
      replace H12 := Aside0.mk (one_type H12.out (TR_l HTR.out) (by decide) hg_)
      replace HB := Aside0.mk (hb_)
      obtain ⟨B2,e2,hv_,hT_⟩ := app_l HTR.out ho_ hg_ hat_
      replace HTR := Aside0.mk hT_
      subst hv_
      clear ho_ hb_ hg_ hat_ hT_ H7
      refine hK.out _ _ ⟨(cL HXo 2 rfl),(cL HXo 3 rfl),(cL HXo 4 rfl),(cL HXf 0 rfl)⟩ (fun hHeld => ?_)
      clear hK K
      refine norm_ (a' := ?_) ?_ ?_
      rotate_left
      ·show Act.put _ (some 21) _ = _
       simp only [Act.put,zrI,zrs0,zrs1,i64_w,i32_w]
       rfl
      exact norm_ (by first | (simp only [putAll,Act.put,zrI,zrs0,zrs1]; done) | (simp only [putAll,Act.put,zrI,zrs0,zrs1]; rfl)) (hCont (.slice (some ⟨h3,0,none⟩) 1 1,.slice (some ⟨h7,0,none⟩) 1 1,.slice (some ⟨h12,0,none⟩) 1 1,.slice B1 (o ++ [x]).length e1,.slice B2 (l ++ [0]).length e2) _ ⟨h12,B1,e1,B2,e2,rfl,rfl,rfl,HTR.out,HXo.out,HXr.out,HXe.out,HXf.out,HB.out,HK.out,H12.out⟩)
     ·skip
      refine value_ (w1 := ?_) (v := ?_) (by rfl) rfl ?_ ?_
      rotate_left 2
      ·go_simp
       constructor
       ·rfl
       ·rfl
      obtain ⟨wr3,hW⟩ : ∃ W_,W_ = wr2.alloc (.cells #[.int .i64 0] 3) := ⟨_,rfl⟩
      obtain ⟨h7,hh⟩ : ∃ g_,g_ = wr2.heap.size := ⟨_,rfl⟩
      rw [← hW,← hh]
      have hb_ : Below wr2.heap.size wr2 wr3 := by rw [hW]; exact below_alloc (Below.refl _ _) _
      have H7 : Aside0 (Kd.R (Kd.int .i64) 3 wr3 w.heap.size (fun _ => True) (.slice (some ⟨h7,0,none⟩) 1 1) [0]) := ⟨by rw [hW,hh]; exact R_one (below_size HB.out)⟩
      have N7 : Aside0 ((Value.slice A1 o.length d1).ownBlock ≠ some h7) := ⟨by rw [hh]; exact one_ne (TR_o HTR.out)⟩
      have q_ : KeepsOthers W wr3 := by rw [hW]; exact HK.out.trans (KeepsOthers.alloc wr2 _)
      replace HK := Aside0.mk (q_)
      replace HTR := Aside0.mk (TR_below HTR.out hb_)
      replace HXo := mB HXo hb_
      replace HXr := mB HXr hb_
      replace HXe := mB HXe hb_
      replace HXf := mB HXf hb_
      replace H3 := Aside0.mk (Kd.R_below H3.out hb_)
      replace H12 := Aside0.mk (Kd.R_below H12.out hb_)
      replace HB := mS HB hb_
      clear hW hh hb_ q_
      refine hK.out _ _ ⟨(cL HXo 2 rfl),(cL HXo 3 rfl),(cL HXo 4 rfl),(cL HXf 0 rfl)⟩ (fun hHeld => ?_)
      clear hK K
      refine norm_ (a' := ?_) ?_ ?_
      rotate_left
      ·show Act.put _ (some 20) _ = _
       simp only [Act.put,zrI,zrs0,zrs1,i64_w,i32_w]
       rfl
      refine one_ (i := 4) (N := some 17) zr23 rfl rfl (one_of HT_.out (by kernel_rfl)) (by decide) (fun K hK => ?_)
      refine Kd.R_append_rows_step (Kd.int .i64) (w0 := w) w.heap.size (by rfl) (.tmp 14) (.tmp 16) 25 3 (.int .i64 0) 8 rfl Try.underlying25 info3 rfl (by decide) (by omega) (.slice A1 o.length d1) o [x] _ _ _ (fun _ => True) (fun _ => False) rfl rfl ?aO ?aR (fun _ _ h => h) (fun _ h => h.elim) ?aF ?aB ?aS ?aL ?_
      (case aR => exact one_C H3.out)
      (case aB => exact HB.out)
      (case aF => exact (fun _ _ => trivial))
      (case aO => exact TR_o HTR.out)
      (case aS => exact below_size HB.out)
      (case aL => have := HL.out; omega)
      intro v_ wr4 ho_ hb_ hg_ hat_
      replace HXo := Aside0.mk (blk_grown HXo.out hg_ (Kd.R_ne (TR_o HTR.out) HXo.out (by decide)))
      replace HXr := Aside0.mk (blk_grown HXr.out hg_ (Kd.R_ne (TR_o HTR.out) HXr.out (by decide)))
      replace HXe := Aside0.mk (blk_grown HXe.out hg_ (Kd.R_ne (TR_o HTR.out) HXe.out (by decide)))
      replace HXf := Aside0.mk (blk_grown HXf.out hg_ (Kd.R_ne (TR_o HTR.out) HXf.out (by decide)))
      replace HK := Aside0.mk (keeps_row HK.out (TR_o HTR.out) hg_)
      replace H7 := Aside0.mk (one_row H7.out N7.out hg_)
      replace H12 := Aside0.mk (one_type H12.out (TR_o HTR.out) (by decide) hg_)
      replace HB := Aside0.mk (hb_)
      obtain ⟨B1,e1,hv_,hT_⟩ := app_o HTR.out ho_ hg_ hat_
      replace HTR := Aside0.mk hT_
      subst hv_
      clear ho_ hb_ hg_ hat_ hT_ H3
      refine hK.out _ _ ⟨(cL HXo 2 rfl),(cL HXo 3 rfl),(cL HXo 4 rfl),(cL HXf 0 rfl)⟩ (fun hHeld => ?_)
      clear hK K
      refine norm_ (a' := ?_) ?_ ?_
      rotate_left
      ·show Act.put _ (some 17) _ = _
       simp only [Act.put,zrI,zrs0,zrs1,i64_w,i32_w]
       rfl
      refine pure_ (i := 14) (N := some 27) (v := ?_) (a' := ?_) zr20 rfl rfl (any_of HT_.out (by kernel_rfl)) (fun _ _ _ h => h) (Or.inl ⟨by rfl,?_⟩) ?_ ?_
      rotate_left
      ·intro w'
       go_simp
       with_reducible rfl
      rotate_left
      ·simp only [Act.put,zrI,zrs0,zrs1,i64_w,i32_w]
       rfl
      refine one_ (i := 8) (N := some 21) zr9 rfl rfl (one_of HT_.out (by kernel_rfl)) (by decide) (fun K hK => ?_)
      refine Kd.R_append_rows_step (Kd.int .i64) (w0 := w) w.heap.size (by rfl) (.tmp 19) (.tmp 20) 25 3 (.int .i64 0) 8 rfl Try.underlying25 info3 rfl (by decide) (by omega) (.slice A2 l.length d2) l [0] _ _ _ (fun _ => True) (fun _ => False) rfl rfl ?aO ?aR (fun _ _ h => h) (fun _ h => h.elim) ?aF ?aB ?aS ?aL ?_
      (case aR => exact one_C H7.out)
      (case aB => exact HB.out)
      (case aF => exact (fun _ _ => trivial))
      (case aO => exact TR_l HTR.out)
      (case aS => exact below_size HB.out)
      (case aL => have := HL.out; omega)
      intro v_ wr5 ho_ hb_ hg_ hat_
      replace HXo := Aside0.mk (blk_grown HXo.out hg_ (Kd.R_ne (TR_l HTR.out) HXo.out (by decide)))
      replace HXr := Aside0.mk (blk_grown HXr.out hg_ (Kd.R_ne (TR_l HTR.out) HXr.out (by decide)))
      replace HXe := Aside0.mk (blk_grown HXe.out hg_ (Kd.R_ne (TR_l HTR.out) HXe.out (by decide)))
      replace HXf := Aside0.mk (blk_grown HXf.out hg_ (Kd.R_ne (TR_l HTR.out) HXf.out (by decide)))
      replace HK := Aside0.mk (keeps_row HK.out (TR_l HTR.out) hg_)
      replace H12 := Aside0.mk (one_type H12.out (TR_l HTR.out) (by decide) hg_)
      replace HB := Aside0.mk (hb_)
      obtain ⟨B2,e2,hv_,hT_⟩ := app_l HTR.out ho_ hg_ hat_
      replace HTR := Aside0.mk hT_
      subst hv_
      clear ho_ hb_ hg_ hat_ hT_ H7
      refine hK.out _ _ ⟨(cL HXo 2 rfl),(cL HXo 3 rfl),(cL HXo 4 rfl),(cL HXf 0 rfl)⟩ (fun hHeld => ?_)
      clear hK K
      refine norm_ (a' := ?_) ?_ ?_
      rotate_left
      ·show Act.put _ (some 21) _ = _
       simp only [Act.put,zrI,zrs0,zrs1,i64_w,i32_w]
       rfl
      exact norm_ (by first | (simp only [putAll,Act.put,zrI,zrs0,zrs1]; done) | (simp only [putAll,Act.put,zrI,zrs0,zrs1]; rfl)) (hCont (.slice (some ⟨h3,0,none⟩) 1 1,.slice (some ⟨h7,0,none⟩) 1 1,.slice (some ⟨h12,0,none⟩) 1 1,.slice B1 (o ++ [x]).length e1,.slice B2 (l ++ [0]).length e2) _ ⟨h12,B1,e1,B2,e2,rfl,rfl,rfl,HTR.out,HXo.out,HXr.out,HXe.out,HXf.out,HB.out,HK.out,H12.out⟩)
    ·skip
     refine value_ (w1 := ?_) (v := ?_) (by rfl) rfl ?_ ?_
     rotate_left 2
     ·go_simp
      constructor
      ·rfl
      ·rfl
     obtain ⟨wr2,hW⟩ : ∃ W_,W_ = wr1.alloc (.cells #[.int .i64 0] 3) := ⟨_,rfl⟩
     obtain ⟨h7,hh⟩ : ∃ g_,g_ = wr1.heap.size := ⟨_,rfl⟩
     rw [← hW,← hh]
     have hb_ : Below wr1.heap.size wr1 wr2 := by rw [hW]; exact below_alloc (Below.refl _ _) _
     have H7 : Aside0 (Kd.R (Kd.int .i64) 3 wr2 w.heap.size (fun _ => True) (.slice (some ⟨h7,0,none⟩) 1 1) [0]) := ⟨by rw [hW,hh]; exact R_one (below_size HB.out)⟩
     have N7 : Aside0 ((Value.slice A1 o.length d1).ownBlock ≠ some h7) := ⟨by rw [hh]; exact one_ne (TR_o HTR.out)⟩
     have q_ : KeepsOthers W wr2 := by rw [hW]; exact HK.out.trans (KeepsOthers.alloc wr1 _)
     replace HK := Aside0.mk (q_)
     replace HTR := Aside0.mk (TR_below HTR.out hb_)
     replace HXo := mB HXo hb_
     replace HXr := mB HXr hb_
     replace HXe := mB HXe hb_
     replace HXf := mB HXf hb_
     replace H12 := Aside0.mk (Kd.R_below H12.out hb_)
     replace HB := mS HB hb_
     clear hW hh hb_ q_
     refine hK.out _ _ ⟨(cL HXo 2 rfl),(cL HXo 3 rfl),(cL HXo 4 rfl),(cL HXf 0 rfl)⟩ (fun hHeld => ?_)
     clear hK K
     refine norm_ (a' := ?_) ?_ ?_
     rotate_left
     ·show Act.put _ (some 20) _ = _
      simp only [Act.put,zrI,zrs0,zrs1,i64_w,i32_w]
      rfl
     refine one_ (i := 3) (N := some 16) zr22 rfl rfl (one_of HT_.out (by kernel_rfl)) (by decide) (fun K hK => ?_)
     refine value_ (w1 := ?_) (v := ?_) (by rfl) rfl ?_ ?_
     rotate_left 2
     ·go_simp
      constructor
      ·rfl
      ·rfl
     obtain ⟨wr3,hW⟩ : ∃ W_,W_ = wr2.alloc (.cells #[.int .i64 x] 3) := ⟨_,rfl⟩
     obtain ⟨h3,hh⟩ : ∃ g_,g_ = wr2.heap.size := ⟨_,rfl⟩
     rw [← hW,← hh]
     have hb_ : Below wr2.heap.size wr2 wr3 := by rw [hW]; exact below_alloc (Below.refl _ _) _
     have H3 : Aside0 (Kd.R (Kd.int .i64) 3 wr3 w.heap.size (fun _ => True) (.slice (some ⟨h3,0,none⟩) 1 1) [x]) := ⟨by rw [hW,hh]; exact R_one (below_size HB.out)⟩
     have q_ : KeepsOthers W wr3 := by rw [hW]; exact HK.out.trans (KeepsOthers.alloc wr2 _)
     replace HK := Aside0.mk (q_)
     replace HTR := Aside0.mk (TR_below HTR.out hb_)
     replace HXo := mB HXo hb_
     replace HXr := mB HXr hb_
     replace HXe := mB HXe hb_
     replace HXf := mB HXf hb_
     replace H7 := Aside0.mk (Kd.R_below H7.out hb_)
     replace H12 := Aside0.mk (Kd.R_below H12.out hb_)
     replace HB := mS HB hb_
     clear hW hh hb_ q_
     refine hK.out _ _ ⟨(cL HXo 2 rfl),(cL HXo 3 rfl),(cL HXo 4 rfl),(cL HXf 0 rfl)⟩ (fun hHeld => ?_)
     clear hK K
     refine norm_ (a' := ?_) ?_ ?_
     rotate_left
     ·show Act.put _ (some 16) _ = _
      simp only [Act.put,zrI,zrs0,zrs1,i64_w,i32_w]
      rfl
     refine one_ (i := 4) (N := some 17) zr23 rfl rfl (one_of HT_.out (by kernel_rfl)) (by decide) (fun K hK => ?_)
     refine Kd.R_append_rows_step (Kd.int .i64) (w0 := w) w.heap.size (by rfl) (.tmp 14) (.tmp 16) 25 3 (.int .i64 0) 8 rfl Try.underlying25 info3 rfl (by decide) (by omega) (.slice A1 o.length d1) o [x] _ _ _ (fun _ => True) (fun _ => False) rfl rfl ?aO ?aR (fun _ _ h => h) (fun _ h => h.elim) ?aF ?aB ?aS ?aL ?_
     (case aR => exact one_C H3.out)
     (case aB => exact HB.out)
     (case aF => exact (fun _ _ => trivial))
     (case aO => exact TR_o HTR.out)
     (case aS => exact below_size HB.out)
     (case aL => have := HL.out; omega)
     intro v_ wr4 ho_ hb_ hg_ hat_
     replace HXo := Aside0.mk (blk_grown HXo.out hg_ (Kd.R_ne (TR_o HTR.out) HXo.out (by decide)))
     replace HXr := Aside0.mk (blk_grown HXr.out hg_ (Kd.R_ne (TR_o HTR.out) HXr.out (by decide)))
     replace HXe := Aside0.mk (blk_grown HXe.out hg_ (Kd.R_ne (TR_o HTR.out) HXe.out (by decide)))
     replace HXf := Aside0.mk (blk_grown HXf.out hg_ (Kd.R_ne (TR_o HTR.out) HXf.out (by decide)))
     replace HK := Aside0.mk (keeps_row HK.out (TR_o HTR.out) hg_)
     replace H7 := Aside0.mk (one_row H7.out N7.out hg_)
     replace H12 := Aside0.mk (one_type H12.out (TR_o HTR.out) (by decide) hg_)
     replace HB := Aside0.mk (hb_)
     obtain ⟨B1,e1,hv_,hT_⟩ := app_o HTR.out ho_ hg_ hat_
     replace HTR := Aside0.mk hT_
     subst hv_
     clear ho_ hb_ hg_ hat_ hT_ H3
     refine hK.out _ _ ⟨(cL HXo 2 rfl),(cL HXo 3 rfl),(cL HXo 4 rfl),(cL HXf 0 rfl)⟩ (fun hHeld => ?_)
     clear hK K
     refine norm_ (a' := ?_) ?_ ?_
     rotate_left
     ·show Act.put _ (some 17) _ = _
      simp only [Act.put,zrI,zrs0,zrs1,i64_w,i32_w]
      rfl
     refine pure_ (i := 14) (N := some 27) (v := ?_) (a' := ?_) zr20 rfl rfl (any_of HT_.out (by kernel_rfl)) (fun _ _ _ h => h) (Or.inl ⟨by rfl,?_⟩) ?_ ?_
     rotate_left
     ·intro w'
      go_simp
      with_reducible rfl
     rotate_left
     ·simp only [Act.put,zrI,zrs0,zrs1,i64_w,i32_w]
      rfl
     refine one_ (i := 8) (N := some 21) zr9 rfl rfl (one_of HT_.out (by kernel_rfl)) (by decide) (fun K hK => ?_)
     refine Kd.R_append_rows_step (Kd.int .i64) (w0 := w) w.heap.size (by rfl) (.tmp 19) (.tmp 20) 25 3 (.int .i64 0) 8 rfl Try.underlying25 info3 rfl (by decide) (by omega) (.slice A2 l.length d2) l [0] _ _ _ (fun _ => True) (fun _ => False) rfl rfl ?aO ?aR (fun _ _ h => h) (fun _ h => h.elim) ?aF ?aB ?aS ?aL ?_
     (case aR => exact one_C H7.out)
     (case aB => exact HB.out)
     (case aF => exact (fun _ _ => trivial))
     (case aO => exact TR_l HTR.out)
     (case aS => exact below_size HB.out)
     (case aL => have := HL.out; omega)
     intro v_ wr5 ho_ hb_ hg_ hat_
     replace HXo := Aside0.mk (blk_grown HXo.out hg_ (Kd.R_ne (TR_l HTR.out) HXo.out (by decide)))
     replace HXr := Aside0.mk (blk_grown HXr.out hg_ (Kd.R_ne (TR_l HTR.out) HXr.out (by decide)))
     replace HXe := Aside0.mk (blk_grown HXe.out hg_ (Kd.R_ne (TR_l HTR.out) HXe.out (by decide)))
     replace HXf := Aside0.mk (blk_grown HXf.out hg_ (Kd.R_ne (TR_l HTR.out) HXf.out (by decide)))
     replace HK := Aside0.mk (keeps_row HK.out (TR_l HTR.out) hg_)
     replace H12 := Aside0.mk (one_type H12.out (TR_l HTR.out) (by decide) hg_)
     replace HB := Aside0.mk (hb_)
     obtain ⟨B2,e2,hv_,hT_⟩ := app_l HTR.out ho_ hg_ hat_
     replace HTR := Aside0.mk hT_
     subst hv_
     clear ho_ hb_ hg_ hat_ hT_ H7
     refine hK.out _ _ ⟨(cL HXo 2 rfl),(cL HXo 3 rfl),(cL HXo 4 rfl),(cL HXf 0 rfl)⟩ (fun hHeld => ?_)
     clear hK K
     refine norm_ (a' := ?_) ?_ ?_
     rotate_left
     ·show Act.put _ (some 21) _ = _
      simp only [Act.put,zrI,zrs0,zrs1,i64_w,i32_w]
      rfl
     exact norm_ (by first | (simp only [putAll,Act.put,zrI,zrs0,zrs1]; done) | (simp only [putAll,Act.put,zrI,zrs0,zrs1]; rfl)) (hCont (.slice (some ⟨h3,0,none⟩) 1 1,.slice (some ⟨h7,0,none⟩) 1 1,.slice (some ⟨h12,0,none⟩) 1 1,.slice B1 (o ++ [x]).length e1,.slice B2 (l ++ [0]).length e2) _ ⟨h12,B1,e1,B2,e2,rfl,rfl,rfl,HTR.out,HXo.out,HXr.out,HXe.out,HXf.out,HB.out,HK.out,H12.out⟩)
  rintro ⟨b1_,b2_,b3_,v1_,v2_⟩ w3 ⟨h12,B1,e1,B2,e2,h1,h2,h3,h4,h5,h6,h7,h8,h9,h10,h11⟩
  dsimp only at h1 h2 h3
  subst h1 h2 h3
  clear HTR HXo HXr HXe HXf HB HK
  have HTR := Aside0.mk h4
  have HXo := Aside0.mk h5
  have HXr := Aside0.mk h6
  have HXe := Aside0.mk h7
  have HXf := Aside0.mk h8
  have HB := Aside0.mk h9
  have HK := Aside0.mk h10
  have H12 := Aside0.mk h11
  clear h4 h5 h6 h7 h8 h9 h10 h11
  have hHeld : (fun w' => w'.cell? ⟨go,2,none⟩ = some (.slice A1 o.length d1) ∧ w'.cell? ⟨go,3,none⟩ = some (.slice A2 l.length d2) ∧ w'.cell? ⟨go,4,none⟩ = some (.slice A3 f.length d3) ∧ w'.cell? ⟨gf,0,none⟩ = some (.int .u64 first)) w3 := ⟨(cL HXo 2 rfl),(cL HXo 3 rfl),(cL HXo 4 rfl),(cL HXf 0 rfl)⟩
  refine norm_ (a' := ?_) ?_ ?_
  rotate_left
  ·simp only [putAll,Act.put,zrI,zrs0,zrs1]
   rfl
  refine one_ (i := 13) (N := some 26) zr26 rfl rfl (one_of HT_.out (by kernel_rfl)) (by decide) (fun K hK => ?_)
  refine Kd.R_append_rows_step (Kd.int .u64) (w0 := w) w.heap.size (by rfl) (.tmp 23) (.tmp 25) 26 23 (.int .u64 0) 8 rfl Try.underlying26 info23 rfl (by decide) (by omega) (.slice A3 f.length d3) f [first] _ _ _ (fun _ => True) (fun _ => False) rfl rfl ?aO ?aR (fun _ _ h => h) (fun _ h => h.elim) ?aF ?aB ?aS ?aL ?_
  (case aR => exact one_C H12.out)
  (case aB => exact HB.out)
  (case aF => exact (fun _ _ => trivial))
  (case aO => exact TR_f HTR.out)
  (case aS => exact below_size HB.out)
  (case aL => have := HL.out; omega)
  intro v_ wr6 ho_ hb_ hg_ hat_
  replace HXo := Aside0.mk (blk_grown HXo.out hg_ (Kd.R_ne (TR_f HTR.out) HXo.out (by decide)))
  replace HXr := Aside0.mk (blk_grown HXr.out hg_ (Kd.R_ne (TR_f HTR.out) HXr.out (by decide)))
  replace HXe := Aside0.mk (blk_grown HXe.out hg_ (Kd.R_ne (TR_f HTR.out) HXe.out (by decide)))
  replace HXf := Aside0.mk (blk_grown HXf.out hg_ (fun e_ => NF.out gf e_.symm rfl))
  replace HK := Aside0.mk (keeps_row HK.out (TR_f HTR.out) hg_)
  replace HB := Aside0.mk (hb_)
  obtain ⟨B3,e3,hv_,hT_⟩ := app_f HTR.out ho_ hg_
  replace HTR := Aside0.mk hT_
  subst hv_
  clear ho_ hb_ hg_ hat_ hT_ H12
  obtain ⟨o2,ho2⟩ : ∃ z_,z_ = o ++ [x] := ⟨_,rfl⟩
  rw [← ho2] at HTR ⊢
  have HEo := Aside0.mk ho2
  clear ho2
  obtain ⟨l2,hl2⟩ : ∃ z_,z_ = l ++ [0] := ⟨_,rfl⟩
  rw [← hl2] at HTR ⊢
  have HEl := Aside0.mk hl2
  clear hl2
  obtain ⟨f2,hf2⟩ : ∃ z_,z_ = f ++ [first] := ⟨_,rfl⟩
  rw [← hf2] at HTR ⊢
  have HEf := Aside0.mk hf2
  clear hf2
  refine hK.out _ _ ⟨(cL HXo 2 rfl),(cL HXo 3 rfl),(cL HXo 4 rfl),(cL HXf 0 rfl)⟩ (fun hHeld => ?_)
  clear hK K
  refine norm_ (a' := ?_) ?_ ?_
  rotate_left
  ·show Act.put _ (some 26) _ = _
   simp only [Act.put,zrI,zrs0,zrs1,i64_w,i32_w]
   rfl
  refine last_ (i := 15) (N := none) zr27 rfl rfl (one_of HT_.out (by kernel_rfl)) (by decide) (fun K hK => ?_)
  have hs_ : wr6.cell? ⟨go,2,none⟩ = some (.slice A1 o.length d1) := cL HXo 2 rfl
  have hsf_ := blk_frozen HXo.out 2
  refine skip_ (w1 := ?_) (by rfl) rfl ?_ ?_
  rotate_left
  ·go_simp
   rfl
  clear hs_ hsf_
  obtain ⟨We,hW⟩ : ∃ W_,W_ = wr6.setCell ⟨go,2,none⟩ (.slice B1 o2.length e1) := ⟨_,rfl⟩
  rw [← hW]
  have q1 := TR_set HTR.out HXo.out (by decide) (by decide) 2 (.slice B1 o2.length e1)
  have q2 : We.heap[go]? = some (.cells #[.int .i64 g,.int .i64 s,.slice B1 o2.length e1,.slice A2 l.length d2,.slice A3 f.length d3] 28 (0,0)) := by rw [hW]; exact (blk_set HXo.out 2 (.slice B1 o2.length e1)).trans (by simp only [zrI,zrs0,zrs1])
  have q3 := blk_far HXr.out (p := ⟨go,2,none⟩) NO.out.1 (.slice B1 o2.length e1)
  have q5 := blk_far HXe.out (p := ⟨go,2,none⟩) NO.out.2.1 (.slice B1 o2.length e1)
  have q6 := blk_far HXf.out (p := ⟨go,2,none⟩) NO.out.2.2 (.slice B1 o2.length e1)
  have q4 := below_set (j := 2) (v := .slice B1 o2.length e1) HB.out HGO2.out
  have q7 := HK.out.trans (KeepsOthers.setCell wr6 ⟨go,2,none⟩ (.slice B1 o2.length e1))
  rw [← hW] at q1 q3 q4 q5 q6 q7
  clear hW
  replace HTR := Aside0.mk (q1)
  replace HXo := Aside0.mk (q2)
  replace HXr := Aside0.mk (q3)
  replace HXe := Aside0.mk (q5)
  replace HXf := Aside0.mk (q6)
  replace HB := Aside0.mk (q4)
  replace HK := Aside0.mk (q7)
  clear q1 q2 q3 q4 q5 q6 q7
  refine hK.out _ _ ?_
  clear hK K
  refine pure_ (i := 16) (N := some 28) (v := ?_) (a' := ?_) zr28 rfl rfl (any_of HT_.out (by kernel_rfl)) (fun _ _ _ h => h) (Or.inl ⟨by rfl,?_⟩) ?_ ?_
  rotate_left
  ·intro w'
   go_simp
   with_reducible rfl
  rotate_left
  ·simp only [Act.put,zrI,zrs0,zrs1,i64_w,i32_w]
   rfl
  refine last_ (i := 17) (N := none) zr29 rfl rfl (one_of HT_.out (by kernel_rfl)) (by decide) (fun K hK => ?_)
  have hs_ : We.cell? ⟨go,3,none⟩ = some (.slice A2 l.length d2) := cL HXo 3 rfl
  have hsf_ := blk_frozen HXo.out 3
  refine skip_ (w1 := ?_) (by rfl) rfl ?_ ?_
  rotate_left
  ·go_simp
   rfl
  clear hs_ hsf_
  obtain ⟨Wf,hW⟩ : ∃ W_,W_ = We.setCell ⟨go,3,none⟩ (.slice B2 l2.length e2) := ⟨_,rfl⟩
  rw [← hW]
  have q1 := TR_set HTR.out HXo.out (by decide) (by decide) 3 (.slice B2 l2.length e2)
  have q2 : Wf.heap[go]? = some (.cells #[.int .i64 g,.int .i64 s,.slice B1 o2.length e1,.slice B2 l2.length e2,.slice A3 f.length d3] 28 (0,0)) := by rw [hW]; exact (blk_set HXo.out 3 (.slice B2 l2.length e2)).trans (by simp only [zrI,zrs0,zrs1])
  have q3 := blk_far HXr.out (p := ⟨go,3,none⟩) NO.out.1 (.slice B2 l2.length e2)
  have q5 := blk_far HXe.out (p := ⟨go,3,none⟩) NO.out.2.1 (.slice B2 l2.length e2)
  have q6 := blk_far HXf.out (p := ⟨go,3,none⟩) NO.out.2.2 (.slice B2 l2.length e2)
  have q4 := below_set (j := 3) (v := .slice B2 l2.length e2) HB.out HGO2.out
  have q7 := HK.out.trans (KeepsOthers.setCell We ⟨go,3,none⟩ (.slice B2 l2.length e2))
  rw [← hW] at q1 q3 q4 q5 q6 q7
  clear hW
  replace HTR := Aside0.mk (q1)
  replace HXo := Aside0.mk (q2)
  replace HXr := Aside0.mk (q3)
  replace HXe := Aside0.mk (q5)
  replace HXf := Aside0.mk (q6)
  replace HB := Aside0.mk (q4)
  replace HK := Aside0.mk (q7)
  clear q1 q2 q3 q4 q5 q6 q7
  refine hK.out _ _ ?_
  clear hK K
  refine pure_ (i := 18) (N := some 29) (v := ?_) (a' := ?_) zr30 rfl rfl (any_of HT_.out (by kernel_rfl)) (fun _ _ _ h => h) (Or.inl ⟨by rfl,?_⟩) ?_ ?_
  rotate_left
  ·intro w'
   go_simp
   with_reducible rfl
  rotate_left
  ·simp only [Act.put,zrI,zrs0,zrs1,i64_w,i32_w]
   rfl
  refine last_ (i := 19) (N := none) zr31 rfl rfl (one_of HT_.out (by kernel_rfl)) (by decide) (fun K hK => ?_)
  have hs_ : Wf.cell? ⟨go,4,none⟩ = some (.slice A3 f.length d3) := cL HXo 4 rfl
  have hsf_ := blk_frozen HXo.out 4
  refine skip_ (w1 := ?_) (by rfl) rfl ?_ ?_
  rotate_left
  ·go_simp
   rfl
  clear hs_ hsf_
  obtain ⟨Wg,hW⟩ : ∃ W_,W_ = Wf.setCell ⟨go,4,none⟩ (.slice B3 f2.length e3) := ⟨_,rfl⟩
  rw [← hW]
  have q1 := TR_set HTR.out HXo.out (by decide) (by decide) 4 (.slice B3 f2.length e3)
  have q2 : Wg.heap[go]? = some (.cells #[.int .i64 g,.int .i64 s,.slice B1 o2.length e1,.slice B2 l2.length e2,.slice B3 f2.length e3] 28 (0,0)) := by rw [hW]; exact (blk_set HXo.out 4 (.slice B3 f2.length e3)).trans (by simp only [zrI,zrs0,zrs1])
  have q3 := blk_far HXr.out (p := ⟨go,4,none⟩) NO.out.1 (.slice B3 f2.length e3)
  have q5 := blk_far HXe.out (p := ⟨go,4,none⟩) NO.out.2.1 (.slice B3 f2.length e3)
  have q6 := blk_far HXf.out (p := ⟨go,4,none⟩) NO.out.2.2 (.slice B3 f2.length e3)
  have q4 := below_set (j := 4) (v := .slice B3 f2.length e3) HB.out HGO2.out
  have q7 := HK.out.trans (KeepsOthers.setCell Wf ⟨go,4,none⟩ (.slice B3 f2.length e3))
  rw [← hW] at q1 q3 q4 q5 q6 q7
  clear hW
  replace HTR := Aside0.mk (q1)
  replace HXo := Aside0.mk (q2)
  replace HXr := Aside0.mk (q3)
  replace HXe := Aside0.mk (q5)
  replace HXf := Aside0.mk (q6)
  replace HB := Aside0.mk (q4)
  replace HK := Aside0.mk (q7)
  clear q1 q2 q3 q4 q5 q6 q7
  refine hK.out _ _ ?_
  clear hK K
  refine done_ (done_of HT_.out (by kernel_rfl)) ?_
  clear HT_ HW_ hHeld
  refine wpIn_seq ?_
  refine region_in (by kernel_rfl) ?_
  have s_0 : Wg.cell? ⟨go,0,none⟩ = some (.int .i64 g) := cL HXo 0 rfl
  have s_1 : Wg.cell? ⟨go,1,none⟩ = some (.int .i64 s) := cL HXo 1 rfl
  have s_2 : Wg.cell? ⟨go,2,none⟩ = some (.slice B1 o2.length e1) := cL HXo 2 rfl
  have s_3 : Wg.cell? ⟨go,3,none⟩ = some (.slice B2 l2.length e2) := cL HXo 3 rfl
  have s_4 : Wg.cell? ⟨go,4,none⟩ = some (.slice B3 f2.length e3) := cL HXo 4 rfl
  have r_0 : Wg.cell? ⟨gr,0,none⟩ = some (.int .i64 0) := cL HXr 0 rfl
  have r_1 : Wg.cell? ⟨gr,1,none⟩ = some (.int .i64 0) := cL HXr 1 rfl
  have r_2 : Wg.cell? ⟨gr,2,none⟩ = some (.slice none 0 0) := cL HXr 2 rfl
  have r_3 : Wg.cell? ⟨gr,3,none⟩ = some (.slice none 0 0) := cL HXr 3 rfl
  have r_4 : Wg.cell? ⟨gr,4,none⟩ = some (.slice none 0 0) := cL HXr 4 rfl
  have rf_0 := blk_frozen HXr.out 0
  have rf_1 := blk_frozen HXr.out 1
  have rf_2 := blk_frozen HXr.out 2
  have rf_3 := blk_frozen HXr.out 3
  have rf_4 := blk_frozen HXr.out 4
  have e_0 : Wg.cell? ⟨ge,0,none⟩ = some (.int .i64 0) := cL HXe 0 rfl
  have ef_0 := blk_frozen HXe.out 0
  have n1_ := NR.out.1
  have n2_ := NR.out.2
  have n3_ := NO.out.1
  have n4_ := Ne.symm NO.out.1
  go_wp2_with fail
  obtain ⟨W6,hW⟩ : ∃ W_,W_ = (((((Wg.setCell ⟨gr,0,none⟩ (.int .i64 g)).setCell ⟨gr,1,none⟩ (.int .i64 s)).setCell ⟨gr,2,none⟩ (.slice B1 o2.length e1)).setCell ⟨gr,3,none⟩ (.slice B2 l2.length e2)).setCell ⟨gr,4,none⟩ (.slice B3 f2.length e3)) := ⟨_,rfl⟩
  rw [← hW]
  have p1 := set5 hW HXr.out
  have p2 := far5 hW HXe.out NR.out.2
  have p3 := tr5 hW HXr.out (by decide) (by decide) HTR.out
  have p4 := below5 hW HB.out NR3.out.1
  have p5 := keeps5 hW HK.out
  refine wpIn_ret ?_
  obtain rfl := HEo.out
  obtain rfl := HEl.out
  obtain rfl := HEf.out
  exact ⟨p5.trans (KeepsOthers.setCell _ _ _),rfl,x,rfl,B1,e1,B2,e2,B3,e3,TR_set p3 p2 (by decide) (by decide) 0 _,(by have q_ := blk_far p1 (p := ⟨ge,0,none⟩) NR.out.1 (.int .i64 0); simpa only [List.length_append,List.length_cons,List.length_nil,Nat.zero_add] using q_),blk_set p2 0 _,below_set p4 NR3.out.2⟩
 case done =>
  rintro D ys W hD hS ⟨hys,h1,h2,h3,h4,h5,h6⟩ hK
  rw [hys] at hS
  have HXr := Aside0.mk h3
  have HXe := Aside0.mk h4
  have HBW := Aside0.mk h6
  have HK := Aside0.mk hK
  have HDD := Aside0.mk hD
  have HS := Aside0.mk hS
  clear HTR HXo HXf hys h1 h2 h3 h4 h5 h6 hK hD hS
  refine hK_ _ _ ?_
  have r_0 : W.cell? ⟨gr,0,none⟩ = some (.int .i64 0) := cL HXr 0 rfl
  have r_1 : W.cell? ⟨gr,1,none⟩ = some (.int .i64 0) := cL HXr 1 rfl
  have r_2 : W.cell? ⟨gr,2,none⟩ = some (.slice none 0 0) := cL HXr 2 rfl
  have r_3 : W.cell? ⟨gr,3,none⟩ = some (.slice none 0 0) := cL HXr 3 rfl
  have r_4 : W.cell? ⟨gr,4,none⟩ = some (.slice none 0 0) := cL HXr 4 rfl
  have rf_0 := blk_frozen HXr.out 0
  have rf_1 := blk_frozen HXr.out 1
  have rf_2 := blk_frozen HXr.out 2
  have rf_3 := blk_frozen HXr.out 3
  have rf_4 := blk_frozen HXr.out 4
  have e_0 : W.cell? ⟨ge,0,none⟩ = some (.int .i64 0) := cL HXe 0 rfl
  have ef_0 := blk_frozen HXe.out 0
  have n1_ := NR.out.1
  have n2_ := NR.out.2
  go_wp2_with fail
  obtain ⟨W6,hW⟩ : ∃ W_,W_ = (((((W.setCell ⟨gr,0,none⟩ (.int .i64 0)).setCell ⟨gr,1,none⟩ (.int .i64 0)).setCell ⟨gr,2,none⟩ (.slice none 0 0)).setCell ⟨gr,3,none⟩ (.slice none 0 0)).setCell ⟨gr,4,none⟩ (.slice none 0 0)) := ⟨_,rfl⟩
  rw [← hW]
  have p1 := blk_far (set5 hW HXr.out) (p := ⟨ge,0,none⟩) NR.out.1 (.int .i64 10)
  have p2 : (W6.setCell ⟨ge,0,none⟩ (.int .i64 10)).heap[ge]? = some (.cells #[.int .i64 10] 29 (0,0)) := blk_set (far5 hW HXe.out NR.out.2) 0 _
  have p4 := below_set (j := 0) (v := .int .i64 10) (below5 hW HBW.out NR3.out.1) NR3.out.2
  have HD := Aside0.mk (keeps_def ((keeps5 hW (KeepsOthers.refl W)).trans (KeepsOthers.setCell W6 ⟨ge,0,none⟩ (.int .i64 10))) HK.out)
  refine ⟨by simp,.inl ⟨_,_,rfl,run_takeDeferred HD.out,?_⟩⟩
  have q7 := grownBy_putObj' (W6.setCell ⟨ge,0,none⟩ (.int .i64 10)) D (.deferred none)
  have q8 := def_row HD.out
  have q9 := p4.grown q7 (below_size p4) (fun k_ hk_ => by cases hk_; exact Nat.le_trans (below_size HB.out) HDD.out)
  exact ⟨_,results_cs rfl _ _ gr ge 28 _ (0,0) _ (.int .i64 10) rfl (blk_own p1 q7 q8) Try.underlying28 rfl (by kernel_rfl) rfl (fun w_ => by kernel_rfl) ((blk_cell (blk_own p2 q7 q8) 0).trans rfl),q9,.inl ⟨HS.out.symm,rfl⟩⟩
 case stop =>
  rintro D c_ pre W hD ⟨rest,hrest⟩ ⟨rfl,x,rfl,B1,e1,B2,e2,B3,e3,h1,h2,h3,p4⟩ hK
  have HDD := Aside0.mk hD
  have HD := Aside0.mk hK
  refine wpIn_ret ?_
  refine ⟨by simp,.inl ⟨_,_,rfl,run_takeDeferred HD.out,?_⟩⟩
  have q7 := grownBy_putObj' W D (.deferred none)
  have q8 := def_row HD.out
  have q9 := p4.grown q7 (below_size p4) (fun k_ hk_ => by cases hk_; exact Nat.le_trans (below_size HB.out) HDD.out)
  exact ⟨_,results_cs rfl _ _ gr ge 28 _ (0,0) _ (.int .i64 0) rfl (blk_own h2 q7 q8) Try.underlying28 rfl (by kernel_rfl) rfl (fun w_ => by kernel_rfl) ((blk_cell (blk_own h3 q7 q8) 0).trans rfl),q9,.inr ⟨x,rest,B1,e1,B2,e2,B3,e3,hrest.symm,rfl,TR_own h1 q7 q8⟩⟩
end Go.Proofs.Ytbefoehjlgdcgaa.H
