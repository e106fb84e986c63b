/-
lodgerlaw08.do: one call of both.
-/
import Derived.Test.YtbefoehjlgdcgaaTo
namespace Go.Proofs.Ytbefoehjlgdcgaa.H
open Go.RowKit Go.Proofs.YtbefoehjlgdcgaaW.PrintWords Go.Proofs.YtbefoehjlgdcgaaW.PrintLast Go.Proofs.YtbefoehjlgdcgaaW.PrintMore
attribute [local go_sem] min2_int min_two
set_option linter.unusedVariables false
set_option linter.unusedSimpArgs false
def yd0 : Array Bool := #[false,false,false,false,false,false,false,false,false,false]
def yd1 : Array Bool := #[true,false,false,false,false,false,false,false,false,false]
def yd2 : Array Bool := #[true,true,false,false,false,false,false,false,false,false]
def yd3 : Array Bool := #[true,true,true,false,false,false,false,false,false,false]
def yd4 : Array Bool := #[true,true,true,true,false,false,false,false,false,false]
def yd5 : Array Bool := #[true,true,true,true,true,false,false,false,false,false]
def yd6 : Array Bool := #[true,true,true,true,true,false,true,false,false,false]
def yd7 : Array Bool := #[true,true,true,true,true,true,true,false,false,false]
def yd8 : Array Bool := #[true,true,true,true,true,true,true,true,false,false]
def yd9 : Array Bool := #[true,true,true,true,true,true,true,true,true,false]
def yd10 : Array Bool := #[true,true,true,true,true,true,true,true,true,true]
def yd11 : Array Bool := #[false,false,false,false,false]
def yd12 : Array Bool := #[true,false,false,false,false]
def yd13 : Array Bool := #[true,true,false,false,false]
def yd14 : Array Bool := #[true,true,true,false,false]
def yd15 : Array Bool := #[true,true,true,true,false]
def yd16 : Array Bool := #[true,true,true,true,true]
theorem ydI {α : Type} (l : List α) (i : Nat) (a : α) : l.toArray.setIfInBounds i a = (l.set i a).toArray := List.setIfInBounds_toArray l i a
theorem yds0 {α : Type} (x : α) (l : List α) (a : α) : (x :: l).set 0 a = a :: l := rfl
theorem yds1 {α : Type} (x : α) (l : List α) (i : Nat) (a : α) : (x :: l).set (i + 1) a = x :: l.set i a := rfl
theorem blk_at {w : World} {o : Obj} {n : Nat} (h : n = w.heap.size) : (w.alloc o).heap[n]? = some o := by rw [h]; exact blk_new w o
theorem far3_5 {w W : World} {k g t : Nat} {cs : Array Value} {v0 v1 v2 v3 v4 : Value} (hW : W = ((((w.setCell ⟨g,0,none⟩ v0).setCell ⟨g,1,none⟩ v1).setCell ⟨g,2,none⟩ v2).setCell ⟨g,3,none⟩ v3).setCell ⟨g,4,none⟩ v4) (h : w.heap[k]? = some (.cells cs t (0,0))) (ne : k ≠ g) : W.heap[k]? = some (.cells cs t (0,0)) := far5 hW h ne
/-- What do tells: both tables as they came, or the same new table twice; and yes. -/
def DoOut (w w' : World) (g s : Int) (va vb : Value) (e : Ending) : Prop := e = .returned (.tuple #[va,vb,.bool true]) ∨ ∃ (o l f : List Int) (A1 : Option Addr) (d1 : Nat) (A2 : Option Addr) (d2 : Nat) (A3 : Option Addr) (d3 : Nat) (B1 : Option Addr) (e1 : Nat) (B2 : Option Addr) (e2 : Nat) (B3 : Option Addr) (e3 : Nat),e = .returned (.tuple #[.agg #[.int .i64 g,.int .i64 s,.slice A1 o.length d1,.slice A2 l.length d2,.slice A3 f.length d3],.agg #[.int .i64 g,.int .i64 s,.slice B1 o.length e1,.slice B2 l.length e2,.slice B3 f.length e3],.bool true]) ∧ RT g s o l f ∧ TR w' w.heap.size A1 d1 o A2 d2 l A3 d3 f ∧ TR w' w.heap.size B1 e1 o B2 e2 l B3 e3 f
theorem ref0_calls (w : World) : Calls Try.prog 12 #[.agg #[.int .i64 0,.int .i64 0,.slice none 0 0,.slice none 0 0,.slice none 0 0]] w fun e w' => e = .returned (.agg #[.int .i64 0,.int .i64 0,.slice none 0 0,.slice none 0 0,.slice none 0 0]) ∧ Below w.heap.size w w' := ref_calls 0 0 none 0 [] none 0 [] none 0 [] w
theorem same0_calls (w : World) : Calls Try.prog 11 #[.agg #[.int .i64 0,.int .i64 0,.slice none 0 0,.slice none 0 0,.slice none 0 0],.agg #[.int .i64 0,.int .i64 0,.slice none 0 0,.slice none 0 0,.slice none 0 0]] w fun e w' => e = .returned (.bool true) ∧ Below w.heap.size w w' := same_calls 0 0 none 0 [] none 0 [] none 0 [] none 0 none 0 none 0 w (TC_nil w) (TC_nil w) (by decide)
def do8.T10 : Bool × List (List Nat × List Nat) := (true,[([],[]),([],[]),([0,1],[0,1]),([2],[2]),([3],[3]),([4,3,3],[3,4]),([3],[3]),([5,6,5,3],[3,5,6]),([7,3],[3,7]),([3,8],[3,8])])
def do8.B10 : List Nat := [0,0,3,7,15,31,15,127,255,511]
theorem do8.tab10 : rtab .any (opsOf Try.f15 10) = do8.T10 := by kernel_rfl
theorem do8.bits10 : waitsOk do8.T10.2 do8.B10 = true := by kernel_rfl
def do8.T13 : Bool × List (List Nat × List Nat) := (true,[([],[]),([],[]),([0,0],[0]),([1,2,0,1,2],[1]),([3,0,1,2,3],[])])
def do8.B13 : List Nat := [0,0,1,7,15]
theorem do8.tab13 : rtab .any (opsOf Try.f15 13) = do8.T13 := by kernel_rfl
theorem do8.bits13 : waitsOk do8.T13.2 do8.B13 = true := by kernel_rfl
def do8.T14 : Bool × List (List Nat × List Nat) := (true,[([],[]),([],[]),([0,0],[0]),([1,2,0,1,2],[1]),([3,0,1,2,3],[])])
def do8.B14 : List Nat := [0,0,1,7,15]
theorem do8.tab14 : rtab .any (opsOf Try.f15 14) = do8.T14 := by kernel_rfl
theorem do8.bits14 : waitsOk do8.T14.2 do8.B14 = true := by kernel_rfl
set_option maxHeartbeats 8000000 in
set_option maxRecDepth 100000 in
theorem do_calls (g s : Int) (Ao : Option Addr) (co : Nat) (o : List Int) (Al : Option Addr) (cl : Nat) (l : List Int) (Af : Option Addr) (cf : Nat) (f : List Int) (Bo : Option Addr) (co2 : Nat) (Bl : Option Addr) (cl2 : Nat) (Bf : Option Addr) (cf2 : Nat) (kind seg first : Int) (w : World) (hT : TC w Ao co o Al cl l Af cf f) (hS : TC w Bo co2 o Bl cl2 l Bf cf2 f) (hR : RT g s o l f) :
  Calls Try.prog 15 #[.agg #[.int .i64 g,.int .i64 s,.slice Ao o.length co,.slice Al l.length cl,.slice Af f.length cf],.agg #[.int .i64 g,.int .i64 s,.slice Bo o.length co2,.slice Bl l.length cl2,.slice Bf f.length cf2],.agg #[.int .i64 kind,.int .i64 seg,.int .u64 first]] w fun e w' => DoOut w w' g s (.agg #[.int .i64 g,.int .i64 s,.slice Ao o.length co,.slice Al l.length cl,.slice Af f.length cf]) (.agg #[.int .i64 g,.int .i64 s,.slice Bo o.length co2,.slice Bl l.length cl2,.slice Bf f.length cf2]) e ∧ Below w.heap.size w w' := by
 have HTa := Aside0.mk hT
 have HTb := Aside0.mk hS
 have HRT := Aside0.mk hR
 clear hT hS hR
 go_enter Try.func15,Try.ntmps15
 go_upto_region 1 with fail
 obtain ⟨W1,hW1⟩ : ∃ W1,W1 = (((((w.alloc (.cells #[.int .i64 g,.int .i64 s,.slice Ao o.length co,.slice Al l.length cl,.slice Af f.length cf] 28)).alloc (.cells #[.int .i64 g,.int .i64 s,.slice Bo o.length co2,.slice Bl l.length cl2,.slice Bf f.length cf2] 32)).alloc (.cells #[.int .i64 kind,.int .i64 seg,.int .u64 first] 42)).alloc (.cells #[.int .i64 0,.int .i64 0,.slice none 0 0,.slice none 0 0,.slice none 0 0] 28)).alloc (.cells #[.int .i64 0,.int .i64 0,.slice none 0 0,.slice none 0 0,.slice none 0 0] 32)) := ⟨_,rfl⟩
 rw [← hW1]
 obtain ⟨g7,hg7⟩ : ∃ g,g = w.heap.size + 4 := ⟨_,rfl⟩
 obtain ⟨g6,hg6⟩ : ∃ g,g = w.heap.size + 3 := ⟨_,rfl⟩
 obtain ⟨go,hgo⟩ : ∃ g,g = w.heap.size + 2 := ⟨_,rfl⟩
 obtain ⟨gb,hgb⟩ : ∃ g,g = w.heap.size + 1 := ⟨_,rfl⟩
 obtain ⟨ga,hga⟩ : ∃ g,g = w.heap.size := ⟨_,rfl⟩
 have HXa : Aside0 (W1.heap[ga]? = some (.cells #[.int .i64 g,.int .i64 s,.slice Ao o.length co,.slice Al l.length cl,.slice Af f.length cf] 28 (0,0))) := ⟨by rw [hW1,hga]; exact blk_alloc (blk_alloc (blk_alloc (blk_alloc (blk_at rfl) _) _) _) _⟩
 have HXb : Aside0 (W1.heap[gb]? = some (.cells #[.int .i64 g,.int .i64 s,.slice Bo o.length co2,.slice Bl l.length cl2,.slice Bf f.length cf2] 32 (0,0))) := ⟨by rw [hW1,hgb]; exact blk_alloc (blk_alloc (blk_alloc (blk_at (by simp)) _) _) _⟩
 have HXo : Aside0 (W1.heap[go]? = some (.cells #[.int .i64 kind,.int .i64 seg,.int .u64 first] 42 (0,0))) := ⟨by rw [hW1,hgo]; exact blk_alloc (blk_alloc (blk_at (by simp)) _) _⟩
 have HX6 : Aside0 (W1.heap[g6]? = some (.cells #[.int .i64 0,.int .i64 0,.slice none 0 0,.slice none 0 0,.slice none 0 0] 28 (0,0))) := ⟨by rw [hW1,hg6]; exact blk_alloc (blk_at (by simp)) _⟩
 have HX7 : Aside0 (W1.heap[g7]? = some (.cells #[.int .i64 0,.int .i64 0,.slice none 0 0,.slice none 0 0,.slice none 0 0] 32 (0,0))) := ⟨by rw [hW1,hg7]; exact blk_at (by simp)⟩
 have HB : Aside0 (Below w.heap.size w W1) := ⟨by rw [hW1]; exact below_alloc (below_alloc (below_alloc (below_alloc (below_alloc (Below.refl _ _) _) _) _) _) _⟩
 have HGa : Aside0 (w.heap.size ≤ ga) := ⟨by omega⟩
 have HGb : Aside0 (w.heap.size ≤ gb) := ⟨by omega⟩
 have HGo : Aside0 (w.heap.size ≤ go) := ⟨by omega⟩
 have HG6 : Aside0 (w.heap.size ≤ g6) := ⟨by omega⟩
 have HG7 : Aside0 (w.heap.size ≤ g7) := ⟨by omega⟩
 have Nab : Aside0 (ga ≠ gb) := ⟨by omega⟩
 have Nao : Aside0 (ga ≠ go) := ⟨by omega⟩
 have Na6 : Aside0 (ga ≠ g6) := ⟨by omega⟩
 have Na7 : Aside0 (ga ≠ g7) := ⟨by omega⟩
 have Nba : Aside0 (gb ≠ ga) := ⟨by omega⟩
 have Nbo : Aside0 (gb ≠ go) := ⟨by omega⟩
 have Nb6 : Aside0 (gb ≠ g6) := ⟨by omega⟩
 have Nb7 : Aside0 (gb ≠ g7) := ⟨by omega⟩
 have Noa : Aside0 (go ≠ ga) := ⟨by omega⟩
 have Nob : Aside0 (go ≠ gb) := ⟨by omega⟩
 have No6 : Aside0 (go ≠ g6) := ⟨by omega⟩
 have No7 : Aside0 (go ≠ g7) := ⟨by omega⟩
 have N6a : Aside0 (g6 ≠ ga) := ⟨by omega⟩
 have N6b : Aside0 (g6 ≠ gb) := ⟨by omega⟩
 have N6o : Aside0 (g6 ≠ go) := ⟨by omega⟩
 have N67 : Aside0 (g6 ≠ g7) := ⟨by omega⟩
 have N7a : Aside0 (g7 ≠ ga) := ⟨by omega⟩
 have N7b : Aside0 (g7 ≠ gb) := ⟨by omega⟩
 have N7o : Aside0 (g7 ≠ go) := ⟨by omega⟩
 have N76 : Aside0 (g7 ≠ g6) := ⟨by omega⟩
 rw [← hg7,← hg6,← hgo,← hgb,← hga]
 clear hW1 hga hgb hgo hg6 hg7
 have q_0 : W1.cell? ⟨ga,0,none⟩ = some (.int .i64 g) := cL HXa 0 rfl
 have q_1 : W1.cell? ⟨ga,1,none⟩ = some (.int .i64 s) := cL HXa 1 rfl
 have q_2 : W1.cell? ⟨ga,2,none⟩ = some (.slice Ao o.length co) := cL HXa 2 rfl
 have q_3 : W1.cell? ⟨ga,3,none⟩ = some (.slice Al l.length cl) := cL HXa 3 rfl
 have q_4 : W1.cell? ⟨ga,4,none⟩ = some (.slice Af f.length cf) := cL HXa 4 rfl
 go_wp2_with fail
 clear q_0 q_1 q_2 q_3 q_4
 refine (count_to g s _ _ o _ _ l _ _ f _ (TC_below HTa.out HB.out) HRT.out).mono ?_
 rintro e_ w2 ⟨er,cn0,cn1,cP1,cm1,ck1,cP2,cm2,ck2,cP3,cm3,ck3,rfl,hto,hb⟩
 have q9 := TO_lower hto (below_size HB.out)
 replace HXa := mB HXa hb
 replace HXb := mB HXb hb
 replace HXo := mB HXo hb
 replace HX6 := mB HX6 hb
 replace HX7 := mB HX7 hb
 replace HB := mS HB hb
 clear hb hto
 have HV9 := Aside0.mk q9
 clear q9
 go_upto_region 2 with ((with_reducible refine gate_dst (N := 9) rfl ?_); refine box_event ?hg (N := 9) ?hd (cs := #[.int .i64 0,.int .i64 0,.slice none 0 0,.slice none 0 0,.slice none 0 0]) (t := 28) ?hr ?_; (case hd => rfl); (case hg => rfl); (case hr => first | (go_simp; done) | (go_simp; rfl)); intro g9 hgo w3 hbox hbb; have HBO := Aside0.mk hbox; have HBB := Aside0.mk hbb; have HGO := Aside0.mk hgo; have y0 : w3.cell? ⟨g9,0,none⟩ = some (.int .i64 0) := (blk_cell hbox 0).trans rfl; have y1 : w3.cell? ⟨g9,1,none⟩ = some (.int .i64 0) := (blk_cell hbox 1).trans rfl; have y2 : w3.cell? ⟨g9,2,none⟩ = some (.slice none 0 0) := (blk_cell hbox 2).trans rfl; have y3 : w3.cell? ⟨g9,3,none⟩ = some (.slice none 0 0) := (blk_cell hbox 3).trans rfl; have y4 : w3.cell? ⟨g9,4,none⟩ = some (.slice none 0 0) := (blk_cell hbox 4).trans rfl; have yf0 := blk_frozen hbox 0; have yf1 := blk_frozen hbox 1; have yf2 := blk_frozen hbox 2; have yf3 := blk_frozen hbox 3; have yf4 := blk_frozen hbox 4; clear hbox hbb hgo)
 clear y0 y1 y2 y3 y4 yf0 yf1 yf2 yf3 yf4
 have Na9 : Aside0 (ga ≠ g9) := ⟨by rw [HGO.out]; exact Nat.ne_of_lt (blk_lt HXa.out)⟩
 have N9a : Aside0 (g9 ≠ ga) := ⟨Ne.symm Na9.out⟩
 have Nb9 : Aside0 (gb ≠ g9) := ⟨by rw [HGO.out]; exact Nat.ne_of_lt (blk_lt HXb.out)⟩
 have N9b : Aside0 (g9 ≠ gb) := ⟨Ne.symm Nb9.out⟩
 have No9 : Aside0 (go ≠ g9) := ⟨by rw [HGO.out]; exact Nat.ne_of_lt (blk_lt HXo.out)⟩
 have N9o : Aside0 (g9 ≠ go) := ⟨Ne.symm No9.out⟩
 have N69 : Aside0 (g6 ≠ g9) := ⟨by rw [HGO.out]; exact Nat.ne_of_lt (blk_lt HX6.out)⟩
 have N96 : Aside0 (g9 ≠ g6) := ⟨Ne.symm N69.out⟩
 have N79 : Aside0 (g7 ≠ g9) := ⟨by rw [HGO.out]; exact Nat.ne_of_lt (blk_lt HX7.out)⟩
 have N97 : Aside0 (g9 ≠ g7) := ⟨Ne.symm N79.out⟩
 have HG9 : Aside0 (w.heap.size ≤ g9) := ⟨by rw [HGO.out]; exact below_size HB.out⟩
 replace HXa := Aside0.mk (blk_below HXa.out HBB.out)
 replace HXb := Aside0.mk (blk_below HXb.out HBB.out)
 replace HXo := Aside0.mk (blk_below HXo.out HBB.out)
 replace HX6 := Aside0.mk (blk_below HX6.out HBB.out)
 replace HX7 := Aside0.mk (blk_below HX7.out HBB.out)
 replace HV9 := Aside0.mk (TO_below HV9.out HBB.out)
 replace HB := Aside0.mk (below_step HB.out HBB.out)
 have HX9 := Aside0.mk HBO.out
 clear HBO HBB HGO
 obtain ⟨W4,hW⟩ : ∃ W_,W_ = (((((w3.setCell ⟨g9,0,none⟩ (.int .i64 cn0)).setCell ⟨g9,1,none⟩ (.int .i64 cn1)).setCell ⟨g9,2,none⟩ (.slice cP1 cm1 ck1)).setCell ⟨g9,3,none⟩ (.slice cP2 cm2 ck2)).setCell ⟨g9,4,none⟩ (.slice cP3 cm3 ck3)) := ⟨_,rfl⟩
 rw [← hW]
 replace HXa := Aside0.mk (far5 hW HXa.out Na9.out)
 replace HXb := Aside0.mk (far5 hW HXb.out Nb9.out)
 replace HXo := Aside0.mk (far3_5 hW HXo.out No9.out)
 replace HX6 := Aside0.mk (far5 hW HX6.out N69.out)
 replace HX7 := Aside0.mk (far5 hW HX7.out N79.out)
 replace HV9 := Aside0.mk (to5 hW HX9.out (by decide) (by decide) HV9.out)
 replace HX9 := Aside0.mk (set5 hW HX9.out)
 replace HB := Aside0.mk (below5 hW HB.out HG9.out)
 clear hW
 have q_0 : W4.cell? ⟨gb,0,none⟩ = some (.int .i64 g) := cL HXb 0 rfl
 have q_1 : W4.cell? ⟨gb,1,none⟩ = some (.int .i64 s) := cL HXb 1 rfl
 have q_2 : W4.cell? ⟨gb,2,none⟩ = some (.slice Bo o.length co2) := cL HXb 2 rfl
 have q_3 : W4.cell? ⟨gb,3,none⟩ = some (.slice Bl l.length cl2) := cL HXb 3 rfl
 have q_4 : W4.cell? ⟨gb,4,none⟩ = some (.slice Bf f.length cf2) := cL HXb 4 rfl
 go_wp2_with fail
 clear q_0 q_1 q_2 q_3 q_4
 refine (rcount_to g s _ _ o _ _ l _ _ f _ (TC_below HTb.out HB.out) HRT.out).mono ?_
 rintro e_ w5 ⟨es,dn0,dn1,dP1,dm1,dk1,dP2,dm2,dk2,dP3,dm3,dk3,rfl,hto,hb⟩
 have q9 := TO_lower hto (below_size HB.out)
 replace HXa := mB HXa hb
 replace HXb := mB HXb hb
 replace HXo := mB HXo hb
 replace HX6 := mB HX6 hb
 replace HX7 := mB HX7 hb
 replace HX9 := mB HX9 hb
 replace HV9 := Aside0.mk (TO_below HV9.out hb)
 replace HB := mS HB hb
 clear hb hto
 have HVx := Aside0.mk q9
 clear q9
 go_upto_region 3 with ((with_reducible refine gate_dst (N := 11) rfl ?_); refine box_event ?hg (N := 11) ?hd (cs := #[.int .i64 0,.int .i64 0,.slice none 0 0,.slice none 0 0,.slice none 0 0]) (t := 32) ?hr ?_; (case hd => rfl); (case hg => rfl); (case hr => first | (go_simp; done) | (go_simp; rfl)); intro gx hgo w6 hbox hbb; have HBO := Aside0.mk hbox; have HBB := Aside0.mk hbb; have HGO := Aside0.mk hgo; have y0 : w6.cell? ⟨gx,0,none⟩ = some (.int .i64 0) := (blk_cell hbox 0).trans rfl; have y1 : w6.cell? ⟨gx,1,none⟩ = some (.int .i64 0) := (blk_cell hbox 1).trans rfl; have y2 : w6.cell? ⟨gx,2,none⟩ = some (.slice none 0 0) := (blk_cell hbox 2).trans rfl; have y3 : w6.cell? ⟨gx,3,none⟩ = some (.slice none 0 0) := (blk_cell hbox 3).trans rfl; have y4 : w6.cell? ⟨gx,4,none⟩ = some (.slice none 0 0) := (blk_cell hbox 4).trans rfl; have yf0 := blk_frozen hbox 0; have yf1 := blk_frozen hbox 1; have yf2 := blk_frozen hbox 2; have yf3 := blk_frozen hbox 3; have yf4 := blk_frozen hbox 4; clear hbox hbb hgo)
 clear y0 y1 y2 y3 y4 yf0 yf1 yf2 yf3 yf4
 have Nax : Aside0 (ga ≠ gx) := ⟨by rw [HGO.out]; exact Nat.ne_of_lt (blk_lt HXa.out)⟩
 have Nxa : Aside0 (gx ≠ ga) := ⟨Ne.symm Nax.out⟩
 have Nbx : Aside0 (gb ≠ gx) := ⟨by rw [HGO.out]; exact Nat.ne_of_lt (blk_lt HXb.out)⟩
 have Nxb : Aside0 (gx ≠ gb) := ⟨Ne.symm Nbx.out⟩
 have Nox : Aside0 (go ≠ gx) := ⟨by rw [HGO.out]; exact Nat.ne_of_lt (blk_lt HXo.out)⟩
 have Nxo : Aside0 (gx ≠ go) := ⟨Ne.symm Nox.out⟩
 have N6x : Aside0 (g6 ≠ gx) := ⟨by rw [HGO.out]; exact Nat.ne_of_lt (blk_lt HX6.out)⟩
 have Nx6 : Aside0 (gx ≠ g6) := ⟨Ne.symm N6x.out⟩
 have N7x : Aside0 (g7 ≠ gx) := ⟨by rw [HGO.out]; exact Nat.ne_of_lt (blk_lt HX7.out)⟩
 have Nx7 : Aside0 (gx ≠ g7) := ⟨Ne.symm N7x.out⟩
 have N9x : Aside0 (g9 ≠ gx) := ⟨by rw [HGO.out]; exact Nat.ne_of_lt (blk_lt HX9.out)⟩
 have Nx9 : Aside0 (gx ≠ g9) := ⟨Ne.symm N9x.out⟩
 have HGx : Aside0 (w.heap.size ≤ gx) := ⟨by rw [HGO.out]; exact below_size HB.out⟩
 replace HXa := Aside0.mk (blk_below HXa.out HBB.out)
 replace HXb := Aside0.mk (blk_below HXb.out HBB.out)
 replace HXo := Aside0.mk (blk_below HXo.out HBB.out)
 replace HX6 := Aside0.mk (blk_below HX6.out HBB.out)
 replace HX7 := Aside0.mk (blk_below HX7.out HBB.out)
 replace HX9 := Aside0.mk (blk_below HX9.out HBB.out)
 replace HV9 := Aside0.mk (TO_below HV9.out HBB.out)
 replace HVx := Aside0.mk (TO_below HVx.out HBB.out)
 replace HB := Aside0.mk (below_step HB.out HBB.out)
 have HXx := Aside0.mk HBO.out
 clear HBO HBB HGO
 obtain ⟨W7,hW⟩ : ∃ W_,W_ = (((((w6.setCell ⟨gx,0,none⟩ (.int .i64 dn0)).setCell ⟨gx,1,none⟩ (.int .i64 dn1)).setCell ⟨gx,2,none⟩ (.slice dP1 dm1 dk1)).setCell ⟨gx,3,none⟩ (.slice dP2 dm2 dk2)).setCell ⟨gx,4,none⟩ (.slice dP3 dm3 dk3)) := ⟨_,rfl⟩
 rw [← hW]
 replace HXa := Aside0.mk (far5 hW HXa.out Nax.out)
 replace HXb := Aside0.mk (far5 hW HXb.out Nbx.out)
 replace HXo := Aside0.mk (far3_5 hW HXo.out Nox.out)
 replace HX6 := Aside0.mk (far5 hW HX6.out N6x.out)
 replace HX7 := Aside0.mk (far5 hW HX7.out N7x.out)
 replace HX9 := Aside0.mk (far5 hW HX9.out N9x.out)
 replace HV9 := Aside0.mk (to5 hW HXx.out (by decide) (by decide) HV9.out)
 replace HVx := Aside0.mk (to5 hW HXx.out (by decide) (by decide) HVx.out)
 replace HXx := Aside0.mk (set5 hW HXx.out)
 replace HB := Aside0.mk (below5 hW HB.out HGx.out)
 clear hW
 have p_0 : W7.cell? ⟨go,0,none⟩ = some (.int .i64 kind) := cL HXo 0 rfl
 have p_1 : W7.cell? ⟨go,1,none⟩ = some (.int .i64 seg) := cL HXo 1 rfl
 have p_2 : W7.cell? ⟨go,2,none⟩ = some (.int .u64 first) := cL HXo 2 rfl
 go_upto_block 0 with fail
 clear p_0 p_1 p_2
 obtain ⟨kk,hkk⟩ : ∃ j_,j_ = bits .and .i64 kind 3 := ⟨_,rfl⟩
 rw [← hkk]
 clear hkk
 go_cut [10,12] from 26 (fun v10 v12 wx => ∃ (er es : Int) (cn0 : Int) (cn1 : Int) (cP1 : Option Addr) (cm1 : Nat) (ck1 : Nat) (cP2 : Option Addr) (cm2 : Nat) (ck2 : Nat) (cP3 : Option Addr) (cm3 : Nat) (ck3 : Nat) (dn0 : Int) (dn1 : Int) (dP1 : Option Addr) (dm1 : Nat) (dk1 : Nat) (dP2 : Option Addr) (dm2 : Nat) (dk2 : Nat) (dP3 : Option Addr) (dm3 : Nat) (dk3 : Nat) (ok : Prop) (E : Int) (o2 l2 f2 : List Int),v10 = .int .i64 er ∧ v12 = .int .i64 es ∧ Aside0 (wx.heap[ga]? = some (.cells #[.int .i64 g,.int .i64 s,.slice Ao o.length co,.slice Al l.length cl,.slice Af f.length cf] 28 (0,0))) ∧ Aside0 (wx.heap[gb]? = some (.cells #[.int .i64 g,.int .i64 s,.slice Bo o.length co2,.slice Bl l.length cl2,.slice Bf f.length cf2] 32 (0,0))) ∧ Aside0 (wx.heap[g6]? = some (.cells #[.int .i64 0,.int .i64 0,.slice none 0 0,.slice none 0 0,.slice none 0 0] 28 (0,0))) ∧ Aside0 (wx.heap[g7]? = some (.cells #[.int .i64 0,.int .i64 0,.slice none 0 0,.slice none 0 0,.slice none 0 0] 32 (0,0))) ∧ Aside0 (wx.heap[g9]? = some (.cells #[.int .i64 cn0,.int .i64 cn1,.slice cP1 cm1 ck1,.slice cP2 cm2 ck2,.slice cP3 cm3 ck3] 28 (0,0))) ∧ Aside0 (wx.heap[gx]? = some (.cells #[.int .i64 dn0,.int .i64 dn1,.slice dP1 dm1 dk1,.slice dP2 dm2 dk2,.slice dP3 dm3 dk3] 32 (0,0))) ∧ Aside0 ((ok → RT g s o2 l2 f2) ∧ 1 ≤ E ∧ TO wx w.heap.size ok E g s o2 l2 f2 er cn0 cn1 cP1 cm1 ck1 cP2 cm2 ck2 cP3 cm3 ck3 ∧ TO wx w.heap.size ok E g s o2 l2 f2 es dn0 dn1 dP1 dm1 dk1 dP2 dm2 dk2 dP3 dm3 dk3) ∧ Aside0 (Below w.heap.size w wx))
 case first =>
  by_cases h0 : kk = 0
  ·have k0 : (kk == 0) = true := beq_iff_eq.mpr h0
   clear h0
   have q_0 : W7.cell? ⟨ga,0,none⟩ = some (.int .i64 g) := cL HXa 0 rfl
   have q_1 : W7.cell? ⟨ga,1,none⟩ = some (.int .i64 s) := cL HXa 1 rfl
   have q_2 : W7.cell? ⟨ga,2,none⟩ = some (.slice Ao o.length co) := cL HXa 2 rfl
   have q_3 : W7.cell? ⟨ga,3,none⟩ = some (.slice Al l.length cl) := cL HXa 3 rfl
   have q_4 : W7.cell? ⟨ga,4,none⟩ = some (.slice Af f.length cf) := cL HXa 4 rfl
   have p_0 : W7.cell? ⟨go,0,none⟩ = some (.int .i64 kind) := cL HXo 0 rfl
   have p_1 : W7.cell? ⟨go,1,none⟩ = some (.int .i64 seg) := cL HXo 1 rfl
   have p_2 : W7.cell? ⟨go,2,none⟩ = some (.int .u64 first) := cL HXo 2 rfl
   go_wp2_with fail
   clear q_0 q_1 q_2 q_3 q_4
   clear p_0 p_1 p_2
   refine (roll_to g s _ _ o _ _ l _ _ f first _ (TC_below HTa.out HB.out) HRT.out).mono ?_
   rintro e_ w8 ⟨er2,mn0,mn1,mP1,mm1,mk1,mP2,mm2,mk2,mP3,mm3,mk3,rfl,hto,hb⟩
   have q9 := TO_lower hto (below_size HB.out)
   replace HXa := mB HXa hb
   replace HXb := mB HXb hb
   replace HXo := mB HXo hb
   replace HX6 := mB HX6 hb
   replace HX7 := mB HX7 hb
   replace HX9 := mB HX9 hb
   replace HXx := mB HXx hb
   replace HV9 := Aside0.mk (TO_below HV9.out hb)
   replace HVx := Aside0.mk (TO_below HVx.out hb)
   replace HB := mS HB hb
   clear hb hto
   clear HV9
   have HV9 := Aside0.mk q9
   clear q9
   have r_0 : w8.cell? ⟨g9,0,none⟩ = some (.int .i64 cn0) := cL HX9 0 rfl
   have r_1 : w8.cell? ⟨g9,1,none⟩ = some (.int .i64 cn1) := cL HX9 1 rfl
   have r_2 : w8.cell? ⟨g9,2,none⟩ = some (.slice cP1 cm1 ck1) := cL HX9 2 rfl
   have r_3 : w8.cell? ⟨g9,3,none⟩ = some (.slice cP2 cm2 ck2) := cL HX9 3 rfl
   have r_4 : w8.cell? ⟨g9,4,none⟩ = some (.slice cP3 cm3 ck3) := cL HX9 4 rfl
   have rf_0 := blk_frozen HX9.out 0
   have rf_1 := blk_frozen HX9.out 1
   have rf_2 := blk_frozen HX9.out 2
   have rf_3 := blk_frozen HX9.out 3
   have rf_4 := blk_frozen HX9.out 4
   go_upto_region 6 with fail
   clear r_0 r_1 r_2 r_3 r_4 rf_0 rf_1 rf_2 rf_3 rf_4
   obtain ⟨W9,hW⟩ : ∃ W_,W_ = (((((w8.setCell ⟨g9,0,none⟩ (.int .i64 mn0)).setCell ⟨g9,1,none⟩ (.int .i64 mn1)).setCell ⟨g9,2,none⟩ (.slice mP1 mm1 mk1)).setCell ⟨g9,3,none⟩ (.slice mP2 mm2 mk2)).setCell ⟨g9,4,none⟩ (.slice mP3 mm3 mk3)) := ⟨_,rfl⟩
   rw [← hW]
   replace HXa := Aside0.mk (far5 hW HXa.out Na9.out)
   replace HXb := Aside0.mk (far5 hW HXb.out Nb9.out)
   replace HXo := Aside0.mk (far3_5 hW HXo.out No9.out)
   replace HX6 := Aside0.mk (far5 hW HX6.out N69.out)
   replace HX7 := Aside0.mk (far5 hW HX7.out N79.out)
   replace HXx := Aside0.mk (far5 hW HXx.out Nx9.out)
   replace HV9 := Aside0.mk (to5 hW HX9.out (by decide) (by decide) HV9.out)
   replace HVx := Aside0.mk (to5 hW HX9.out (by decide) (by decide) HVx.out)
   replace HX9 := Aside0.mk (set5 hW HX9.out)
   replace HB := Aside0.mk (below5 hW HB.out HG9.out)
   clear hW
   have q_0 : W9.cell? ⟨gb,0,none⟩ = some (.int .i64 g) := cL HXb 0 rfl
   have q_1 : W9.cell? ⟨gb,1,none⟩ = some (.int .i64 s) := cL HXb 1 rfl
   have q_2 : W9.cell? ⟨gb,2,none⟩ = some (.slice Bo o.length co2) := cL HXb 2 rfl
   have q_3 : W9.cell? ⟨gb,3,none⟩ = some (.slice Bl l.length cl2) := cL HXb 3 rfl
   have q_4 : W9.cell? ⟨gb,4,none⟩ = some (.slice Bf f.length cf2) := cL HXb 4 rfl
   have p_0 : W9.cell? ⟨go,0,none⟩ = some (.int .i64 kind) := cL HXo 0 rfl
   have p_1 : W9.cell? ⟨go,1,none⟩ = some (.int .i64 seg) := cL HXo 1 rfl
   have p_2 : W9.cell? ⟨go,2,none⟩ = some (.int .u64 first) := cL HXo 2 rfl
   go_wp2_with fail
   clear q_0 q_1 q_2 q_3 q_4
   clear p_0 p_1 p_2
   refine (rroll_to g s _ _ o _ _ l _ _ f first _ (TC_below HTb.out HB.out) HRT.out).mono ?_
   rintro e_ w10 ⟨es2,nn0,nn1,nP1,nm1,nk1,nP2,nm2,nk2,nP3,nm3,nk3,rfl,hto,hb⟩
   have q9 := TO_lower hto (below_size HB.out)
   replace HXa := mB HXa hb
   replace HXb := mB HXb hb
   replace HXo := mB HXo hb
   replace HX6 := mB HX6 hb
   replace HX7 := mB HX7 hb
   replace HX9 := mB HX9 hb
   replace HXx := mB HXx hb
   replace HV9 := Aside0.mk (TO_below HV9.out hb)
   replace HVx := Aside0.mk (TO_below HVx.out hb)
   replace HB := mS HB hb
   clear hb hto
   clear HVx
   have HVx := Aside0.mk q9
   clear q9
   have r_0 : w10.cell? ⟨gx,0,none⟩ = some (.int .i64 dn0) := cL HXx 0 rfl
   have r_1 : w10.cell? ⟨gx,1,none⟩ = some (.int .i64 dn1) := cL HXx 1 rfl
   have r_2 : w10.cell? ⟨gx,2,none⟩ = some (.slice dP1 dm1 dk1) := cL HXx 2 rfl
   have r_3 : w10.cell? ⟨gx,3,none⟩ = some (.slice dP2 dm2 dk2) := cL HXx 3 rfl
   have r_4 : w10.cell? ⟨gx,4,none⟩ = some (.slice dP3 dm3 dk3) := cL HXx 4 rfl
   have rf_0 := blk_frozen HXx.out 0
   have rf_1 := blk_frozen HXx.out 1
   have rf_2 := blk_frozen HXx.out 2
   have rf_3 := blk_frozen HXx.out 3
   have rf_4 := blk_frozen HXx.out 4
   go_wp2_with fail
   clear r_0 r_1 r_2 r_3 r_4 rf_0 rf_1 rf_2 rf_3 rf_4
   obtain ⟨W11,hW⟩ : ∃ W_,W_ = (((((w10.setCell ⟨gx,0,none⟩ (.int .i64 nn0)).setCell ⟨gx,1,none⟩ (.int .i64 nn1)).setCell ⟨gx,2,none⟩ (.slice nP1 nm1 nk1)).setCell ⟨gx,3,none⟩ (.slice nP2 nm2 nk2)).setCell ⟨gx,4,none⟩ (.slice nP3 nm3 nk3)) := ⟨_,rfl⟩
   rw [← hW]
   replace HXa := Aside0.mk (far5 hW HXa.out Nax.out)
   replace HXb := Aside0.mk (far5 hW HXb.out Nbx.out)
   replace HXo := Aside0.mk (far3_5 hW HXo.out Nox.out)
   replace HX6 := Aside0.mk (far5 hW HX6.out N6x.out)
   replace HX7 := Aside0.mk (far5 hW HX7.out N7x.out)
   replace HX9 := Aside0.mk (far5 hW HX9.out N9x.out)
   replace HV9 := Aside0.mk (to5 hW HXx.out (by decide) (by decide) HV9.out)
   replace HVx := Aside0.mk (to5 hW HXx.out (by decide) (by decide) HVx.out)
   replace HXx := Aside0.mk (set5 hW HXx.out)
   replace HB := Aside0.mk (below5 hW HB.out HGx.out)
   clear hW
   go_meet
   case rel => exact ⟨er2,es2,mn0,mn1,mP1,mm1,mk1,mP2,mm2,mk2,mP3,mm3,mk3,nn0,nn1,nP1,nm1,nk1,nP2,nm2,nk2,nP3,nm3,nk3,_,_,(o ++ [(frk g.toNat o).headD 0]),(l ++ [0]),(f ++ [first]),rfl,rfl,HXa,HXb,HX6,HX7,HX9,HXx,⟨⟨fun hok => HRT.out.roll (by cases hx : frk g.toNat o with | nil => exact absurd hx hok | cons y r => exact List.mem_cons_self ..) first,by decide,HV9.out,HVx.out⟩⟩,HB⟩
  ·by_cases h1 : kk = 1
   ·have k0 : (kk == 0) = false := beq_eq_false_iff_ne.mpr h0
    have k1 : (kk == 1) = true := beq_iff_eq.mpr h1
    clear h0 h1
    have q_0 : W7.cell? ⟨ga,0,none⟩ = some (.int .i64 g) := cL HXa 0 rfl
    have q_1 : W7.cell? ⟨ga,1,none⟩ = some (.int .i64 s) := cL HXa 1 rfl
    have q_2 : W7.cell? ⟨ga,2,none⟩ = some (.slice Ao o.length co) := cL HXa 2 rfl
    have q_3 : W7.cell? ⟨ga,3,none⟩ = some (.slice Al l.length cl) := cL HXa 3 rfl
    have q_4 : W7.cell? ⟨ga,4,none⟩ = some (.slice Af f.length cf) := cL HXa 4 rfl
    have p_0 : W7.cell? ⟨go,0,none⟩ = some (.int .i64 kind) := cL HXo 0 rfl
    have p_1 : W7.cell? ⟨go,1,none⟩ = some (.int .i64 seg) := cL HXo 1 rfl
    have p_2 : W7.cell? ⟨go,2,none⟩ = some (.int .u64 first) := cL HXo 2 rfl
    go_wp2_with fail
    clear q_0 q_1 q_2 q_3 q_4
    clear p_0 p_1 p_2
    refine (drop_to g s _ _ o _ _ l _ _ f seg _ (TC_below HTa.out HB.out) HRT.out).mono ?_
    rintro e_ w8 ⟨er2,mn0,mn1,mP1,mm1,mk1,mP2,mm2,mk2,mP3,mm3,mk3,rfl,hto,hb⟩
    have q9 := TO_lower hto (below_size HB.out)
    replace HXa := mB HXa hb
    replace HXb := mB HXb hb
    replace HXo := mB HXo hb
    replace HX6 := mB HX6 hb
    replace HX7 := mB HX7 hb
    replace HX9 := mB HX9 hb
    replace HXx := mB HXx hb
    replace HV9 := Aside0.mk (TO_below HV9.out hb)
    replace HVx := Aside0.mk (TO_below HVx.out hb)
    replace HB := mS HB hb
    clear hb hto
    clear HV9
    have HV9 := Aside0.mk q9
    clear q9
    have r_0 : w8.cell? ⟨g9,0,none⟩ = some (.int .i64 cn0) := cL HX9 0 rfl
    have r_1 : w8.cell? ⟨g9,1,none⟩ = some (.int .i64 cn1) := cL HX9 1 rfl
    have r_2 : w8.cell? ⟨g9,2,none⟩ = some (.slice cP1 cm1 ck1) := cL HX9 2 rfl
    have r_3 : w8.cell? ⟨g9,3,none⟩ = some (.slice cP2 cm2 ck2) := cL HX9 3 rfl
    have r_4 : w8.cell? ⟨g9,4,none⟩ = some (.slice cP3 cm3 ck3) := cL HX9 4 rfl
    have rf_0 := blk_frozen HX9.out 0
    have rf_1 := blk_frozen HX9.out 1
    have rf_2 := blk_frozen HX9.out 2
    have rf_3 := blk_frozen HX9.out 3
    have rf_4 := blk_frozen HX9.out 4
    go_upto_region 9 with fail
    clear r_0 r_1 r_2 r_3 r_4 rf_0 rf_1 rf_2 rf_3 rf_4
    obtain ⟨W9,hW⟩ : ∃ W_,W_ = (((((w8.setCell ⟨g9,0,none⟩ (.int .i64 mn0)).setCell ⟨g9,1,none⟩ (.int .i64 mn1)).setCell ⟨g9,2,none⟩ (.slice mP1 mm1 mk1)).setCell ⟨g9,3,none⟩ (.slice mP2 mm2 mk2)).setCell ⟨g9,4,none⟩ (.slice mP3 mm3 mk3)) := ⟨_,rfl⟩
    rw [← hW]
    replace HXa := Aside0.mk (far5 hW HXa.out Na9.out)
    replace HXb := Aside0.mk (far5 hW HXb.out Nb9.out)
    replace HXo := Aside0.mk (far3_5 hW HXo.out No9.out)
    replace HX6 := Aside0.mk (far5 hW HX6.out N69.out)
    replace HX7 := Aside0.mk (far5 hW HX7.out N79.out)
    replace HXx := Aside0.mk (far5 hW HXx.out Nx9.out)
    replace HV9 := Aside0.mk (to5 hW HX9.out (by decide) (by decide) HV9.out)
    replace HVx := Aside0.mk (to5 hW HX9.out (by decide) (by decide) HVx.out)
    replace HX9 := Aside0.mk (set5 hW HX9.out)
    replace HB := Aside0.mk (below5 hW HB.out HG9.out)
    clear hW
    have q_0 : W9.cell? ⟨gb,0,none⟩ = some (.int .i64 g) := cL HXb 0 rfl
    have q_1 : W9.cell? ⟨gb,1,none⟩ = some (.int .i64 s) := cL HXb 1 rfl
    have q_2 : W9.cell? ⟨gb,2,none⟩ = some (.slice Bo o.length co2) := cL HXb 2 rfl
    have q_3 : W9.cell? ⟨gb,3,none⟩ = some (.slice Bl l.length cl2) := cL HXb 3 rfl
    have q_4 : W9.cell? ⟨gb,4,none⟩ = some (.slice Bf f.length cf2) := cL HXb 4 rfl
    have p_0 : W9.cell? ⟨go,0,none⟩ = some (.int .i64 kind) := cL HXo 0 rfl
    have p_1 : W9.cell? ⟨go,1,none⟩ = some (.int .i64 seg) := cL HXo 1 rfl
    have p_2 : W9.cell? ⟨go,2,none⟩ = some (.int .u64 first) := cL HXo 2 rfl
    go_wp2_with fail
    clear q_0 q_1 q_2 q_3 q_4
    clear p_0 p_1 p_2
    refine (rdrop_to g s _ _ o _ _ l _ _ f seg _ (TC_below HTb.out HB.out) HRT.out).mono ?_
    rintro e_ w10 ⟨es2,nn0,nn1,nP1,nm1,nk1,nP2,nm2,nk2,nP3,nm3,nk3,rfl,hto,hb⟩
    have q9 := TO_lower hto (below_size HB.out)
    replace HXa := mB HXa hb
    replace HXb := mB HXb hb
    replace HXo := mB HXo hb
    replace HX6 := mB HX6 hb
    replace HX7 := mB HX7 hb
    replace HX9 := mB HX9 hb
    replace HXx := mB HXx hb
    replace HV9 := Aside0.mk (TO_below HV9.out hb)
    replace HVx := Aside0.mk (TO_below HVx.out hb)
    replace HB := mS HB hb
    clear hb hto
    clear HVx
    have HVx := Aside0.mk q9
    clear q9
    have r_0 : w10.cell? ⟨gx,0,none⟩ = some (.int .i64 dn0) := cL HXx 0 rfl
    have r_1 : w10.cell? ⟨gx,1,none⟩ = some (.int .i64 dn1) := cL HXx 1 rfl
    have r_2 : w10.cell? ⟨gx,2,none⟩ = some (.slice dP1 dm1 dk1) := cL HXx 2 rfl
    have r_3 : w10.cell? ⟨gx,3,none⟩ = some (.slice dP2 dm2 dk2) := cL HXx 3 rfl
    have r_4 : w10.cell? ⟨gx,4,none⟩ = some (.slice dP3 dm3 dk3) := cL HXx 4 rfl
    have rf_0 := blk_frozen HXx.out 0
    have rf_1 := blk_frozen HXx.out 1
    have rf_2 := blk_frozen HXx.out 2
    have rf_3 := blk_frozen HXx.out 3
    have rf_4 := blk_frozen HXx.out 4
    go_wp2_with fail
    clear r_0 r_1 r_2 r_3 r_4 rf_0 rf_1 rf_2 rf_3 rf_4
    obtain ⟨W11,hW⟩ : ∃ W_,W_ = (((((w10.setCell ⟨gx,0,none⟩ (.int .i64 nn0)).setCell ⟨gx,1,none⟩ (.int .i64 nn1)).setCell ⟨gx,2,none⟩ (.slice nP1 nm1 nk1)).setCell ⟨gx,3,none⟩ (.slice nP2 nm2 nk2)).setCell ⟨gx,4,none⟩ (.slice nP3 nm3 nk3)) := ⟨_,rfl⟩
    rw [← hW]
    replace HXa := Aside0.mk (far5 hW HXa.out Nax.out)
    replace HXb := Aside0.mk (far5 hW HXb.out Nbx.out)
    replace HXo := Aside0.mk (far3_5 hW HXo.out Nox.out)
    replace HX6 := Aside0.mk (far5 hW HX6.out N6x.out)
    replace HX7 := Aside0.mk (far5 hW HX7.out N7x.out)
    replace HX9 := Aside0.mk (far5 hW HX9.out N9x.out)
    replace HV9 := Aside0.mk (to5 hW HXx.out (by decide) (by decide) HV9.out)
    replace HVx := Aside0.mk (to5 hW HXx.out (by decide) (by decide) HVx.out)
    replace HXx := Aside0.mk (set5 hW HXx.out)
    replace HB := Aside0.mk (below5 hW HB.out HGx.out)
    clear hW
    go_meet
    case rel => exact ⟨er2,es2,mn0,mn1,mP1,mm1,mk1,mP2,mm2,mk2,mP3,mm3,mk3,nn0,nn1,nP1,nm1,nk1,nP2,nm2,nk2,nP3,nm3,nk3,_,_,(o.eraseIdx (pl o seg).toNat),(l.eraseIdx (pl o seg).toNat),(f.eraseIdx (pl o seg).toNat),rfl,rfl,HXa,HXb,HX6,HX7,HX9,HXx,⟨⟨fun hok => HRT.out.drop (by omega),by decide,HV9.out,HVx.out⟩⟩,HB⟩
   ·have k0 : (kk == 0) = false := beq_eq_false_iff_ne.mpr h0
    have k1 : (kk == 1) = false := beq_eq_false_iff_ne.mpr h1
    clear h0 h1
    go_wp2_with fail
    go_meet
    case rel => exact ⟨er,es,cn0,cn1,cP1,cm1,ck1,cP2,cm2,ck2,cP3,cm3,ck3,dn0,dn1,dP1,dm1,dk1,dP2,dm2,dk2,dP3,dm3,dk3,_,_,o,(l.set (l.length - 1) (Lst l + 1)),f,rfl,rfl,HXa,HXb,HX6,HX7,HX9,HXx,⟨⟨fun hok => HRT.out.count hok,by decide,HV9.out,HVx.out⟩⟩,HB⟩
 case rest =>
  clear HXa HXb HXo HX6 HX7 HX9 HXx HV9 HVx HB
  obtain ⟨er,es,cn0,cn1,cP1,cm1,ck1,cP2,cm2,ck2,cP3,cm3,ck3,dn0,dn1,dP1,dm1,dk1,dP2,dm2,dk2,dP3,dm3,dk3,ok,E,o2,l2,f2,rfl,rfl,HXa,HXb,HX6,HX7,HX9,HXx,HTO,HB⟩ := hcut
  rename World => wA
  obtain ⟨hrt,hE,hta,htb⟩ := HTO.out
  clear HTO
  have HE := Aside0.mk hE
  have HRX := Aside0.mk hrt
  clear hrt hE
  by_cases hok : ok
  ·have HRY := Aside0.mk (HRX.out hok)
   rcases hta with ⟨h_,_⟩ | ⟨_,rfl,rfl,rfl,rfl,rfl,rfl,ha⟩
   ·exact absurd hok h_
   rcases htb with ⟨h_,_⟩ | ⟨_,rfl,rfl,rfl,rfl,rfl,rfl,hb⟩
   ·exact absurd hok h_
   have HTX := Aside0.mk ha
   have HTY := Aside0.mk hb
   clear ha hb hok HRX
   have HLN : Aside0 (o2.length ≤ 1000 ∧ l2.length ≤ 1000 ∧ f2.length ≤ 1000) := ⟨by have h1 := HRY.out.len; have h2 := HRY.out.may; have h3 := HRY.out.hl; have h4 := HRY.out.hf; omega⟩
   go_wp2_with fail
   refine start_ (n := 10) (S := fun w' => w'.cell? ⟨g9,0,none⟩ = some (.int .i64 g) ∧ w'.cell? ⟨g9,1,none⟩ = some (.int .i64 s) ∧ w'.cell? ⟨g9,2,none⟩ = some (.slice cP1 o2.length ck1) ∧ w'.cell? ⟨g9,3,none⟩ = some (.slice cP2 l2.length ck2) ∧ w'.cell? ⟨g9,4,none⟩ = some (.slice cP3 f2.length ck3) ∧ w'.cell? ⟨gx,0,none⟩ = some (.int .i64 g) ∧ w'.cell? ⟨gx,1,none⟩ = some (.int .i64 s) ∧ w'.cell? ⟨gx,2,none⟩ = some (.slice dP1 o2.length dk1) ∧ w'.cell? ⟨gx,3,none⟩ = some (.slice dP2 l2.length dk2) ∧ w'.cell? ⟨gx,4,none⟩ = some (.slice dP3 f2.length dk3)) (ds := []) yd0 (by kernel_rfl) rfl rfl ⟨((blk_cell (blk_drew HX9.out) 0).trans rfl),((blk_cell (blk_drew HX9.out) 1).trans rfl),((blk_cell (blk_drew HX9.out) 2).trans rfl),((blk_cell (blk_drew HX9.out) 3).trans rfl),((blk_cell (blk_drew HX9.out) 4).trans rfl),((blk_cell (blk_drew HXx.out) 0).trans rfl),((blk_cell (blk_drew HXx.out) 1).trans rfl),((blk_cell (blk_drew HXx.out) 2).trans rfl),((blk_cell (blk_drew HXx.out) 3).trans rfl),((blk_cell (blk_drew HXx.out) 4).trans rfl)⟩ (fun hHeld => ?_)
   refine with_tabW do8.tab10 do8.bits10 (fun HT_ HW_ => ?_)
   replace HXa := Aside0.mk (blk_drew HXa.out)
   replace HXb := Aside0.mk (blk_drew HXb.out)
   replace HX6 := Aside0.mk (blk_drew HX6.out)
   replace HX7 := Aside0.mk (blk_drew HX7.out)
   replace HX9 := Aside0.mk (blk_drew HX9.out)
   replace HXx := Aside0.mk (blk_drew HXx.out)
   replace HTX := Aside0.mk (TR_below HTX.out (below_drew (Below.refl _ _)))
   replace HTY := Aside0.mk (TR_below HTY.out (below_drew (Below.refl _ _)))
   replace HB := Aside0.mk (below_drew HB.out)
   generalize wA.drew = wd10 at *
   refine pure_ (i := 0) (N := some 58) (v := ?_) (a' := ?_) yd1 rfl rfl (any_of HT_.out (by kernel_rfl)) (fun _ _ _ h => h) (Or.inl ⟨by rfl,?_⟩) ?_ ?_
   rotate_left
   ·intro w'
    go_simp
    with_reducible rfl
   rotate_left
   ·simp only [Act.put,ydI,yds0,yds1,i64_w,i32_w]
    rfl
   refine pure_ (i := 1) (N := some 59) (v := ?_) (a' := ?_) yd2 rfl rfl (any_of HT_.out (by kernel_rfl)) (fun _ _ _ h => h) (Or.inl ⟨by rfl,?_⟩) ?_ ?_
   rotate_left
   ·intro w'
    go_simp
    with_reducible rfl
   rotate_left
   ·simp only [Act.put,ydI,yds0,yds1,i64_w,i32_w]
    rfl
   refine pure_ (i := 2) (N := some 60) (v := ?_) (a' := ?_) yd3 rfl rfl (any_of HT_.out (by kernel_rfl)) (fun _ _ _ h => h) (Or.inl ⟨by rfl,?_⟩) ?_ ?_
   rotate_left
   ·intro w'
    go_simp
    with_reducible rfl
   rotate_left
   ·simp only [Act.put,ydI,yds0,yds1,i64_w,i32_w]
    rfl
   refine pure_ (i := 3) (N := some 61) (v := ?_) (a' := ?_) yd4 rfl rfl (any_of HT_.out (by kernel_rfl)) (fun _ _ _ h => h) (Or.inl ⟨by rfl,?_⟩) ?_ ?_
   rotate_left
   ·intro w'
    go_simp
    with_reducible rfl
   rotate_left
   ·simp only [Act.put,ydI,yds0,yds1,i64_w,i32_w]
    rfl
   refine take_ (i := 4) (N := some 62) (v := ?_) (a' := ?_) yd5 rfl rfl (take_ofW HT_.out HW_.out (by kernel_rfl)) (fun _ _ _ h => h) (Or.inl ⟨by rfl,?_⟩) hHeld ?_ ?_
   rotate_left
   ·rintro w' ⟨s0,s1,s2,s3,s4,s5,s6,s7,s8,s9⟩
    go_simp
    with_reducible rfl
   rotate_left
   ·simp only [Act.put,ydI,yds0,yds1,i64_w,i32_w]
    rfl
   refine take_ (i := 6) (N := some 64) (v := ?_) (a' := ?_) yd6 rfl rfl (take_ofW HT_.out HW_.out (by kernel_rfl)) (fun _ _ _ h => h) (Or.inl ⟨by rfl,?_⟩) hHeld ?_ ?_
   rotate_left
   ·rintro w' ⟨s0,s1,s2,s3,s4,s5,s6,s7,s8,s9⟩
    go_simp
    with_reducible rfl
   rotate_left
   ·simp only [Act.put,ydI,yds0,yds1,i64_w,i32_w]
    rfl
   refine one_ (i := 5) (N := some 63) yd7 rfl rfl (one_of HT_.out (by kernel_rfl)) (by decide) (fun K hK => ?_)
   refine goes_ Try.func12 (by kernel_rfl) rfl #[.agg #[.int .i64 g,.int .i64 s,.slice cP1 o2.length ck1,.slice cP2 l2.length ck2,.slice cP3 f2.length ck3]] (by rfl) rfl rfl (by simp only [List.map_toArray,List.map_cons,List.map_nil]; rfl) ?_
   with_reducible refine (ref_calls g s _ _ o2 _ _ l2 _ _ f2 _).mono ?_
   rintro e_ wa ⟨rfl,hb⟩
   refine ⟨_,rfl,?_⟩
   replace HXa := mB HXa hb
   replace HXb := mB HXb hb
   replace HX6 := mB HX6 hb
   replace HX7 := mB HX7 hb
   replace HX9 := mB HX9 hb
   replace HXx := mB HXx hb
   replace HTX := Aside0.mk (TR_below HTX.out hb)
   replace HTY := Aside0.mk (TR_below HTY.out hb)
   replace HB := mS HB hb
   clear hb
   refine hK.out _ _ ⟨(cL HX9 0 rfl),(cL HX9 1 rfl),(cL HX9 2 rfl),(cL HX9 3 rfl),(cL HX9 4 rfl),(cL HXx 0 rfl),(cL HXx 1 rfl),(cL HXx 2 rfl),(cL HXx 3 rfl),(cL HXx 4 rfl)⟩ (fun hHeld => ?_)
   clear hK K
   refine norm_ (a' := ?_) ?_ ?_
   rotate_left
   ·show Act.put _ (some 63) _ = _
    simp only [Act.put,ydI,yds0,yds1,i64_w,i32_w]
    rfl
   refine one_ (i := 7) (N := some 65) yd8 rfl rfl (one_of HT_.out (by kernel_rfl)) (by decide) (fun K hK => ?_)
   refine goes_ Try.func11 (by kernel_rfl) rfl #[.agg #[.int .i64 g,.int .i64 s,.slice cP1 o2.length ck1,.slice cP2 l2.length ck2,.slice cP3 f2.length ck3],.agg #[.int .i64 g,.int .i64 s,.slice dP1 o2.length dk1,.slice dP2 l2.length dk2,.slice dP3 f2.length dk3]] (by rfl) rfl rfl (by simp only [List.map_toArray,List.map_cons,List.map_nil]; rfl) ?_
   with_reducible refine (same_calls g s _ _ o2 _ _ l2 _ _ f2 _ _ _ _ _ _ _ (TR_TC HTX.out) (TR_TC HTY.out) HLN.out).mono ?_
   rintro e_ wb ⟨rfl,hb⟩
   refine ⟨_,rfl,?_⟩
   replace HXa := mB HXa hb
   replace HXb := mB HXb hb
   replace HX6 := mB HX6 hb
   replace HX7 := mB HX7 hb
   replace HX9 := mB HX9 hb
   replace HXx := mB HXx hb
   replace HTX := Aside0.mk (TR_below HTX.out hb)
   replace HTY := Aside0.mk (TR_below HTY.out hb)
   replace HB := mS HB hb
   clear hb
   refine hK.out _ _ ⟨(cL HX9 0 rfl),(cL HX9 1 rfl),(cL HX9 2 rfl),(cL HX9 3 rfl),(cL HX9 4 rfl),(cL HXx 0 rfl),(cL HXx 1 rfl),(cL HXx 2 rfl),(cL HXx 3 rfl),(cL HXx 4 rfl)⟩ (fun hHeld => ?_)
   clear hK K
   refine norm_ (a' := ?_) ?_ ?_
   rotate_left
   ·show Act.put _ (some 65) _ = _
    simp only [Act.put,ydI,yds0,yds1,i64_w,i32_w]
    rfl
   refine pure_ (i := 8) (N := some 66) (v := ?_) (a' := ?_) yd9 rfl rfl (any_of HT_.out (by kernel_rfl)) (fun _ _ _ h => h) (Or.inl ⟨by rfl,?_⟩) ?_ ?_
   rotate_left
   ·intro w'
    go_simp
    with_reducible rfl
   rotate_left
   ·simp only [Act.put,ydI,yds0,yds1,i64_w,i32_w]
    rfl
   refine pure_ (i := 9) (N := some 67) (v := ?_) (a' := ?_) yd10 rfl rfl (any_of HT_.out (by kernel_rfl)) (fun _ _ _ h => h) (Or.inl ⟨by rfl,?_⟩) ?_ ?_
   rotate_left
   ·intro w'
    go_simp
    with_reducible rfl
   rotate_left
   ·simp only [Act.put,ydI,yds0,yds1,i64_w,i32_w]
    rfl
   refine done_ (done_of HT_.out (by kernel_rfl)) ?_
   clear HT_ HW_ hHeld
   go_wp2_with fail
   refine start_ (n := 5) (S := fun w' => w'.cell? ⟨g9,0,none⟩ = some (.int .i64 g) ∧ w'.cell? ⟨g9,1,none⟩ = some (.int .i64 s) ∧ w'.cell? ⟨g9,2,none⟩ = some (.slice cP1 o2.length ck1) ∧ w'.cell? ⟨g9,3,none⟩ = some (.slice cP2 l2.length ck2) ∧ w'.cell? ⟨g9,4,none⟩ = some (.slice cP3 f2.length ck3) ∧ w'.cell? ⟨gx,0,none⟩ = some (.int .i64 g) ∧ w'.cell? ⟨gx,1,none⟩ = some (.int .i64 s) ∧ w'.cell? ⟨gx,2,none⟩ = some (.slice dP1 o2.length dk1) ∧ w'.cell? ⟨gx,3,none⟩ = some (.slice dP2 l2.length dk2) ∧ w'.cell? ⟨gx,4,none⟩ = some (.slice dP3 f2.length dk3)) (ds := []) yd11 (by kernel_rfl) rfl rfl ⟨((blk_cell (blk_drew HX9.out) 0).trans rfl),((blk_cell (blk_drew HX9.out) 1).trans rfl),((blk_cell (blk_drew HX9.out) 2).trans rfl),((blk_cell (blk_drew HX9.out) 3).trans rfl),((blk_cell (blk_drew HX9.out) 4).trans rfl),((blk_cell (blk_drew HXx.out) 0).trans rfl),((blk_cell (blk_drew HXx.out) 1).trans rfl),((blk_cell (blk_drew HXx.out) 2).trans rfl),((blk_cell (blk_drew HXx.out) 3).trans rfl),((blk_cell (blk_drew HXx.out) 4).trans rfl)⟩ (fun hHeld => ?_)
   refine with_tabW do8.tab14 do8.bits14 (fun HT_ HW_ => ?_)
   replace HXa := Aside0.mk (blk_drew HXa.out)
   replace HXb := Aside0.mk (blk_drew HXb.out)
   replace HX6 := Aside0.mk (blk_drew HX6.out)
   replace HX7 := Aside0.mk (blk_drew HX7.out)
   replace HX9 := Aside0.mk (blk_drew HX9.out)
   replace HXx := Aside0.mk (blk_drew HXx.out)
   replace HTX := Aside0.mk (TR_below HTX.out (below_drew (Below.refl _ _)))
   replace HTY := Aside0.mk (TR_below HTY.out (below_drew (Below.refl _ _)))
   replace HB := Aside0.mk (below_drew HB.out)
   generalize wb.drew = wd13 at *
   refine take_ (i := 0) (N := some 74) (v := ?_) (a' := ?_) yd12 rfl rfl (take_ofW HT_.out HW_.out (by kernel_rfl)) (fun _ _ _ h => h) (Or.inl ⟨by rfl,?_⟩) hHeld ?_ ?_
   rotate_left
   ·rintro w' ⟨s0,s1,s2,s3,s4,s5,s6,s7,s8,s9⟩
    go_simp
    with_reducible rfl
   rotate_left
   ·simp only [Act.put,ydI,yds0,yds1,i64_w,i32_w]
    rfl
   refine take_ (i := 1) (N := some 75) (v := ?_) (a' := ?_) yd13 rfl rfl (take_ofW HT_.out HW_.out (by kernel_rfl)) (fun _ _ _ h => h) (Or.inl ⟨by rfl,?_⟩) hHeld ?_ ?_
   rotate_left
   ·rintro w' ⟨s0,s1,s2,s3,s4,s5,s6,s7,s8,s9⟩
    go_simp
    with_reducible rfl
   rotate_left
   ·simp only [Act.put,ydI,yds0,yds1,i64_w,i32_w]
    rfl
   refine one_ (i := 2) (N := none) yd14 rfl rfl (one_of HT_.out (by kernel_rfl)) (by decide) (fun K hK => ?_)
   have z_0 : wd13.cell? ⟨g6,0,none⟩ = some (.int .i64 0) := cL HX6 0 rfl
   have z_1 : wd13.cell? ⟨g6,1,none⟩ = some (.int .i64 0) := cL HX6 1 rfl
   have z_2 : wd13.cell? ⟨g6,2,none⟩ = some (.slice none 0 0) := cL HX6 2 rfl
   have z_3 : wd13.cell? ⟨g6,3,none⟩ = some (.slice none 0 0) := cL HX6 3 rfl
   have z_4 : wd13.cell? ⟨g6,4,none⟩ = some (.slice none 0 0) := cL HX6 4 rfl
   have zf_0 := blk_frozen HX6.out 0
   have zf_1 := blk_frozen HX6.out 1
   have zf_2 := blk_frozen HX6.out 2
   have zf_3 := blk_frozen HX6.out 3
   have zf_4 := blk_frozen HX6.out 4
   refine skip_ (w1 := ?_) (by rfl) rfl ?_ ?_
   rotate_left
   ·go_simp
    rfl
   clear z_0 z_1 z_2 z_3 z_4 zf_0 zf_1 zf_2 zf_3 zf_4
   obtain ⟨we,hW⟩ : ∃ W_,W_ = (((((wd13.setCell ⟨g6,0,none⟩ (.int .i64 g)).setCell ⟨g6,1,none⟩ (.int .i64 s)).setCell ⟨g6,2,none⟩ (.slice cP1 o2.length ck1)).setCell ⟨g6,3,none⟩ (.slice cP2 l2.length ck2)).setCell ⟨g6,4,none⟩ (.slice cP3 f2.length ck3)) := ⟨_,rfl⟩
   rw [← hW]
   replace HXa := Aside0.mk (far5 hW HXa.out Na6.out)
   replace HXb := Aside0.mk (far5 hW HXb.out Nb6.out)
   replace HX7 := Aside0.mk (far5 hW HX7.out N76.out)
   replace HX9 := Aside0.mk (far5 hW HX9.out N96.out)
   replace HXx := Aside0.mk (far5 hW HXx.out Nx6.out)
   replace HTX := Aside0.mk (tr5 hW HX6.out (by decide) (by decide) HTX.out)
   replace HTY := Aside0.mk (tr5 hW HX6.out (by decide) (by decide) HTY.out)
   replace HX6 := Aside0.mk (set5 hW HX6.out)
   replace HB := Aside0.mk (below5 hW HB.out HG6.out)
   clear hW
   refine hK.out _ _ ⟨(cL HX9 0 rfl),(cL HX9 1 rfl),(cL HX9 2 rfl),(cL HX9 3 rfl),(cL HX9 4 rfl),(cL HXx 0 rfl),(cL HXx 1 rfl),(cL HXx 2 rfl),(cL HXx 3 rfl),(cL HXx 4 rfl)⟩ (fun hHeld => ?_)
   clear hK K
   refine one_ (i := 3) (N := none) yd15 rfl rfl (one_of HT_.out (by kernel_rfl)) (by decide) (fun K hK => ?_)
   have z_0 : we.cell? ⟨g7,0,none⟩ = some (.int .i64 0) := cL HX7 0 rfl
   have z_1 : we.cell? ⟨g7,1,none⟩ = some (.int .i64 0) := cL HX7 1 rfl
   have z_2 : we.cell? ⟨g7,2,none⟩ = some (.slice none 0 0) := cL HX7 2 rfl
   have z_3 : we.cell? ⟨g7,3,none⟩ = some (.slice none 0 0) := cL HX7 3 rfl
   have z_4 : we.cell? ⟨g7,4,none⟩ = some (.slice none 0 0) := cL HX7 4 rfl
   have zf_0 := blk_frozen HX7.out 0
   have zf_1 := blk_frozen HX7.out 1
   have zf_2 := blk_frozen HX7.out 2
   have zf_3 := blk_frozen HX7.out 3
   have zf_4 := blk_frozen HX7.out 4
   refine skip_ (w1 := ?_) (by rfl) rfl ?_ ?_
   rotate_left
   ·go_simp
    rfl
   clear z_0 z_1 z_2 z_3 z_4 zf_0 zf_1 zf_2 zf_3 zf_4
   obtain ⟨wf,hW⟩ : ∃ W_,W_ = (((((we.setCell ⟨g7,0,none⟩ (.int .i64 g)).setCell ⟨g7,1,none⟩ (.int .i64 s)).setCell ⟨g7,2,none⟩ (.slice dP1 o2.length dk1)).setCell ⟨g7,3,none⟩ (.slice dP2 l2.length dk2)).setCell ⟨g7,4,none⟩ (.slice dP3 f2.length dk3)) := ⟨_,rfl⟩
   rw [← hW]
   replace HXa := Aside0.mk (far5 hW HXa.out Na7.out)
   replace HXb := Aside0.mk (far5 hW HXb.out Nb7.out)
   replace HX6 := Aside0.mk (far5 hW HX6.out N67.out)
   replace HX9 := Aside0.mk (far5 hW HX9.out N97.out)
   replace HXx := Aside0.mk (far5 hW HXx.out Nx7.out)
   replace HTX := Aside0.mk (tr5 hW HX7.out (by decide) (by decide) HTX.out)
   replace HTY := Aside0.mk (tr5 hW HX7.out (by decide) (by decide) HTY.out)
   replace HX7 := Aside0.mk (set5 hW HX7.out)
   replace HB := Aside0.mk (below5 hW HB.out HG7.out)
   clear hW
   refine hK.out _ _ ⟨(cL HX9 0 rfl),(cL HX9 1 rfl),(cL HX9 2 rfl),(cL HX9 3 rfl),(cL HX9 4 rfl),(cL HXx 0 rfl),(cL HXx 1 rfl),(cL HXx 2 rfl),(cL HXx 3 rfl),(cL HXx 4 rfl)⟩ (fun hHeld => ?_)
   clear hK K
   refine pure_ (i := 4) (N := some 8) (v := ?_) (a' := ?_) yd16 rfl rfl (any_of HT_.out (by kernel_rfl)) (fun _ _ _ h => h) (Or.inl ⟨by rfl,?_⟩) ?_ ?_
   rotate_left
   ·intro w'
    go_simp
    with_reducible rfl
   rotate_left
   ·simp only [Act.put,ydI,yds0,yds1,i64_w,i32_w]
    rfl
   refine done_ (done_of HT_.out (by kernel_rfl)) ?_
   clear HT_ HW_ hHeld
   go_wp2
   refine bodyPost_ret (results_list rfl (by simp) (.cell g6 28 _ (0,0) _ rfl HX6.out Try.underlying28 rfl (by kernel_rfl) (.cell g7 32 _ (0,0) _ rfl HX7.out Try.underlying32 rfl (by kernel_rfl) (.tmp .nil)))) rfl ?_
   exact ⟨.inr ⟨o2,l2,f2,cP1,ck1,cP2,ck2,cP3,ck3,dP1,dk1,dP2,dk2,dP3,dk3,rfl,HRY.out,HTX.out,HTY.out⟩,HB.out⟩
  ·rcases hta with ⟨_,rfl,rfl,rfl,rfl,rfl,rfl,rfl,rfl,rfl,rfl,rfl,rfl⟩ | ⟨h_,_⟩
   rotate_left
   ·exact absurd h_ hok
   rcases htb with ⟨_,rfl,rfl,rfl,rfl,rfl,rfl,rfl,rfl,rfl,rfl,rfl,rfl⟩ | ⟨h_,_⟩
   rotate_left
   ·exact absurd h_ hok
   clear hok HRX
   have t1 : (E != E) = false := bne_eq_false_iff_eq.2 rfl
   have t2 : (E != 0) = true := bne_iff_ne.2 (by have := HE.out; omega)
   go_wp2_with fail
   refine start_ (n := 10) (S := fun w' => w'.cell? ⟨g9,0,none⟩ = some (.int .i64 0) ∧ w'.cell? ⟨g9,1,none⟩ = some (.int .i64 0) ∧ w'.cell? ⟨g9,2,none⟩ = some (.slice none 0 0) ∧ w'.cell? ⟨g9,3,none⟩ = some (.slice none 0 0) ∧ w'.cell? ⟨g9,4,none⟩ = some (.slice none 0 0) ∧ w'.cell? ⟨gx,0,none⟩ = some (.int .i64 0) ∧ w'.cell? ⟨gx,1,none⟩ = some (.int .i64 0) ∧ w'.cell? ⟨gx,2,none⟩ = some (.slice none 0 0) ∧ w'.cell? ⟨gx,3,none⟩ = some (.slice none 0 0) ∧ w'.cell? ⟨gx,4,none⟩ = some (.slice none 0 0)) (ds := []) yd0 (by kernel_rfl) rfl rfl ⟨((blk_cell (blk_drew HX9.out) 0).trans rfl),((blk_cell (blk_drew HX9.out) 1).trans rfl),((blk_cell (blk_drew HX9.out) 2).trans rfl),((blk_cell (blk_drew HX9.out) 3).trans rfl),((blk_cell (blk_drew HX9.out) 4).trans rfl),((blk_cell (blk_drew HXx.out) 0).trans rfl),((blk_cell (blk_drew HXx.out) 1).trans rfl),((blk_cell (blk_drew HXx.out) 2).trans rfl),((blk_cell (blk_drew HXx.out) 3).trans rfl),((blk_cell (blk_drew HXx.out) 4).trans rfl)⟩ (fun hHeld => ?_)
   refine with_tabW do8.tab10 do8.bits10 (fun HT_ HW_ => ?_)
   replace HXa := Aside0.mk (blk_drew HXa.out)
   replace HXb := Aside0.mk (blk_drew HXb.out)
   replace HX6 := Aside0.mk (blk_drew HX6.out)
   replace HX7 := Aside0.mk (blk_drew HX7.out)
   replace HX9 := Aside0.mk (blk_drew HX9.out)
   replace HXx := Aside0.mk (blk_drew HXx.out)
   replace HB := Aside0.mk (below_drew HB.out)
   generalize wA.drew = wd10 at *
   refine pure_ (i := 0) (N := some 58) (v := ?_) (a' := ?_) yd1 rfl rfl (any_of HT_.out (by kernel_rfl)) (fun _ _ _ h => h) (Or.inl ⟨by rfl,?_⟩) ?_ ?_
   rotate_left
   ·intro w'
    go_simp
    with_reducible rfl
   rotate_left
   ·simp only [Act.put,ydI,yds0,yds1,i64_w,i32_w]
    rfl
   refine pure_ (i := 1) (N := some 59) (v := ?_) (a' := ?_) yd2 rfl rfl (any_of HT_.out (by kernel_rfl)) (fun _ _ _ h => h) (Or.inl ⟨by rfl,?_⟩) ?_ ?_
   rotate_left
   ·intro w'
    go_simp
    with_reducible rfl
   rotate_left
   ·simp only [Act.put,ydI,yds0,yds1,i64_w,i32_w]
    rfl
   refine pure_ (i := 2) (N := some 60) (v := ?_) (a' := ?_) yd3 rfl rfl (any_of HT_.out (by kernel_rfl)) (fun _ _ _ h => h) (Or.inl ⟨by rfl,?_⟩) ?_ ?_
   rotate_left
   ·intro w'
    go_simp
    with_reducible rfl
   rotate_left
   ·simp only [Act.put,ydI,yds0,yds1,i64_w,i32_w]
    rfl
   refine pure_ (i := 3) (N := some 61) (v := ?_) (a' := ?_) yd4 rfl rfl (any_of HT_.out (by kernel_rfl)) (fun _ _ _ h => h) (Or.inl ⟨by rfl,?_⟩) ?_ ?_
   rotate_left
   ·intro w'
    go_simp
    with_reducible rfl
   rotate_left
   ·simp only [Act.put,ydI,yds0,yds1,i64_w,i32_w]
    rfl
   refine take_ (i := 4) (N := some 62) (v := ?_) (a' := ?_) yd5 rfl rfl (take_ofW HT_.out HW_.out (by kernel_rfl)) (fun _ _ _ h => h) (Or.inl ⟨by rfl,?_⟩) hHeld ?_ ?_
   rotate_left
   ·rintro w' ⟨s0,s1,s2,s3,s4,s5,s6,s7,s8,s9⟩
    go_simp
    with_reducible rfl
   rotate_left
   ·simp only [Act.put,ydI,yds0,yds1,i64_w,i32_w]
    rfl
   refine take_ (i := 6) (N := some 64) (v := ?_) (a' := ?_) yd6 rfl rfl (take_ofW HT_.out HW_.out (by kernel_rfl)) (fun _ _ _ h => h) (Or.inl ⟨by rfl,?_⟩) hHeld ?_ ?_
   rotate_left
   ·rintro w' ⟨s0,s1,s2,s3,s4,s5,s6,s7,s8,s9⟩
    go_simp
    with_reducible rfl
   rotate_left
   ·simp only [Act.put,ydI,yds0,yds1,i64_w,i32_w]
    rfl
   refine one_ (i := 5) (N := some 63) yd7 rfl rfl (one_of HT_.out (by kernel_rfl)) (by decide) (fun K hK => ?_)
   refine goes_ Try.func12 (by kernel_rfl) rfl #[.agg #[.int .i64 0,.int .i64 0,.slice none 0 0,.slice none 0 0,.slice none 0 0]] (by rfl) rfl rfl (by simp only [List.map_toArray,List.map_cons,List.map_nil]; rfl) ?_
   with_reducible refine (ref0_calls _).mono ?_
   rintro e_ wa ⟨rfl,hb⟩
   refine ⟨_,rfl,?_⟩
   replace HXa := mB HXa hb
   replace HXb := mB HXb hb
   replace HX6 := mB HX6 hb
   replace HX7 := mB HX7 hb
   replace HX9 := mB HX9 hb
   replace HXx := mB HXx hb
   replace HB := mS HB hb
   clear hb
   refine hK.out _ _ ⟨(cL HX9 0 rfl),(cL HX9 1 rfl),(cL HX9 2 rfl),(cL HX9 3 rfl),(cL HX9 4 rfl),(cL HXx 0 rfl),(cL HXx 1 rfl),(cL HXx 2 rfl),(cL HXx 3 rfl),(cL HXx 4 rfl)⟩ (fun hHeld => ?_)
   clear hK K
   refine norm_ (a' := ?_) ?_ ?_
   rotate_left
   ·show Act.put _ (some 63) _ = _
    simp only [Act.put,ydI,yds0,yds1,i64_w,i32_w]
    rfl
   refine one_ (i := 7) (N := some 65) yd8 rfl rfl (one_of HT_.out (by kernel_rfl)) (by decide) (fun K hK => ?_)
   refine goes_ Try.func11 (by kernel_rfl) rfl #[.agg #[.int .i64 0,.int .i64 0,.slice none 0 0,.slice none 0 0,.slice none 0 0],.agg #[.int .i64 0,.int .i64 0,.slice none 0 0,.slice none 0 0,.slice none 0 0]] (by rfl) rfl rfl (by simp only [List.map_toArray,List.map_cons,List.map_nil]; rfl) ?_
   with_reducible refine (same0_calls _).mono ?_
   rintro e_ wb ⟨rfl,hb⟩
   refine ⟨_,rfl,?_⟩
   replace HXa := mB HXa hb
   replace HXb := mB HXb hb
   replace HX6 := mB HX6 hb
   replace HX7 := mB HX7 hb
   replace HX9 := mB HX9 hb
   replace HXx := mB HXx hb
   replace HB := mS HB hb
   clear hb
   refine hK.out _ _ ⟨(cL HX9 0 rfl),(cL HX9 1 rfl),(cL HX9 2 rfl),(cL HX9 3 rfl),(cL HX9 4 rfl),(cL HXx 0 rfl),(cL HXx 1 rfl),(cL HXx 2 rfl),(cL HXx 3 rfl),(cL HXx 4 rfl)⟩ (fun hHeld => ?_)
   clear hK K
   refine norm_ (a' := ?_) ?_ ?_
   rotate_left
   ·show Act.put _ (some 65) _ = _
    simp only [Act.put,ydI,yds0,yds1,i64_w,i32_w]
    rfl
   refine pure_ (i := 8) (N := some 66) (v := ?_) (a' := ?_) yd9 rfl rfl (any_of HT_.out (by kernel_rfl)) (fun _ _ _ h => h) (Or.inl ⟨by rfl,?_⟩) ?_ ?_
   rotate_left
   ·intro w'
    go_simp
    with_reducible rfl
   rotate_left
   ·simp only [Act.put,ydI,yds0,yds1,i64_w,i32_w]
    rfl
   refine pure_ (i := 9) (N := some 67) (v := ?_) (a' := ?_) yd10 rfl rfl (any_of HT_.out (by kernel_rfl)) (fun _ _ _ h => h) (Or.inl ⟨by rfl,?_⟩) ?_ ?_
   rotate_left
   ·intro w'
    go_simp
    with_reducible rfl
   rotate_left
   ·simp only [Act.put,ydI,yds0,yds1,i64_w,i32_w]
    rfl
   refine done_ (done_of HT_.out (by kernel_rfl)) ?_
   clear HT_ HW_ hHeld
   go_wp2_with fail
   refine start_ (n := 5) (S := fun w' => w'.cell? ⟨ga,0,none⟩ = some (.int .i64 g) ∧ w'.cell? ⟨ga,1,none⟩ = some (.int .i64 s) ∧ w'.cell? ⟨ga,2,none⟩ = some (.slice Ao o.length co) ∧ w'.cell? ⟨ga,3,none⟩ = some (.slice Al l.length cl) ∧ w'.cell? ⟨ga,4,none⟩ = some (.slice Af f.length cf) ∧ w'.cell? ⟨gb,0,none⟩ = some (.int .i64 g) ∧ w'.cell? ⟨gb,1,none⟩ = some (.int .i64 s) ∧ w'.cell? ⟨gb,2,none⟩ = some (.slice Bo o.length co2) ∧ w'.cell? ⟨gb,3,none⟩ = some (.slice Bl l.length cl2) ∧ w'.cell? ⟨gb,4,none⟩ = some (.slice Bf f.length cf2)) (ds := []) yd11 (by kernel_rfl) rfl rfl ⟨((blk_cell (blk_drew HXa.out) 0).trans rfl),((blk_cell (blk_drew HXa.out) 1).trans rfl),((blk_cell (blk_drew HXa.out) 2).trans rfl),((blk_cell (blk_drew HXa.out) 3).trans rfl),((blk_cell (blk_drew HXa.out) 4).trans rfl),((blk_cell (blk_drew HXb.out) 0).trans rfl),((blk_cell (blk_drew HXb.out) 1).trans rfl),((blk_cell (blk_drew HXb.out) 2).trans rfl),((blk_cell (blk_drew HXb.out) 3).trans rfl),((blk_cell (blk_drew HXb.out) 4).trans rfl)⟩ (fun hHeld => ?_)
   refine with_tabW do8.tab13 do8.bits13 (fun HT_ HW_ => ?_)
   replace HXa := Aside0.mk (blk_drew HXa.out)
   replace HXb := Aside0.mk (blk_drew HXb.out)
   replace HX6 := Aside0.mk (blk_drew HX6.out)
   replace HX7 := Aside0.mk (blk_drew HX7.out)
   replace HX9 := Aside0.mk (blk_drew HX9.out)
   replace HXx := Aside0.mk (blk_drew HXx.out)
   replace HB := Aside0.mk (below_drew HB.out)
   generalize wb.drew = wd13 at *
   refine take_ (i := 0) (N := some 72) (v := ?_) (a' := ?_) yd12 rfl rfl (take_ofW HT_.out HW_.out (by kernel_rfl)) (fun _ _ _ h => h) (Or.inl ⟨by rfl,?_⟩) hHeld ?_ ?_
   rotate_left
   ·rintro w' ⟨s0,s1,s2,s3,s4,s5,s6,s7,s8,s9⟩
    go_simp
    with_reducible rfl
   rotate_left
   ·simp only [Act.put,ydI,yds0,yds1,i64_w,i32_w]
    rfl
   refine take_ (i := 1) (N := some 73) (v := ?_) (a' := ?_) yd13 rfl rfl (take_ofW HT_.out HW_.out (by kernel_rfl)) (fun _ _ _ h => h) (Or.inl ⟨by rfl,?_⟩) hHeld ?_ ?_
   rotate_left
   ·rintro w' ⟨s0,s1,s2,s3,s4,s5,s6,s7,s8,s9⟩
    go_simp
    with_reducible rfl
   rotate_left
   ·simp only [Act.put,ydI,yds0,yds1,i64_w,i32_w]
    rfl
   refine one_ (i := 2) (N := none) yd14 rfl rfl (one_of HT_.out (by kernel_rfl)) (by decide) (fun K hK => ?_)
   have z_0 : wd13.cell? ⟨g6,0,none⟩ = some (.int .i64 0) := cL HX6 0 rfl
   have z_1 : wd13.cell? ⟨g6,1,none⟩ = some (.int .i64 0) := cL HX6 1 rfl
   have z_2 : wd13.cell? ⟨g6,2,none⟩ = some (.slice none 0 0) := cL HX6 2 rfl
   have z_3 : wd13.cell? ⟨g6,3,none⟩ = some (.slice none 0 0) := cL HX6 3 rfl
   have z_4 : wd13.cell? ⟨g6,4,none⟩ = some (.slice none 0 0) := cL HX6 4 rfl
   have zf_0 := blk_frozen HX6.out 0
   have zf_1 := blk_frozen HX6.out 1
   have zf_2 := blk_frozen HX6.out 2
   have zf_3 := blk_frozen HX6.out 3
   have zf_4 := blk_frozen HX6.out 4
   refine skip_ (w1 := ?_) (by rfl) rfl ?_ ?_
   rotate_left
   ·go_simp
    rfl
   clear z_0 z_1 z_2 z_3 z_4 zf_0 zf_1 zf_2 zf_3 zf_4
   obtain ⟨we,hW⟩ : ∃ W_,W_ = (((((wd13.setCell ⟨g6,0,none⟩ (.int .i64 g)).setCell ⟨g6,1,none⟩ (.int .i64 s)).setCell ⟨g6,2,none⟩ (.slice Ao o.length co)).setCell ⟨g6,3,none⟩ (.slice Al l.length cl)).setCell ⟨g6,4,none⟩ (.slice Af f.length cf)) := ⟨_,rfl⟩
   rw [← hW]
   replace HXa := Aside0.mk (far5 hW HXa.out Na6.out)
   replace HXb := Aside0.mk (far5 hW HXb.out Nb6.out)
   replace HX7 := Aside0.mk (far5 hW HX7.out N76.out)
   replace HX9 := Aside0.mk (far5 hW HX9.out N96.out)
   replace HXx := Aside0.mk (far5 hW HXx.out Nx6.out)
   replace HX6 := Aside0.mk (set5 hW HX6.out)
   replace HB := Aside0.mk (below5 hW HB.out HG6.out)
   clear hW
   refine hK.out _ _ ⟨(cL HXa 0 rfl),(cL HXa 1 rfl),(cL HXa 2 rfl),(cL HXa 3 rfl),(cL HXa 4 rfl),(cL HXb 0 rfl),(cL HXb 1 rfl),(cL HXb 2 rfl),(cL HXb 3 rfl),(cL HXb 4 rfl)⟩ (fun hHeld => ?_)
   clear hK K
   refine one_ (i := 3) (N := none) yd15 rfl rfl (one_of HT_.out (by kernel_rfl)) (by decide) (fun K hK => ?_)
   have z_0 : we.cell? ⟨g7,0,none⟩ = some (.int .i64 0) := cL HX7 0 rfl
   have z_1 : we.cell? ⟨g7,1,none⟩ = some (.int .i64 0) := cL HX7 1 rfl
   have z_2 : we.cell? ⟨g7,2,none⟩ = some (.slice none 0 0) := cL HX7 2 rfl
   have z_3 : we.cell? ⟨g7,3,none⟩ = some (.slice none 0 0) := cL HX7 3 rfl
   have z_4 : we.cell? ⟨g7,4,none⟩ = some (.slice none 0 0) := cL HX7 4 rfl
   have zf_0 := blk_frozen HX7.out 0
   have zf_1 := blk_frozen HX7.out 1
   have zf_2 := blk_frozen HX7.out 2
   have zf_3 := blk_frozen HX7.out 3
   have zf_4 := blk_frozen HX7.out 4
   refine skip_ (w1 := ?_) (by rfl) rfl ?_ ?_
   rotate_left
   ·go_simp
    rfl
   clear z_0 z_1 z_2 z_3 z_4 zf_0 zf_1 zf_2 zf_3 zf_4
   obtain ⟨wf,hW⟩ : ∃ W_,W_ = (((((we.setCell ⟨g7,0,none⟩ (.int .i64 g)).setCell ⟨g7,1,none⟩ (.int .i64 s)).setCell ⟨g7,2,none⟩ (.slice Bo o.length co2)).setCell ⟨g7,3,none⟩ (.slice Bl l.length cl2)).setCell ⟨g7,4,none⟩ (.slice Bf f.length cf2)) := ⟨_,rfl⟩
   rw [← hW]
   replace HXa := Aside0.mk (far5 hW HXa.out Na7.out)
   replace HXb := Aside0.mk (far5 hW HXb.out Nb7.out)
   replace HX6 := Aside0.mk (far5 hW HX6.out N67.out)
   replace HX9 := Aside0.mk (far5 hW HX9.out N97.out)
   replace HXx := Aside0.mk (far5 hW HXx.out Nx7.out)
   replace HX7 := Aside0.mk (set5 hW HX7.out)
   replace HB := Aside0.mk (below5 hW HB.out HG7.out)
   clear hW
   refine hK.out _ _ ⟨(cL HXa 0 rfl),(cL HXa 1 rfl),(cL HXa 2 rfl),(cL HXa 3 rfl),(cL HXa 4 rfl),(cL HXb 0 rfl),(cL HXb 1 rfl),(cL HXb 2 rfl),(cL HXb 3 rfl),(cL HXb 4 rfl)⟩ (fun hHeld => ?_)
   clear hK K
   refine pure_ (i := 4) (N := some 8) (v := ?_) (a' := ?_) yd16 rfl rfl (any_of HT_.out (by kernel_rfl)) (fun _ _ _ h => h) (Or.inl ⟨by rfl,?_⟩) ?_ ?_
   rotate_left
   ·intro w'
    go_simp
    with_reducible rfl
   rotate_left
   ·simp only [Act.put,ydI,yds0,yds1,i64_w,i32_w]
    rfl
   refine done_ (done_of HT_.out (by kernel_rfl)) ?_
   clear HT_ HW_ hHeld
   go_wp2
   refine bodyPost_ret (results_list rfl (by simp) (.cell g6 28 _ (0,0) _ rfl HX6.out Try.underlying28 rfl (by kernel_rfl) (.cell g7 32 _ (0,0) _ rfl HX7.out Try.underlying32 rfl (by kernel_rfl) (.tmp .nil)))) rfl ?_
   exact ⟨.inl rfl,HB.out⟩
end Go.Proofs.Ytbefoehjlgdcgaa.H
