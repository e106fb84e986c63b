/-
lodgerref08.Drop: a segment less.
-/
import Derived.Test.YtbefoehjlgdcgaaRo
import Derived.Test.YtbefoehjlgdcgaaTk
namespace Go.Proofs.Ytbefoehjlgdcgaa.H
open Go.RowKit Go.Proofs.YtbefoehjlgdcgaaW.PrintWords Go.Proofs.YtbefoehjlgdcgaaW.PrintLast Go.Proofs.YtbefoehjlgdcgaaW.PrintMore
attribute [local go_sem] min2_int min_two
set_option linter.unusedVariables false
set_option linter.unusedSimpArgs false
def zg0 : Array Bool := #[false,false,false,false,false,false,false,false,false,false,false]
def zg1 : Array Bool := #[true,false,false,false,false,false,false,false,false,false,false]
def zg2 : Array Bool := #[true,false,true,false,false,false,false,false,false,false,false]
def zg3 : Array Bool := #[true,false,true,false,true,false,false,false,false,false,false]
def zg4 : Array Bool := #[true,true,true,false,true,false,false,false,false,false,false]
def zg5 : Array Bool := #[true,true,true,true,true,false,false,false,false,false,false]
def zg6 : Array Bool := #[true,true,true,true,true,true,false,false,false,false,false]
def zg7 : Array Bool := #[true,true,true,true,true,true,true,false,false,false,false]
def zg8 : Array Bool := #[true,true,true,true,true,true,true,true,false,false,false]
def zg9 : Array Bool := #[true,true,true,true,true,true,true,true,true,false,false]
def zg10 : Array Bool := #[true,true,true,true,true,true,true,true,true,true,false]
def zg11 : Array Bool := #[true,true,true,true,true,true,true,true,true,true,true]
theorem zgI {α : Type} (l : List α) (i : Nat) (a : α) : l.toArray.setIfInBounds i a = (l.set i a).toArray := List.setIfInBounds_toArray l i a
theorem zgs0 {α : Type} (x : α) (l : List α) (a : α) : (x :: l).set 0 a = a :: l := rfl
theorem zgs1 {α : Type} (x : α) (l : List α) (i : Nat) (a : α) : (x :: l).set (i + 1) a = x :: l.set i a := rfl
def kp (p : Int) (i : Nat) (o : List Int) : List Int := (o.take i).eraseIdx p.toNat
theorem kp_zero (p : Int) (o : List Int) : kp p 0 o = [] := by unfold kp; simp
theorem kp_all {p : Int} {o : List Int} {i : Nat} (h : o.length ≤ i) : kp p i o = o.eraseIdx p.toNat := by unfold kp; rw [List.take_of_length_le h]
theorem kp_le (p : Int) (i : Nat) (o : List Int) : (kp p i o).length ≤ o.length := by
 unfold kp
 have h1 := List.length_eraseIdx_le (o.take i) p.toNat
 rw [List.length_take] at h1
 omega
theorem kp_skip {p : Int} {o : List Int} {i : Nat} (hi : i < o.length) (h : (i : Int) = p) : kp p (i + 1) o = kp p i o := by
 subst h
 unfold kp
 have e : (o.take i).length = i := by rw [List.length_take]; omega
 rw [Int.toNat_natCast,List.take_succ_eq_append_getElem hi,List.eraseIdx_append_of_length_le (by omega),e,Nat.sub_self]
 have e2 : [o[i]].eraseIdx 0 = [] := rfl
 rw [e2,List.append_nil,List.eraseIdx_of_length_le (by omega)]
theorem kp_next {p : Int} {o : List Int} {i : Nat} (hi : i < o.length) (hp : 0 ≤ p) (h : (i : Int) ≠ p) : kp p (i + 1) o = kp p i o ++ [rd o (i : Int)] := by
 have hr : rd o (i : Int) = o[i] := by rw [rd_nat,List.getD_eq_getElem?_getD,List.getElem?_eq_getElem hi]; rfl
 rw [hr]
 unfold kp
 rw [List.take_succ_eq_append_getElem hi]
 by_cases hlt : p.toNat < i
 ·rw [List.eraseIdx_append_of_lt_length (by rw [List.length_take]; omega)]
 ·rw [List.eraseIdx_of_length_le (by rw [List.length_append,List.length_take,List.length_singleton]; omega),List.eraseIdx_of_length_le (by rw [List.length_take]; omega)]
theorem el_here {w : World} {k : IntKind} {n : Nat} {xs : List Int} {ad : Addr} {x : Int} (h : Kd.C (Kd.int k) w (some ad) n xs) (i : Nat) (hi : i < n) (hx : x = rd xs (i : Int)) : w.cell? (ad.add i) = some (.int k x) := by
 obtain ⟨a2,e,hz⟩ := Kd.at_int h (i : Int) (Int.natCast_nonneg i) (by omega)
 cases e
 rw [hx]
 simpa using hz
def rdrop.T9 : Bool × List (List Nat × List Nat) := (true,[([],[]),([0],[0]),([],[]),([2],[2]),([],[]),([3,4],[3,4]),([5],[5]),([6],[6]),([1,7],[1,7]),([0,1,2,3,4,5,6,7,8],[]),([9,8,8,0,1,2,3,4,5,6,7,8],[8,9])])
def rdrop.B9 : List Nat := [0,1,0,4,0,28,60,124,255,511,1023]
theorem rdrop.tab9 : rtab .any (opsOf Try.f38 9) = rdrop.T9 := by kernel_rfl
theorem rdrop.bits9 : waitsOk rdrop.T9.2 rdrop.B9 = true := by kernel_rfl
def rdrop.T10 : Bool × List (List Nat × List Nat) := (true,[([],[]),([0],[0]),([],[]),([2],[2]),([],[]),([3,4],[3,4]),([5],[5]),([6],[6]),([1,7],[1,7]),([0,1,2,3,4,5,6,7,8],[]),([9,8,8,0,1,2,3,4,5,6,7,8],[8,9])])
def rdrop.B10 : List Nat := [0,1,0,4,0,28,60,124,255,511,1023]
theorem rdrop.tab10 : rtab .any (opsOf Try.f38 10) = rdrop.T10 := by kernel_rfl
theorem rdrop.bits10 : waitsOk rdrop.T10.2 rdrop.B10 = true := by kernel_rfl
def rdrop.T11 : Bool × List (List Nat × List Nat) := (true,[([],[]),([0],[0]),([],[]),([2],[2]),([],[]),([3,4],[3,4]),([5],[5]),([6],[6]),([1,7],[1,7]),([0,1,2,3,4,5,6,7,8],[]),([9,8,8,0,1,2,3,4,5,6,7,8],[8,9])])
def rdrop.B11 : List Nat := [0,1,0,4,0,28,60,124,255,511,1023]
theorem rdrop.tab11 : rtab .any (opsOf Try.f38 11) = rdrop.T11 := by kernel_rfl
theorem rdrop.bits11 : waitsOk rdrop.T11.2 rdrop.B11 = true := by kernel_rfl
set_option maxHeartbeats 8000000 in
set_option maxRecDepth 100000 in
theorem rdrop_neg (g s : Int) (Ao : Option Addr) (co : Nat) (o : List Int) (Al : Option Addr) (cl : Nat) (l : List Int) (Af : Option Addr) (cf : Nat) (f : List Int) (seg : Int) (w : World) (hT : TC w Ao co o Al cl l Af cf f) (hol : o.length ≤ 1000 ∧ f.length ≤ 1000) (hn1 : 1 ≤ o.length) (hlo : l.length = o.length) (hfo : f.length = o.length) (hp : pl o seg < 0) :
  Calls Try.prog 38 #[.agg #[.int .i64 g,.int .i64 s,.slice Ao o.length co,.slice Al l.length cl,.slice Af f.length cf],.int .i64 seg] w fun e w' => e = .returned (.tuple #[.agg #[.int .i64 0,.int .i64 0,.slice none 0 0,.slice none 0 0,.slice none 0 0],.int .i64 1]) ∧ Below w.heap.size w w' := by
 have HT := Aside0.mk hT
 have HL := Aside0.mk hol
 obtain ⟨p,hpp⟩ : ∃ p,p = pl o seg := ⟨_,rfl⟩
 have HIN := Aside0.mk (in_pl g s o l f seg (by omega) 1001 (by omega))
 have hb1 := (pl_lo o seg).1
 have hb2 := (pl_lo o seg).2.1
 rw [← hpp] at hp hb1 hb2 HIN
 have HLO := Aside0.mk hlo
 have HFO := Aside0.mk hfo
 have HN := Aside0.mk hn1
 have ht1 : decide (p < 0) = true := decide_eq_true hp
 clear hT hol hlo hfo hn1 hb1 hb2 hp hpp
 go_enter Try.func38,Try.ntmps38
 go_upto_region 1 with fail
 obtain ⟨W1,hW1⟩ : ∃ W1,W1 = (w.alloc (.cells #[.int .i64 g,.int .i64 s,.slice Ao o.length co,.slice Al l.length cl,.slice Af f.length cf] 32)).alloc (.cells #[.int .i64 0,.int .i64 0,.slice none 0 0,.slice none 0 0,.slice none 0 0] 32) := ⟨_,rfl⟩
 rw [← hW1]
 obtain ⟨gr,hgr⟩ : ∃ g,g = w.heap.size + 1 := ⟨_,rfl⟩
 obtain ⟨gs,hgs⟩ : ∃ g,g = w.heap.size := ⟨_,rfl⟩
 have HXs : Aside0 (W1.heap[gs]? = some (.cells #[.int .i64 g,.int .i64 s,.slice Ao o.length co,.slice Al l.length cl,.slice Af f.length cf] 32 (0,0))) := ⟨by rw [hW1,hgs]; exact blk_alloc (blk_new _ _) _⟩
 have HXr : Aside0 (W1.heap[gr]? = some (.cells #[.int .i64 0,.int .i64 0,.slice none 0 0,.slice none 0 0,.slice none 0 0] 32 (0,0))) := ⟨by rw [hW1,hgr]; have := blk_new (w.alloc (.cells #[.int .i64 g,.int .i64 s,.slice Ao o.length co,.slice Al l.length cl,.slice Af f.length cf] 32)) (.cells #[.int .i64 0,.int .i64 0,.slice none 0 0,.slice none 0 0,.slice none 0 0] 32); simpa using this⟩
 have HB : Aside0 (Below w.heap.size w W1) := ⟨by rw [hW1]; exact below_alloc (below_alloc (Below.refl _ _) _) _⟩
 have HGR : Aside0 (w.heap.size ≤ gr) := ⟨by omega⟩
 have NSR : Aside0 (gs ≠ gr) := ⟨by omega⟩
 rw [← hgr,← hgs]
 clear hW1 hgr hgs
 have s_0 : W1.cell? ⟨gs,0,none⟩ = some (.int .i64 g) := cL HXs 0 rfl
 have s_1 : W1.cell? ⟨gs,1,none⟩ = some (.int .i64 s) := cL HXs 1 rfl
 have s_2 : W1.cell? ⟨gs,2,none⟩ = some (.slice Ao o.length co) := cL HXs 2 rfl
 have s_3 : W1.cell? ⟨gs,3,none⟩ = some (.slice Al l.length cl) := cL HXs 3 rfl
 have s_4 : W1.cell? ⟨gs,4,none⟩ = some (.slice Af f.length cf) := cL HXs 4 rfl
 go_upto_region 2 with (refine (In_calls 1001 g s _ _ o _ _ l _ _ f seg _ (TC_below HT.out HB.out) _ HIN.out).mono ?_; rintro e_ wi ⟨rfl,hbi⟩)
 clear s_0 s_1 s_2 s_3 s_4
 replace HXs := mB HXs hbi
 replace HXr := mB HXr hbi
 replace HB := mS HB hbi
 clear hbi HIN
 have s_0 : wi.cell? ⟨gs,0,none⟩ = some (.int .i64 g) := cL HXs 0 rfl
 have s_1 : wi.cell? ⟨gs,1,none⟩ = some (.int .i64 s) := cL HXs 1 rfl
 have s_2 : wi.cell? ⟨gs,2,none⟩ = some (.slice Ao o.length co) := cL HXs 2 rfl
 have s_3 : wi.cell? ⟨gs,3,none⟩ = some (.slice Al l.length cl) := cL HXs 3 rfl
 have s_4 : wi.cell? ⟨gs,4,none⟩ = some (.slice Af f.length cf) := cL HXs 4 rfl
 have x0 : wi.cell? ⟨gr,0,none⟩ = some (.int .i64 0) := cL HXr 0 rfl
 have x1 : wi.cell? ⟨gr,1,none⟩ = some (.int .i64 0) := cL HXr 1 rfl
 have x2 : wi.cell? ⟨gr,2,none⟩ = some (.slice none 0 0) := cL HXr 2 rfl
 have x3 : wi.cell? ⟨gr,3,none⟩ = some (.slice none 0 0) := cL HXr 3 rfl
 have x4 : wi.cell? ⟨gr,4,none⟩ = some (.slice none 0 0) := cL HXr 4 rfl
 have xf0 := blk_frozen HXr.out 0
 have xf1 := blk_frozen HXr.out 1
 have xf2 := blk_frozen HXr.out 2
 have xf3 := blk_frozen HXr.out 3
 have xf4 := blk_frozen HXr.out 4
 go_wp2_with fail
 obtain ⟨W3,hW⟩ : ∃ W_,W_ = (((((wi.setCell ⟨gr,0,none⟩ (.int .i64 0)).setCell ⟨gr,1,none⟩ (.int .i64 0)).setCell ⟨gr,2,none⟩ (.slice none 0 0)).setCell ⟨gr,3,none⟩ (.slice none 0 0)).setCell ⟨gr,4,none⟩ (.slice none 0 0)) := ⟨_,rfl⟩
 rw [← hW]
 refine bodyPost_ret (results_ct rfl _ _ gr 32 _ (0,0) _ rfl (set5 hW HXr.out) Try.underlying32 rfl (by kernel_rfl)) rfl ?_
 exact ⟨rfl,below5 hW HB.out HGR.out⟩
set_option maxHeartbeats 8000000 in
set_option maxRecDepth 100000 in
theorem rdrop_last (g s : Int) (Ao : Option Addr) (co : Nat) (o : List Int) (Al : Option Addr) (cl : Nat) (l : List Int) (Af : Option Addr) (cf : Nat) (f : List Int) (seg : Int) (w : World) (hT : TC w Ao co o Al cl l Af cf f) (hol : o.length ≤ 1000 ∧ f.length ≤ 1000) (hn1 : 1 ≤ o.length) (hlo : l.length = o.length) (hfo : f.length = o.length) (hp : pl o seg = (o.length : Int) - 1) :
  Calls Try.prog 38 #[.agg #[.int .i64 g,.int .i64 s,.slice Ao o.length co,.slice Al l.length cl,.slice Af f.length cf],.int .i64 seg] w fun e w' => e = .returned (.tuple #[.agg #[.int .i64 0,.int .i64 0,.slice none 0 0,.slice none 0 0,.slice none 0 0],.int .i64 1]) ∧ Below w.heap.size w w' := by
 have HT := Aside0.mk hT
 have HL := Aside0.mk hol
 obtain ⟨p,hpp⟩ : ∃ p,p = pl o seg := ⟨_,rfl⟩
 have HIN := Aside0.mk (in_pl g s o l f seg (by omega) 1001 (by omega))
 have hb1 := (pl_lo o seg).1
 have hb2 := (pl_lo o seg).2.1
 rw [← hpp] at hp hb1 hb2 HIN
 have HLO := Aside0.mk hlo
 have HFO := Aside0.mk hfo
 have HN := Aside0.mk hn1
 have ht1 : decide (p < 0) = false := decide_eq_false (by omega)
 have ht2 : (p == (o.length : Int) - 1) = true := beq_iff_eq.2 (by omega)
 have ho64 : (o.length : Int) - 1 ≤ 9223372036854775807 := by omega
 clear hT hol hlo hfo hn1 hb1 hb2 hp hpp
 go_enter Try.func38,Try.ntmps38
 go_upto_region 1 with fail
 obtain ⟨W1,hW1⟩ : ∃ W1,W1 = (w.alloc (.cells #[.int .i64 g,.int .i64 s,.slice Ao o.length co,.slice Al l.length cl,.slice Af f.length cf] 32)).alloc (.cells #[.int .i64 0,.int .i64 0,.slice none 0 0,.slice none 0 0,.slice none 0 0] 32) := ⟨_,rfl⟩
 rw [← hW1]
 obtain ⟨gr,hgr⟩ : ∃ g,g = w.heap.size + 1 := ⟨_,rfl⟩
 obtain ⟨gs,hgs⟩ : ∃ g,g = w.heap.size := ⟨_,rfl⟩
 have HXs : Aside0 (W1.heap[gs]? = some (.cells #[.int .i64 g,.int .i64 s,.slice Ao o.length co,.slice Al l.length cl,.slice Af f.length cf] 32 (0,0))) := ⟨by rw [hW1,hgs]; exact blk_alloc (blk_new _ _) _⟩
 have HXr : Aside0 (W1.heap[gr]? = some (.cells #[.int .i64 0,.int .i64 0,.slice none 0 0,.slice none 0 0,.slice none 0 0] 32 (0,0))) := ⟨by rw [hW1,hgr]; have := blk_new (w.alloc (.cells #[.int .i64 g,.int .i64 s,.slice Ao o.length co,.slice Al l.length cl,.slice Af f.length cf] 32)) (.cells #[.int .i64 0,.int .i64 0,.slice none 0 0,.slice none 0 0,.slice none 0 0] 32); simpa using this⟩
 have HB : Aside0 (Below w.heap.size w W1) := ⟨by rw [hW1]; exact below_alloc (below_alloc (Below.refl _ _) _) _⟩
 have HGR : Aside0 (w.heap.size ≤ gr) := ⟨by omega⟩
 have NSR : Aside0 (gs ≠ gr) := ⟨by omega⟩
 rw [← hgr,← hgs]
 clear hW1 hgr hgs
 have s_0 : W1.cell? ⟨gs,0,none⟩ = some (.int .i64 g) := cL HXs 0 rfl
 have s_1 : W1.cell? ⟨gs,1,none⟩ = some (.int .i64 s) := cL HXs 1 rfl
 have s_2 : W1.cell? ⟨gs,2,none⟩ = some (.slice Ao o.length co) := cL HXs 2 rfl
 have s_3 : W1.cell? ⟨gs,3,none⟩ = some (.slice Al l.length cl) := cL HXs 3 rfl
 have s_4 : W1.cell? ⟨gs,4,none⟩ = some (.slice Af f.length cf) := cL HXs 4 rfl
 go_upto_region 2 with (refine (In_calls 1001 g s _ _ o _ _ l _ _ f seg _ (TC_below HT.out HB.out) _ HIN.out).mono ?_; rintro e_ wi ⟨rfl,hbi⟩)
 clear s_0 s_1 s_2 s_3 s_4
 replace HXs := mB HXs hbi
 replace HXr := mB HXr hbi
 replace HB := mS HB hbi
 clear hbi HIN
 have s_0 : wi.cell? ⟨gs,0,none⟩ = some (.int .i64 g) := cL HXs 0 rfl
 have s_1 : wi.cell? ⟨gs,1,none⟩ = some (.int .i64 s) := cL HXs 1 rfl
 have s_2 : wi.cell? ⟨gs,2,none⟩ = some (.slice Ao o.length co) := cL HXs 2 rfl
 have s_3 : wi.cell? ⟨gs,3,none⟩ = some (.slice Al l.length cl) := cL HXs 3 rfl
 have s_4 : wi.cell? ⟨gs,4,none⟩ = some (.slice Af f.length cf) := cL HXs 4 rfl
 have x0 : wi.cell? ⟨gr,0,none⟩ = some (.int .i64 0) := cL HXr 0 rfl
 have x1 : wi.cell? ⟨gr,1,none⟩ = some (.int .i64 0) := cL HXr 1 rfl
 have x2 : wi.cell? ⟨gr,2,none⟩ = some (.slice none 0 0) := cL HXr 2 rfl
 have x3 : wi.cell? ⟨gr,3,none⟩ = some (.slice none 0 0) := cL HXr 3 rfl
 have x4 : wi.cell? ⟨gr,4,none⟩ = some (.slice none 0 0) := cL HXr 4 rfl
 have xf0 := blk_frozen HXr.out 0
 have xf1 := blk_frozen HXr.out 1
 have xf2 := blk_frozen HXr.out 2
 have xf3 := blk_frozen HXr.out 3
 have xf4 := blk_frozen HXr.out 4
 go_wp2_with fail
 obtain ⟨W3,hW⟩ : ∃ W_,W_ = (((((wi.setCell ⟨gr,0,none⟩ (.int .i64 0)).setCell ⟨gr,1,none⟩ (.int .i64 0)).setCell ⟨gr,2,none⟩ (.slice none 0 0)).setCell ⟨gr,3,none⟩ (.slice none 0 0)).setCell ⟨gr,4,none⟩ (.slice none 0 0)) := ⟨_,rfl⟩
 rw [← hW]
 refine bodyPost_ret (results_ct rfl _ _ gr 32 _ (0,0) _ rfl (set5 hW HXr.out) Try.underlying32 rfl (by kernel_rfl)) rfl ?_
 exact ⟨rfl,below5 hW HB.out HGR.out⟩
set_option maxHeartbeats 8000000 in
set_option maxRecDepth 100000 in
theorem rdrop_yes (g s : Int) (Ao : Option Addr) (co : Nat) (o : List Int) (Al : Option Addr) (cl : Nat) (l : List Int) (Af : Option Addr) (cf : Nat) (f : List Int) (seg : Int) (w : World) (hT : TC w Ao co o Al cl l Af cf f) (hol : o.length ≤ 1000 ∧ f.length ≤ 1000) (hn1 : 1 ≤ o.length) (hlo : l.length = o.length) (hfo : f.length = o.length) (hp : 0 ≤ pl o seg ∧ pl o seg < (o.length : Int) - 1) :
  Calls Try.prog 38 #[.agg #[.int .i64 g,.int .i64 s,.slice Ao o.length co,.slice Al l.length cl,.slice Af f.length cf],.int .i64 seg] w fun e w' => ∃ A1 d1 A2 d2 A3 d3,e = .returned (.tuple #[.agg #[.int .i64 g,.int .i64 s,.slice A1 (o.eraseIdx (pl o seg).toNat).length d1,.slice A2 (l.eraseIdx (pl o seg).toNat).length d2,.slice A3 (f.eraseIdx (pl o seg).toNat).length d3],.int .i64 0]) ∧ TR w' w.heap.size A1 d1 (o.eraseIdx (pl o seg).toNat) A2 d2 (l.eraseIdx (pl o seg).toNat) A3 d3 (f.eraseIdx (pl o seg).toNat) ∧ Below w.heap.size w w' := by
 have HT := Aside0.mk hT
 have HL := Aside0.mk hol
 obtain ⟨p,hpp⟩ : ∃ p,p = pl o seg := ⟨_,rfl⟩
 have HIN := Aside0.mk (in_pl g s o l f seg (by omega) 1001 (by omega))
 have hb1 := (pl_lo o seg).1
 have hb2 := (pl_lo o seg).2.1
 rw [← hpp] at hp hb1 hb2 HIN
 have HLO := Aside0.mk hlo
 have HFO := Aside0.mk hfo
 have HN := Aside0.mk hn1
 have ht1 : decide (p < 0) = false := decide_eq_false (by omega)
 have ht2 : (p == (o.length : Int) - 1) = false := beq_eq_false_iff_ne.2 (by omega)
 have ho64 : (o.length : Int) - 1 ≤ 9223372036854775807 := by omega
 have HP := Aside0.mk (show 0 ≤ p ∧ p < (o.length : Int) - 1 from hp)
 have HPP := Aside0.mk hpp
 clear hT hol hlo hfo hn1 hb1 hb2 hp hpp
 go_enter Try.func38,Try.ntmps38
 go_upto_region 1 with fail
 obtain ⟨W1,hW1⟩ : ∃ W1,W1 = (w.alloc (.cells #[.int .i64 g,.int .i64 s,.slice Ao o.length co,.slice Al l.length cl,.slice Af f.length cf] 32)).alloc (.cells #[.int .i64 0,.int .i64 0,.slice none 0 0,.slice none 0 0,.slice none 0 0] 32) := ⟨_,rfl⟩
 rw [← hW1]
 obtain ⟨gr,hgr⟩ : ∃ g,g = w.heap.size + 1 := ⟨_,rfl⟩
 obtain ⟨gs,hgs⟩ : ∃ g,g = w.heap.size := ⟨_,rfl⟩
 have HXs : Aside0 (W1.heap[gs]? = some (.cells #[.int .i64 g,.int .i64 s,.slice Ao o.length co,.slice Al l.length cl,.slice Af f.length cf] 32 (0,0))) := ⟨by rw [hW1,hgs]; exact blk_alloc (blk_new _ _) _⟩
 have HXr : Aside0 (W1.heap[gr]? = some (.cells #[.int .i64 0,.int .i64 0,.slice none 0 0,.slice none 0 0,.slice none 0 0] 32 (0,0))) := ⟨by rw [hW1,hgr]; have := blk_new (w.alloc (.cells #[.int .i64 g,.int .i64 s,.slice Ao o.length co,.slice Al l.length cl,.slice Af f.length cf] 32)) (.cells #[.int .i64 0,.int .i64 0,.slice none 0 0,.slice none 0 0,.slice none 0 0] 32); simpa using this⟩
 have HB : Aside0 (Below w.heap.size w W1) := ⟨by rw [hW1]; exact below_alloc (below_alloc (Below.refl _ _) _) _⟩
 have HGR : Aside0 (w.heap.size ≤ gr) := ⟨by omega⟩
 have NSR : Aside0 (gs ≠ gr) := ⟨by omega⟩
 rw [← hgr,← hgs]
 clear hW1 hgr hgs
 have s_0 : W1.cell? ⟨gs,0,none⟩ = some (.int .i64 g) := cL HXs 0 rfl
 have s_1 : W1.cell? ⟨gs,1,none⟩ = some (.int .i64 s) := cL HXs 1 rfl
 have s_2 : W1.cell? ⟨gs,2,none⟩ = some (.slice Ao o.length co) := cL HXs 2 rfl
 have s_3 : W1.cell? ⟨gs,3,none⟩ = some (.slice Al l.length cl) := cL HXs 3 rfl
 have s_4 : W1.cell? ⟨gs,4,none⟩ = some (.slice Af f.length cf) := cL HXs 4 rfl
 go_upto_region 2 with (refine (In_calls 1001 g s _ _ o _ _ l _ _ f seg _ (TC_below HT.out HB.out) _ HIN.out).mono ?_; rintro e_ wi ⟨rfl,hbi⟩)
 clear s_0 s_1 s_2 s_3 s_4
 replace HXs := mB HXs hbi
 replace HXr := mB HXr hbi
 replace HB := mS HB hbi
 clear hbi HIN
 have s_0 : wi.cell? ⟨gs,0,none⟩ = some (.int .i64 g) := cL HXs 0 rfl
 have s_1 : wi.cell? ⟨gs,1,none⟩ = some (.int .i64 s) := cL HXs 1 rfl
 have s_2 : wi.cell? ⟨gs,2,none⟩ = some (.slice Ao o.length co) := cL HXs 2 rfl
 have s_3 : wi.cell? ⟨gs,3,none⟩ = some (.slice Al l.length cl) := cL HXs 3 rfl
 have s_4 : wi.cell? ⟨gs,4,none⟩ = some (.slice Af f.length cf) := cL HXs 4 rfl
 go_upto_region 5 with ((with_reducible refine gate_dst (N := 7) rfl ?_); refine box_event ?hg (N := 7) ?hd (cs := #[.int .i64 0,.int .i64 0,.slice none 0 0,.slice none 0 0,.slice none 0 0]) (t := 32) ?hr ?_; (case hd => rfl); (case hg => rfl); (case hr => first | (go_simp; done) | (go_simp; rfl)); intro go hgo w3 hbox hbb; have HBO := Aside0.mk hbox; have HBB := Aside0.mk hbb; have HGO := Aside0.mk hgo; have y0 : w3.cell? ⟨go,0,none⟩ = some (.int .i64 0) := (blk_cell hbox 0).trans rfl; have y1 : w3.cell? ⟨go,1,none⟩ = some (.int .i64 0) := (blk_cell hbox 1).trans rfl; have y2 : w3.cell? ⟨go,2,none⟩ = some (.slice none 0 0) := (blk_cell hbox 2).trans rfl; have y3 : w3.cell? ⟨go,3,none⟩ = some (.slice none 0 0) := (blk_cell hbox 3).trans rfl; have y4 : w3.cell? ⟨go,4,none⟩ = some (.slice none 0 0) := (blk_cell hbox 4).trans rfl; have yf0 := blk_frozen hbox 0; have yf1 := blk_frozen hbox 1; have yf2 := blk_frozen hbox 2; have yf3 := blk_frozen hbox 3; have yf4 := blk_frozen hbox 4; clear hbox hbb hgo)
 clear y0 y1 y2 y3 y4 yf0 yf1 yf2 yf3 yf4
 clear s_0 s_1 s_2 s_3 s_4
 obtain ⟨W4,hW⟩ : ∃ W_,W_ = (((((w3.setCell ⟨go,0,none⟩ (.int .i64 g)).setCell ⟨go,1,none⟩ (.int .i64 s)).setCell ⟨go,2,none⟩ (.slice none 0 0)).setCell ⟨go,3,none⟩ (.slice none 0 0)).setCell ⟨go,4,none⟩ (.slice none 0 0)) := ⟨_,rfl⟩
 rw [← hW]
 have HNE : Aside0 ((gs ≠ go ∧ gr ≠ go) ∧ w.heap.size ≤ go) := ⟨by rw [HGO.out]; exact ⟨⟨Nat.ne_of_lt (blk_lt HXs.out),Nat.ne_of_lt (blk_lt HXr.out)⟩,below_size HB.out⟩⟩
 replace HXs := Aside0.mk (far5 hW (blk_below HXs.out HBB.out) HNE.out.1.1)
 replace HXr := Aside0.mk (far5 hW (blk_below HXr.out HBB.out) HNE.out.1.2)
 have HXo := Aside0.mk (set5 hW HBO.out)
 replace HB := Aside0.mk (below5 hW (below_step HB.out HBB.out) HNE.out.2)
 clear hW HBO HBB HGO
 clear ht1 ht2 ho64
 have HTR : Aside0 (TR W4 w.heap.size none 0 (kp p 0 o) none 0 (kp p 0 l) none 0 (kp p 0 f)) := ⟨by rw [kp_zero,kp_zero,kp_zero]; exact ⟨⟨Kd.R_nil _ _ _ _ _,Kd.R_nil _ _ _ _ _,Kd.R_nil _ _ _ _ _⟩,fun k hk => by simp [Value.ownBlock] at hk⟩⟩
 go_wp2_with fail
 go_loopw [8] (fun v wr => ∃ (i : Nat) (A1 : Option Addr) (d1 : Nat) (A2 : Option Addr) (d2 : Nat) (A3 : Option Addr) (d3 : Nat) (o1 l1 f1 : List Int),v = .int .i64 (i : Int) ∧ Aside0 (i ≤ o.length) ∧ Aside0 (o1 = kp p i o ∧ l1 = kp p i l ∧ f1 = kp p i f) ∧ Aside0 (TR wr w.heap.size A1 d1 o1 A2 d2 l1 A3 d3 f1) ∧ Aside0 (wr.heap[gs]? = some (.cells #[.int .i64 g,.int .i64 s,.slice Ao o.length co,.slice Al l.length cl,.slice Af f.length cf] 32 (0,0))) ∧ Aside0 (wr.heap[gr]? = some (.cells #[.int .i64 0,.int .i64 0,.slice none 0 0,.slice none 0 0,.slice none 0 0] 32 (0,0))) ∧ Aside0 (wr.heap[go]? = some (.cells #[.int .i64 g,.int .i64 s,.slice A1 o1.length d1,.slice A2 l1.length d2,.slice A3 f1.length d3] 32 (0,0))) ∧ Aside0 (Below w.heap.size w wr)) (fun v _ => o.length - (intOf v).toNat)
 case atStart => exact ⟨0,none,0,none,0,none,0,[],[],[],rfl,⟨Nat.zero_le _⟩,⟨(kp_zero _ _).symm,(kp_zero _ _).symm,(kp_zero _ _).symm⟩,⟨by have := HTR.out; rwa [kp_zero,kp_zero,kp_zero] at this⟩,HXs,HXr,HXo,HB⟩
 case round =>
  clear HXs HXr HXo HTR HB
  obtain ⟨i,A1,d1,A2,d2,A3,d3,o1,l1,f1,rfl,HI,HO,HTR,HXs,HXr,HXo,HB⟩ := hrel
  by_cases hlt : i < o.length
  ·have HII := Aside0.mk hlt
   have hil : (i : Int) < (o.length : Int) := by omega
   have hi64 : (i : Int) + 1 ≤ 9223372036854775807 := by have := HL.out; omega
   have hlt2 : decide ((i : Int) < (o.length : Int)) = true := decide_eq_true hil
   have hlt3 : decide (i < o.length) = true := decide_eq_true hlt
   clear hlt
   by_cases hip : (i : Int) = p
   ·have hq : ((i : Int) != p) = false := bne_eq_false_iff_eq.2 hip
    have HIP := Aside0.mk hip
    clear hip hil
    have s_0 : wr.cell? ⟨gs,0,none⟩ = some (.int .i64 g) := cL HXs 0 rfl
    have s_1 : wr.cell? ⟨gs,1,none⟩ = some (.int .i64 s) := cL HXs 1 rfl
    have s_2 : wr.cell? ⟨gs,2,none⟩ = some (.slice Ao o.length co) := cL HXs 2 rfl
    have s_3 : wr.cell? ⟨gs,3,none⟩ = some (.slice Al l.length cl) := cL HXs 3 rfl
    have s_4 : wr.cell? ⟨gs,4,none⟩ = some (.slice Af f.length cf) := cL HXs 4 rfl
    go_wp2_with fail
    refine ⟨⟨i + 1,A1,d1,A2,d2,A3,d3,o1,l1,f1,rfl,⟨by have := HII.out; omega⟩,⟨by rw [kp_skip HII.out HIP.out,kp_skip (by have := HII.out; have := HLO.out; omega) HIP.out,kp_skip (by have := HII.out; have := HFO.out; omega) HIP.out]; exact HO.out⟩,HTR,HXs,HXr,HXo,HB⟩,?_⟩
    have := HII.out
    simp [intOf]
    omega
   ·have hq : ((i : Int) != p) = true := bne_iff_ne.2 hip
    have HIP := Aside0.mk hip
    have hi0 : (0 : Int) ≤ (i : Int) := Int.natCast_nonneg i
    obtain ⟨ao,eo,hzo⟩ := Kd.at_int HT.out.1.1 (i : Int) hi0 (by have := HLO.out; have := HFO.out; omega)
    obtain ⟨xo,hxo⟩ : ∃ x_,x_ = rd o (i : Int) := ⟨_,rfl⟩
    rw [← hxo,Int.toNat_natCast] at hzo
    have HZo := Aside0.mk (pw_cell_below HB.out hzo)
    have HEo := Aside0.mk hxo
    cases eo
    clear hzo hxo
    obtain ⟨al,el,hzl⟩ := Kd.at_int HT.out.2.1.1 (i : Int) hi0 (by have := HLO.out; have := HFO.out; omega)
    obtain ⟨xl,hxl⟩ : ∃ x_,x_ = rd l (i : Int) := ⟨_,rfl⟩
    rw [← hxl,Int.toNat_natCast] at hzl
    have HZl := Aside0.mk (pw_cell_below HB.out hzl)
    have HEl := Aside0.mk hxl
    cases el
    clear hzl hxl
    obtain ⟨af,ef,hzf⟩ := Kd.at_int HT.out.2.2.1 (i : Int) hi0 (by have := HLO.out; have := HFO.out; omega)
    obtain ⟨xf,hxf⟩ : ∃ x_,x_ = rd f (i : Int) := ⟨_,rfl⟩
    rw [← hxf,Int.toNat_natCast] at hzf
    have HZf := Aside0.mk (pw_cell_below HB.out hzf)
    have HEf := Aside0.mk hxf
    cases ef
    clear hzf hxf
    have hll : (i : Int) < (l.length : Int) := by have := HLO.out; omega
    have hff : (i : Int) < (f.length : Int) := by have := HFO.out; omega
    replace hil := eq_true hil
    replace hll := eq_true hll
    replace hff := eq_true hff
    clear hip
    have s_0 : wr.cell? ⟨gs,0,none⟩ = some (.int .i64 g) := cL HXs 0 rfl
    have s_1 : wr.cell? ⟨gs,1,none⟩ = some (.int .i64 s) := cL HXs 1 rfl
    have s_2 : wr.cell? ⟨gs,2,none⟩ = some (.slice (some ao) o.length co) := cL HXs 2 rfl
    have s_3 : wr.cell? ⟨gs,3,none⟩ = some (.slice (some al) l.length cl) := cL HXs 3 rfl
    have s_4 : wr.cell? ⟨gs,4,none⟩ = some (.slice (some af) f.length cf) := cL HXs 4 rfl
    go_upto_region 9 with fail
    clear s_0 s_1 s_2 s_3 s_4
    clear hlt2 hlt3 hq
    have HLN : Aside0 (o1.length ≤ o.length ∧ l1.length ≤ l.length ∧ f1.length ≤ f.length) := ⟨by rw [HO.out.1,HO.out.2.1,HO.out.2.2]; exact ⟨kp_le _ _ _,kp_le _ _ _,kp_le _ _ _⟩⟩
    refine start_ (n := 11) (S := fun w' => w'.cell? ⟨go,2,none⟩ = some (.slice A1 o1.length d1) ∧ w'.cell? ⟨gs,2,none⟩ = some (.slice (some ao) o.length co) ∧ w'.cell? (ao.add i) = some (.int .i64 xo)) (ds := [8,10]) zg0 (by kernel_rfl) rfl rfl ⟨((blk_cell (blk_drew HXo.out) 2).trans rfl),((blk_cell (blk_drew HXs.out) 2).trans rfl),(pw_cell_below (below_drew (Below.refl _ _)) HZo.out)⟩ (fun hHeld => ?_)
    refine with_tabW rdrop.tab9 rdrop.bits9 (fun HT_ HW_ => ?_)
    replace HXs := Aside0.mk (blk_drew HXs.out)
    replace HXr := Aside0.mk (blk_drew HXr.out)
    replace HXo := Aside0.mk (blk_drew HXo.out)
    replace HTR := Aside0.mk (TR_below HTR.out (below_drew (Below.refl _ _)))
    replace HB := Aside0.mk (below_drew HB.out)
    replace HZo := Aside0.mk (pw_cell_below (below_drew (Below.refl _ _)) HZo.out)
    replace HZl := Aside0.mk (pw_cell_below (below_drew (Below.refl _ _)) HZl.out)
    replace HZf := Aside0.mk (pw_cell_below (below_drew (Below.refl _ _)) HZf.out)
    generalize wr.drew = wdo at *
    refine pure_ (i := 0) (N := some 38) (v := ?_) (a' := ?_) zg1 rfl rfl (any_of HT_.out (by kernel_rfl)) (fun _ _ _ h => h) (Or.inl ⟨by rfl,?_⟩) ?_ ?_
    rotate_left
    ·intro w'
     go_simp
     with_reducible rfl
    rotate_left
    ·simp only [Act.put,zgI,zgs0,zgs1,i64_w,i32_w]
     rfl
    refine pure_ (i := 2) (N := some 40) (v := ?_) (a' := ?_) zg2 rfl rfl (any_of HT_.out (by kernel_rfl)) (fun _ _ _ h => h) (Or.inl ⟨by rfl,?_⟩) ?_ ?_
    rotate_left
    ·intro w'
     go_simp
     with_reducible rfl
    rotate_left
    ·simp only [Act.put,zgI,zgs0,zgs1,i64_w,i32_w]
     rfl
    refine pure_ (i := 4) (N := some 42) (v := ?_) (a' := ?_) zg3 rfl rfl (any_of HT_.out (by kernel_rfl)) (fun _ _ _ h => h) (Or.inl ⟨by rfl,?_⟩) ?_ ?_
    rotate_left
    ·intro w'
     go_simp
     with_reducible rfl
    rotate_left
    ·simp only [Act.put,zgI,zgs0,zgs1,i64_w,i32_w]
     rfl
    refine take_ (i := 1) (N := some 39) (v := ?_) (a' := ?_) zg4 rfl rfl (take_ofW HT_.out HW_.out (by kernel_rfl)) (fun _ _ _ h => h) (Or.inl ⟨by rfl,?_⟩) hHeld ?_ ?_
    rotate_left
    ·rintro w' ⟨s0,s1,s2⟩
     go_simp
     with_reducible rfl
    rotate_left
    ·simp only [Act.put,zgI,zgs0,zgs1,i64_w,i32_w]
     rfl
    refine take_ (i := 3) (N := some 41) (v := ?_) (a' := ?_) zg5 rfl rfl (take_ofW HT_.out HW_.out (by kernel_rfl)) (fun _ _ _ h => h) (Or.inl ⟨by rfl,?_⟩) hHeld ?_ ?_
    rotate_left
    ·rintro w' ⟨s0,s1,s2⟩
     go_simp
     with_reducible rfl
    rotate_left
    ·simp only [Act.put,zgI,zgs0,zgs1,i64_w,i32_w]
     rfl
    refine pure_ (i := 5) (N := some 43) (v := ?_) (a' := ?_) zg6 rfl rfl (any_of HT_.out (by kernel_rfl)) (fun _ _ _ h => h) (Or.inl ⟨by rfl,?_⟩) ?_ ?_
    rotate_left
    ·intro w'
     go_simp
     with_reducible rfl
    rotate_left
    ·simp only [Act.put,zgI,zgs0,zgs1,i64_w,i32_w]
     rfl
    refine take_ (i := 6) (N := some 44) (v := ?_) (a' := ?_) zg7 rfl rfl (take_ofW HT_.out HW_.out (by kernel_rfl)) (fun _ _ _ h => h) (Or.inl ⟨by rfl,?_⟩) hHeld ?_ ?_
    rotate_left
    ·rintro w' ⟨s0,s1,s2⟩
     go_simp
     with_reducible rfl
    rotate_left
    ·simp only [Act.put,zgI,zgs0,zgs1,i64_w,i32_w]
     rfl
    refine one_ (i := 7) (N := some 45) zg8 rfl rfl (one_of HT_.out (by kernel_rfl)) (by decide) (fun K hK => ?_)
    refine value_ (w1 := ?_) (v := ?_) (by rfl) rfl ?_ ?_
    rotate_left 2
    ·go_simp
     constructor
     ·rfl
     ·rfl
    obtain ⟨wbo,hW⟩ : ∃ W_,W_ = wdo.alloc (.cells #[.int .i64 xo] 3) := ⟨_,rfl⟩
    obtain ⟨h5,hh⟩ : ∃ g_,g_ = wdo.heap.size := ⟨_,rfl⟩
    rw [← hW,← hh]
    have hb_ : Below wdo.heap.size wdo wbo := by rw [hW]; exact below_alloc (Below.refl _ _) _
    have H5 : Aside0 (Kd.R (Kd.int .i64) 3 wbo w.heap.size (fun _ => True) (.slice (some ⟨h5,0,none⟩) 1 1) [xo]) := ⟨by rw [hW,hh]; exact R_one (below_size HB.out)⟩
    replace HTR := Aside0.mk (TR_below HTR.out hb_)
    replace HXs := mB HXs hb_
    replace HXr := mB HXr hb_
    replace HXo := mB HXo hb_
    replace HZo := Aside0.mk (pw_cell_below hb_ HZo.out)
    replace HZl := Aside0.mk (pw_cell_below hb_ HZl.out)
    replace HZf := Aside0.mk (pw_cell_below hb_ HZf.out)
    replace HB := mS HB hb_
    clear hW hh hb_
    refine hK.out _ _ ⟨(cL HXo 2 rfl),(cL HXs 2 rfl),HZo.out⟩ (fun hHeld => ?_)
    clear hK K
    refine norm_ (a' := ?_) ?_ ?_
    rotate_left
    ·show Act.put _ (some 45) _ = _
     simp only [Act.put,zgI,zgs0,zgs1,i64_w,i32_w]
     rfl
    refine last_ (i := 8) (N := some 46) zg9 rfl rfl (one_of HT_.out (by kernel_rfl)) (by decide) (fun K hK => ?_)
    have HBa := Aside0.mk HB.out
    refine Kd.R_append_rows_step (Kd.int .i64) (w0 := w) w.heap.size (by rfl) (.tmp 39) (.tmp 45) 25 3 (.int .i64 0) 8 rfl Try.underlying25 info3 rfl (by decide) (by omega) (.slice A1 o1.length d1) o1 [xo] _ _ _ (fun _ => True) (fun _ => False) rfl rfl ?aO ?aR (fun _ _ h => h) (fun _ h => h.elim) ?aF ?aB ?aS ?aL ?_
    (case aR => exact one_C H5.out)
    (case aB => exact HB.out)
    (case aF => exact (fun _ _ => trivial))
    (case aO => exact TR_o HTR.out)
    (case aS => exact below_size HB.out)
    (case aL => have := HLN.out; have := HL.out; have := HLO.out; omega)
    intro v_ wco ho_ hb_ hg_ hat_
    replace HXs := Aside0.mk (blk_grown HXs.out hg_ (Kd.R_ne (TR_o HTR.out) HXs.out (by decide)))
    replace HXr := Aside0.mk (blk_grown HXr.out hg_ (Kd.R_ne (TR_o HTR.out) HXr.out (by decide)))
    replace HXo := Aside0.mk (blk_grown HXo.out hg_ (Kd.R_ne (TR_o HTR.out) HXo.out (by decide)))
    replace HB := Aside0.mk (hb_)
    replace HZo := Aside0.mk (el_here (TC_below HT.out HB.out).1.1 i (by have := HII.out; have := HLO.out; have := HFO.out; omega) HEo.out)
    replace HZl := Aside0.mk (el_here (TC_below HT.out HB.out).2.1.1 i (by have := HII.out; have := HLO.out; have := HFO.out; omega) HEl.out)
    replace HZf := Aside0.mk (el_here (TC_below HT.out HB.out).2.2.1 i (by have := HII.out; have := HLO.out; have := HFO.out; omega) HEf.out)
    obtain ⟨B1,e1,hv_,hT_⟩ := app_o HTR.out ho_ hg_ hat_
    replace HTR := Aside0.mk hT_
    subst hv_
    obtain ⟨o2,ho2⟩ : ∃ z_,z_ = o1 ++ [xo] := ⟨_,rfl⟩
    rw [← ho2] at HTR ⊢
    have HSo := Aside0.mk ho2
    clear ho_ hb_ hg_ hat_ hT_ ho2 H5 HBa
    refine hK.out _ _ ?_
    clear hK K
    refine norm_ (a' := ?_) ?_ ?_
    rotate_left
    ·show Act.put _ (some 46) _ = _
     simp only [Act.put,zgI,zgs0,zgs1,i64_w,i32_w]
     rfl
    refine pure_ (i := 9) (N := some 47) (v := ?_) (a' := ?_) zg10 rfl rfl (any_of HT_.out (by kernel_rfl)) (fun _ _ _ h => h) (Or.inl ⟨by rfl,?_⟩) ?_ ?_
    rotate_left
    ·intro w'
     go_simp
     with_reducible rfl
    rotate_left
    ·simp only [Act.put,zgI,zgs0,zgs1,i64_w,i32_w]
     rfl
    refine last_ (i := 10) (N := none) zg11 rfl rfl (one_of HT_.out (by kernel_rfl)) (by decide) (fun K hK => ?_)
    have hs_ : wco.cell? ⟨go,2,none⟩ = some (.slice A1 o1.length d1) := cL HXo 2 rfl
    have hsf_ := blk_frozen HXo.out 2
    refine skip_ (w1 := ?_) (by rfl) rfl ?_ ?_
    rotate_left
    ·go_simp
     rfl
    clear hs_ hsf_
    obtain ⟨weo,hW⟩ : ∃ W_,W_ = wco.setCell ⟨go,2,none⟩ (.slice B1 o2.length e1) := ⟨_,rfl⟩
    rw [← hW]
    have q1 := TR_set HTR.out HXo.out (by decide) (by decide) 2 (.slice B1 o2.length e1)
    have q2 : weo.heap[go]? = some (.cells #[.int .i64 g,.int .i64 s,.slice B1 o2.length e1,.slice A2 l1.length d2,.slice A3 f1.length d3] 32 (0,0)) := by rw [hW]; exact (blk_set HXo.out 2 (.slice B1 o2.length e1)).trans (by simp only [zgI,zgs0,zgs1])
    have q3 := blk_far HXr.out (p := ⟨go,2,none⟩) HNE.out.1.2 (.slice B1 o2.length e1)
    have q5 := blk_far HXs.out (p := ⟨go,2,none⟩) HNE.out.1.1 (.slice B1 o2.length e1)
    have q4 := below_set (j := 2) (v := .slice B1 o2.length e1) HB.out HNE.out.2
    rw [← hW] at q1 q3 q4 q5
    clear hW
    replace HTR := Aside0.mk (q1)
    replace HXo := Aside0.mk (q2)
    replace HXr := Aside0.mk (q3)
    replace HXs := Aside0.mk (q5)
    replace HB := Aside0.mk (q4)
    clear q1 q2 q3 q4 q5
    replace HZo := Aside0.mk (el_here (TC_below HT.out HB.out).1.1 i (by have := HII.out; have := HLO.out; have := HFO.out; omega) HEo.out)
    replace HZl := Aside0.mk (el_here (TC_below HT.out HB.out).2.1.1 i (by have := HII.out; have := HLO.out; have := HFO.out; omega) HEl.out)
    replace HZf := Aside0.mk (el_here (TC_below HT.out HB.out).2.2.1 i (by have := HII.out; have := HLO.out; have := HFO.out; omega) HEf.out)
    refine hK.out _ _ ?_
    clear hK K
    refine done_ (done_of HT_.out (by kernel_rfl)) ?_
    clear HT_ HW_ hHeld
    go_upto_region 10 with fail
    refine start_ (n := 11) (S := fun w' => w'.cell? ⟨go,3,none⟩ = some (.slice A2 l1.length d2) ∧ w'.cell? ⟨gs,3,none⟩ = some (.slice (some al) l.length cl) ∧ w'.cell? (al.add i) = some (.int .i64 xl)) (ds := [8,10]) zg0 (by kernel_rfl) rfl rfl ⟨((blk_cell (blk_drew HXo.out) 3).trans rfl),((blk_cell (blk_drew HXs.out) 3).trans rfl),(pw_cell_below (below_drew (Below.refl _ _)) HZl.out)⟩ (fun hHeld => ?_)
    refine with_tabW rdrop.tab10 rdrop.bits10 (fun HT_ HW_ => ?_)
    replace HXs := Aside0.mk (blk_drew HXs.out)
    replace HXr := Aside0.mk (blk_drew HXr.out)
    replace HXo := Aside0.mk (blk_drew HXo.out)
    replace HTR := Aside0.mk (TR_below HTR.out (below_drew (Below.refl _ _)))
    replace HB := Aside0.mk (below_drew HB.out)
    replace HZo := Aside0.mk (pw_cell_below (below_drew (Below.refl _ _)) HZo.out)
    replace HZl := Aside0.mk (pw_cell_below (below_drew (Below.refl _ _)) HZl.out)
    replace HZf := Aside0.mk (pw_cell_below (below_drew (Below.refl _ _)) HZf.out)
    generalize weo.drew = wdl at *
    refine pure_ (i := 0) (N := some 48) (v := ?_) (a' := ?_) zg1 rfl rfl (any_of HT_.out (by kernel_rfl)) (fun _ _ _ h => h) (Or.inl ⟨by rfl,?_⟩) ?_ ?_
    rotate_left
    ·intro w'
     go_simp
     with_reducible rfl
    rotate_left
    ·simp only [Act.put,zgI,zgs0,zgs1,i64_w,i32_w]
     rfl
    refine pure_ (i := 2) (N := some 50) (v := ?_) (a' := ?_) zg2 rfl rfl (any_of HT_.out (by kernel_rfl)) (fun _ _ _ h => h) (Or.inl ⟨by rfl,?_⟩) ?_ ?_
    rotate_left
    ·intro w'
     go_simp
     with_reducible rfl
    rotate_left
    ·simp only [Act.put,zgI,zgs0,zgs1,i64_w,i32_w]
     rfl
    refine pure_ (i := 4) (N := some 52) (v := ?_) (a' := ?_) zg3 rfl rfl (any_of HT_.out (by kernel_rfl)) (fun _ _ _ h => h) (Or.inl ⟨by rfl,?_⟩) ?_ ?_
    rotate_left
    ·intro w'
     go_simp
     with_reducible rfl
    rotate_left
    ·simp only [Act.put,zgI,zgs0,zgs1,i64_w,i32_w]
     rfl
    refine take_ (i := 1) (N := some 49) (v := ?_) (a' := ?_) zg4 rfl rfl (take_ofW HT_.out HW_.out (by kernel_rfl)) (fun _ _ _ h => h) (Or.inl ⟨by rfl,?_⟩) hHeld ?_ ?_
    rotate_left
    ·rintro w' ⟨s0,s1,s2⟩
     go_simp
     with_reducible rfl
    rotate_left
    ·simp only [Act.put,zgI,zgs0,zgs1,i64_w,i32_w]
     rfl
    refine take_ (i := 3) (N := some 51) (v := ?_) (a' := ?_) zg5 rfl rfl (take_ofW HT_.out HW_.out (by kernel_rfl)) (fun _ _ _ h => h) (Or.inl ⟨by rfl,?_⟩) hHeld ?_ ?_
    rotate_left
    ·rintro w' ⟨s0,s1,s2⟩
     go_simp
     with_reducible rfl
    rotate_left
    ·simp only [Act.put,zgI,zgs0,zgs1,i64_w,i32_w]
     rfl
    refine pure_ (i := 5) (N := some 53) (v := ?_) (a' := ?_) zg6 rfl rfl (any_of HT_.out (by kernel_rfl)) (fun _ _ _ h => h) (Or.inl ⟨by rfl,?_⟩) ?_ ?_
    rotate_left
    ·intro w'
     go_simp
     with_reducible rfl
    rotate_left
    ·simp only [Act.put,zgI,zgs0,zgs1,i64_w,i32_w]
     rfl
    refine take_ (i := 6) (N := some 54) (v := ?_) (a' := ?_) zg7 rfl rfl (take_ofW HT_.out HW_.out (by kernel_rfl)) (fun _ _ _ h => h) (Or.inl ⟨by rfl,?_⟩) hHeld ?_ ?_
    rotate_left
    ·rintro w' ⟨s0,s1,s2⟩
     go_simp
     with_reducible rfl
    rotate_left
    ·simp only [Act.put,zgI,zgs0,zgs1,i64_w,i32_w]
     rfl
    refine one_ (i := 7) (N := some 55) zg8 rfl rfl (one_of HT_.out (by kernel_rfl)) (by decide) (fun K hK => ?_)
    refine value_ (w1 := ?_) (v := ?_) (by rfl) rfl ?_ ?_
    rotate_left 2
    ·go_simp
     constructor
     ·rfl
     ·rfl
    obtain ⟨wbl,hW⟩ : ∃ W_,W_ = wdl.alloc (.cells #[.int .i64 xl] 3) := ⟨_,rfl⟩
    obtain ⟨h5,hh⟩ : ∃ g_,g_ = wdl.heap.size := ⟨_,rfl⟩
    rw [← hW,← hh]
    have hb_ : Below wdl.heap.size wdl wbl := by rw [hW]; exact below_alloc (Below.refl _ _) _
    have H5 : Aside0 (Kd.R (Kd.int .i64) 3 wbl w.heap.size (fun _ => True) (.slice (some ⟨h5,0,none⟩) 1 1) [xl]) := ⟨by rw [hW,hh]; exact R_one (below_size HB.out)⟩
    replace HTR := Aside0.mk (TR_below HTR.out hb_)
    replace HXs := mB HXs hb_
    replace HXr := mB HXr hb_
    replace HXo := mB HXo hb_
    replace HZo := Aside0.mk (pw_cell_below hb_ HZo.out)
    replace HZl := Aside0.mk (pw_cell_below hb_ HZl.out)
    replace HZf := Aside0.mk (pw_cell_below hb_ HZf.out)
    replace HB := mS HB hb_
    clear hW hh hb_
    refine hK.out _ _ ⟨(cL HXo 3 rfl),(cL HXs 3 rfl),HZl.out⟩ (fun hHeld => ?_)
    clear hK K
    refine norm_ (a' := ?_) ?_ ?_
    rotate_left
    ·show Act.put _ (some 55) _ = _
     simp only [Act.put,zgI,zgs0,zgs1,i64_w,i32_w]
     rfl
    refine last_ (i := 8) (N := some 56) zg9 rfl rfl (one_of HT_.out (by kernel_rfl)) (by decide) (fun K hK => ?_)
    have HBa := Aside0.mk HB.out
    refine Kd.R_append_rows_step (Kd.int .i64) (w0 := w) w.heap.size (by rfl) (.tmp 49) (.tmp 55) 25 3 (.int .i64 0) 8 rfl Try.underlying25 info3 rfl (by decide) (by omega) (.slice A2 l1.length d2) l1 [xl] _ _ _ (fun _ => True) (fun _ => False) rfl rfl ?aO ?aR (fun _ _ h => h) (fun _ h => h.elim) ?aF ?aB ?aS ?aL ?_
    (case aR => exact one_C H5.out)
    (case aB => exact HB.out)
    (case aF => exact (fun _ _ => trivial))
    (case aO => exact TR_l HTR.out)
    (case aS => exact below_size HB.out)
    (case aL => have := HLN.out; have := HL.out; have := HLO.out; omega)
    intro v_ wcl ho_ hb_ hg_ hat_
    replace HXs := Aside0.mk (blk_grown HXs.out hg_ (Kd.R_ne (TR_l HTR.out) HXs.out (by decide)))
    replace HXr := Aside0.mk (blk_grown HXr.out hg_ (Kd.R_ne (TR_l HTR.out) HXr.out (by decide)))
    replace HXo := Aside0.mk (blk_grown HXo.out hg_ (Kd.R_ne (TR_l HTR.out) HXo.out (by decide)))
    replace HB := Aside0.mk (hb_)
    replace HZo := Aside0.mk (el_here (TC_below HT.out HB.out).1.1 i (by have := HII.out; have := HLO.out; have := HFO.out; omega) HEo.out)
    replace HZl := Aside0.mk (el_here (TC_below HT.out HB.out).2.1.1 i (by have := HII.out; have := HLO.out; have := HFO.out; omega) HEl.out)
    replace HZf := Aside0.mk (el_here (TC_below HT.out HB.out).2.2.1 i (by have := HII.out; have := HLO.out; have := HFO.out; omega) HEf.out)
    obtain ⟨B2,e2,hv_,hT_⟩ := app_l HTR.out ho_ hg_ hat_
    replace HTR := Aside0.mk hT_
    subst hv_
    obtain ⟨l2,hl2⟩ : ∃ z_,z_ = l1 ++ [xl] := ⟨_,rfl⟩
    rw [← hl2] at HTR ⊢
    have HSl := Aside0.mk hl2
    clear ho_ hb_ hg_ hat_ hT_ hl2 H5 HBa
    refine hK.out _ _ ?_
    clear hK K
    refine norm_ (a' := ?_) ?_ ?_
    rotate_left
    ·show Act.put _ (some 56) _ = _
     simp only [Act.put,zgI,zgs0,zgs1,i64_w,i32_w]
     rfl
    refine pure_ (i := 9) (N := some 57) (v := ?_) (a' := ?_) zg10 rfl rfl (any_of HT_.out (by kernel_rfl)) (fun _ _ _ h => h) (Or.inl ⟨by rfl,?_⟩) ?_ ?_
    rotate_left
    ·intro w'
     go_simp
     with_reducible rfl
    rotate_left
    ·simp only [Act.put,zgI,zgs0,zgs1,i64_w,i32_w]
     rfl
    refine last_ (i := 10) (N := none) zg11 rfl rfl (one_of HT_.out (by kernel_rfl)) (by decide) (fun K hK => ?_)
    have hs_ : wcl.cell? ⟨go,3,none⟩ = some (.slice A2 l1.length d2) := cL HXo 3 rfl
    have hsf_ := blk_frozen HXo.out 3
    refine skip_ (w1 := ?_) (by rfl) rfl ?_ ?_
    rotate_left
    ·go_simp
     rfl
    clear hs_ hsf_
    obtain ⟨wel,hW⟩ : ∃ W_,W_ = wcl.setCell ⟨go,3,none⟩ (.slice B2 l2.length e2) := ⟨_,rfl⟩
    rw [← hW]
    have q1 := TR_set HTR.out HXo.out (by decide) (by decide) 3 (.slice B2 l2.length e2)
    have q2 : wel.heap[go]? = some (.cells #[.int .i64 g,.int .i64 s,.slice B1 o2.length e1,.slice B2 l2.length e2,.slice A3 f1.length d3] 32 (0,0)) := by rw [hW]; exact (blk_set HXo.out 3 (.slice B2 l2.length e2)).trans (by simp only [zgI,zgs0,zgs1])
    have q3 := blk_far HXr.out (p := ⟨go,3,none⟩) HNE.out.1.2 (.slice B2 l2.length e2)
    have q5 := blk_far HXs.out (p := ⟨go,3,none⟩) HNE.out.1.1 (.slice B2 l2.length e2)
    have q4 := below_set (j := 3) (v := .slice B2 l2.length e2) HB.out HNE.out.2
    rw [← hW] at q1 q3 q4 q5
    clear hW
    replace HTR := Aside0.mk (q1)
    replace HXo := Aside0.mk (q2)
    replace HXr := Aside0.mk (q3)
    replace HXs := Aside0.mk (q5)
    replace HB := Aside0.mk (q4)
    clear q1 q2 q3 q4 q5
    replace HZo := Aside0.mk (el_here (TC_below HT.out HB.out).1.1 i (by have := HII.out; have := HLO.out; have := HFO.out; omega) HEo.out)
    replace HZl := Aside0.mk (el_here (TC_below HT.out HB.out).2.1.1 i (by have := HII.out; have := HLO.out; have := HFO.out; omega) HEl.out)
    replace HZf := Aside0.mk (el_here (TC_below HT.out HB.out).2.2.1 i (by have := HII.out; have := HLO.out; have := HFO.out; omega) HEf.out)
    refine hK.out _ _ ?_
    clear hK K
    refine done_ (done_of HT_.out (by kernel_rfl)) ?_
    clear HT_ HW_ hHeld
    go_upto_region 11 with fail
    refine start_ (n := 11) (S := fun w' => w'.cell? ⟨go,4,none⟩ = some (.slice A3 f1.length d3) ∧ w'.cell? ⟨gs,4,none⟩ = some (.slice (some af) f.length cf) ∧ w'.cell? (af.add i) = some (.int .u64 xf)) (ds := [8,10]) zg0 (by kernel_rfl) rfl rfl ⟨((blk_cell (blk_drew HXo.out) 4).trans rfl),((blk_cell (blk_drew HXs.out) 4).trans rfl),(pw_cell_below (below_drew (Below.refl _ _)) HZf.out)⟩ (fun hHeld => ?_)
    refine with_tabW rdrop.tab11 rdrop.bits11 (fun HT_ HW_ => ?_)
    replace HXs := Aside0.mk (blk_drew HXs.out)
    replace HXr := Aside0.mk (blk_drew HXr.out)
    replace HXo := Aside0.mk (blk_drew HXo.out)
    replace HTR := Aside0.mk (TR_below HTR.out (below_drew (Below.refl _ _)))
    replace HB := Aside0.mk (below_drew HB.out)
    replace HZo := Aside0.mk (pw_cell_below (below_drew (Below.refl _ _)) HZo.out)
    replace HZl := Aside0.mk (pw_cell_below (below_drew (Below.refl _ _)) HZl.out)
    replace HZf := Aside0.mk (pw_cell_below (below_drew (Below.refl _ _)) HZf.out)
    generalize wel.drew = wdf at *
    refine pure_ (i := 0) (N := some 58) (v := ?_) (a' := ?_) zg1 rfl rfl (any_of HT_.out (by kernel_rfl)) (fun _ _ _ h => h) (Or.inl ⟨by rfl,?_⟩) ?_ ?_
    rotate_left
    ·intro w'
     go_simp
     with_reducible rfl
    rotate_left
    ·simp only [Act.put,zgI,zgs0,zgs1,i64_w,i32_w]
     rfl
    refine pure_ (i := 2) (N := some 60) (v := ?_) (a' := ?_) zg2 rfl rfl (any_of HT_.out (by kernel_rfl)) (fun _ _ _ h => h) (Or.inl ⟨by rfl,?_⟩) ?_ ?_
    rotate_left
    ·intro w'
     go_simp
     with_reducible rfl
    rotate_left
    ·simp only [Act.put,zgI,zgs0,zgs1,i64_w,i32_w]
     rfl
    refine pure_ (i := 4) (N := some 62) (v := ?_) (a' := ?_) zg3 rfl rfl (any_of HT_.out (by kernel_rfl)) (fun _ _ _ h => h) (Or.inl ⟨by rfl,?_⟩) ?_ ?_
    rotate_left
    ·intro w'
     go_simp
     with_reducible rfl
    rotate_left
    ·simp only [Act.put,zgI,zgs0,zgs1,i64_w,i32_w]
     rfl
    refine take_ (i := 1) (N := some 59) (v := ?_) (a' := ?_) zg4 rfl rfl (take_ofW HT_.out HW_.out (by kernel_rfl)) (fun _ _ _ h => h) (Or.inl ⟨by rfl,?_⟩) hHeld ?_ ?_
    rotate_left
    ·rintro w' ⟨s0,s1,s2⟩
     go_simp
     with_reducible rfl
    rotate_left
    ·simp only [Act.put,zgI,zgs0,zgs1,i64_w,i32_w]
     rfl
    refine take_ (i := 3) (N := some 61) (v := ?_) (a' := ?_) zg5 rfl rfl (take_ofW HT_.out HW_.out (by kernel_rfl)) (fun _ _ _ h => h) (Or.inl ⟨by rfl,?_⟩) hHeld ?_ ?_
    rotate_left
    ·rintro w' ⟨s0,s1,s2⟩
     go_simp
     with_reducible rfl
    rotate_left
    ·simp only [Act.put,zgI,zgs0,zgs1,i64_w,i32_w]
     rfl
    refine pure_ (i := 5) (N := some 63) (v := ?_) (a' := ?_) zg6 rfl rfl (any_of HT_.out (by kernel_rfl)) (fun _ _ _ h => h) (Or.inl ⟨by rfl,?_⟩) ?_ ?_
    rotate_left
    ·intro w'
     go_simp
     with_reducible rfl
    rotate_left
    ·simp only [Act.put,zgI,zgs0,zgs1,i64_w,i32_w]
     rfl
    refine take_ (i := 6) (N := some 64) (v := ?_) (a' := ?_) zg7 rfl rfl (take_ofW HT_.out HW_.out (by kernel_rfl)) (fun _ _ _ h => h) (Or.inl ⟨by rfl,?_⟩) hHeld ?_ ?_
    rotate_left
    ·rintro w' ⟨s0,s1,s2⟩
     go_simp
     with_reducible rfl
    rotate_left
    ·simp only [Act.put,zgI,zgs0,zgs1,i64_w,i32_w]
     rfl
    refine one_ (i := 7) (N := some 65) zg8 rfl rfl (one_of HT_.out (by kernel_rfl)) (by decide) (fun K hK => ?_)
    refine value_ (w1 := ?_) (v := ?_) (by rfl) rfl ?_ ?_
    rotate_left 2
    ·go_simp
     constructor
     ·rfl
     ·rfl
    obtain ⟨wbf,hW⟩ : ∃ W_,W_ = wdf.alloc (.cells #[.int .u64 xf] 23) := ⟨_,rfl⟩
    obtain ⟨h5,hh⟩ : ∃ g_,g_ = wdf.heap.size := ⟨_,rfl⟩
    rw [← hW,← hh]
    have hb_ : Below wdf.heap.size wdf wbf := by rw [hW]; exact below_alloc (Below.refl _ _) _
    have H5 : Aside0 (Kd.R (Kd.int .u64) 23 wbf w.heap.size (fun _ => True) (.slice (some ⟨h5,0,none⟩) 1 1) [xf]) := ⟨by rw [hW,hh]; exact R_one (below_size HB.out)⟩
    replace HTR := Aside0.mk (TR_below HTR.out hb_)
    replace HXs := mB HXs hb_
    replace HXr := mB HXr hb_
    replace HXo := mB HXo hb_
    replace HZo := Aside0.mk (pw_cell_below hb_ HZo.out)
    replace HZl := Aside0.mk (pw_cell_below hb_ HZl.out)
    replace HZf := Aside0.mk (pw_cell_below hb_ HZf.out)
    replace HB := mS HB hb_
    clear hW hh hb_
    refine hK.out _ _ ⟨(cL HXo 4 rfl),(cL HXs 4 rfl),HZf.out⟩ (fun hHeld => ?_)
    clear hK K
    refine norm_ (a' := ?_) ?_ ?_
    rotate_left
    ·show Act.put _ (some 65) _ = _
     simp only [Act.put,zgI,zgs0,zgs1,i64_w,i32_w]
     rfl
    refine last_ (i := 8) (N := some 66) zg9 rfl rfl (one_of HT_.out (by kernel_rfl)) (by decide) (fun K hK => ?_)
    have HBa := Aside0.mk HB.out
    refine Kd.R_append_rows_step (Kd.int .u64) (w0 := w) w.heap.size (by rfl) (.tmp 59) (.tmp 65) 26 23 (.int .u64 0) 8 rfl Try.underlying26 info23 rfl (by decide) (by omega) (.slice A3 f1.length d3) f1 [xf] _ _ _ (fun _ => True) (fun _ => False) rfl rfl ?aO ?aR (fun _ _ h => h) (fun _ h => h.elim) ?aF ?aB ?aS ?aL ?_
    (case aR => exact one_C H5.out)
    (case aB => exact HB.out)
    (case aF => exact (fun _ _ => trivial))
    (case aO => exact TR_f HTR.out)
    (case aS => exact below_size HB.out)
    (case aL => have := HLN.out; have := HL.out; have := HLO.out; omega)
    intro v_ wcf ho_ hb_ hg_ hat_
    replace HXs := Aside0.mk (blk_grown HXs.out hg_ (Kd.R_ne (TR_f HTR.out) HXs.out (by decide)))
    replace HXr := Aside0.mk (blk_grown HXr.out hg_ (Kd.R_ne (TR_f HTR.out) HXr.out (by decide)))
    replace HXo := Aside0.mk (blk_grown HXo.out hg_ (Kd.R_ne (TR_f HTR.out) HXo.out (by decide)))
    replace HB := Aside0.mk (hb_)
    replace HZo := Aside0.mk (el_here (TC_below HT.out HB.out).1.1 i (by have := HII.out; have := HLO.out; have := HFO.out; omega) HEo.out)
    replace HZl := Aside0.mk (el_here (TC_below HT.out HB.out).2.1.1 i (by have := HII.out; have := HLO.out; have := HFO.out; omega) HEl.out)
    replace HZf := Aside0.mk (el_here (TC_below HT.out HB.out).2.2.1 i (by have := HII.out; have := HLO.out; have := HFO.out; omega) HEf.out)
    obtain ⟨B3,e3,hv_,hT_⟩ := app_f HTR.out ho_ hg_
    replace HTR := Aside0.mk hT_
    subst hv_
    obtain ⟨f2,hf2⟩ : ∃ z_,z_ = f1 ++ [xf] := ⟨_,rfl⟩
    rw [← hf2] at HTR ⊢
    have HSf := Aside0.mk hf2
    clear ho_ hb_ hg_ hat_ hT_ hf2 H5 HBa
    refine hK.out _ _ ?_
    clear hK K
    refine norm_ (a' := ?_) ?_ ?_
    rotate_left
    ·show Act.put _ (some 66) _ = _
     simp only [Act.put,zgI,zgs0,zgs1,i64_w,i32_w]
     rfl
    refine pure_ (i := 9) (N := some 67) (v := ?_) (a' := ?_) zg10 rfl rfl (any_of HT_.out (by kernel_rfl)) (fun _ _ _ h => h) (Or.inl ⟨by rfl,?_⟩) ?_ ?_
    rotate_left
    ·intro w'
     go_simp
     with_reducible rfl
    rotate_left
    ·simp only [Act.put,zgI,zgs0,zgs1,i64_w,i32_w]
     rfl
    refine last_ (i := 10) (N := none) zg11 rfl rfl (one_of HT_.out (by kernel_rfl)) (by decide) (fun K hK => ?_)
    have hs_ : wcf.cell? ⟨go,4,none⟩ = some (.slice A3 f1.length d3) := cL HXo 4 rfl
    have hsf_ := blk_frozen HXo.out 4
    refine skip_ (w1 := ?_) (by rfl) rfl ?_ ?_
    rotate_left
    ·go_simp
     rfl
    clear hs_ hsf_
    obtain ⟨wef,hW⟩ : ∃ W_,W_ = wcf.setCell ⟨go,4,none⟩ (.slice B3 f2.length e3) := ⟨_,rfl⟩
    rw [← hW]
    have q1 := TR_set HTR.out HXo.out (by decide) (by decide) 4 (.slice B3 f2.length e3)
    have q2 : wef.heap[go]? = some (.cells #[.int .i64 g,.int .i64 s,.slice B1 o2.length e1,.slice B2 l2.length e2,.slice B3 f2.length e3] 32 (0,0)) := by rw [hW]; exact (blk_set HXo.out 4 (.slice B3 f2.length e3)).trans (by simp only [zgI,zgs0,zgs1])
    have q3 := blk_far HXr.out (p := ⟨go,4,none⟩) HNE.out.1.2 (.slice B3 f2.length e3)
    have q5 := blk_far HXs.out (p := ⟨go,4,none⟩) HNE.out.1.1 (.slice B3 f2.length e3)
    have q4 := below_set (j := 4) (v := .slice B3 f2.length e3) HB.out HNE.out.2
    rw [← hW] at q1 q3 q4 q5
    clear hW
    replace HTR := Aside0.mk (q1)
    replace HXo := Aside0.mk (q2)
    replace HXr := Aside0.mk (q3)
    replace HXs := Aside0.mk (q5)
    replace HB := Aside0.mk (q4)
    clear q1 q2 q3 q4 q5
    replace HZo := Aside0.mk (el_here (TC_below HT.out HB.out).1.1 i (by have := HII.out; have := HLO.out; have := HFO.out; omega) HEo.out)
    replace HZl := Aside0.mk (el_here (TC_below HT.out HB.out).2.1.1 i (by have := HII.out; have := HLO.out; have := HFO.out; omega) HEl.out)
    replace HZf := Aside0.mk (el_here (TC_below HT.out HB.out).2.2.1 i (by have := HII.out; have := HLO.out; have := HFO.out; omega) HEf.out)
    refine hK.out _ _ ?_
    clear hK K
    refine done_ (done_of HT_.out (by kernel_rfl)) ?_
    clear HT_ HW_ hHeld
    go_wp2_with fail
    refine ⟨⟨i + 1,B1,e1,B2,e2,B3,e3,o2,l2,f2,rfl,⟨by have := HII.out; omega⟩,⟨by have h1 := kp_next HII.out HP.out.1 HIP.out; have h2 := kp_next (o := l) (by have := HII.out; have := HLO.out; omega) HP.out.1 HIP.out; have h3 := kp_next (o := f) (by have := HII.out; have := HFO.out; omega) HP.out.1 HIP.out; rw [h1,h2,h3,HSo.out,HSl.out,HSf.out,HEo.out,HEl.out,HEf.out,← HO.out.1,← HO.out.2.1,← HO.out.2.2]; exact ⟨rfl,rfl,rfl⟩⟩,HTR,HXs,HXr,HXo,HB⟩,?_⟩
    have := HII.out
    simp [intOf]
    omega
  ·have hlt2 : decide ((i : Int) < (o.length : Int)) = false := decide_eq_false (by omega)
   have hlt3 : decide (i < o.length) = false := decide_eq_false hlt
   have HIN : Aside0 (o.length ≤ i) := ⟨by omega⟩
   clear hlt
   have s_0 : wr.cell? ⟨gs,0,none⟩ = some (.int .i64 g) := cL HXs 0 rfl
   have s_1 : wr.cell? ⟨gs,1,none⟩ = some (.int .i64 s) := cL HXs 1 rfl
   have s_2 : wr.cell? ⟨gs,2,none⟩ = some (.slice Ao o.length co) := cL HXs 2 rfl
   have s_3 : wr.cell? ⟨gs,3,none⟩ = some (.slice Al l.length cl) := cL HXs 3 rfl
   have s_4 : wr.cell? ⟨gs,4,none⟩ = some (.slice Af f.length cf) := cL HXs 4 rfl
   go_upto_region 12 with fail
   clear s_0 s_1 s_2 s_3 s_4
   clear hlt2 hlt3
   have z_0 : wr.cell? ⟨go,0,none⟩ = some (.int .i64 g) := cL HXo 0 rfl
   have z_1 : wr.cell? ⟨go,1,none⟩ = some (.int .i64 s) := cL HXo 1 rfl
   have z_2 : wr.cell? ⟨go,2,none⟩ = some (.slice A1 o1.length d1) := cL HXo 2 rfl
   have z_3 : wr.cell? ⟨go,3,none⟩ = some (.slice A2 l1.length d2) := cL HXo 3 rfl
   have z_4 : wr.cell? ⟨go,4,none⟩ = some (.slice A3 f1.length d3) := cL HXo 4 rfl
   have x_0 : wr.cell? ⟨gr,0,none⟩ = some (.int .i64 0) := cL HXr 0 rfl
   have x_1 : wr.cell? ⟨gr,1,none⟩ = some (.int .i64 0) := cL HXr 1 rfl
   have x_2 : wr.cell? ⟨gr,2,none⟩ = some (.slice none 0 0) := cL HXr 2 rfl
   have x_3 : wr.cell? ⟨gr,3,none⟩ = some (.slice none 0 0) := cL HXr 3 rfl
   have x_4 : wr.cell? ⟨gr,4,none⟩ = some (.slice none 0 0) := cL HXr 4 rfl
   have xf_0 := blk_frozen HXr.out 0
   have xf_1 := blk_frozen HXr.out 1
   have xf_2 := blk_frozen HXr.out 2
   have xf_3 := blk_frozen HXr.out 3
   have xf_4 := blk_frozen HXr.out 4
   have n1_ := HNE.out.1.2
   have n2_ := Ne.symm HNE.out.1.2
   go_wp2_with fail
   obtain ⟨W8,hW⟩ : ∃ W_,W_ = (((((wr.setCell ⟨gr,0,none⟩ (.int .i64 g)).setCell ⟨gr,1,none⟩ (.int .i64 s)).setCell ⟨gr,2,none⟩ (.slice A1 o1.length d1)).setCell ⟨gr,3,none⟩ (.slice A2 l1.length d2)).setCell ⟨gr,4,none⟩ (.slice A3 f1.length d3)) := ⟨_,rfl⟩
   rw [← hW]
   refine bodyPost_ret (results_ct rfl _ _ gr 32 _ (0,0) _ rfl (set5 hW HXr.out) Try.underlying32 rfl (by kernel_rfl)) rfl ?_
   have z1 := HO.out.1
   have z2 := HO.out.2.1
   have z3 := HO.out.2.2
   rw [kp_all HIN.out] at z1
   rw [kp_all (by have := HIN.out; have := HLO.out; omega)] at z2
   rw [kp_all (by have := HIN.out; have := HFO.out; omega)] at z3
   rw [← HPP.out,← z1,← z2,← z3]
   exact ⟨A1,d1,A2,d2,A3,d3,rfl,tr5 hW HXr.out (by decide) (by decide) HTR.out,below5 hW HB.out HGR.out⟩
end Go.Proofs.Ytbefoehjlgdcgaa.H
