/-
lodgerref08.own: a table with lists of its own.
-/
import Derived.Test.YtbefoehjlgdcgaaAp
import Derived.Test.YtbefoehjlgdcgaaTk
namespace Go.Proofs.Ytbefoehjlgdcgaa.H
open Go.RowKit Go.Proofs.YtbefoehjlgdcgaaW.PrintWords Go.Proofs.YtbefoehjlgdcgaaW.PrintLast Go.Proofs.YtbefoehjlgdcgaaW.PrintMore
attribute [local go_sem] min2_int min_two
set_option linter.unusedVariables false
set_option linter.unusedSimpArgs false
def zn0 : Array Bool := #[false,false,false,false,false,false,false,false,false,false,false,false,false,false,false,false,false,false]
def zn1 : Array Bool := #[true,false,false,false,false,false,false,false,false,false,false,false,false,false,false,false,false,false]
def zn2 : Array Bool := #[true,false,true,false,false,false,false,false,false,false,false,false,false,false,false,false,false,false]
def zn3 : Array Bool := #[true,false,true,false,false,true,false,false,false,false,false,false,false,false,false,false,false,false]
def zn4 : Array Bool := #[true,false,true,false,false,true,false,false,false,true,false,false,false,false,false,false,false,false]
def zn5 : Array Bool := #[true,false,true,false,false,true,false,false,false,true,false,false,false,true,false,false,false,false]
def zn6 : Array Bool := #[true,true,true,false,false,true,false,false,false,true,false,false,false,true,false,false,false,false]
def zn7 : Array Bool := #[true,true,true,true,false,true,false,false,false,true,false,false,false,true,false,false,false,false]
def zn8 : Array Bool := #[true,true,true,true,false,true,true,false,false,true,false,false,false,true,false,false,false,false]
def zn9 : Array Bool := #[true,true,true,true,false,true,true,false,false,true,true,false,false,true,false,false,false,false]
def zn10 : Array Bool := #[true,true,true,true,false,true,true,false,false,true,true,false,false,true,true,false,false,false]
def zn11 : Array Bool := #[true,true,true,true,true,true,true,true,true,true,true,true,true,true,true,false,false,false]
def zn12 : Array Bool := #[true,true,true,true,true,true,true,false,false,true,true,false,false,true,true,false,false,false]
def zn13 : Array Bool := #[true,true,true,true,false,true,true,false,true,true,true,false,false,true,true,false,false,false]
def zn14 : Array Bool := #[true,true,true,true,false,true,true,false,false,true,true,false,true,true,true,false,false,false]
def zn15 : Array Bool := #[true,true,true,true,true,true,true,true,false,true,true,false,false,true,true,false,false,false]
def zn16 : Array Bool := #[true,true,true,true,true,true,true,false,true,true,true,false,false,true,true,false,false,false]
def zn17 : Array Bool := #[true,true,true,true,true,true,true,false,false,true,true,false,true,true,true,false,false,false]
def zn18 : Array Bool := #[true,true,true,true,true,true,true,true,true,true,true,false,false,true,true,false,false,false]
def zn19 : Array Bool := #[true,true,true,true,true,true,true,true,false,true,true,false,true,true,true,false,false,false]
def zn20 : Array Bool := #[true,true,true,true,true,true,true,true,true,true,true,true,false,true,true,false,false,false]
def zn21 : Array Bool := #[true,true,true,true,true,true,true,true,true,true,true,false,true,true,true,false,false,false]
def zn22 : Array Bool := #[true,true,true,true,true,true,true,false,true,true,true,false,true,true,true,false,false,false]
def zn23 : Array Bool := #[true,true,true,true,false,true,true,false,true,true,true,false,true,true,true,false,false,false]
def zn24 : Array Bool := #[true,true,true,true,true,true,true,true,true,true,true,true,true,true,true,true,false,false]
def zn25 : Array Bool := #[true,true,true,true,true,true,true,true,true,true,true,true,true,true,true,true,true,false]
def zn26 : Array Bool := #[true,true,true,true,true,true,true,true,true,true,true,true,true,true,true,true,true,true]
theorem znI {α : Type} (l : List α) (i : Nat) (a : α) : l.toArray.setIfInBounds i a = (l.set i a).toArray := List.setIfInBounds_toArray l i a
theorem zns0 {α : Type} (x : α) (l : List α) (a : α) : (x :: l).set 0 a = a :: l := rfl
theorem zns1 {α : Type} (x : α) (l : List α) (i : Nat) (a : α) : (x :: l).set (i + 1) a = x :: l.set i a := rfl
theorem R_zero {k : IntKind} {e base : Nat} {W : World} (hb : base ≤ W.heap.size) : Kd.R (Kd.int k) e (W.alloc (.cells #[] e)) base (fun _ => True) (.slice (some ⟨W.heap.size,0,none⟩) 0 0) [] := by
 refine ⟨fun _ _ => trivial,[],?_,Reps.none _ _⟩
 have h2 := World.ownsRow_lit (base := base) (e := e) (size := 1) W #[] 0 hb (by simp [maxLen]) (by simp)
 have e1 : (Kd.int k).sz = 1 := rfl
 rw [e1]
 simpa using h2
/-- Two rows are not the same. -/
def DOL (v u : Value) : Prop := ∀ k,v.ownBlock = some k → u.ownBlock ≠ some k
theorem DOL.symm {v u : Value} (h : DOL v u) : DOL u v := fun k h1 h2 => h k h2 h1
theorem dol_new {W : World} {k : IntKind} {e base : Nat} {ok : Nat → Prop} {v : Value} {xs : List Int} {n c : Nat} (h : Kd.R (Kd.int k) e W base ok v xs) : DOL v (.slice (some ⟨W.heap.size,0,none⟩) n c) := fun j hj hl => by
 have := app_lt h hj
 rw [own_is] at hl
 cases hl
 omega
theorem dol_on {W : World} {k : IntKind} {e base : Nat} {ok : Nat → Prop} {v v1 u : Value} {ys : List Int} (hu : Kd.R (Kd.int k) e W base ok u ys) (hd : DOL v u) (hat : v1.ownBlock = v.ownBlock ∨ ∃ b,v1.ownBlock = some b ∧ W.heap.size ≤ b) : DOL v1 u := fun j hj hl => by
 rcases hat with e | ⟨b,e,hb⟩
 ·exact hd j (e ▸ hj) hl
 ·have := app_lt hu hl
  rw [e] at hj
  cases hj
  omega
theorem dol_row {W W' : World} {k : IntKind} {e base : Nat} {v u : Value} {ys : List Int} (hu : Kd.R (Kd.int k) e W base (fun _ => True) u ys) (hd : DOL v u) (hg : W.grownBy W' v.ownBlock) : Kd.R (Kd.int k) e W' base (fun _ => True) u ys := by
 refine R_other hu rfl hg ?_
 cases hk : v.ownBlock with
 | none => exact .inr rfl
 | some j => exact .inl (fun e => hd j hk e.symm)
theorem TC_l {w : World} {Ao Al Af : Option Addr} {co cl cf : Nat} {o l f : List Int} (h : TC w Ao co o Al cl l Af cf f) : Kd.C (Kd.int .i64) w Al l.length l := h.2.1.1
theorem TC_f {w : World} {Ao Al Af : Option Addr} {co cl cf : Nat} {o l f : List Int} (h : TC w Ao co o Al cl l Af cf f) : Kd.C (Kd.int .u64) w Af f.length f := h.2.2.1
theorem TC_oC {w : World} {Ao Al Af : Option Addr} {co cl cf : Nat} {o l f : List Int} (h : TC w Ao co o Al cl l Af cf f) : Kd.C (Kd.int .i64) w Ao o.length o := h.1.1
def refown.T1 : Bool × List (List Nat × List Nat) := (true,[([],[]),([0],[0]),([],[]),([2],[2]),([],[]),([],[]),([5],[5]),([4,6],[4,6]),([],[]),([],[]),([9],[9]),([8,10,7],[8,10]),([],[]),([],[]),([13],[13]),([12,14,11],[12,14]),([1,3,7,11,15],[1,3,7,11,15]),([16,15,0,1,2,3,4,5,6,7,8,9,10,11,12,13,14,15,16],[16])])
def refown.B1 : List Nat := [0,1,0,4,0,0,32,112,0,0,512,2032,0,0,8192,32752,65535,131071]
theorem refown.tab1 : rtab .any (opsOf Try.f46 1) = refown.T1 := by kernel_rfl
theorem refown.bits1 : waitsOk refown.T1.2 refown.B1 = true := by kernel_rfl
set_option maxHeartbeats 8000000 in
set_option maxRecDepth 100000 in
theorem rown_calls (g s : Int) (Ao : Option Addr) (co : Nat) (o : List Int) (Al : Option Addr) (cl : Nat) (l : List Int) (Af : Option Addr) (cf : Nat) (f : List Int) (w : World) (hT : TC w Ao co o Al cl l Af cf f) (hl : o.length ≤ 1000 ∧ l.length ≤ 1000 ∧ f.length ≤ 1000) :
  Calls Try.prog 46 #[.agg #[.int .i64 g,.int .i64 s,.slice Ao o.length co,.slice Al l.length cl,.slice Af f.length cf]] w fun e w' => ∃ A1 d1 A2 d2 A3 d3,e = .returned (.agg #[.int .i64 g,.int .i64 s,.slice A1 o.length d1,.slice A2 l.length d2,.slice A3 f.length d3]) ∧ TR w' w.heap.size A1 d1 o A2 d2 l A3 d3 f ∧ Below w.heap.size w w' := by
 have HT := Aside0.mk hT
 have HL := Aside0.mk hl
 clear hT hl
 go_enter Try.func46,Try.ntmps46
 go_upto_region 1 with fail
 obtain ⟨W1,hW1⟩ : ∃ W1,W1 = (w.alloc (.cells #[.int .i64 g,.int .i64 s,.slice Ao o.length co,.slice Al l.length cl,.slice Af f.length cf] 32)).alloc (.cells #[.int .i64 0,.int .i64 0,.slice none 0 0,.slice none 0 0,.slice none 0 0] 32) := ⟨_,rfl⟩
 rw [← hW1]
 obtain ⟨gr,hgr⟩ : ∃ g,g = w.heap.size + 1 := ⟨_,rfl⟩
 obtain ⟨gs,hgs⟩ : ∃ g,g = w.heap.size := ⟨_,rfl⟩
 have HXs : Aside0 (W1.heap[gs]? = some (.cells #[.int .i64 g,.int .i64 s,.slice Ao o.length co,.slice Al l.length cl,.slice Af f.length cf] 32 (0,0))) := ⟨by rw [hW1,hgs]; exact blk_alloc (blk_new _ _) _⟩
 have HXr : Aside0 (W1.heap[gr]? = some (.cells #[.int .i64 0,.int .i64 0,.slice none 0 0,.slice none 0 0,.slice none 0 0] 32 (0,0))) := ⟨by rw [hW1,hgr]; have := blk_new (w.alloc (.cells #[.int .i64 g,.int .i64 s,.slice Ao o.length co,.slice Al l.length cl,.slice Af f.length cf] 32)) (.cells #[.int .i64 0,.int .i64 0,.slice none 0 0,.slice none 0 0,.slice none 0 0] 32); simpa using this⟩
 have HB : Aside0 (Below w.heap.size w W1) := ⟨by rw [hW1]; exact below_alloc (below_alloc (Below.refl _ _) _) _⟩
 have HGR : Aside0 (w.heap.size ≤ gr) := ⟨by omega⟩
 rw [← hgr,← hgs]
 clear hW1 hgr hgs
 refine start_ (n := 18) (S := fun w' => w'.cell? ⟨gs,0,none⟩ = some (.int .i64 g) ∧ w'.cell? ⟨gs,1,none⟩ = some (.int .i64 s) ∧ w'.cell? ⟨gs,2,none⟩ = some (.slice Ao o.length co) ∧ w'.cell? ⟨gs,3,none⟩ = some (.slice Al l.length cl) ∧ w'.cell? ⟨gs,4,none⟩ = some (.slice Af f.length cf)) (ds := [17]) zn0 (by kernel_rfl) rfl rfl ⟨((blk_cell (blk_drew HXs.out) 0).trans rfl),((blk_cell (blk_drew HXs.out) 1).trans rfl),((blk_cell (blk_drew HXs.out) 2).trans rfl),((blk_cell (blk_drew HXs.out) 3).trans rfl),((blk_cell (blk_drew HXs.out) 4).trans rfl)⟩ (fun hHeld => ?_)
 refine with_tabW refown.tab1 refown.bits1 (fun HT_ HW_ => ?_)
 replace HXs := Aside0.mk (blk_drew HXs.out)
 replace HXr := Aside0.mk (blk_drew HXr.out)
 replace HB := Aside0.mk (below_drew HB.out)
 generalize W1.drew = wd1 at *
 refine pure_ (i := 0) (N := some 3) (v := ?_) (a' := ?_) zn1 rfl rfl (any_of HT_.out (by kernel_rfl)) (fun _ _ _ h => h) (Or.inl ⟨by rfl,?_⟩) ?_ ?_
 rotate_left
 ·intro w'
  go_simp
  with_reducible rfl
 rotate_left
 ·simp only [Act.put,znI,zns0,zns1,i64_w,i32_w]
  rfl
 refine pure_ (i := 2) (N := some 5) (v := ?_) (a' := ?_) zn2 rfl rfl (any_of HT_.out (by kernel_rfl)) (fun _ _ _ h => h) (Or.inl ⟨by rfl,?_⟩) ?_ ?_
 rotate_left
 ·intro w'
  go_simp
  with_reducible rfl
 rotate_left
 ·simp only [Act.put,znI,zns0,zns1,i64_w,i32_w]
  rfl
 refine pure_ (i := 5) (N := some 8) (v := ?_) (a' := ?_) zn3 rfl rfl (any_of HT_.out (by kernel_rfl)) (fun _ _ _ h => h) (Or.inl ⟨by rfl,?_⟩) ?_ ?_
 rotate_left
 ·intro w'
  go_simp
  with_reducible rfl
 rotate_left
 ·simp only [Act.put,znI,zns0,zns1,i64_w,i32_w]
  rfl
 refine pure_ (i := 9) (N := some 12) (v := ?_) (a' := ?_) zn4 rfl rfl (any_of HT_.out (by kernel_rfl)) (fun _ _ _ h => h) (Or.inl ⟨by rfl,?_⟩) ?_ ?_
 rotate_left
 ·intro w'
  go_simp
  with_reducible rfl
 rotate_left
 ·simp only [Act.put,znI,zns0,zns1,i64_w,i32_w]
  rfl
 refine pure_ (i := 13) (N := some 16) (v := ?_) (a' := ?_) zn5 rfl rfl (any_of HT_.out (by kernel_rfl)) (fun _ _ _ h => h) (Or.inl ⟨by rfl,?_⟩) ?_ ?_
 rotate_left
 ·intro w'
  go_simp
  with_reducible rfl
 rotate_left
 ·simp only [Act.put,znI,zns0,zns1,i64_w,i32_w]
  rfl
 refine take_ (i := 1) (N := some 4) (v := ?_) (a' := ?_) zn6 rfl rfl (take_ofW HT_.out HW_.out (by kernel_rfl)) (fun _ _ _ h => h) (Or.inl ⟨by rfl,?_⟩) hHeld ?_ ?_
 rotate_left
 ·rintro w' ⟨s0,s1,s2,s3,s4⟩
  go_simp
  with_reducible rfl
 rotate_left
 ·simp only [Act.put,znI,zns0,zns1,i64_w,i32_w]
  rfl
 refine take_ (i := 3) (N := some 6) (v := ?_) (a' := ?_) zn7 rfl rfl (take_ofW HT_.out HW_.out (by kernel_rfl)) (fun _ _ _ h => h) (Or.inl ⟨by rfl,?_⟩) hHeld ?_ ?_
 rotate_left
 ·rintro w' ⟨s0,s1,s2,s3,s4⟩
  go_simp
  with_reducible rfl
 rotate_left
 ·simp only [Act.put,znI,zns0,zns1,i64_w,i32_w]
  rfl
 refine take_ (i := 6) (N := some 9) (v := ?_) (a' := ?_) zn8 rfl rfl (take_ofW HT_.out HW_.out (by kernel_rfl)) (fun _ _ _ h => h) (Or.inl ⟨by rfl,?_⟩) hHeld ?_ ?_
 rotate_left
 ·rintro w' ⟨s0,s1,s2,s3,s4⟩
  go_simp
  with_reducible rfl
 rotate_left
 ·simp only [Act.put,znI,zns0,zns1,i64_w,i32_w]
  rfl
 refine take_ (i := 10) (N := some 13) (v := ?_) (a' := ?_) zn9 rfl rfl (take_ofW HT_.out HW_.out (by kernel_rfl)) (fun _ _ _ h => h) (Or.inl ⟨by rfl,?_⟩) hHeld ?_ ?_
 rotate_left
 ·rintro w' ⟨s0,s1,s2,s3,s4⟩
  go_simp
  with_reducible rfl
 rotate_left
 ·simp only [Act.put,znI,zns0,zns1,i64_w,i32_w]
  rfl
 refine take_ (i := 14) (N := some 17) (v := ?_) (a' := ?_) zn10 rfl rfl (take_ofW HT_.out HW_.out (by kernel_rfl)) (fun _ _ _ h => h) (Or.inl ⟨by rfl,?_⟩) hHeld ?_ ?_
 rotate_left
 ·rintro w' ⟨s0,s1,s2,s3,s4⟩
  go_simp
  with_reducible rfl
 rotate_left
 ·simp only [Act.put,znI,zns0,zns1,i64_w,i32_w]
  rfl
 refine join_ (σ := Value × Value × Value × Value × Value) 3 zn11 (fun s_ => [(7,s_.1),(11,s_.2.1),(15,s_.2.2.1),(10,s_.2.2.2.1),(14,s_.2.2.2.2)]) (fun s_ w' => Kd.R (Kd.int .i64) 3 w' w.heap.size (fun _ => True) s_.2.2.2.1 o ∧ Kd.R (Kd.int .i64) 3 w' w.heap.size (fun _ => True) s_.2.2.2.2 l ∧ Kd.R (Kd.int .u64) 23 w' w.heap.size (fun _ => True) s_.2.2.1 [] ∧ DOL s_.2.2.2.1 s_.2.2.2.2 ∧ w'.heap[gs]? = some (.cells #[.int .i64 g,.int .i64 s,.slice Ao o.length co,.slice Al l.length cl,.slice Af f.length cf] 32 (0,0)) ∧ w'.heap[gr]? = some (.cells #[.int .i64 0,.int .i64 0,.slice none 0 0,.slice none 0 0,.slice none 0 0] 32 (0,0)) ∧ Below w.heap.size w w') ?_ ?_
 rotate_left
 ·intro hCont
  refine three_ (i := 4) (j := 8) (k := 12) (Ni := some 7) (Nj := some 11) (Nk := some 15) zn12 zn13 zn14 rfl rfl rfl rfl rfl rfl (three_of HT_.out (by kernel_rfl)) (by decide) (by decide) (by decide) (fun K hK => ?_) (fun K hK => ?_) (fun K hK => ?_)
  ·skip
   refine value_ (w1 := ?_) (v := ?_) (by rfl) rfl ?_ ?_
   rotate_left 2
   ·go_simp
    constructor
    ·rfl
    ·rfl
   obtain ⟨wr1,hW⟩ : ∃ W_,W_ = wd1.alloc (.cells #[] 3) := ⟨_,rfl⟩
   have hb_ : Below wd1.heap.size wd1 wr1 := by rw [hW]; exact below_alloc (Below.refl _ _) _
   have hR_ : Kd.R (Kd.int .i64) 3 wr1 w.heap.size (fun _ => True) (.slice (some ⟨wd1.heap.size,0,none⟩) 0 0) [] := by rw [hW]; exact R_zero (below_size HB.out)
   obtain ⟨v4,hv_⟩ : ∃ y_,y_ = Value.slice (some ⟨wd1.heap.size,0,none⟩) 0 0 := ⟨_,rfl⟩
   rw [← hv_] at hR_ ⊢
   rw [← hW]
   have HVo := Aside0.mk hR_
   replace HXs := mB HXs hb_
   replace HXr := mB HXr hb_
   replace HB := mS HB hb_
   clear hW hb_ hR_ hv_
   refine hK.out _ _ ⟨(cL HXs 0 rfl),(cL HXs 1 rfl),(cL HXs 2 rfl),(cL HXs 3 rfl),(cL HXs 4 rfl)⟩ (fun hHeld => ?_)
   clear hK K
   refine norm_ (a' := ?_) ?_ ?_
   rotate_left
   ·show Act.put _ (some 7) _ = _
    simp only [Act.put,znI,zns0,zns1,i64_w,i32_w]
    rfl
   refine three_ (i := 7) (j := 8) (k := 12) (Ni := some 10) (Nj := some 11) (Nk := some 15) zn15 zn16 zn17 rfl rfl rfl rfl rfl rfl (three_of HT_.out (by kernel_rfl)) (by decide) (by decide) (by decide) (fun K hK => ?_) (fun K hK => ?_) (fun K hK => ?_)
   ·skip
    refine Kd.R_append_rows_step (Kd.int .i64) (w0 := w) w.heap.size (by rfl) (.tmp 7) (.tmp 9) 25 3 (.int .i64 0) 8 rfl Try.underlying25 info3 rfl (by decide) (by omega) v4 [] o _ _ _ (fun _ => True) (fun _ => False) rfl rfl ?aO ?aR (fun _ _ h => h) (fun _ h => h.elim) ?aF ?aB ?aS ?aL ?_
    (case aR => exact (TC_oC (TC_below HT.out HB.out)))
    (case aB => exact HB.out)
    (case aF => exact (fun _ _ => trivial))
    (case aO => exact HVo.out)
    (case aS => exact below_size HB.out)
    (case aL => have := HL.out; rw [List.length_nil]; omega)
    intro u7 wr2 ho_ hb_ hg_ hat_
    rw [List.nil_append] at ho_
    replace HXs := Aside0.mk (blk_grown HXs.out hg_ (Kd.R_ne HVo.out HXs.out (by decide)))
    replace HXr := Aside0.mk (blk_grown HXr.out hg_ (Kd.R_ne HVo.out HXr.out (by decide)))
    replace HVo := Aside0.mk (ho_)
    replace HB := Aside0.mk (hb_)
    clear ho_ hb_ hg_ hat_
    refine hK.out _ _ ⟨(cL HXs 0 rfl),(cL HXs 1 rfl),(cL HXs 2 rfl),(cL HXs 3 rfl),(cL HXs 4 rfl)⟩ (fun hHeld => ?_)
    clear hK K
    refine norm_ (a' := ?_) ?_ ?_
    rotate_left
    ·show Act.put _ (some 10) _ = _
     simp only [Act.put,znI,zns0,zns1,i64_w,i32_w]
     rfl
    refine two_ (i := 8) (j := 12) (Ni := some 11) (Nj := some 15) zn18 zn19 rfl rfl rfl rfl (two_of HT_.out (by kernel_rfl)) (by decide) (by decide) (fun K hK => ?_) (fun K hK => ?_)
    ·skip
     refine value_ (w1 := ?_) (v := ?_) (by rfl) rfl ?_ ?_
     rotate_left 2
     ·go_simp
      constructor
      ·rfl
      ·rfl
     obtain ⟨wr3,hW⟩ : ∃ W_,W_ = wr2.alloc (.cells #[] 3) := ⟨_,rfl⟩
     have hb_ : Below wr2.heap.size wr2 wr3 := by rw [hW]; exact below_alloc (Below.refl _ _) _
     have hR_ : Kd.R (Kd.int .i64) 3 wr3 w.heap.size (fun _ => True) (.slice (some ⟨wr2.heap.size,0,none⟩) 0 0) [] := by rw [hW]; exact R_zero (below_size HB.out)
     have hd_ := dol_new (n := 0) (c := 0) HVo.out
     obtain ⟨v8,hv_⟩ : ∃ y_,y_ = Value.slice (some ⟨wr2.heap.size,0,none⟩) 0 0 := ⟨_,rfl⟩
     rw [← hv_] at hR_ ⊢
     rw [← hv_] at hd_
     have HD := Aside0.mk (hd_)
     clear hd_
     rw [← hW]
     have HVl := Aside0.mk hR_
     replace HVo := Aside0.mk (Kd.R_below HVo.out hb_)
     replace HXs := mB HXs hb_
     replace HXr := mB HXr hb_
     replace HB := mS HB hb_
     clear hW hb_ hR_ hv_
     refine hK.out _ _ ⟨(cL HXs 0 rfl),(cL HXs 1 rfl),(cL HXs 2 rfl),(cL HXs 3 rfl),(cL HXs 4 rfl)⟩ (fun hHeld => ?_)
     clear hK K
     refine norm_ (a' := ?_) ?_ ?_
     rotate_left
     ·show Act.put _ (some 11) _ = _
      simp only [Act.put,znI,zns0,zns1,i64_w,i32_w]
      rfl
     refine two_ (i := 11) (j := 12) (Ni := some 14) (Nj := some 15) zn20 zn21 rfl rfl rfl rfl (two_of HT_.out (by kernel_rfl)) (by decide) (by decide) (fun K hK => ?_) (fun K hK => ?_)
     ·skip
      refine Kd.R_append_rows_step (Kd.int .i64) (w0 := w) w.heap.size (by rfl) (.tmp 11) (.tmp 13) 25 3 (.int .i64 0) 8 rfl Try.underlying25 info3 rfl (by decide) (by omega) v8 [] l _ _ _ (fun _ => True) (fun _ => False) rfl rfl ?aO ?aR (fun _ _ h => h) (fun _ h => h.elim) ?aF ?aB ?aS ?aL ?_
      (case aR => exact (TC_l (TC_below HT.out HB.out)))
      (case aB => exact HB.out)
      (case aF => exact (fun _ _ => trivial))
      (case aO => exact HVl.out)
      (case aS => exact below_size HB.out)
      (case aL => have := HL.out; rw [List.length_nil]; omega)
      intro u11 wr4 ho_ hb_ hg_ hat_
      rw [List.nil_append] at ho_
      have hd_ := dol_on HVo.out (DOL.symm HD.out) hat_
      replace HVo := Aside0.mk (dol_row HVo.out (DOL.symm HD.out) hg_)
      replace HD := Aside0.mk (DOL.symm hd_)
      clear hd_
      replace HXs := Aside0.mk (blk_grown HXs.out hg_ (Kd.R_ne HVl.out HXs.out (by decide)))
      replace HXr := Aside0.mk (blk_grown HXr.out hg_ (Kd.R_ne HVl.out HXr.out (by decide)))
      replace HVl := Aside0.mk (ho_)
      replace HB := Aside0.mk (hb_)
      clear ho_ hb_ hg_ hat_
      refine hK.out _ _ ⟨(cL HXs 0 rfl),(cL HXs 1 rfl),(cL HXs 2 rfl),(cL HXs 3 rfl),(cL HXs 4 rfl)⟩ (fun hHeld => ?_)
      clear hK K
      refine norm_ (a' := ?_) ?_ ?_
      rotate_left
      ·show Act.put _ (some 14) _ = _
       simp only [Act.put,znI,zns0,zns1,i64_w,i32_w]
       rfl
      refine one_ (i := 12) (N := some 15) zn11 rfl rfl (one_of HT_.out (by kernel_rfl)) (by decide) (fun K hK => ?_)
      refine value_ (w1 := ?_) (v := ?_) (by rfl) rfl ?_ ?_
      rotate_left 2
      ·go_simp
       constructor
       ·rfl
       ·rfl
      obtain ⟨wr5,hW⟩ : ∃ W_,W_ = wr4.alloc (.cells #[] 23) := ⟨_,rfl⟩
      have hb_ : Below wr4.heap.size wr4 wr5 := by rw [hW]; exact below_alloc (Below.refl _ _) _
      have hR_ : Kd.R (Kd.int .u64) 23 wr5 w.heap.size (fun _ => True) (.slice (some ⟨wr4.heap.size,0,none⟩) 0 0) [] := by rw [hW]; exact R_zero (below_size HB.out)
      obtain ⟨v12,hv_⟩ : ∃ y_,y_ = Value.slice (some ⟨wr4.heap.size,0,none⟩) 0 0 := ⟨_,rfl⟩
      rw [← hv_] at hR_ ⊢
      rw [← hW]
      have HVf := Aside0.mk hR_
      replace HVo := Aside0.mk (Kd.R_below HVo.out hb_)
      replace HVl := Aside0.mk (Kd.R_below HVl.out hb_)
      replace HXs := mB HXs hb_
      replace HXr := mB HXr hb_
      replace HB := mS HB hb_
      clear hW hb_ hR_ hv_
      refine hK.out _ _ ⟨(cL HXs 0 rfl),(cL HXs 1 rfl),(cL HXs 2 rfl),(cL HXs 3 rfl),(cL HXs 4 rfl)⟩ (fun hHeld => ?_)
      clear hK K
      refine norm_ (a' := ?_) ?_ ?_
      rotate_left
      ·show Act.put _ (some 15) _ = _
       simp only [Act.put,znI,zns0,zns1,i64_w,i32_w]
       rfl
      exact norm_ (by first | (simp only [putAll,Act.put,znI,zns0,zns1]; done) | (simp only [putAll,Act.put,znI,zns0,zns1]; rfl)) (hCont (v4,v8,v12,u7,u11) _ ⟨HVo.out,HVl.out,HVf.out,HD.out,HXs.out,HXr.out,HB.out⟩)
     ·skip
      refine value_ (w1 := ?_) (v := ?_) (by rfl) rfl ?_ ?_
      rotate_left 2
      ·go_simp
       constructor
       ·rfl
       ·rfl
      obtain ⟨wr4,hW⟩ : ∃ W_,W_ = wr3.alloc (.cells #[] 23) := ⟨_,rfl⟩
      have hb_ : Below wr3.heap.size wr3 wr4 := by rw [hW]; exact below_alloc (Below.refl _ _) _
      have hR_ : Kd.R (Kd.int .u64) 23 wr4 w.heap.size (fun _ => True) (.slice (some ⟨wr3.heap.size,0,none⟩) 0 0) [] := by rw [hW]; exact R_zero (below_size HB.out)
      obtain ⟨v12,hv_⟩ : ∃ y_,y_ = Value.slice (some ⟨wr3.heap.size,0,none⟩) 0 0 := ⟨_,rfl⟩
      rw [← hv_] at hR_ ⊢
      rw [← hW]
      have HVf := Aside0.mk hR_
      replace HVo := Aside0.mk (Kd.R_below HVo.out hb_)
      replace HVl := Aside0.mk (Kd.R_below HVl.out hb_)
      replace HXs := mB HXs hb_
      replace HXr := mB HXr hb_
      replace HB := mS HB hb_
      clear hW hb_ hR_ hv_
      refine hK.out _ _ ⟨(cL HXs 0 rfl),(cL HXs 1 rfl),(cL HXs 2 rfl),(cL HXs 3 rfl),(cL HXs 4 rfl)⟩ (fun hHeld => ?_)
      clear hK K
      refine norm_ (a' := ?_) ?_ ?_
      rotate_left
      ·show Act.put _ (some 15) _ = _
       simp only [Act.put,znI,zns0,zns1,i64_w,i32_w]
       rfl
      refine one_ (i := 11) (N := some 14) zn11 rfl rfl (one_of HT_.out (by kernel_rfl)) (by decide) (fun K hK => ?_)
      refine Kd.R_append_rows_step (Kd.int .i64) (w0 := w) w.heap.size (by rfl) (.tmp 11) (.tmp 13) 25 3 (.int .i64 0) 8 rfl Try.underlying25 info3 rfl (by decide) (by omega) v8 [] l _ _ _ (fun _ => True) (fun _ => False) rfl rfl ?aO ?aR (fun _ _ h => h) (fun _ h => h.elim) ?aF ?aB ?aS ?aL ?_
      (case aR => exact (TC_l (TC_below HT.out HB.out)))
      (case aB => exact HB.out)
      (case aF => exact (fun _ _ => trivial))
      (case aO => exact HVl.out)
      (case aS => exact below_size HB.out)
      (case aL => have := HL.out; rw [List.length_nil]; omega)
      intro u11 wr5 ho_ hb_ hg_ hat_
      rw [List.nil_append] at ho_
      have hd_ := dol_on HVo.out (DOL.symm HD.out) hat_
      replace HVo := Aside0.mk (dol_row HVo.out (DOL.symm HD.out) hg_)
      replace HVf := Aside0.mk (R_other HVf.out rfl hg_ (type_ne HVl.out HVf.out (by decide)))
      replace HD := Aside0.mk (DOL.symm hd_)
      clear hd_
      replace HXs := Aside0.mk (blk_grown HXs.out hg_ (Kd.R_ne HVl.out HXs.out (by decide)))
      replace HXr := Aside0.mk (blk_grown HXr.out hg_ (Kd.R_ne HVl.out HXr.out (by decide)))
      replace HVl := Aside0.mk (ho_)
      replace HB := Aside0.mk (hb_)
      clear ho_ hb_ hg_ hat_
      refine hK.out _ _ ⟨(cL HXs 0 rfl),(cL HXs 1 rfl),(cL HXs 2 rfl),(cL HXs 3 rfl),(cL HXs 4 rfl)⟩ (fun hHeld => ?_)
      clear hK K
      refine norm_ (a' := ?_) ?_ ?_
      rotate_left
      ·show Act.put _ (some 14) _ = _
       simp only [Act.put,znI,zns0,zns1,i64_w,i32_w]
       rfl
      exact norm_ (by first | (simp only [putAll,Act.put,znI,zns0,zns1]; done) | (simp only [putAll,Act.put,znI,zns0,zns1]; rfl)) (hCont (v4,v8,v12,u7,u11) _ ⟨HVo.out,HVl.out,HVf.out,HD.out,HXs.out,HXr.out,HB.out⟩)
    ·skip
     refine value_ (w1 := ?_) (v := ?_) (by rfl) rfl ?_ ?_
     rotate_left 2
     ·go_simp
      constructor
      ·rfl
      ·rfl
     obtain ⟨wr3,hW⟩ : ∃ W_,W_ = wr2.alloc (.cells #[] 23) := ⟨_,rfl⟩
     have hb_ : Below wr2.heap.size wr2 wr3 := by rw [hW]; exact below_alloc (Below.refl _ _) _
     have hR_ : Kd.R (Kd.int .u64) 23 wr3 w.heap.size (fun _ => True) (.slice (some ⟨wr2.heap.size,0,none⟩) 0 0) [] := by rw [hW]; exact R_zero (below_size HB.out)
     obtain ⟨v12,hv_⟩ : ∃ y_,y_ = Value.slice (some ⟨wr2.heap.size,0,none⟩) 0 0 := ⟨_,rfl⟩
     rw [← hv_] at hR_ ⊢
     rw [← hW]
     have HVf := Aside0.mk hR_
     replace HVo := Aside0.mk (Kd.R_below HVo.out hb_)
     replace HXs := mB HXs hb_
     replace HXr := mB HXr hb_
     replace HB := mS HB hb_
     clear hW hb_ hR_ hv_
     refine hK.out _ _ ⟨(cL HXs 0 rfl),(cL HXs 1 rfl),(cL HXs 2 rfl),(cL HXs 3 rfl),(cL HXs 4 rfl)⟩ (fun hHeld => ?_)
     clear hK K
     refine norm_ (a' := ?_) ?_ ?_
     rotate_left
     ·show Act.put _ (some 15) _ = _
      simp only [Act.put,znI,zns0,zns1,i64_w,i32_w]
      rfl
     refine one_ (i := 8) (N := some 11) zn21 rfl rfl (one_of HT_.out (by kernel_rfl)) (by decide) (fun K hK => ?_)
     refine value_ (w1 := ?_) (v := ?_) (by rfl) rfl ?_ ?_
     rotate_left 2
     ·go_simp
      constructor
      ·rfl
      ·rfl
     obtain ⟨wr4,hW⟩ : ∃ W_,W_ = wr3.alloc (.cells #[] 3) := ⟨_,rfl⟩
     have hb_ : Below wr3.heap.size wr3 wr4 := by rw [hW]; exact below_alloc (Below.refl _ _) _
     have hR_ : Kd.R (Kd.int .i64) 3 wr4 w.heap.size (fun _ => True) (.slice (some ⟨wr3.heap.size,0,none⟩) 0 0) [] := by rw [hW]; exact R_zero (below_size HB.out)
     have hd_ := dol_new (n := 0) (c := 0) HVo.out
     obtain ⟨v8,hv_⟩ : ∃ y_,y_ = Value.slice (some ⟨wr3.heap.size,0,none⟩) 0 0 := ⟨_,rfl⟩
     rw [← hv_] at hR_ ⊢
     rw [← hv_] at hd_
     have HD := Aside0.mk (hd_)
     clear hd_
     rw [← hW]
     have HVl := Aside0.mk hR_
     replace HVo := Aside0.mk (Kd.R_below HVo.out hb_)
     replace HVf := Aside0.mk (Kd.R_below HVf.out hb_)
     replace HXs := mB HXs hb_
     replace HXr := mB HXr hb_
     replace HB := mS HB hb_
     clear hW hb_ hR_ hv_
     refine hK.out _ _ ⟨(cL HXs 0 rfl),(cL HXs 1 rfl),(cL HXs 2 rfl),(cL HXs 3 rfl),(cL HXs 4 rfl)⟩ (fun hHeld => ?_)
     clear hK K
     refine norm_ (a' := ?_) ?_ ?_
     rotate_left
     ·show Act.put _ (some 11) _ = _
      simp only [Act.put,znI,zns0,zns1,i64_w,i32_w]
      rfl
     refine one_ (i := 11) (N := some 14) zn11 rfl rfl (one_of HT_.out (by kernel_rfl)) (by decide) (fun K hK => ?_)
     refine Kd.R_append_rows_step (Kd.int .i64) (w0 := w) w.heap.size (by rfl) (.tmp 11) (.tmp 13) 25 3 (.int .i64 0) 8 rfl Try.underlying25 info3 rfl (by decide) (by omega) v8 [] l _ _ _ (fun _ => True) (fun _ => False) rfl rfl ?aO ?aR (fun _ _ h => h) (fun _ h => h.elim) ?aF ?aB ?aS ?aL ?_
     (case aR => exact (TC_l (TC_below HT.out HB.out)))
     (case aB => exact HB.out)
     (case aF => exact (fun _ _ => trivial))
     (case aO => exact HVl.out)
     (case aS => exact below_size HB.out)
     (case aL => have := HL.out; rw [List.length_nil]; omega)
     intro u11 wr5 ho_ hb_ hg_ hat_
     rw [List.nil_append] at ho_
     have hd_ := dol_on HVo.out (DOL.symm HD.out) hat_
     replace HVo := Aside0.mk (dol_row HVo.out (DOL.symm HD.out) hg_)
     replace HVf := Aside0.mk (R_other HVf.out rfl hg_ (type_ne HVl.out HVf.out (by decide)))
     replace HD := Aside0.mk (DOL.symm hd_)
     clear hd_
     replace HXs := Aside0.mk (blk_grown HXs.out hg_ (Kd.R_ne HVl.out HXs.out (by decide)))
     replace HXr := Aside0.mk (blk_grown HXr.out hg_ (Kd.R_ne HVl.out HXr.out (by decide)))
     replace HVl := Aside0.mk (ho_)
     replace HB := Aside0.mk (hb_)
     clear ho_ hb_ hg_ hat_
     refine hK.out _ _ ⟨(cL HXs 0 rfl),(cL HXs 1 rfl),(cL HXs 2 rfl),(cL HXs 3 rfl),(cL HXs 4 rfl)⟩ (fun hHeld => ?_)
     clear hK K
     refine norm_ (a' := ?_) ?_ ?_
     rotate_left
     ·show Act.put _ (some 14) _ = _
      simp only [Act.put,znI,zns0,zns1,i64_w,i32_w]
      rfl
     exact norm_ (by first | (simp only [putAll,Act.put,znI,zns0,zns1]; done) | (simp only [putAll,Act.put,znI,zns0,zns1]; rfl)) (hCont (v4,v8,v12,u7,u11) _ ⟨HVo.out,HVl.out,HVf.out,HD.out,HXs.out,HXr.out,HB.out⟩)
   ·skip
    refine value_ (w1 := ?_) (v := ?_) (by rfl) rfl ?_ ?_
    rotate_left 2
    ·go_simp
     constructor
     ·rfl
     ·rfl
    obtain ⟨wr2,hW⟩ : ∃ W_,W_ = wr1.alloc (.cells #[] 3) := ⟨_,rfl⟩
    have hb_ : Below wr1.heap.size wr1 wr2 := by rw [hW]; exact below_alloc (Below.refl _ _) _
    have hR_ : Kd.R (Kd.int .i64) 3 wr2 w.heap.size (fun _ => True) (.slice (some ⟨wr1.heap.size,0,none⟩) 0 0) [] := by rw [hW]; exact R_zero (below_size HB.out)
    have hd_ := dol_new (n := 0) (c := 0) HVo.out
    obtain ⟨v8,hv_⟩ : ∃ y_,y_ = Value.slice (some ⟨wr1.heap.size,0,none⟩) 0 0 := ⟨_,rfl⟩
    rw [← hv_] at hR_ ⊢
    rw [← hv_] at hd_
    have HD := Aside0.mk (hd_)
    clear hd_
    rw [← hW]
    have HVl := Aside0.mk hR_
    replace HVo := Aside0.mk (Kd.R_below HVo.out hb_)
    replace HXs := mB HXs hb_
    replace HXr := mB HXr hb_
    replace HB := mS HB hb_
    clear hW hb_ hR_ hv_
    refine hK.out _ _ ⟨(cL HXs 0 rfl),(cL HXs 1 rfl),(cL HXs 2 rfl),(cL HXs 3 rfl),(cL HXs 4 rfl)⟩ (fun hHeld => ?_)
    clear hK K
    refine norm_ (a' := ?_) ?_ ?_
    rotate_left
    ·show Act.put _ (some 11) _ = _
     simp only [Act.put,znI,zns0,zns1,i64_w,i32_w]
     rfl
    refine two_ (i := 7) (j := 12) (Ni := some 10) (Nj := some 15) zn18 zn22 rfl rfl rfl rfl (two_of HT_.out (by kernel_rfl)) (by decide) (by decide) (fun K hK => ?_) (fun K hK => ?_)
    ·skip
     refine Kd.R_append_rows_step (Kd.int .i64) (w0 := w) w.heap.size (by rfl) (.tmp 7) (.tmp 9) 25 3 (.int .i64 0) 8 rfl Try.underlying25 info3 rfl (by decide) (by omega) v4 [] o _ _ _ (fun _ => True) (fun _ => False) rfl rfl ?aO ?aR (fun _ _ h => h) (fun _ h => h.elim) ?aF ?aB ?aS ?aL ?_
     (case aR => exact (TC_oC (TC_below HT.out HB.out)))
     (case aB => exact HB.out)
     (case aF => exact (fun _ _ => trivial))
     (case aO => exact HVo.out)
     (case aS => exact below_size HB.out)
     (case aL => have := HL.out; rw [List.length_nil]; omega)
     intro u7 wr3 ho_ hb_ hg_ hat_
     rw [List.nil_append] at ho_
     have hd_ := dol_on HVl.out HD.out hat_
     replace HVl := Aside0.mk (dol_row HVl.out HD.out hg_)
     replace HD := Aside0.mk (hd_)
     clear hd_
     replace HXs := Aside0.mk (blk_grown HXs.out hg_ (Kd.R_ne HVo.out HXs.out (by decide)))
     replace HXr := Aside0.mk (blk_grown HXr.out hg_ (Kd.R_ne HVo.out HXr.out (by decide)))
     replace HVo := Aside0.mk (ho_)
     replace HB := Aside0.mk (hb_)
     clear ho_ hb_ hg_ hat_
     refine hK.out _ _ ⟨(cL HXs 0 rfl),(cL HXs 1 rfl),(cL HXs 2 rfl),(cL HXs 3 rfl),(cL HXs 4 rfl)⟩ (fun hHeld => ?_)
     clear hK K
     refine norm_ (a' := ?_) ?_ ?_
     rotate_left
     ·show Act.put _ (some 10) _ = _
      simp only [Act.put,znI,zns0,zns1,i64_w,i32_w]
      rfl
     refine two_ (i := 11) (j := 12) (Ni := some 14) (Nj := some 15) zn20 zn21 rfl rfl rfl rfl (two_of HT_.out (by kernel_rfl)) (by decide) (by decide) (fun K hK => ?_) (fun K hK => ?_)
     ·skip
      refine Kd.R_append_rows_step (Kd.int .i64) (w0 := w) w.heap.size (by rfl) (.tmp 11) (.tmp 13) 25 3 (.int .i64 0) 8 rfl Try.underlying25 info3 rfl (by decide) (by omega) v8 [] l _ _ _ (fun _ => True) (fun _ => False) rfl rfl ?aO ?aR (fun _ _ h => h) (fun _ h => h.elim) ?aF ?aB ?aS ?aL ?_
      (case aR => exact (TC_l (TC_below HT.out HB.out)))
      (case aB => exact HB.out)
      (case aF => exact (fun _ _ => trivial))
      (case aO => exact HVl.out)
      (case aS => exact below_size HB.out)
      (case aL => have := HL.out; rw [List.length_nil]; omega)
      intro u11 wr4 ho_ hb_ hg_ hat_
      rw [List.nil_append] at ho_
      have hd_ := dol_on HVo.out (DOL.symm HD.out) hat_
      replace HVo := Aside0.mk (dol_row HVo.out (DOL.symm HD.out) hg_)
      replace HD := Aside0.mk (DOL.symm hd_)
      clear hd_
      replace HXs := Aside0.mk (blk_grown HXs.out hg_ (Kd.R_ne HVl.out HXs.out (by decide)))
      replace HXr := Aside0.mk (blk_grown HXr.out hg_ (Kd.R_ne HVl.out HXr.out (by decide)))
      replace HVl := Aside0.mk (ho_)
      replace HB := Aside0.mk (hb_)
      clear ho_ hb_ hg_ hat_
      refine hK.out _ _ ⟨(cL HXs 0 rfl),(cL HXs 1 rfl),(cL HXs 2 rfl),(cL HXs 3 rfl),(cL HXs 4 rfl)⟩ (fun hHeld => ?_)
      clear hK K
      refine norm_ (a' := ?_) ?_ ?_
      rotate_left
      ·show Act.put _ (some 14) _ = _
       simp only [Act.put,znI,zns0,zns1,i64_w,i32_w]
       rfl
      refine one_ (i := 12) (N := some 15) zn11 rfl rfl (one_of HT_.out (by kernel_rfl)) (by decide) (fun K hK => ?_)
      refine value_ (w1 := ?_) (v := ?_) (by rfl) rfl ?_ ?_
      rotate_left 2
      ·go_simp
       constructor
       ·rfl
       ·rfl
      obtain ⟨wr5,hW⟩ : ∃ W_,W_ = wr4.alloc (.cells #[] 23) := ⟨_,rfl⟩
      have hb_ : Below wr4.heap.size wr4 wr5 := by rw [hW]; exact below_alloc (Below.refl _ _) _
      have hR_ : Kd.R (Kd.int .u64) 23 wr5 w.heap.size (fun _ => True) (.slice (some ⟨wr4.heap.size,0,none⟩) 0 0) [] := by rw [hW]; exact R_zero (below_size HB.out)
      obtain ⟨v12,hv_⟩ : ∃ y_,y_ = Value.slice (some ⟨wr4.heap.size,0,none⟩) 0 0 := ⟨_,rfl⟩
      rw [← hv_] at hR_ ⊢
      rw [← hW]
      have HVf := Aside0.mk hR_
      replace HVo := Aside0.mk (Kd.R_below HVo.out hb_)
      replace HVl := Aside0.mk (Kd.R_below HVl.out hb_)
      replace HXs := mB HXs hb_
      replace HXr := mB HXr hb_
      replace HB := mS HB hb_
      clear hW hb_ hR_ hv_
      refine hK.out _ _ ⟨(cL HXs 0 rfl),(cL HXs 1 rfl),(cL HXs 2 rfl),(cL HXs 3 rfl),(cL HXs 4 rfl)⟩ (fun hHeld => ?_)
      clear hK K
      refine norm_ (a' := ?_) ?_ ?_
      rotate_left
      ·show Act.put _ (some 15) _ = _
       simp only [Act.put,znI,zns0,zns1,i64_w,i32_w]
       rfl
      exact norm_ (by first | (simp only [putAll,Act.put,znI,zns0,zns1]; done) | (simp only [putAll,Act.put,znI,zns0,zns1]; rfl)) (hCont (v4,v8,v12,u7,u11) _ ⟨HVo.out,HVl.out,HVf.out,HD.out,HXs.out,HXr.out,HB.out⟩)
     ·skip
      refine value_ (w1 := ?_) (v := ?_) (by rfl) rfl ?_ ?_
      rotate_left 2
      ·go_simp
       constructor
       ·rfl
       ·rfl
      obtain ⟨wr4,hW⟩ : ∃ W_,W_ = wr3.alloc (.cells #[] 23) := ⟨_,rfl⟩
      have hb_ : Below wr3.heap.size wr3 wr4 := by rw [hW]; exact below_alloc (Below.refl _ _) _
      have hR_ : Kd.R (Kd.int .u64) 23 wr4 w.heap.size (fun _ => True) (.slice (some ⟨wr3.heap.size,0,none⟩) 0 0) [] := by rw [hW]; exact R_zero (below_size HB.out)
      obtain ⟨v12,hv_⟩ : ∃ y_,y_ = Value.slice (some ⟨wr3.heap.size,0,none⟩) 0 0 := ⟨_,rfl⟩
      rw [← hv_] at hR_ ⊢
      rw [← hW]
      have HVf := Aside0.mk hR_
      replace HVo := Aside0.mk (Kd.R_below HVo.out hb_)
      replace HVl := Aside0.mk (Kd.R_below HVl.out hb_)
      replace HXs := mB HXs hb_
      replace HXr := mB HXr hb_
      replace HB := mS HB hb_
      clear hW hb_ hR_ hv_
      refine hK.out _ _ ⟨(cL HXs 0 rfl),(cL HXs 1 rfl),(cL HXs 2 rfl),(cL HXs 3 rfl),(cL HXs 4 rfl)⟩ (fun hHeld => ?_)
      clear hK K
      refine norm_ (a' := ?_) ?_ ?_
      rotate_left
      ·show Act.put _ (some 15) _ = _
       simp only [Act.put,znI,zns0,zns1,i64_w,i32_w]
       rfl
      refine one_ (i := 11) (N := some 14) zn11 rfl rfl (one_of HT_.out (by kernel_rfl)) (by decide) (fun K hK => ?_)
      refine Kd.R_append_rows_step (Kd.int .i64) (w0 := w) w.heap.size (by rfl) (.tmp 11) (.tmp 13) 25 3 (.int .i64 0) 8 rfl Try.underlying25 info3 rfl (by decide) (by omega) v8 [] l _ _ _ (fun _ => True) (fun _ => False) rfl rfl ?aO ?aR (fun _ _ h => h) (fun _ h => h.elim) ?aF ?aB ?aS ?aL ?_
      (case aR => exact (TC_l (TC_below HT.out HB.out)))
      (case aB => exact HB.out)
      (case aF => exact (fun _ _ => trivial))
      (case aO => exact HVl.out)
      (case aS => exact below_size HB.out)
      (case aL => have := HL.out; rw [List.length_nil]; omega)
      intro u11 wr5 ho_ hb_ hg_ hat_
      rw [List.nil_append] at ho_
      have hd_ := dol_on HVo.out (DOL.symm HD.out) hat_
      replace HVo := Aside0.mk (dol_row HVo.out (DOL.symm HD.out) hg_)
      replace HVf := Aside0.mk (R_other HVf.out rfl hg_ (type_ne HVl.out HVf.out (by decide)))
      replace HD := Aside0.mk (DOL.symm hd_)
      clear hd_
      replace HXs := Aside0.mk (blk_grown HXs.out hg_ (Kd.R_ne HVl.out HXs.out (by decide)))
      replace HXr := Aside0.mk (blk_grown HXr.out hg_ (Kd.R_ne HVl.out HXr.out (by decide)))
      replace HVl := Aside0.mk (ho_)
      replace HB := Aside0.mk (hb_)
      clear ho_ hb_ hg_ hat_
      refine hK.out _ _ ⟨(cL HXs 0 rfl),(cL HXs 1 rfl),(cL HXs 2 rfl),(cL HXs 3 rfl),(cL HXs 4 rfl)⟩ (fun hHeld => ?_)
      clear hK K
      refine norm_ (a' := ?_) ?_ ?_
      rotate_left
      ·show Act.put _ (some 14) _ = _
       simp only [Act.put,znI,zns0,zns1,i64_w,i32_w]
       rfl
      exact norm_ (by first | (simp only [putAll,Act.put,znI,zns0,zns1]; done) | (simp only [putAll,Act.put,znI,zns0,zns1]; rfl)) (hCont (v4,v8,v12,u7,u11) _ ⟨HVo.out,HVl.out,HVf.out,HD.out,HXs.out,HXr.out,HB.out⟩)
    ·skip
     refine value_ (w1 := ?_) (v := ?_) (by rfl) rfl ?_ ?_
     rotate_left 2
     ·go_simp
      constructor
      ·rfl
      ·rfl
     obtain ⟨wr3,hW⟩ : ∃ W_,W_ = wr2.alloc (.cells #[] 23) := ⟨_,rfl⟩
     have hb_ : Below wr2.heap.size wr2 wr3 := by rw [hW]; exact below_alloc (Below.refl _ _) _
     have hR_ : Kd.R (Kd.int .u64) 23 wr3 w.heap.size (fun _ => True) (.slice (some ⟨wr2.heap.size,0,none⟩) 0 0) [] := by rw [hW]; exact R_zero (below_size HB.out)
     obtain ⟨v12,hv_⟩ : ∃ y_,y_ = Value.slice (some ⟨wr2.heap.size,0,none⟩) 0 0 := ⟨_,rfl⟩
     rw [← hv_] at hR_ ⊢
     rw [← hW]
     have HVf := Aside0.mk hR_
     replace HVo := Aside0.mk (Kd.R_below HVo.out hb_)
     replace HVl := Aside0.mk (Kd.R_below HVl.out hb_)
     replace HXs := mB HXs hb_
     replace HXr := mB HXr hb_
     replace HB := mS HB hb_
     clear hW hb_ hR_ hv_
     refine hK.out _ _ ⟨(cL HXs 0 rfl),(cL HXs 1 rfl),(cL HXs 2 rfl),(cL HXs 3 rfl),(cL HXs 4 rfl)⟩ (fun hHeld => ?_)
     clear hK K
     refine norm_ (a' := ?_) ?_ ?_
     rotate_left
     ·show Act.put _ (some 15) _ = _
      simp only [Act.put,znI,zns0,zns1,i64_w,i32_w]
      rfl
     refine one_ (i := 7) (N := some 10) zn21 rfl rfl (one_of HT_.out (by kernel_rfl)) (by decide) (fun K hK => ?_)
     refine Kd.R_append_rows_step (Kd.int .i64) (w0 := w) w.heap.size (by rfl) (.tmp 7) (.tmp 9) 25 3 (.int .i64 0) 8 rfl Try.underlying25 info3 rfl (by decide) (by omega) v4 [] o _ _ _ (fun _ => True) (fun _ => False) rfl rfl ?aO ?aR (fun _ _ h => h) (fun _ h => h.elim) ?aF ?aB ?aS ?aL ?_
     (case aR => exact (TC_oC (TC_below HT.out HB.out)))
     (case aB => exact HB.out)
     (case aF => exact (fun _ _ => trivial))
     (case aO => exact HVo.out)
     (case aS => exact below_size HB.out)
     (case aL => have := HL.out; rw [List.length_nil]; omega)
     intro u7 wr4 ho_ hb_ hg_ hat_
     rw [List.nil_append] at ho_
     have hd_ := dol_on HVl.out HD.out hat_
     replace HVl := Aside0.mk (dol_row HVl.out HD.out hg_)
     replace HVf := Aside0.mk (R_other HVf.out rfl hg_ (type_ne HVo.out HVf.out (by decide)))
     replace HD := Aside0.mk (hd_)
     clear hd_
     replace HXs := Aside0.mk (blk_grown HXs.out hg_ (Kd.R_ne HVo.out HXs.out (by decide)))
     replace HXr := Aside0.mk (blk_grown HXr.out hg_ (Kd.R_ne HVo.out HXr.out (by decide)))
     replace HVo := Aside0.mk (ho_)
     replace HB := Aside0.mk (hb_)
     clear ho_ hb_ hg_ hat_
     refine hK.out _ _ ⟨(cL HXs 0 rfl),(cL HXs 1 rfl),(cL HXs 2 rfl),(cL HXs 3 rfl),(cL HXs 4 rfl)⟩ (fun hHeld => ?_)
     clear hK K
     refine norm_ (a' := ?_) ?_ ?_
     rotate_left
     ·show Act.put _ (some 10) _ = _
      simp only [Act.put,znI,zns0,zns1,i64_w,i32_w]
      rfl
     refine one_ (i := 11) (N := some 14) zn11 rfl rfl (one_of HT_.out (by kernel_rfl)) (by decide) (fun K hK => ?_)
     refine Kd.R_append_rows_step (Kd.int .i64) (w0 := w) w.heap.size (by rfl) (.tmp 11) (.tmp 13) 25 3 (.int .i64 0) 8 rfl Try.underlying25 info3 rfl (by decide) (by omega) v8 [] l _ _ _ (fun _ => True) (fun _ => False) rfl rfl ?aO ?aR (fun _ _ h => h) (fun _ h => h.elim) ?aF ?aB ?aS ?aL ?_
     (case aR => exact (TC_l (TC_below HT.out HB.out)))
     (case aB => exact HB.out)
     (case aF => exact (fun _ _ => trivial))
     (case aO => exact HVl.out)
     (case aS => exact below_size HB.out)
     (case aL => have := HL.out; rw [List.length_nil]; omega)
     intro u11 wr5 ho_ hb_ hg_ hat_
     rw [List.nil_append] at ho_
     have hd_ := dol_on HVo.out (DOL.symm HD.out) hat_
     replace HVo := Aside0.mk (dol_row HVo.out (DOL.symm HD.out) hg_)
     replace HVf := Aside0.mk (R_other HVf.out rfl hg_ (type_ne HVl.out HVf.out (by decide)))
     replace HD := Aside0.mk (DOL.symm hd_)
     clear hd_
     replace HXs := Aside0.mk (blk_grown HXs.out hg_ (Kd.R_ne HVl.out HXs.out (by decide)))
     replace HXr := Aside0.mk (blk_grown HXr.out hg_ (Kd.R_ne HVl.out HXr.out (by decide)))
     replace HVl := Aside0.mk (ho_)
     replace HB := Aside0.mk (hb_)
     clear ho_ hb_ hg_ hat_
     refine hK.out _ _ ⟨(cL HXs 0 rfl),(cL HXs 1 rfl),(cL HXs 2 rfl),(cL HXs 3 rfl),(cL HXs 4 rfl)⟩ (fun hHeld => ?_)
     clear hK K
     refine norm_ (a' := ?_) ?_ ?_
     rotate_left
     ·show Act.put _ (some 14) _ = _
      simp only [Act.put,znI,zns0,zns1,i64_w,i32_w]
      rfl
     exact norm_ (by first | (simp only [putAll,Act.put,znI,zns0,zns1]; done) | (simp only [putAll,Act.put,znI,zns0,zns1]; rfl)) (hCont (v4,v8,v12,u7,u11) _ ⟨HVo.out,HVl.out,HVf.out,HD.out,HXs.out,HXr.out,HB.out⟩)
   ·skip
    refine value_ (w1 := ?_) (v := ?_) (by rfl) rfl ?_ ?_
    rotate_left 2
    ·go_simp
     constructor
     ·rfl
     ·rfl
    obtain ⟨wr2,hW⟩ : ∃ W_,W_ = wr1.alloc (.cells #[] 23) := ⟨_,rfl⟩
    have hb_ : Below wr1.heap.size wr1 wr2 := by rw [hW]; exact below_alloc (Below.refl _ _) _
    have hR_ : Kd.R (Kd.int .u64) 23 wr2 w.heap.size (fun _ => True) (.slice (some ⟨wr1.heap.size,0,none⟩) 0 0) [] := by rw [hW]; exact R_zero (below_size HB.out)
    obtain ⟨v12,hv_⟩ : ∃ y_,y_ = Value.slice (some ⟨wr1.heap.size,0,none⟩) 0 0 := ⟨_,rfl⟩
    rw [← hv_] at hR_ ⊢
    rw [← hW]
    have HVf := Aside0.mk hR_
    replace HVo := Aside0.mk (Kd.R_below HVo.out hb_)
    replace HXs := mB HXs hb_
    replace HXr := mB HXr hb_
    replace HB := mS HB hb_
    clear hW hb_ hR_ hv_
    refine hK.out _ _ ⟨(cL HXs 0 rfl),(cL HXs 1 rfl),(cL HXs 2 rfl),(cL HXs 3 rfl),(cL HXs 4 rfl)⟩ (fun hHeld => ?_)
    clear hK K
    refine norm_ (a' := ?_) ?_ ?_
    rotate_left
    ·show Act.put _ (some 15) _ = _
     simp only [Act.put,znI,zns0,zns1,i64_w,i32_w]
     rfl
    refine two_ (i := 7) (j := 8) (Ni := some 10) (Nj := some 11) zn19 zn22 rfl rfl rfl rfl (two_of HT_.out (by kernel_rfl)) (by decide) (by decide) (fun K hK => ?_) (fun K hK => ?_)
    ·skip
     refine Kd.R_append_rows_step (Kd.int .i64) (w0 := w) w.heap.size (by rfl) (.tmp 7) (.tmp 9) 25 3 (.int .i64 0) 8 rfl Try.underlying25 info3 rfl (by decide) (by omega) v4 [] o _ _ _ (fun _ => True) (fun _ => False) rfl rfl ?aO ?aR (fun _ _ h => h) (fun _ h => h.elim) ?aF ?aB ?aS ?aL ?_
     (case aR => exact (TC_oC (TC_below HT.out HB.out)))
     (case aB => exact HB.out)
     (case aF => exact (fun _ _ => trivial))
     (case aO => exact HVo.out)
     (case aS => exact below_size HB.out)
     (case aL => have := HL.out; rw [List.length_nil]; omega)
     intro u7 wr3 ho_ hb_ hg_ hat_
     rw [List.nil_append] at ho_
     replace HVf := Aside0.mk (R_other HVf.out rfl hg_ (type_ne HVo.out HVf.out (by decide)))
     replace HXs := Aside0.mk (blk_grown HXs.out hg_ (Kd.R_ne HVo.out HXs.out (by decide)))
     replace HXr := Aside0.mk (blk_grown HXr.out hg_ (Kd.R_ne HVo.out HXr.out (by decide)))
     replace HVo := Aside0.mk (ho_)
     replace HB := Aside0.mk (hb_)
     clear ho_ hb_ hg_ hat_
     refine hK.out _ _ ⟨(cL HXs 0 rfl),(cL HXs 1 rfl),(cL HXs 2 rfl),(cL HXs 3 rfl),(cL HXs 4 rfl)⟩ (fun hHeld => ?_)
     clear hK K
     refine norm_ (a' := ?_) ?_ ?_
     rotate_left
     ·show Act.put _ (some 10) _ = _
      simp only [Act.put,znI,zns0,zns1,i64_w,i32_w]
      rfl
     refine one_ (i := 8) (N := some 11) zn21 rfl rfl (one_of HT_.out (by kernel_rfl)) (by decide) (fun K hK => ?_)
     refine value_ (w1 := ?_) (v := ?_) (by rfl) rfl ?_ ?_
     rotate_left 2
     ·go_simp
      constructor
      ·rfl
      ·rfl
     obtain ⟨wr4,hW⟩ : ∃ W_,W_ = wr3.alloc (.cells #[] 3) := ⟨_,rfl⟩
     have hb_ : Below wr3.heap.size wr3 wr4 := by rw [hW]; exact below_alloc (Below.refl _ _) _
     have hR_ : Kd.R (Kd.int .i64) 3 wr4 w.heap.size (fun _ => True) (.slice (some ⟨wr3.heap.size,0,none⟩) 0 0) [] := by rw [hW]; exact R_zero (below_size HB.out)
     have hd_ := dol_new (n := 0) (c := 0) HVo.out
     obtain ⟨v8,hv_⟩ : ∃ y_,y_ = Value.slice (some ⟨wr3.heap.size,0,none⟩) 0 0 := ⟨_,rfl⟩
     rw [← hv_] at hR_ ⊢
     rw [← hv_] at hd_
     have HD := Aside0.mk (hd_)
     clear hd_
     rw [← hW]
     have HVl := Aside0.mk hR_
     replace HVo := Aside0.mk (Kd.R_below HVo.out hb_)
     replace HVf := Aside0.mk (Kd.R_below HVf.out hb_)
     replace HXs := mB HXs hb_
     replace HXr := mB HXr hb_
     replace HB := mS HB hb_
     clear hW hb_ hR_ hv_
     refine hK.out _ _ ⟨(cL HXs 0 rfl),(cL HXs 1 rfl),(cL HXs 2 rfl),(cL HXs 3 rfl),(cL HXs 4 rfl)⟩ (fun hHeld => ?_)
     clear hK K
     refine norm_ (a' := ?_) ?_ ?_
     rotate_left
     ·show Act.put _ (some 11) _ = _
      simp only [Act.put,znI,zns0,zns1,i64_w,i32_w]
      rfl
     refine one_ (i := 11) (N := some 14) zn11 rfl rfl (one_of HT_.out (by kernel_rfl)) (by decide) (fun K hK => ?_)
     refine Kd.R_append_rows_step (Kd.int .i64) (w0 := w) w.heap.size (by rfl) (.tmp 11) (.tmp 13) 25 3 (.int .i64 0) 8 rfl Try.underlying25 info3 rfl (by decide) (by omega) v8 [] l _ _ _ (fun _ => True) (fun _ => False) rfl rfl ?aO ?aR (fun _ _ h => h) (fun _ h => h.elim) ?aF ?aB ?aS ?aL ?_
     (case aR => exact (TC_l (TC_below HT.out HB.out)))
     (case aB => exact HB.out)
     (case aF => exact (fun _ _ => trivial))
     (case aO => exact HVl.out)
     (case aS => exact below_size HB.out)
     (case aL => have := HL.out; rw [List.length_nil]; omega)
     intro u11 wr5 ho_ hb_ hg_ hat_
     rw [List.nil_append] at ho_
     have hd_ := dol_on HVo.out (DOL.symm HD.out) hat_
     replace HVo := Aside0.mk (dol_row HVo.out (DOL.symm HD.out) hg_)
     replace HVf := Aside0.mk (R_other HVf.out rfl hg_ (type_ne HVl.out HVf.out (by decide)))
     replace HD := Aside0.mk (DOL.symm hd_)
     clear hd_
     replace HXs := Aside0.mk (blk_grown HXs.out hg_ (Kd.R_ne HVl.out HXs.out (by decide)))
     replace HXr := Aside0.mk (blk_grown HXr.out hg_ (Kd.R_ne HVl.out HXr.out (by decide)))
     replace HVl := Aside0.mk (ho_)
     replace HB := Aside0.mk (hb_)
     clear ho_ hb_ hg_ hat_
     refine hK.out _ _ ⟨(cL HXs 0 rfl),(cL HXs 1 rfl),(cL HXs 2 rfl),(cL HXs 3 rfl),(cL HXs 4 rfl)⟩ (fun hHeld => ?_)
     clear hK K
     refine norm_ (a' := ?_) ?_ ?_
     rotate_left
     ·show Act.put _ (some 14) _ = _
      simp only [Act.put,znI,zns0,zns1,i64_w,i32_w]
      rfl
     exact norm_ (by first | (simp only [putAll,Act.put,znI,zns0,zns1]; done) | (simp only [putAll,Act.put,znI,zns0,zns1]; rfl)) (hCont (v4,v8,v12,u7,u11) _ ⟨HVo.out,HVl.out,HVf.out,HD.out,HXs.out,HXr.out,HB.out⟩)
    ·skip
     refine value_ (w1 := ?_) (v := ?_) (by rfl) rfl ?_ ?_
     rotate_left 2
     ·go_simp
      constructor
      ·rfl
      ·rfl
     obtain ⟨wr3,hW⟩ : ∃ W_,W_ = wr2.alloc (.cells #[] 3) := ⟨_,rfl⟩
     have hb_ : Below wr2.heap.size wr2 wr3 := by rw [hW]; exact below_alloc (Below.refl _ _) _
     have hR_ : Kd.R (Kd.int .i64) 3 wr3 w.heap.size (fun _ => True) (.slice (some ⟨wr2.heap.size,0,none⟩) 0 0) [] := by rw [hW]; exact R_zero (below_size HB.out)
     have hd_ := dol_new (n := 0) (c := 0) HVo.out
     obtain ⟨v8,hv_⟩ : ∃ y_,y_ = Value.slice (some ⟨wr2.heap.size,0,none⟩) 0 0 := ⟨_,rfl⟩
     rw [← hv_] at hR_ ⊢
     rw [← hv_] at hd_
     have HD := Aside0.mk (hd_)
     clear hd_
     rw [← hW]
     have HVl := Aside0.mk hR_
     replace HVo := Aside0.mk (Kd.R_below HVo.out hb_)
     replace HVf := Aside0.mk (Kd.R_below HVf.out hb_)
     replace HXs := mB HXs hb_
     replace HXr := mB HXr hb_
     replace HB := mS HB hb_
     clear hW hb_ hR_ hv_
     refine hK.out _ _ ⟨(cL HXs 0 rfl),(cL HXs 1 rfl),(cL HXs 2 rfl),(cL HXs 3 rfl),(cL HXs 4 rfl)⟩ (fun hHeld => ?_)
     clear hK K
     refine norm_ (a' := ?_) ?_ ?_
     rotate_left
     ·show Act.put _ (some 11) _ = _
      simp only [Act.put,znI,zns0,zns1,i64_w,i32_w]
      rfl
     refine one_ (i := 7) (N := some 10) zn21 rfl rfl (one_of HT_.out (by kernel_rfl)) (by decide) (fun K hK => ?_)
     refine Kd.R_append_rows_step (Kd.int .i64) (w0 := w) w.heap.size (by rfl) (.tmp 7) (.tmp 9) 25 3 (.int .i64 0) 8 rfl Try.underlying25 info3 rfl (by decide) (by omega) v4 [] o _ _ _ (fun _ => True) (fun _ => False) rfl rfl ?aO ?aR (fun _ _ h => h) (fun _ h => h.elim) ?aF ?aB ?aS ?aL ?_
     (case aR => exact (TC_oC (TC_below HT.out HB.out)))
     (case aB => exact HB.out)
     (case aF => exact (fun _ _ => trivial))
     (case aO => exact HVo.out)
     (case aS => exact below_size HB.out)
     (case aL => have := HL.out; rw [List.length_nil]; omega)
     intro u7 wr4 ho_ hb_ hg_ hat_
     rw [List.nil_append] at ho_
     have hd_ := dol_on HVl.out HD.out hat_
     replace HVl := Aside0.mk (dol_row HVl.out HD.out hg_)
     replace HVf := Aside0.mk (R_other HVf.out rfl hg_ (type_ne HVo.out HVf.out (by decide)))
     replace HD := Aside0.mk (hd_)
     clear hd_
     replace HXs := Aside0.mk (blk_grown HXs.out hg_ (Kd.R_ne HVo.out HXs.out (by decide)))
     replace HXr := Aside0.mk (blk_grown HXr.out hg_ (Kd.R_ne HVo.out HXr.out (by decide)))
     replace HVo := Aside0.mk (ho_)
     replace HB := Aside0.mk (hb_)
     clear ho_ hb_ hg_ hat_
     refine hK.out _ _ ⟨(cL HXs 0 rfl),(cL HXs 1 rfl),(cL HXs 2 rfl),(cL HXs 3 rfl),(cL HXs 4 rfl)⟩ (fun hHeld => ?_)
     clear hK K
     refine norm_ (a' := ?_) ?_ ?_
     rotate_left
     ·show Act.put _ (some 10) _ = _
      simp only [Act.put,znI,zns0,zns1,i64_w,i32_w]
      rfl
     refine one_ (i := 11) (N := some 14) zn11 rfl rfl (one_of HT_.out (by kernel_rfl)) (by decide) (fun K hK => ?_)
     refine Kd.R_append_rows_step (Kd.int .i64) (w0 := w) w.heap.size (by rfl) (.tmp 11) (.tmp 13) 25 3 (.int .i64 0) 8 rfl Try.underlying25 info3 rfl (by decide) (by omega) v8 [] l _ _ _ (fun _ => True) (fun _ => False) rfl rfl ?aO ?aR (fun _ _ h => h) (fun _ h => h.elim) ?aF ?aB ?aS ?aL ?_
     (case aR => exact (TC_l (TC_below HT.out HB.out)))
     (case aB => exact HB.out)
     (case aF => exact (fun _ _ => trivial))
     (case aO => exact HVl.out)
     (case aS => exact below_size HB.out)
     (case aL => have := HL.out; rw [List.length_nil]; omega)
     intro u11 wr5 ho_ hb_ hg_ hat_
     rw [List.nil_append] at ho_
     have hd_ := dol_on HVo.out (DOL.symm HD.out) hat_
     replace HVo := Aside0.mk (dol_row HVo.out (DOL.symm HD.out) hg_)
     replace HVf := Aside0.mk (R_other HVf.out rfl hg_ (type_ne HVl.out HVf.out (by decide)))
     replace HD := Aside0.mk (DOL.symm hd_)
     clear hd_
     replace HXs := Aside0.mk (blk_grown HXs.out hg_ (Kd.R_ne HVl.out HXs.out (by decide)))
     replace HXr := Aside0.mk (blk_grown HXr.out hg_ (Kd.R_ne HVl.out HXr.out (by decide)))
     replace HVl := Aside0.mk (ho_)
     replace HB := Aside0.mk (hb_)
     clear ho_ hb_ hg_ hat_
     refine hK.out _ _ ⟨(cL HXs 0 rfl),(cL HXs 1 rfl),(cL HXs 2 rfl),(cL HXs 3 rfl),(cL HXs 4 rfl)⟩ (fun hHeld => ?_)
     clear hK K
     refine norm_ (a' := ?_) ?_ ?_
     rotate_left
     ·show Act.put _ (some 14) _ = _
      simp only [Act.put,znI,zns0,zns1,i64_w,i32_w]
      rfl
     exact norm_ (by first | (simp only [putAll,Act.put,znI,zns0,zns1]; done) | (simp only [putAll,Act.put,znI,zns0,zns1]; rfl)) (hCont (v4,v8,v12,u7,u11) _ ⟨HVo.out,HVl.out,HVf.out,HD.out,HXs.out,HXr.out,HB.out⟩)
  ·skip
   refine value_ (w1 := ?_) (v := ?_) (by rfl) rfl ?_ ?_
   rotate_left 2
   ·go_simp
    constructor
    ·rfl
    ·rfl
   obtain ⟨wr1,hW⟩ : ∃ W_,W_ = wd1.alloc (.cells #[] 3) := ⟨_,rfl⟩
   have hb_ : Below wd1.heap.size wd1 wr1 := by rw [hW]; exact below_alloc (Below.refl _ _) _
   have hR_ : Kd.R (Kd.int .i64) 3 wr1 w.heap.size (fun _ => True) (.slice (some ⟨wd1.heap.size,0,none⟩) 0 0) [] := by rw [hW]; exact R_zero (below_size HB.out)
   obtain ⟨v8,hv_⟩ : ∃ y_,y_ = Value.slice (some ⟨wd1.heap.size,0,none⟩) 0 0 := ⟨_,rfl⟩
   rw [← hv_] at hR_ ⊢
   rw [← hW]
   have HVl := Aside0.mk hR_
   replace HXs := mB HXs hb_
   replace HXr := mB HXr hb_
   replace HB := mS HB hb_
   clear hW hb_ hR_ hv_
   refine hK.out _ _ ⟨(cL HXs 0 rfl),(cL HXs 1 rfl),(cL HXs 2 rfl),(cL HXs 3 rfl),(cL HXs 4 rfl)⟩ (fun hHeld => ?_)
   clear hK K
   refine norm_ (a' := ?_) ?_ ?_
   rotate_left
   ·show Act.put _ (some 11) _ = _
    simp only [Act.put,znI,zns0,zns1,i64_w,i32_w]
    rfl
   refine two_ (i := 4) (j := 12) (Ni := some 7) (Nj := some 15) zn16 zn23 rfl rfl rfl rfl (two_of HT_.out (by kernel_rfl)) (by decide) (by decide) (fun K hK => ?_) (fun K hK => ?_)
   ·skip
    refine value_ (w1 := ?_) (v := ?_) (by rfl) rfl ?_ ?_
    rotate_left 2
    ·go_simp
     constructor
     ·rfl
     ·rfl
    obtain ⟨wr2,hW⟩ : ∃ W_,W_ = wr1.alloc (.cells #[] 3) := ⟨_,rfl⟩
    have hb_ : Below wr1.heap.size wr1 wr2 := by rw [hW]; exact below_alloc (Below.refl _ _) _
    have hR_ : Kd.R (Kd.int .i64) 3 wr2 w.heap.size (fun _ => True) (.slice (some ⟨wr1.heap.size,0,none⟩) 0 0) [] := by rw [hW]; exact R_zero (below_size HB.out)
    have hd_ := dol_new (n := 0) (c := 0) HVl.out
    obtain ⟨v4,hv_⟩ : ∃ y_,y_ = Value.slice (some ⟨wr1.heap.size,0,none⟩) 0 0 := ⟨_,rfl⟩
    rw [← hv_] at hR_ ⊢
    rw [← hv_] at hd_
    have HD := Aside0.mk (DOL.symm hd_)
    clear hd_
    rw [← hW]
    have HVo := Aside0.mk hR_
    replace HVl := Aside0.mk (Kd.R_below HVl.out hb_)
    replace HXs := mB HXs hb_
    replace HXr := mB HXr hb_
    replace HB := mS HB hb_
    clear hW hb_ hR_ hv_
    refine hK.out _ _ ⟨(cL HXs 0 rfl),(cL HXs 1 rfl),(cL HXs 2 rfl),(cL HXs 3 rfl),(cL HXs 4 rfl)⟩ (fun hHeld => ?_)
    clear hK K
    refine norm_ (a' := ?_) ?_ ?_
    rotate_left
    ·show Act.put _ (some 7) _ = _
     simp only [Act.put,znI,zns0,zns1,i64_w,i32_w]
     rfl
    refine two_ (i := 7) (j := 12) (Ni := some 10) (Nj := some 15) zn18 zn22 rfl rfl rfl rfl (two_of HT_.out (by kernel_rfl)) (by decide) (by decide) (fun K hK => ?_) (fun K hK => ?_)
    ·skip
     refine Kd.R_append_rows_step (Kd.int .i64) (w0 := w) w.heap.size (by rfl) (.tmp 7) (.tmp 9) 25 3 (.int .i64 0) 8 rfl Try.underlying25 info3 rfl (by decide) (by omega) v4 [] o _ _ _ (fun _ => True) (fun _ => False) rfl rfl ?aO ?aR (fun _ _ h => h) (fun _ h => h.elim) ?aF ?aB ?aS ?aL ?_
     (case aR => exact (TC_oC (TC_below HT.out HB.out)))
     (case aB => exact HB.out)
     (case aF => exact (fun _ _ => trivial))
     (case aO => exact HVo.out)
     (case aS => exact below_size HB.out)
     (case aL => have := HL.out; rw [List.length_nil]; omega)
     intro u7 wr3 ho_ hb_ hg_ hat_
     rw [List.nil_append] at ho_
     have hd_ := dol_on HVl.out HD.out hat_
     replace HVl := Aside0.mk (dol_row HVl.out HD.out hg_)
     replace HD := Aside0.mk (hd_)
     clear hd_
     replace HXs := Aside0.mk (blk_grown HXs.out hg_ (Kd.R_ne HVo.out HXs.out (by decide)))
     replace HXr := Aside0.mk (blk_grown HXr.out hg_ (Kd.R_ne HVo.out HXr.out (by decide)))
     replace HVo := Aside0.mk (ho_)
     replace HB := Aside0.mk (hb_)
     clear ho_ hb_ hg_ hat_
     refine hK.out _ _ ⟨(cL HXs 0 rfl),(cL HXs 1 rfl),(cL HXs 2 rfl),(cL HXs 3 rfl),(cL HXs 4 rfl)⟩ (fun hHeld => ?_)
     clear hK K
     refine norm_ (a' := ?_) ?_ ?_
     rotate_left
     ·show Act.put _ (some 10) _ = _
      simp only [Act.put,znI,zns0,zns1,i64_w,i32_w]
      rfl
     refine two_ (i := 11) (j := 12) (Ni := some 14) (Nj := some 15) zn20 zn21 rfl rfl rfl rfl (two_of HT_.out (by kernel_rfl)) (by decide) (by decide) (fun K hK => ?_) (fun K hK => ?_)
     ·skip
      refine Kd.R_append_rows_step (Kd.int .i64) (w0 := w) w.heap.size (by rfl) (.tmp 11) (.tmp 13) 25 3 (.int .i64 0) 8 rfl Try.underlying25 info3 rfl (by decide) (by omega) v8 [] l _ _ _ (fun _ => True) (fun _ => False) rfl rfl ?aO ?aR (fun _ _ h => h) (fun _ h => h.elim) ?aF ?aB ?aS ?aL ?_
      (case aR => exact (TC_l (TC_below HT.out HB.out)))
      (case aB => exact HB.out)
      (case aF => exact (fun _ _ => trivial))
      (case aO => exact HVl.out)
      (case aS => exact below_size HB.out)
      (case aL => have := HL.out; rw [List.length_nil]; omega)
      intro u11 wr4 ho_ hb_ hg_ hat_
      rw [List.nil_append] at ho_
      have hd_ := dol_on HVo.out (DOL.symm HD.out) hat_
      replace HVo := Aside0.mk (dol_row HVo.out (DOL.symm HD.out) hg_)
      replace HD := Aside0.mk (DOL.symm hd_)
      clear hd_
      replace HXs := Aside0.mk (blk_grown HXs.out hg_ (Kd.R_ne HVl.out HXs.out (by decide)))
      replace HXr := Aside0.mk (blk_grown HXr.out hg_ (Kd.R_ne HVl.out HXr.out (by decide)))
      replace HVl := Aside0.mk (ho_)
      replace HB := Aside0.mk (hb_)
      clear ho_ hb_ hg_ hat_
      refine hK.out _ _ ⟨(cL HXs 0 rfl),(cL HXs 1 rfl),(cL HXs 2 rfl),(cL HXs 3 rfl),(cL HXs 4 rfl)⟩ (fun hHeld => ?_)
      clear hK K
      refine norm_ (a' := ?_) ?_ ?_
      rotate_left
      ·show Act.put _ (some 14) _ = _
       simp only [Act.put,znI,zns0,zns1,i64_w,i32_w]
       rfl
      refine one_ (i := 12) (N := some 15) zn11 rfl rfl (one_of HT_.out (by kernel_rfl)) (by decide) (fun K hK => ?_)
      refine value_ (w1 := ?_) (v := ?_) (by rfl) rfl ?_ ?_
      rotate_left 2
      ·go_simp
       constructor
       ·rfl
       ·rfl
      obtain ⟨wr5,hW⟩ : ∃ W_,W_ = wr4.alloc (.cells #[] 23) := ⟨_,rfl⟩
      have hb_ : Below wr4.heap.size wr4 wr5 := by rw [hW]; exact below_alloc (Below.refl _ _) _
      have hR_ : Kd.R (Kd.int .u64) 23 wr5 w.heap.size (fun _ => True) (.slice (some ⟨wr4.heap.size,0,none⟩) 0 0) [] := by rw [hW]; exact R_zero (below_size HB.out)
      obtain ⟨v12,hv_⟩ : ∃ y_,y_ = Value.slice (some ⟨wr4.heap.size,0,none⟩) 0 0 := ⟨_,rfl⟩
      rw [← hv_] at hR_ ⊢
      rw [← hW]
      have HVf := Aside0.mk hR_
      replace HVo := Aside0.mk (Kd.R_below HVo.out hb_)
      replace HVl := Aside0.mk (Kd.R_below HVl.out hb_)
      replace HXs := mB HXs hb_
      replace HXr := mB HXr hb_
      replace HB := mS HB hb_
      clear hW hb_ hR_ hv_
      refine hK.out _ _ ⟨(cL HXs 0 rfl),(cL HXs 1 rfl),(cL HXs 2 rfl),(cL HXs 3 rfl),(cL HXs 4 rfl)⟩ (fun hHeld => ?_)
      clear hK K
      refine norm_ (a' := ?_) ?_ ?_
      rotate_left
      ·show Act.put _ (some 15) _ = _
       simp only [Act.put,znI,zns0,zns1,i64_w,i32_w]
       rfl
      exact norm_ (by first | (simp only [putAll,Act.put,znI,zns0,zns1]; done) | (simp only [putAll,Act.put,znI,zns0,zns1]; rfl)) (hCont (v4,v8,v12,u7,u11) _ ⟨HVo.out,HVl.out,HVf.out,HD.out,HXs.out,HXr.out,HB.out⟩)
     ·skip
      refine value_ (w1 := ?_) (v := ?_) (by rfl) rfl ?_ ?_
      rotate_left 2
      ·go_simp
       constructor
       ·rfl
       ·rfl
      obtain ⟨wr4,hW⟩ : ∃ W_,W_ = wr3.alloc (.cells #[] 23) := ⟨_,rfl⟩
      have hb_ : Below wr3.heap.size wr3 wr4 := by rw [hW]; exact below_alloc (Below.refl _ _) _
      have hR_ : Kd.R (Kd.int .u64) 23 wr4 w.heap.size (fun _ => True) (.slice (some ⟨wr3.heap.size,0,none⟩) 0 0) [] := by rw [hW]; exact R_zero (below_size HB.out)
      obtain ⟨v12,hv_⟩ : ∃ y_,y_ = Value.slice (some ⟨wr3.heap.size,0,none⟩) 0 0 := ⟨_,rfl⟩
      rw [← hv_] at hR_ ⊢
      rw [← hW]
      have HVf := Aside0.mk hR_
      replace HVo := Aside0.mk (Kd.R_below HVo.out hb_)
      replace HVl := Aside0.mk (Kd.R_below HVl.out hb_)
      replace HXs := mB HXs hb_
      replace HXr := mB HXr hb_
      replace HB := mS HB hb_
      clear hW hb_ hR_ hv_
      refine hK.out _ _ ⟨(cL HXs 0 rfl),(cL HXs 1 rfl),(cL HXs 2 rfl),(cL HXs 3 rfl),(cL HXs 4 rfl)⟩ (fun hHeld => ?_)
      clear hK K
      refine norm_ (a' := ?_) ?_ ?_
      rotate_left
      ·show Act.put _ (some 15) _ = _
       simp only [Act.put,znI,zns0,zns1,i64_w,i32_w]
       rfl
      refine one_ (i := 11) (N := some 14) zn11 rfl rfl (one_of HT_.out (by kernel_rfl)) (by decide) (fun K hK => ?_)
      refine Kd.R_append_rows_step (Kd.int .i64) (w0 := w) w.heap.size (by rfl) (.tmp 11) (.tmp 13) 25 3 (.int .i64 0) 8 rfl Try.underlying25 info3 rfl (by decide) (by omega) v8 [] l _ _ _ (fun _ => True) (fun _ => False) rfl rfl ?aO ?aR (fun _ _ h => h) (fun _ h => h.elim) ?aF ?aB ?aS ?aL ?_
      (case aR => exact (TC_l (TC_below HT.out HB.out)))
      (case aB => exact HB.out)
      (case aF => exact (fun _ _ => trivial))
      (case aO => exact HVl.out)
      (case aS => exact below_size HB.out)
      (case aL => have := HL.out; rw [List.length_nil]; omega)
      intro u11 wr5 ho_ hb_ hg_ hat_
      rw [List.nil_append] at ho_
      have hd_ := dol_on HVo.out (DOL.symm HD.out) hat_
      replace HVo := Aside0.mk (dol_row HVo.out (DOL.symm HD.out) hg_)
      replace HVf := Aside0.mk (R_other HVf.out rfl hg_ (type_ne HVl.out HVf.out (by decide)))
      replace HD := Aside0.mk (DOL.symm hd_)
      clear hd_
      replace HXs := Aside0.mk (blk_grown HXs.out hg_ (Kd.R_ne HVl.out HXs.out (by decide)))
      replace HXr := Aside0.mk (blk_grown HXr.out hg_ (Kd.R_ne HVl.out HXr.out (by decide)))
      replace HVl := Aside0.mk (ho_)
      replace HB := Aside0.mk (hb_)
      clear ho_ hb_ hg_ hat_
      refine hK.out _ _ ⟨(cL HXs 0 rfl),(cL HXs 1 rfl),(cL HXs 2 rfl),(cL HXs 3 rfl),(cL HXs 4 rfl)⟩ (fun hHeld => ?_)
      clear hK K
      refine norm_ (a' := ?_) ?_ ?_
      rotate_left
      ·show Act.put _ (some 14) _ = _
       simp only [Act.put,znI,zns0,zns1,i64_w,i32_w]
       rfl
      exact norm_ (by first | (simp only [putAll,Act.put,znI,zns0,zns1]; done) | (simp only [putAll,Act.put,znI,zns0,zns1]; rfl)) (hCont (v4,v8,v12,u7,u11) _ ⟨HVo.out,HVl.out,HVf.out,HD.out,HXs.out,HXr.out,HB.out⟩)
    ·skip
     refine value_ (w1 := ?_) (v := ?_) (by rfl) rfl ?_ ?_
     rotate_left 2
     ·go_simp
      constructor
      ·rfl
      ·rfl
     obtain ⟨wr3,hW⟩ : ∃ W_,W_ = wr2.alloc (.cells #[] 23) := ⟨_,rfl⟩
     have hb_ : Below wr2.heap.size wr2 wr3 := by rw [hW]; exact below_alloc (Below.refl _ _) _
     have hR_ : Kd.R (Kd.int .u64) 23 wr3 w.heap.size (fun _ => True) (.slice (some ⟨wr2.heap.size,0,none⟩) 0 0) [] := by rw [hW]; exact R_zero (below_size HB.out)
     obtain ⟨v12,hv_⟩ : ∃ y_,y_ = Value.slice (some ⟨wr2.heap.size,0,none⟩) 0 0 := ⟨_,rfl⟩
     rw [← hv_] at hR_ ⊢
     rw [← hW]
     have HVf := Aside0.mk hR_
     replace HVo := Aside0.mk (Kd.R_below HVo.out hb_)
     replace HVl := Aside0.mk (Kd.R_below HVl.out hb_)
     replace HXs := mB HXs hb_
     replace HXr := mB HXr hb_
     replace HB := mS HB hb_
     clear hW hb_ hR_ hv_
     refine hK.out _ _ ⟨(cL HXs 0 rfl),(cL HXs 1 rfl),(cL HXs 2 rfl),(cL HXs 3 rfl),(cL HXs 4 rfl)⟩ (fun hHeld => ?_)
     clear hK K
     refine norm_ (a' := ?_) ?_ ?_
     rotate_left
     ·show Act.put _ (some 15) _ = _
      simp only [Act.put,znI,zns0,zns1,i64_w,i32_w]
      rfl
     refine one_ (i := 7) (N := some 10) zn21 rfl rfl (one_of HT_.out (by kernel_rfl)) (by decide) (fun K hK => ?_)
     refine Kd.R_append_rows_step (Kd.int .i64) (w0 := w) w.heap.size (by rfl) (.tmp 7) (.tmp 9) 25 3 (.int .i64 0) 8 rfl Try.underlying25 info3 rfl (by decide) (by omega) v4 [] o _ _ _ (fun _ => True) (fun _ => False) rfl rfl ?aO ?aR (fun _ _ h => h) (fun _ h => h.elim) ?aF ?aB ?aS ?aL ?_
     (case aR => exact (TC_oC (TC_below HT.out HB.out)))
     (case aB => exact HB.out)
     (case aF => exact (fun _ _ => trivial))
     (case aO => exact HVo.out)
     (case aS => exact below_size HB.out)
     (case aL => have := HL.out; rw [List.length_nil]; omega)
     intro u7 wr4 ho_ hb_ hg_ hat_
     rw [List.nil_append] at ho_
     have hd_ := dol_on HVl.out HD.out hat_
     replace HVl := Aside0.mk (dol_row HVl.out HD.out hg_)
     replace HVf := Aside0.mk (R_other HVf.out rfl hg_ (type_ne HVo.out HVf.out (by decide)))
     replace HD := Aside0.mk (hd_)
     clear hd_
     replace HXs := Aside0.mk (blk_grown HXs.out hg_ (Kd.R_ne HVo.out HXs.out (by decide)))
     replace HXr := Aside0.mk (blk_grown HXr.out hg_ (Kd.R_ne HVo.out HXr.out (by decide)))
     replace HVo := Aside0.mk (ho_)
     replace HB := Aside0.mk (hb_)
     clear ho_ hb_ hg_ hat_
     refine hK.out _ _ ⟨(cL HXs 0 rfl),(cL HXs 1 rfl),(cL HXs 2 rfl),(cL HXs 3 rfl),(cL HXs 4 rfl)⟩ (fun hHeld => ?_)
     clear hK K
     refine norm_ (a' := ?_) ?_ ?_
     rotate_left
     ·show Act.put _ (some 10) _ = _
      simp only [Act.put,znI,zns0,zns1,i64_w,i32_w]
      rfl
     refine one_ (i := 11) (N := some 14) zn11 rfl rfl (one_of HT_.out (by kernel_rfl)) (by decide) (fun K hK => ?_)
     refine Kd.R_append_rows_step (Kd.int .i64) (w0 := w) w.heap.size (by rfl) (.tmp 11) (.tmp 13) 25 3 (.int .i64 0) 8 rfl Try.underlying25 info3 rfl (by decide) (by omega) v8 [] l _ _ _ (fun _ => True) (fun _ => False) rfl rfl ?aO ?aR (fun _ _ h => h) (fun _ h => h.elim) ?aF ?aB ?aS ?aL ?_
     (case aR => exact (TC_l (TC_below HT.out HB.out)))
     (case aB => exact HB.out)
     (case aF => exact (fun _ _ => trivial))
     (case aO => exact HVl.out)
     (case aS => exact below_size HB.out)
     (case aL => have := HL.out; rw [List.length_nil]; omega)
     intro u11 wr5 ho_ hb_ hg_ hat_
     rw [List.nil_append] at ho_
     have hd_ := dol_on HVo.out (DOL.symm HD.out) hat_
     replace HVo := Aside0.mk (dol_row HVo.out (DOL.symm HD.out) hg_)
     replace HVf := Aside0.mk (R_other HVf.out rfl hg_ (type_ne HVl.out HVf.out (by decide)))
     replace HD := Aside0.mk (DOL.symm hd_)
     clear hd_
     replace HXs := Aside0.mk (blk_grown HXs.out hg_ (Kd.R_ne HVl.out HXs.out (by decide)))
     replace HXr := Aside0.mk (blk_grown HXr.out hg_ (Kd.R_ne HVl.out HXr.out (by decide)))
     replace HVl := Aside0.mk (ho_)
     replace HB := Aside0.mk (hb_)
     clear ho_ hb_ hg_ hat_
     refine hK.out _ _ ⟨(cL HXs 0 rfl),(cL HXs 1 rfl),(cL HXs 2 rfl),(cL HXs 3 rfl),(cL HXs 4 rfl)⟩ (fun hHeld => ?_)
     clear hK K
     refine norm_ (a' := ?_) ?_ ?_
     rotate_left
     ·show Act.put _ (some 14) _ = _
      simp only [Act.put,znI,zns0,zns1,i64_w,i32_w]
      rfl
     exact norm_ (by first | (simp only [putAll,Act.put,znI,zns0,zns1]; done) | (simp only [putAll,Act.put,znI,zns0,zns1]; rfl)) (hCont (v4,v8,v12,u7,u11) _ ⟨HVo.out,HVl.out,HVf.out,HD.out,HXs.out,HXr.out,HB.out⟩)
   ·skip
    refine value_ (w1 := ?_) (v := ?_) (by rfl) rfl ?_ ?_
    rotate_left 2
    ·go_simp
     constructor
     ·rfl
     ·rfl
    obtain ⟨wr2,hW⟩ : ∃ W_,W_ = wr1.alloc (.cells #[] 23) := ⟨_,rfl⟩
    have hb_ : Below wr1.heap.size wr1 wr2 := by rw [hW]; exact below_alloc (Below.refl _ _) _
    have hR_ : Kd.R (Kd.int .u64) 23 wr2 w.heap.size (fun _ => True) (.slice (some ⟨wr1.heap.size,0,none⟩) 0 0) [] := by rw [hW]; exact R_zero (below_size HB.out)
    obtain ⟨v12,hv_⟩ : ∃ y_,y_ = Value.slice (some ⟨wr1.heap.size,0,none⟩) 0 0 := ⟨_,rfl⟩
    rw [← hv_] at hR_ ⊢
    rw [← hW]
    have HVf := Aside0.mk hR_
    replace HVl := Aside0.mk (Kd.R_below HVl.out hb_)
    replace HXs := mB HXs hb_
    replace HXr := mB HXr hb_
    replace HB := mS HB hb_
    clear hW hb_ hR_ hv_
    refine hK.out _ _ ⟨(cL HXs 0 rfl),(cL HXs 1 rfl),(cL HXs 2 rfl),(cL HXs 3 rfl),(cL HXs 4 rfl)⟩ (fun hHeld => ?_)
    clear hK K
    refine norm_ (a' := ?_) ?_ ?_
    rotate_left
    ·show Act.put _ (some 15) _ = _
     simp only [Act.put,znI,zns0,zns1,i64_w,i32_w]
     rfl
    refine one_ (i := 4) (N := some 7) zn22 rfl rfl (one_of HT_.out (by kernel_rfl)) (by decide) (fun K hK => ?_)
    refine value_ (w1 := ?_) (v := ?_) (by rfl) rfl ?_ ?_
    rotate_left 2
    ·go_simp
     constructor
     ·rfl
     ·rfl
    obtain ⟨wr3,hW⟩ : ∃ W_,W_ = wr2.alloc (.cells #[] 3) := ⟨_,rfl⟩
    have hb_ : Below wr2.heap.size wr2 wr3 := by rw [hW]; exact below_alloc (Below.refl _ _) _
    have hR_ : Kd.R (Kd.int .i64) 3 wr3 w.heap.size (fun _ => True) (.slice (some ⟨wr2.heap.size,0,none⟩) 0 0) [] := by rw [hW]; exact R_zero (below_size HB.out)
    have hd_ := dol_new (n := 0) (c := 0) HVl.out
    obtain ⟨v4,hv_⟩ : ∃ y_,y_ = Value.slice (some ⟨wr2.heap.size,0,none⟩) 0 0 := ⟨_,rfl⟩
    rw [← hv_] at hR_ ⊢
    rw [← hv_] at hd_
    have HD := Aside0.mk (DOL.symm hd_)
    clear hd_
    rw [← hW]
    have HVo := Aside0.mk hR_
    replace HVl := Aside0.mk (Kd.R_below HVl.out hb_)
    replace HVf := Aside0.mk (Kd.R_below HVf.out hb_)
    replace HXs := mB HXs hb_
    replace HXr := mB HXr hb_
    replace HB := mS HB hb_
    clear hW hb_ hR_ hv_
    refine hK.out _ _ ⟨(cL HXs 0 rfl),(cL HXs 1 rfl),(cL HXs 2 rfl),(cL HXs 3 rfl),(cL HXs 4 rfl)⟩ (fun hHeld => ?_)
    clear hK K
    refine norm_ (a' := ?_) ?_ ?_
    rotate_left
    ·show Act.put _ (some 7) _ = _
     simp only [Act.put,znI,zns0,zns1,i64_w,i32_w]
     rfl
    refine one_ (i := 7) (N := some 10) zn21 rfl rfl (one_of HT_.out (by kernel_rfl)) (by decide) (fun K hK => ?_)
    refine Kd.R_append_rows_step (Kd.int .i64) (w0 := w) w.heap.size (by rfl) (.tmp 7) (.tmp 9) 25 3 (.int .i64 0) 8 rfl Try.underlying25 info3 rfl (by decide) (by omega) v4 [] o _ _ _ (fun _ => True) (fun _ => False) rfl rfl ?aO ?aR (fun _ _ h => h) (fun _ h => h.elim) ?aF ?aB ?aS ?aL ?_
    (case aR => exact (TC_oC (TC_below HT.out HB.out)))
    (case aB => exact HB.out)
    (case aF => exact (fun _ _ => trivial))
    (case aO => exact HVo.out)
    (case aS => exact below_size HB.out)
    (case aL => have := HL.out; rw [List.length_nil]; omega)
    intro u7 wr4 ho_ hb_ hg_ hat_
    rw [List.nil_append] at ho_
    have hd_ := dol_on HVl.out HD.out hat_
    replace HVl := Aside0.mk (dol_row HVl.out HD.out hg_)
    replace HVf := Aside0.mk (R_other HVf.out rfl hg_ (type_ne HVo.out HVf.out (by decide)))
    replace HD := Aside0.mk (hd_)
    clear hd_
    replace HXs := Aside0.mk (blk_grown HXs.out hg_ (Kd.R_ne HVo.out HXs.out (by decide)))
    replace HXr := Aside0.mk (blk_grown HXr.out hg_ (Kd.R_ne HVo.out HXr.out (by decide)))
    replace HVo := Aside0.mk (ho_)
    replace HB := Aside0.mk (hb_)
    clear ho_ hb_ hg_ hat_
    refine hK.out _ _ ⟨(cL HXs 0 rfl),(cL HXs 1 rfl),(cL HXs 2 rfl),(cL HXs 3 rfl),(cL HXs 4 rfl)⟩ (fun hHeld => ?_)
    clear hK K
    refine norm_ (a' := ?_) ?_ ?_
    rotate_left
    ·show Act.put _ (some 10) _ = _
     simp only [Act.put,znI,zns0,zns1,i64_w,i32_w]
     rfl
    refine one_ (i := 11) (N := some 14) zn11 rfl rfl (one_of HT_.out (by kernel_rfl)) (by decide) (fun K hK => ?_)
    refine Kd.R_append_rows_step (Kd.int .i64) (w0 := w) w.heap.size (by rfl) (.tmp 11) (.tmp 13) 25 3 (.int .i64 0) 8 rfl Try.underlying25 info3 rfl (by decide) (by omega) v8 [] l _ _ _ (fun _ => True) (fun _ => False) rfl rfl ?aO ?aR (fun _ _ h => h) (fun _ h => h.elim) ?aF ?aB ?aS ?aL ?_
    (case aR => exact (TC_l (TC_below HT.out HB.out)))
    (case aB => exact HB.out)
    (case aF => exact (fun _ _ => trivial))
    (case aO => exact HVl.out)
    (case aS => exact below_size HB.out)
    (case aL => have := HL.out; rw [List.length_nil]; omega)
    intro u11 wr5 ho_ hb_ hg_ hat_
    rw [List.nil_append] at ho_
    have hd_ := dol_on HVo.out (DOL.symm HD.out) hat_
    replace HVo := Aside0.mk (dol_row HVo.out (DOL.symm HD.out) hg_)
    replace HVf := Aside0.mk (R_other HVf.out rfl hg_ (type_ne HVl.out HVf.out (by decide)))
    replace HD := Aside0.mk (DOL.symm hd_)
    clear hd_
    replace HXs := Aside0.mk (blk_grown HXs.out hg_ (Kd.R_ne HVl.out HXs.out (by decide)))
    replace HXr := Aside0.mk (blk_grown HXr.out hg_ (Kd.R_ne HVl.out HXr.out (by decide)))
    replace HVl := Aside0.mk (ho_)
    replace HB := Aside0.mk (hb_)
    clear ho_ hb_ hg_ hat_
    refine hK.out _ _ ⟨(cL HXs 0 rfl),(cL HXs 1 rfl),(cL HXs 2 rfl),(cL HXs 3 rfl),(cL HXs 4 rfl)⟩ (fun hHeld => ?_)
    clear hK K
    refine norm_ (a' := ?_) ?_ ?_
    rotate_left
    ·show Act.put _ (some 14) _ = _
     simp only [Act.put,znI,zns0,zns1,i64_w,i32_w]
     rfl
    exact norm_ (by first | (simp only [putAll,Act.put,znI,zns0,zns1]; done) | (simp only [putAll,Act.put,znI,zns0,zns1]; rfl)) (hCont (v4,v8,v12,u7,u11) _ ⟨HVo.out,HVl.out,HVf.out,HD.out,HXs.out,HXr.out,HB.out⟩)
  ·skip
   refine value_ (w1 := ?_) (v := ?_) (by rfl) rfl ?_ ?_
   rotate_left 2
   ·go_simp
    constructor
    ·rfl
    ·rfl
   obtain ⟨wr1,hW⟩ : ∃ W_,W_ = wd1.alloc (.cells #[] 23) := ⟨_,rfl⟩
   have hb_ : Below wd1.heap.size wd1 wr1 := by rw [hW]; exact below_alloc (Below.refl _ _) _
   have hR_ : Kd.R (Kd.int .u64) 23 wr1 w.heap.size (fun _ => True) (.slice (some ⟨wd1.heap.size,0,none⟩) 0 0) [] := by rw [hW]; exact R_zero (below_size HB.out)
   obtain ⟨v12,hv_⟩ : ∃ y_,y_ = Value.slice (some ⟨wd1.heap.size,0,none⟩) 0 0 := ⟨_,rfl⟩
   rw [← hv_] at hR_ ⊢
   rw [← hW]
   have HVf := Aside0.mk hR_
   replace HXs := mB HXs hb_
   replace HXr := mB HXr hb_
   replace HB := mS HB hb_
   clear hW hb_ hR_ hv_
   refine hK.out _ _ ⟨(cL HXs 0 rfl),(cL HXs 1 rfl),(cL HXs 2 rfl),(cL HXs 3 rfl),(cL HXs 4 rfl)⟩ (fun hHeld => ?_)
   clear hK K
   refine norm_ (a' := ?_) ?_ ?_
   rotate_left
   ·show Act.put _ (some 15) _ = _
    simp only [Act.put,znI,zns0,zns1,i64_w,i32_w]
    rfl
   refine two_ (i := 4) (j := 8) (Ni := some 7) (Nj := some 11) zn17 zn23 rfl rfl rfl rfl (two_of HT_.out (by kernel_rfl)) (by decide) (by decide) (fun K hK => ?_) (fun K hK => ?_)
   ·skip
    refine value_ (w1 := ?_) (v := ?_) (by rfl) rfl ?_ ?_
    rotate_left 2
    ·go_simp
     constructor
     ·rfl
     ·rfl
    obtain ⟨wr2,hW⟩ : ∃ W_,W_ = wr1.alloc (.cells #[] 3) := ⟨_,rfl⟩
    have hb_ : Below wr1.heap.size wr1 wr2 := by rw [hW]; exact below_alloc (Below.refl _ _) _
    have hR_ : Kd.R (Kd.int .i64) 3 wr2 w.heap.size (fun _ => True) (.slice (some ⟨wr1.heap.size,0,none⟩) 0 0) [] := by rw [hW]; exact R_zero (below_size HB.out)
    obtain ⟨v4,hv_⟩ : ∃ y_,y_ = Value.slice (some ⟨wr1.heap.size,0,none⟩) 0 0 := ⟨_,rfl⟩
    rw [← hv_] at hR_ ⊢
    rw [← hW]
    have HVo := Aside0.mk hR_
    replace HVf := Aside0.mk (Kd.R_below HVf.out hb_)
    replace HXs := mB HXs hb_
    replace HXr := mB HXr hb_
    replace HB := mS HB hb_
    clear hW hb_ hR_ hv_
    refine hK.out _ _ ⟨(cL HXs 0 rfl),(cL HXs 1 rfl),(cL HXs 2 rfl),(cL HXs 3 rfl),(cL HXs 4 rfl)⟩ (fun hHeld => ?_)
    clear hK K
    refine norm_ (a' := ?_) ?_ ?_
    rotate_left
    ·show Act.put _ (some 7) _ = _
     simp only [Act.put,znI,zns0,zns1,i64_w,i32_w]
     rfl
    refine two_ (i := 7) (j := 8) (Ni := some 10) (Nj := some 11) zn19 zn22 rfl rfl rfl rfl (two_of HT_.out (by kernel_rfl)) (by decide) (by decide) (fun K hK => ?_) (fun K hK => ?_)
    ·skip
     refine Kd.R_append_rows_step (Kd.int .i64) (w0 := w) w.heap.size (by rfl) (.tmp 7) (.tmp 9) 25 3 (.int .i64 0) 8 rfl Try.underlying25 info3 rfl (by decide) (by omega) v4 [] o _ _ _ (fun _ => True) (fun _ => False) rfl rfl ?aO ?aR (fun _ _ h => h) (fun _ h => h.elim) ?aF ?aB ?aS ?aL ?_
     (case aR => exact (TC_oC (TC_below HT.out HB.out)))
     (case aB => exact HB.out)
     (case aF => exact (fun _ _ => trivial))
     (case aO => exact HVo.out)
     (case aS => exact below_size HB.out)
     (case aL => have := HL.out; rw [List.length_nil]; omega)
     intro u7 wr3 ho_ hb_ hg_ hat_
     rw [List.nil_append] at ho_
     replace HVf := Aside0.mk (R_other HVf.out rfl hg_ (type_ne HVo.out HVf.out (by decide)))
     replace HXs := Aside0.mk (blk_grown HXs.out hg_ (Kd.R_ne HVo.out HXs.out (by decide)))
     replace HXr := Aside0.mk (blk_grown HXr.out hg_ (Kd.R_ne HVo.out HXr.out (by decide)))
     replace HVo := Aside0.mk (ho_)
     replace HB := Aside0.mk (hb_)
     clear ho_ hb_ hg_ hat_
     refine hK.out _ _ ⟨(cL HXs 0 rfl),(cL HXs 1 rfl),(cL HXs 2 rfl),(cL HXs 3 rfl),(cL HXs 4 rfl)⟩ (fun hHeld => ?_)
     clear hK K
     refine norm_ (a' := ?_) ?_ ?_
     rotate_left
     ·show Act.put _ (some 10) _ = _
      simp only [Act.put,znI,zns0,zns1,i64_w,i32_w]
      rfl
     refine one_ (i := 8) (N := some 11) zn21 rfl rfl (one_of HT_.out (by kernel_rfl)) (by decide) (fun K hK => ?_)
     refine value_ (w1 := ?_) (v := ?_) (by rfl) rfl ?_ ?_
     rotate_left 2
     ·go_simp
      constructor
      ·rfl
      ·rfl
     obtain ⟨wr4,hW⟩ : ∃ W_,W_ = wr3.alloc (.cells #[] 3) := ⟨_,rfl⟩
     have hb_ : Below wr3.heap.size wr3 wr4 := by rw [hW]; exact below_alloc (Below.refl _ _) _
     have hR_ : Kd.R (Kd.int .i64) 3 wr4 w.heap.size (fun _ => True) (.slice (some ⟨wr3.heap.size,0,none⟩) 0 0) [] := by rw [hW]; exact R_zero (below_size HB.out)
     have hd_ := dol_new (n := 0) (c := 0) HVo.out
     obtain ⟨v8,hv_⟩ : ∃ y_,y_ = Value.slice (some ⟨wr3.heap.size,0,none⟩) 0 0 := ⟨_,rfl⟩
     rw [← hv_] at hR_ ⊢
     rw [← hv_] at hd_
     have HD := Aside0.mk (hd_)
     clear hd_
     rw [← hW]
     have HVl := Aside0.mk hR_
     replace HVo := Aside0.mk (Kd.R_below HVo.out hb_)
     replace HVf := Aside0.mk (Kd.R_below HVf.out hb_)
     replace HXs := mB HXs hb_
     replace HXr := mB HXr hb_
     replace HB := mS HB hb_
     clear hW hb_ hR_ hv_
     refine hK.out _ _ ⟨(cL HXs 0 rfl),(cL HXs 1 rfl),(cL HXs 2 rfl),(cL HXs 3 rfl),(cL HXs 4 rfl)⟩ (fun hHeld => ?_)
     clear hK K
     refine norm_ (a' := ?_) ?_ ?_
     rotate_left
     ·show Act.put _ (some 11) _ = _
      simp only [Act.put,znI,zns0,zns1,i64_w,i32_w]
      rfl
     refine one_ (i := 11) (N := some 14) zn11 rfl rfl (one_of HT_.out (by kernel_rfl)) (by decide) (fun K hK => ?_)
     refine Kd.R_append_rows_step (Kd.int .i64) (w0 := w) w.heap.size (by rfl) (.tmp 11) (.tmp 13) 25 3 (.int .i64 0) 8 rfl Try.underlying25 info3 rfl (by decide) (by omega) v8 [] l _ _ _ (fun _ => True) (fun _ => False) rfl rfl ?aO ?aR (fun _ _ h => h) (fun _ h => h.elim) ?aF ?aB ?aS ?aL ?_
     (case aR => exact (TC_l (TC_below HT.out HB.out)))
     (case aB => exact HB.out)
     (case aF => exact (fun _ _ => trivial))
     (case aO => exact HVl.out)
     (case aS => exact below_size HB.out)
     (case aL => have := HL.out; rw [List.length_nil]; omega)
     intro u11 wr5 ho_ hb_ hg_ hat_
     rw [List.nil_append] at ho_
     have hd_ := dol_on HVo.out (DOL.symm HD.out) hat_
     replace HVo := Aside0.mk (dol_row HVo.out (DOL.symm HD.out) hg_)
     replace HVf := Aside0.mk (R_other HVf.out rfl hg_ (type_ne HVl.out HVf.out (by decide)))
     replace HD := Aside0.mk (DOL.symm hd_)
     clear hd_
     replace HXs := Aside0.mk (blk_grown HXs.out hg_ (Kd.R_ne HVl.out HXs.out (by decide)))
     replace HXr := Aside0.mk (blk_grown HXr.out hg_ (Kd.R_ne HVl.out HXr.out (by decide)))
     replace HVl := Aside0.mk (ho_)
     replace HB := Aside0.mk (hb_)
     clear ho_ hb_ hg_ hat_
     refine hK.out _ _ ⟨(cL HXs 0 rfl),(cL HXs 1 rfl),(cL HXs 2 rfl),(cL HXs 3 rfl),(cL HXs 4 rfl)⟩ (fun hHeld => ?_)
     clear hK K
     refine norm_ (a' := ?_) ?_ ?_
     rotate_left
     ·show Act.put _ (some 14) _ = _
      simp only [Act.put,znI,zns0,zns1,i64_w,i32_w]
      rfl
     exact norm_ (by first | (simp only [putAll,Act.put,znI,zns0,zns1]; done) | (simp only [putAll,Act.put,znI,zns0,zns1]; rfl)) (hCont (v4,v8,v12,u7,u11) _ ⟨HVo.out,HVl.out,HVf.out,HD.out,HXs.out,HXr.out,HB.out⟩)
    ·skip
     refine value_ (w1 := ?_) (v := ?_) (by rfl) rfl ?_ ?_
     rotate_left 2
     ·go_simp
      constructor
      ·rfl
      ·rfl
     obtain ⟨wr3,hW⟩ : ∃ W_,W_ = wr2.alloc (.cells #[] 3) := ⟨_,rfl⟩
     have hb_ : Below wr2.heap.size wr2 wr3 := by rw [hW]; exact below_alloc (Below.refl _ _) _
     have hR_ : Kd.R (Kd.int .i64) 3 wr3 w.heap.size (fun _ => True) (.slice (some ⟨wr2.heap.size,0,none⟩) 0 0) [] := by rw [hW]; exact R_zero (below_size HB.out)
     have hd_ := dol_new (n := 0) (c := 0) HVo.out
     obtain ⟨v8,hv_⟩ : ∃ y_,y_ = Value.slice (some ⟨wr2.heap.size,0,none⟩) 0 0 := ⟨_,rfl⟩
     rw [← hv_] at hR_ ⊢
     rw [← hv_] at hd_
     have HD := Aside0.mk (hd_)
     clear hd_
     rw [← hW]
     have HVl := Aside0.mk hR_
     replace HVo := Aside0.mk (Kd.R_below HVo.out hb_)
     replace HVf := Aside0.mk (Kd.R_below HVf.out hb_)
     replace HXs := mB HXs hb_
     replace HXr := mB HXr hb_
     replace HB := mS HB hb_
     clear hW hb_ hR_ hv_
     refine hK.out _ _ ⟨(cL HXs 0 rfl),(cL HXs 1 rfl),(cL HXs 2 rfl),(cL HXs 3 rfl),(cL HXs 4 rfl)⟩ (fun hHeld => ?_)
     clear hK K
     refine norm_ (a' := ?_) ?_ ?_
     rotate_left
     ·show Act.put _ (some 11) _ = _
      simp only [Act.put,znI,zns0,zns1,i64_w,i32_w]
      rfl
     refine one_ (i := 7) (N := some 10) zn21 rfl rfl (one_of HT_.out (by kernel_rfl)) (by decide) (fun K hK => ?_)
     refine Kd.R_append_rows_step (Kd.int .i64) (w0 := w) w.heap.size (by rfl) (.tmp 7) (.tmp 9) 25 3 (.int .i64 0) 8 rfl Try.underlying25 info3 rfl (by decide) (by omega) v4 [] o _ _ _ (fun _ => True) (fun _ => False) rfl rfl ?aO ?aR (fun _ _ h => h) (fun _ h => h.elim) ?aF ?aB ?aS ?aL ?_
     (case aR => exact (TC_oC (TC_below HT.out HB.out)))
     (case aB => exact HB.out)
     (case aF => exact (fun _ _ => trivial))
     (case aO => exact HVo.out)
     (case aS => exact below_size HB.out)
     (case aL => have := HL.out; rw [List.length_nil]; omega)
     intro u7 wr4 ho_ hb_ hg_ hat_
     rw [List.nil_append] at ho_
     have hd_ := dol_on HVl.out HD.out hat_
     replace HVl := Aside0.mk (dol_row HVl.out HD.out hg_)
     replace HVf := Aside0.mk (R_other HVf.out rfl hg_ (type_ne HVo.out HVf.out (by decide)))
     replace HD := Aside0.mk (hd_)
     clear hd_
     replace HXs := Aside0.mk (blk_grown HXs.out hg_ (Kd.R_ne HVo.out HXs.out (by decide)))
     replace HXr := Aside0.mk (blk_grown HXr.out hg_ (Kd.R_ne HVo.out HXr.out (by decide)))
     replace HVo := Aside0.mk (ho_)
     replace HB := Aside0.mk (hb_)
     clear ho_ hb_ hg_ hat_
     refine hK.out _ _ ⟨(cL HXs 0 rfl),(cL HXs 1 rfl),(cL HXs 2 rfl),(cL HXs 3 rfl),(cL HXs 4 rfl)⟩ (fun hHeld => ?_)
     clear hK K
     refine norm_ (a' := ?_) ?_ ?_
     rotate_left
     ·show Act.put _ (some 10) _ = _
      simp only [Act.put,znI,zns0,zns1,i64_w,i32_w]
      rfl
     refine one_ (i := 11) (N := some 14) zn11 rfl rfl (one_of HT_.out (by kernel_rfl)) (by decide) (fun K hK => ?_)
     refine Kd.R_append_rows_step (Kd.int .i64) (w0 := w) w.heap.size (by rfl) (.tmp 11) (.tmp 13) 25 3 (.int .i64 0) 8 rfl Try.underlying25 info3 rfl (by decide) (by omega) v8 [] l _ _ _ (fun _ => True) (fun _ => False) rfl rfl ?aO ?aR (fun _ _ h => h) (fun _ h => h.elim) ?aF ?aB ?aS ?aL ?_
     (case aR => exact (TC_l (TC_below HT.out HB.out)))
     (case aB => exact HB.out)
     (case aF => exact (fun _ _ => trivial))
     (case aO => exact HVl.out)
     (case aS => exact below_size HB.out)
     (case aL => have := HL.out; rw [List.length_nil]; omega)
     intro u11 wr5 ho_ hb_ hg_ hat_
     rw [List.nil_append] at ho_
     have hd_ := dol_on HVo.out (DOL.symm HD.out) hat_
     replace HVo := Aside0.mk (dol_row HVo.out (DOL.symm HD.out) hg_)
     replace HVf := Aside0.mk (R_other HVf.out rfl hg_ (type_ne HVl.out HVf.out (by decide)))
     replace HD := Aside0.mk (DOL.symm hd_)
     clear hd_
     replace HXs := Aside0.mk (blk_grown HXs.out hg_ (Kd.R_ne HVl.out HXs.out (by decide)))
     replace HXr := Aside0.mk (blk_grown HXr.out hg_ (Kd.R_ne HVl.out HXr.out (by decide)))
     replace HVl := Aside0.mk (ho_)
     replace HB := Aside0.mk (hb_)
     clear ho_ hb_ hg_ hat_
     refine hK.out _ _ ⟨(cL HXs 0 rfl),(cL HXs 1 rfl),(cL HXs 2 rfl),(cL HXs 3 rfl),(cL HXs 4 rfl)⟩ (fun hHeld => ?_)
     clear hK K
     refine norm_ (a' := ?_) ?_ ?_
     rotate_left
     ·show Act.put _ (some 14) _ = _
      simp only [Act.put,znI,zns0,zns1,i64_w,i32_w]
      rfl
     exact norm_ (by first | (simp only [putAll,Act.put,znI,zns0,zns1]; done) | (simp only [putAll,Act.put,znI,zns0,zns1]; rfl)) (hCont (v4,v8,v12,u7,u11) _ ⟨HVo.out,HVl.out,HVf.out,HD.out,HXs.out,HXr.out,HB.out⟩)
   ·skip
    refine value_ (w1 := ?_) (v := ?_) (by rfl) rfl ?_ ?_
    rotate_left 2
    ·go_simp
     constructor
     ·rfl
     ·rfl
    obtain ⟨wr2,hW⟩ : ∃ W_,W_ = wr1.alloc (.cells #[] 3) := ⟨_,rfl⟩
    have hb_ : Below wr1.heap.size wr1 wr2 := by rw [hW]; exact below_alloc (Below.refl _ _) _
    have hR_ : Kd.R (Kd.int .i64) 3 wr2 w.heap.size (fun _ => True) (.slice (some ⟨wr1.heap.size,0,none⟩) 0 0) [] := by rw [hW]; exact R_zero (below_size HB.out)
    obtain ⟨v8,hv_⟩ : ∃ y_,y_ = Value.slice (some ⟨wr1.heap.size,0,none⟩) 0 0 := ⟨_,rfl⟩
    rw [← hv_] at hR_ ⊢
    rw [← hW]
    have HVl := Aside0.mk hR_
    replace HVf := Aside0.mk (Kd.R_below HVf.out hb_)
    replace HXs := mB HXs hb_
    replace HXr := mB HXr hb_
    replace HB := mS HB hb_
    clear hW hb_ hR_ hv_
    refine hK.out _ _ ⟨(cL HXs 0 rfl),(cL HXs 1 rfl),(cL HXs 2 rfl),(cL HXs 3 rfl),(cL HXs 4 rfl)⟩ (fun hHeld => ?_)
    clear hK K
    refine norm_ (a' := ?_) ?_ ?_
    rotate_left
    ·show Act.put _ (some 11) _ = _
     simp only [Act.put,znI,zns0,zns1,i64_w,i32_w]
     rfl
    refine one_ (i := 4) (N := some 7) zn22 rfl rfl (one_of HT_.out (by kernel_rfl)) (by decide) (fun K hK => ?_)
    refine value_ (w1 := ?_) (v := ?_) (by rfl) rfl ?_ ?_
    rotate_left 2
    ·go_simp
     constructor
     ·rfl
     ·rfl
    obtain ⟨wr3,hW⟩ : ∃ W_,W_ = wr2.alloc (.cells #[] 3) := ⟨_,rfl⟩
    have hb_ : Below wr2.heap.size wr2 wr3 := by rw [hW]; exact below_alloc (Below.refl _ _) _
    have hR_ : Kd.R (Kd.int .i64) 3 wr3 w.heap.size (fun _ => True) (.slice (some ⟨wr2.heap.size,0,none⟩) 0 0) [] := by rw [hW]; exact R_zero (below_size HB.out)
    have hd_ := dol_new (n := 0) (c := 0) HVl.out
    obtain ⟨v4,hv_⟩ : ∃ y_,y_ = Value.slice (some ⟨wr2.heap.size,0,none⟩) 0 0 := ⟨_,rfl⟩
    rw [← hv_] at hR_ ⊢
    rw [← hv_] at hd_
    have HD := Aside0.mk (DOL.symm hd_)
    clear hd_
    rw [← hW]
    have HVo := Aside0.mk hR_
    replace HVl := Aside0.mk (Kd.R_below HVl.out hb_)
    replace HVf := Aside0.mk (Kd.R_below HVf.out hb_)
    replace HXs := mB HXs hb_
    replace HXr := mB HXr hb_
    replace HB := mS HB hb_
    clear hW hb_ hR_ hv_
    refine hK.out _ _ ⟨(cL HXs 0 rfl),(cL HXs 1 rfl),(cL HXs 2 rfl),(cL HXs 3 rfl),(cL HXs 4 rfl)⟩ (fun hHeld => ?_)
    clear hK K
    refine norm_ (a' := ?_) ?_ ?_
    rotate_left
    ·show Act.put _ (some 7) _ = _
     simp only [Act.put,znI,zns0,zns1,i64_w,i32_w]
     rfl
    refine one_ (i := 7) (N := some 10) zn21 rfl rfl (one_of HT_.out (by kernel_rfl)) (by decide) (fun K hK => ?_)
    refine Kd.R_append_rows_step (Kd.int .i64) (w0 := w) w.heap.size (by rfl) (.tmp 7) (.tmp 9) 25 3 (.int .i64 0) 8 rfl Try.underlying25 info3 rfl (by decide) (by omega) v4 [] o _ _ _ (fun _ => True) (fun _ => False) rfl rfl ?aO ?aR (fun _ _ h => h) (fun _ h => h.elim) ?aF ?aB ?aS ?aL ?_
    (case aR => exact (TC_oC (TC_below HT.out HB.out)))
    (case aB => exact HB.out)
    (case aF => exact (fun _ _ => trivial))
    (case aO => exact HVo.out)
    (case aS => exact below_size HB.out)
    (case aL => have := HL.out; rw [List.length_nil]; omega)
    intro u7 wr4 ho_ hb_ hg_ hat_
    rw [List.nil_append] at ho_
    have hd_ := dol_on HVl.out HD.out hat_
    replace HVl := Aside0.mk (dol_row HVl.out HD.out hg_)
    replace HVf := Aside0.mk (R_other HVf.out rfl hg_ (type_ne HVo.out HVf.out (by decide)))
    replace HD := Aside0.mk (hd_)
    clear hd_
    replace HXs := Aside0.mk (blk_grown HXs.out hg_ (Kd.R_ne HVo.out HXs.out (by decide)))
    replace HXr := Aside0.mk (blk_grown HXr.out hg_ (Kd.R_ne HVo.out HXr.out (by decide)))
    replace HVo := Aside0.mk (ho_)
    replace HB := Aside0.mk (hb_)
    clear ho_ hb_ hg_ hat_
    refine hK.out _ _ ⟨(cL HXs 0 rfl),(cL HXs 1 rfl),(cL HXs 2 rfl),(cL HXs 3 rfl),(cL HXs 4 rfl)⟩ (fun hHeld => ?_)
    clear hK K
    refine norm_ (a' := ?_) ?_ ?_
    rotate_left
    ·show Act.put _ (some 10) _ = _
     simp only [Act.put,znI,zns0,zns1,i64_w,i32_w]
     rfl
    refine one_ (i := 11) (N := some 14) zn11 rfl rfl (one_of HT_.out (by kernel_rfl)) (by decide) (fun K hK => ?_)
    refine Kd.R_append_rows_step (Kd.int .i64) (w0 := w) w.heap.size (by rfl) (.tmp 11) (.tmp 13) 25 3 (.int .i64 0) 8 rfl Try.underlying25 info3 rfl (by decide) (by omega) v8 [] l _ _ _ (fun _ => True) (fun _ => False) rfl rfl ?aO ?aR (fun _ _ h => h) (fun _ h => h.elim) ?aF ?aB ?aS ?aL ?_
    (case aR => exact (TC_l (TC_below HT.out HB.out)))
    (case aB => exact HB.out)
    (case aF => exact (fun _ _ => trivial))
    (case aO => exact HVl.out)
    (case aS => exact below_size HB.out)
    (case aL => have := HL.out; rw [List.length_nil]; omega)
    intro u11 wr5 ho_ hb_ hg_ hat_
    rw [List.nil_append] at ho_
    have hd_ := dol_on HVo.out (DOL.symm HD.out) hat_
    replace HVo := Aside0.mk (dol_row HVo.out (DOL.symm HD.out) hg_)
    replace HVf := Aside0.mk (R_other HVf.out rfl hg_ (type_ne HVl.out HVf.out (by decide)))
    replace HD := Aside0.mk (DOL.symm hd_)
    clear hd_
    replace HXs := Aside0.mk (blk_grown HXs.out hg_ (Kd.R_ne HVl.out HXs.out (by decide)))
    replace HXr := Aside0.mk (blk_grown HXr.out hg_ (Kd.R_ne HVl.out HXr.out (by decide)))
    replace HVl := Aside0.mk (ho_)
    replace HB := Aside0.mk (hb_)
    clear ho_ hb_ hg_ hat_
    refine hK.out _ _ ⟨(cL HXs 0 rfl),(cL HXs 1 rfl),(cL HXs 2 rfl),(cL HXs 3 rfl),(cL HXs 4 rfl)⟩ (fun hHeld => ?_)
    clear hK K
    refine norm_ (a' := ?_) ?_ ?_
    rotate_left
    ·show Act.put _ (some 14) _ = _
     simp only [Act.put,znI,zns0,zns1,i64_w,i32_w]
     rfl
    exact norm_ (by first | (simp only [putAll,Act.put,znI,zns0,zns1]; done) | (simp only [putAll,Act.put,znI,zns0,zns1]; rfl)) (hCont (v4,v8,v12,u7,u11) _ ⟨HVo.out,HVl.out,HVf.out,HD.out,HXs.out,HXr.out,HB.out⟩)
 rintro ⟨v4,v8,v12,u7,u11⟩ w3 ⟨h1,h2,h3,h4,h5,h6,h7⟩
 dsimp only at h1 h2 h3 h4
 clear HXs HXr HB
 have HVo := Aside0.mk h1
 have HVl := Aside0.mk h2
 have HVf := Aside0.mk h3
 have HD := Aside0.mk h4
 have HXs := Aside0.mk h5
 have HXr := Aside0.mk h6
 have HB := Aside0.mk h7
 clear h1 h2 h3 h4 h5 h6 h7
 have hHeld : (fun w' => w'.cell? ⟨gs,0,none⟩ = some (.int .i64 g) ∧ w'.cell? ⟨gs,1,none⟩ = some (.int .i64 s) ∧ w'.cell? ⟨gs,2,none⟩ = some (.slice Ao o.length co) ∧ w'.cell? ⟨gs,3,none⟩ = some (.slice Al l.length cl) ∧ w'.cell? ⟨gs,4,none⟩ = some (.slice Af f.length cf)) w3 := ⟨(cL HXs 0 rfl),(cL HXs 1 rfl),(cL HXs 2 rfl),(cL HXs 3 rfl),(cL HXs 4 rfl)⟩
 refine norm_ (a' := ?_) ?_ ?_
 rotate_left
 ·simp only [putAll,Act.put,znI,zns0,zns1]
  rfl
 refine one_ (i := 15) (N := some 18) zn24 rfl rfl (one_of HT_.out (by kernel_rfl)) (by decide) (fun K hK => ?_)
 refine Kd.R_append_rows_step (Kd.int .u64) (w0 := w) w.heap.size (by rfl) (.tmp 15) (.tmp 17) 26 23 (.int .u64 0) 8 rfl Try.underlying26 info23 rfl (by decide) (by omega) v12 [] f _ _ _ (fun _ => True) (fun _ => False) rfl rfl ?aO ?aR (fun _ _ h => h) (fun _ h => h.elim) ?aF ?aB ?aS ?aL ?_
 (case aR => exact (TC_f (TC_below HT.out HB.out)))
 (case aB => exact HB.out)
 (case aF => exact (fun _ _ => trivial))
 (case aO => exact HVf.out)
 (case aS => exact below_size HB.out)
 (case aL => have := HL.out; rw [List.length_nil]; omega)
 intro u15 wr6 ho_ hb_ hg_ hat_
 rw [List.nil_append] at ho_
 replace HVo := Aside0.mk (R_other HVo.out rfl hg_ (type_ne HVf.out HVo.out (by decide)))
 replace HVl := Aside0.mk (R_other HVl.out rfl hg_ (type_ne HVf.out HVl.out (by decide)))
 replace HXs := Aside0.mk (blk_grown HXs.out hg_ (Kd.R_ne HVf.out HXs.out (by decide)))
 replace HXr := Aside0.mk (blk_grown HXr.out hg_ (Kd.R_ne HVf.out HXr.out (by decide)))
 replace HVf := Aside0.mk (ho_)
 replace HB := Aside0.mk (hb_)
 clear ho_ hb_ hg_ hat_
 obtain ⟨A1,d1,e1⟩ := Kd.R_slice HVo.out
 obtain ⟨A2,d2,e2⟩ := Kd.R_slice HVl.out
 obtain ⟨A3,d3,e3⟩ := Kd.R_slice HVf.out
 subst e1 e2 e3
 refine hK.out _ _ ⟨(cL HXs 0 rfl),(cL HXs 1 rfl),(cL HXs 2 rfl),(cL HXs 3 rfl),(cL HXs 4 rfl)⟩ (fun hHeld => ?_)
 clear hK K
 refine norm_ (a' := ?_) ?_ ?_
 rotate_left
 ·show Act.put _ (some 18) _ = _
  simp only [Act.put,znI,zns0,zns1,i64_w,i32_w]
  rfl
 refine pure_ (i := 16) (N := some 19) (v := ?_) (a' := ?_) zn25 rfl rfl (any_of HT_.out (by kernel_rfl)) (fun _ _ _ h => h) (Or.inl ⟨by rfl,?_⟩) ?_ ?_
 rotate_left
 ·intro w'
  go_simp
  with_reducible rfl
 rotate_left
 ·simp only [Act.put,znI,zns0,zns1,i64_w,i32_w]
  rfl
 refine last_ (i := 17) (N := none) zn26 rfl rfl (one_of HT_.out (by kernel_rfl)) (by decide) (fun K hK => ?_)
 have r_0 : wr6.cell? ⟨gr,0,none⟩ = some (.int .i64 0) := cL HXr 0 rfl
 have r_1 : wr6.cell? ⟨gr,1,none⟩ = some (.int .i64 0) := cL HXr 1 rfl
 have r_2 : wr6.cell? ⟨gr,2,none⟩ = some (.slice none 0 0) := cL HXr 2 rfl
 have r_3 : wr6.cell? ⟨gr,3,none⟩ = some (.slice none 0 0) := cL HXr 3 rfl
 have r_4 : wr6.cell? ⟨gr,4,none⟩ = some (.slice none 0 0) := cL HXr 4 rfl
 have rf_0 := blk_frozen HXr.out 0
 have rf_1 := blk_frozen HXr.out 1
 have rf_2 := blk_frozen HXr.out 2
 have rf_3 := blk_frozen HXr.out 3
 have rf_4 := blk_frozen HXr.out 4
 refine skip_ (w1 := ?_) (by rfl) rfl ?_ ?_
 rotate_left
 ·go_simp
  rfl
 clear r_0 r_1 r_2 r_3 r_4 rf_0 rf_1 rf_2 rf_3 rf_4
 obtain ⟨W7,hW⟩ : ∃ W_,W_ = (((((wr6.setCell ⟨gr,0,none⟩ (.int .i64 g)).setCell ⟨gr,1,none⟩ (.int .i64 s)).setCell ⟨gr,2,none⟩ (.slice A1 o.length d1)).setCell ⟨gr,3,none⟩ (.slice A2 l.length d2)).setCell ⟨gr,4,none⟩ (.slice A3 f.length d3)) := ⟨_,rfl⟩
 rw [← hW]
 refine hK.out _ _ ?_
 clear hK K
 refine done_ (done_of HT_.out (by kernel_rfl)) ?_
 clear HT_ HW_ hHeld
 have P1 := Aside0.mk (set5 hW HXr.out)
 have P2 := Aside0.mk (below5 hW HB.out HGR.out)
 have HTR : Aside0 (TR wr6 w.heap.size A1 d1 o A2 d2 l A3 d3 f) := ⟨⟨⟨HVo.out,HVl.out,HVf.out⟩,HD.out⟩⟩
 have P3 := Aside0.mk (tr5 hW HXr.out (by decide) (by decide) HTR.out)
 clear hW
 go_wp2_with fail
 refine bodyPost_ret (results_cell_row rfl _ _ gr 32 _ (0,0) _ rfl P1.out Try.underlying32 rfl (by kernel_rfl)) rfl ?_
 exact ⟨A1,d1,A2,d2,A3,d3,rfl,P3.out,P2.out⟩
end Go.Proofs.Ytbefoehjlgdcgaa.H
