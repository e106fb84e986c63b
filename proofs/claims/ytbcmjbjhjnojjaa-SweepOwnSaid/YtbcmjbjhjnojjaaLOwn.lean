/-
The walk of SweepOwn, and the plain laws behind it.
-/
import Derived.Test.YtbcmjbjhjnojjaaHx
import Derived.Test.YtbcmjbjhjnojjaaSw2
namespace Go.Proofs.Ytbcmjbjhjnojjaa.H
open Go.RowKit Go.Proofs.YtbcmjbjhjnojjaaW.PrintWords Go.Proofs.YtbcmjbjhjnojjaaW.PrintLast Go.Proofs.YtbcmjbjhjnojjaaW.PrintMore
attribute [local go_sem] max2_int min2_int max_two min_two max_three min_three max_four min_four
set_option linter.unusedVariables false
set_option linter.unusedSimpArgs false
def zn0 : Array Bool := #[false,false,false,false,false,false,false,false,false,false]
def zn1 : Array Bool := #[false,true,false,false,false,false,false,false,false,false]
def zn2 : Array Bool := #[false,true,true,false,false,false,false,false,false,false]
def zn3 : Array Bool := #[true,true,true,true,true,true,true,true,false,false]
def zn4 : Array Bool := #[true,true,true,false,false,false,false,false,false,false]
def zn5 : Array Bool := #[false,true,true,false,false,false,false,true,false,false]
def zn6 : Array Bool := #[true,true,true,true,false,false,false,false,false,false]
def zn7 : Array Bool := #[true,true,true,false,false,false,false,true,false,false]
def zn8 : Array Bool := #[true,true,true,true,true,false,false,false,false,false]
def zn9 : Array Bool := #[true,true,true,true,true,true,false,false,false,false]
def zn10 : Array Bool := #[true,true,true,true,true,true,true,false,false,false]
def zn11 : Array Bool := #[true,true,true,true,false,false,false,true,false,false]
def zn12 : Array Bool := #[true,true,true,true,true,false,false,true,false,false]
def zn13 : Array Bool := #[true,true,true,true,true,true,false,true,false,false]
def zn14 : Array Bool := #[true,true,true,true,true,true,true,true,true,false]
def zn15 : Array Bool := #[true,true,true,true,true,true,true,true,true,true]
theorem znI {α : Type} (l : List α) (i : Nat) (a : α) : l.toArray.setIfInBounds i a = (l.set i a).toArray := List.setIfInBounds_toArray l i a
theorem zns0 {α : Type} (x : α) (l : List α) (a : α) : (x :: l).set 0 a = a :: l := rfl
theorem zns1 {α : Type} (x : α) (l : List α) (i : Nat) (a : α) : (x :: l).set (i + 1) a = x :: l.set i a := rfl
def sweep_own6.T8 : Bool × List (List Nat × List Nat) := (true,[([],[]),([],[]),([1],[1]),([0,2,0],[0,2]),([3],[3]),([4],[4]),([4],[4]),([],[]),([7,5,3,0,1,2,3,4,5,7],[5,7]),([6,8,0,1,2,3,4,5,6,7,8],[6])])
def sweep_own6.B8 : List Nat := [0,0,2,7,15,31,31,0,191,511]
theorem sweep_own6.tab8 : rtab .any (opsOf Try.f6 8) = sweep_own6.T8 := by kernel_rfl
theorem sweep_own6.bits8 : waitsOk sweep_own6.T8.2 sweep_own6.B8 = true := by kernel_rfl
/-- A slice of whole numbers that may be written: its block lies at N0 or behind, and has room. -/
def Rm (W : World) (N0 : Nat) (A : Option Addr) (n : Nat) : Prop := 0 < n → ∃ g cs,A = some ⟨g,0,none⟩ ∧ N0 ≤ g ∧ W.heap[g]? = some (.cells cs 3 (0,0)) ∧ n ≤ cs.size
theorem Rm_of {W : World} {N0 B n c : Nat} {ok : Nat → Prop} {A : Option Addr} {xs : List Int} (h : Kd.R (Kd.int .i64) 3 W B ok (.slice A n c) xs) (hB : N0 ≤ B) : Rm W N0 A n := fun hn => by
 have hx := (Kd.R_reads' h).1
 obtain ⟨g,cap,e,h1,_,cs,h3⟩ := Kd.R_form h (by omega)
 cases e
 refine ⟨g,cs,rfl,by omega,h3,?_⟩
 obtain ⟨ce,hcl,_,hcc,_⟩ := Kd.R_elem h 0 ((xs.length : Int) - 1) (by omega) (by omega)
 have e1 : ce.length = 1 := hcl
 obtain ⟨z,rfl⟩ := List.length_eq_one_iff.1 e1
 have h4 := hcc 0 z rfl
 rw [blk_cell h3] at h4
 have h5 := (Array.getElem?_eq_some_iff.1 h4).1
 have e2 : (Kd.int .i64).sz = 1 := rfl
 rw [e2] at h5
 omega
theorem Rm_below {W W' : World} {N0 n : Nat} {A : Option Addr} (h : Rm W N0 A n) (hb : Below W.heap.size W W') : Rm W' N0 A n := fun hn => by
 obtain ⟨g,cs,e,h1,h2,h3⟩ := h hn
 exact ⟨g,cs,e,h1,blk_below h2 hb,h3⟩
theorem Rm_set {W : World} {N0 n g j : Nat} {A : Option Addr} (h : Rm W N0 A n) (u : Value) : Rm (W.setCell ⟨g,j,none⟩ u) N0 A n := fun hn => by
 obtain ⟨k,cs,e,h1,h2,h3⟩ := h hn
 by_cases hk : k = g
 ·subst hk
  exact ⟨k,_,e,h1,blk_set h2 j u,by simpa using h3⟩
 ·exact ⟨k,cs,e,h1,blk_far h2 (p := ⟨g,j,none⟩) hk u,h3⟩
/-- What stays: the state that was handed in, the list that was kept, whatever lay ahead. -/
def St (w W : World) (gs : Nat) (sc : Array Value) (N0 : Nat) (vw : Value) (l : List Int) : Prop :=
 W.heap[gs]? = some (.cells sc 25 (0,0)) ∧ Kd.R (Kd.int .i64) 3 W w.heap.size (fun k => k < N0) vw l ∧ Below w.heap.size w W ∧ N0 ≤ W.heap.size ∧ w.heap.size ≤ N0 ∧ gs < N0
theorem St_below {w W W' : World} {gs N0 : Nat} {sc : Array Value} {vw : Value} {l : List Int} (h : St w W gs sc N0 vw l) (hb : Below W.heap.size W W') : St w W' gs sc N0 vw l :=
 ⟨blk_below h.1 hb,Kd.R_below h.2.1 hb,below_step h.2.2.1 hb,Nat.le_trans h.2.2.2.1 (below_size hb),h.2.2.2.2⟩
theorem St_set {w W : World} {gs N0 g j : Nat} {sc : Array Value} {vw : Value} {l : List Int} (h : St w W gs sc N0 vw l) (hg : N0 ≤ g) (u : Value) : St w (W.setCell ⟨g,j,none⟩ u) gs sc N0 vw l :=
 ⟨blk_far h.1 (p := ⟨g,j,none⟩) (by have := h.2.2.2.2.2; exact Nat.ne_of_lt (Nat.lt_of_lt_of_le this hg)) u,Kd.R_far h.2.1 (p := ⟨g,j,none⟩) (fun k hk => Nat.ne_of_lt (Nat.lt_of_lt_of_le hk hg)) u,below_set h.2.2.1 (Nat.le_trans h.2.2.2.2.1 hg),by simpa [World.setCell] using h.2.2.2.1,h.2.2.2.2⟩
theorem St_drew {w W : World} {gs N0 : Nat} {sc : Array Value} {vw : Value} {l : List Int} (h : St w W gs sc N0 vw l) : St w W.drew gs sc N0 vw l := St_below h (below_drew (Below.refl _ _))
/-- A box with a state that was told: its list may be written. -/
def Bx (W : World) (N0 g : Nat) (A : Option Addr) (n c : Nat) (x y z : Int) : Prop := W.heap[g]? = some (.cells #[.slice A n c,.int .i64 x,.int .i64 y,.int .i64 z] 25 (0,0)) ∧ Rm W N0 A n ∧ N0 ≤ g
theorem Bx_below {W W' : World} {N0 g n c : Nat} {A : Option Addr} {x y z : Int} (h : Bx W N0 g A n c x y z) (hb : Below W.heap.size W W') : Bx W' N0 g A n c x y z := ⟨blk_below h.1 hb,Rm_below h.2.1 hb,h.2.2⟩
theorem Bx_drew {W : World} {N0 g n c : Nat} {A : Option Addr} {x y z : Int} (h : Bx W N0 g A n c x y z) : Bx W.drew N0 g A n c x y z := Bx_below h (below_drew (Below.refl _ _))
theorem Bx_set {W : World} {N0 g n c g' j : Nat} {A : Option Addr} {x y z : Int} (h : Bx W N0 g A n c x y z) (hg : g ≠ g') (u : Value) : Bx (W.setCell ⟨g',j,none⟩ u) N0 g A n c x y z := ⟨blk_far h.1 (p := ⟨g',j,none⟩) hg u,Rm_set h.2.1 u,h.2.2⟩
theorem Bx_4 {W w : World} {N0 g n c g' : Nat} {A : Option Addr} {x y z : Int} {v0 v1 v2 v3 : Value} (hW : W = (((w.setCell ⟨g',0,none⟩ v0).setCell ⟨g',1,none⟩ v1).setCell ⟨g',2,none⟩ v2).setCell ⟨g',3,none⟩ v3) (h : Bx w N0 g A n c x y z) (hg : g < g') : Bx W N0 g A n c x y z := by
 have hne := Nat.ne_of_lt hg
 rw [hW]
 exact Bx_set (Bx_set (Bx_set (Bx_set h hne v0) hne v1) hne v2) hne v3
theorem St_4 {w0 W w : World} {gs N0 g : Nat} {sc : Array Value} {vw : Value} {l : List Int} {v0 v1 v2 v3 : Value} (hW : W = (((w.setCell ⟨g,0,none⟩ v0).setCell ⟨g,1,none⟩ v1).setCell ⟨g,2,none⟩ v2).setCell ⟨g,3,none⟩ v3) (h : St w0 w gs sc N0 vw l) (hg : N0 ≤ g) : St w0 W gs sc N0 vw l := by
 rw [hW]
 exact St_set (St_set (St_set (St_set h hg v0) hg v1) hg v2) hg v3
theorem Bx_new {W w : World} {N0 g n c : Nat} {A : Option Addr} {x y z : Int} {c0 c1 c2 c3 : Value} (hW : W = (((w.setCell ⟨g,0,none⟩ (.slice A n c)).setCell ⟨g,1,none⟩ (.int .i64 x)).setCell ⟨g,2,none⟩ (.int .i64 y)).setCell ⟨g,3,none⟩ (.int .i64 z)) (h : w.heap[g]? = some (.cells #[c0,c1,c2,c3] 25 (0,0))) (hr : Rm w N0 A n) (hg : N0 ≤ g) : Bx W N0 g A n c x y z := by
 have q := blk_set (blk_set (blk_set (blk_set h 0 (.slice A n c)) 1 (.int .i64 x)) 2 (.int .i64 y)) 3 (.int .i64 z)
 simp only [znI,zns0,zns1] at q
 rw [hW]
 exact ⟨q,Rm_set (Rm_set (Rm_set (Rm_set hr _) _) _) _,hg⟩
/-- A row of four such states. -/
def Fr (W : World) (N0 g : Nat) : Prop := N0 ≤ g ∧ ∃ cs,W.heap[g]? = some (.cells cs 25 (0,0)) ∧ ∀ i,i < 4 → ∃ A n c,cs[i * 4]? = some (.slice A n c) ∧ n ≤ 9223372036854775806 ∧ Rm W N0 A n
theorem Fr_cell {W : World} {N0 g : Nat} (h : Fr W N0 g) (x : Int) (h0 : 0 ≤ x) (h4 : x < 4) : ∃ A n c,W.cell? ⟨g,x.toNat * 4,none⟩ = some (.slice A n c) ∧ n ≤ 9223372036854775806 ∧ Rm W N0 A n := by
 obtain ⟨_,cs,h1,h2⟩ := h
 obtain ⟨A,n,c,h3,h5⟩ := h2 x.toNat (by omega)
 exact ⟨A,n,c,(blk_cell h1 _).trans h3,h5⟩
theorem Fr_set {W : World} {N0 g k j : Nat} {cs : Array Value} (h : Fr W N0 g) (hk : W.heap[k]? = some (.cells cs 3 (0,0))) (u : Value) : Fr (W.setCell ⟨k,j,none⟩ u) N0 g := by
 obtain ⟨h0,ds,h1,h2⟩ := h
 have hne : g ≠ k := fun e => by subst e; rw [h1] at hk; cases hk
 refine ⟨h0,ds,blk_far h1 (p := ⟨k,j,none⟩) hne u,fun i hi => ?_⟩
 obtain ⟨A,n,c,h3,h4,h5⟩ := h2 i hi
 exact ⟨A,n,c,h3,h4,Rm_set h5 u⟩
theorem Fr_keep {W W' : World} {N0 g : Nat} (h : Fr W N0 g) (hb : Below W.heap.size W W') : Fr W' N0 g := by
 obtain ⟨h0,ds,h1,h2⟩ := h
 refine ⟨h0,ds,blk_below h1 hb,fun i hi => ?_⟩
 obtain ⟨A,n,c,h3,h4,h5⟩ := h2 i hi
 exact ⟨A,n,c,h3,h4,Rm_below h5 hb⟩
theorem takeR_len {l : List Int} {v s n seg nn r2 r3 r4 r5 : Int} {r1 : List Int} (h : rt l v s n = true) (e : (r1,r2,r3,r4,r5) = takeR l v seg nn) : r1.length ≤ 20 := by
 have := rt_few h
 unfold takeR bad at e
 split at e
 ·have h2 := List.length_filter_le (· != seg) l
  cases e
  omega
 ·cases e
  simp
theorem seenR_len {l : List Int} {v s n r2 r3 r4 r5 : Int} {r1 : List Int} (h : rt l v s n = true) (e : (r1,r2,r3,r4,r5) = seenR l v s n) : r1.length ≤ 20 := by
 have := rt_few h
 unfold seenR bad at e
 split at e <;> cases e <;> simp <;> omega
theorem givenR_len {l : List Int} {v s n r2 r3 r4 r5 : Int} {r1 : List Int} (h : rt l v s n = true) (e : (r1,r2,r3,r4,r5) = givenR l v s n) : r1.length ≤ 20 := by
 have := rt_few h
 unfold givenR bad at e
 split at e <;> cases e <;> simp <;> omega
theorem beginR_len {l p : List Int} {v r2 r3 r4 r5 : Int} {r1 : List Int} (hp : p.length ≤ 20) (e : (r1,r2,r3,r4,r5) = beginR l v p) : r1.length ≤ 20 := by
 unfold beginR bad at e
 split at e <;> cases e <;> first | exact hp | simp
theorem St_B {w W : World} {gs N0 : Nat} {sc : Array Value} {vw : Value} {l : List Int} (h : St w W gs sc N0 vw l) : Below w.heap.size w W := h.2.2.1
theorem begin_own (AI : Option Addr) (cI : Nat) (A0 : Option Addr) (c0 : Nat) (l d1 : List Int) (d2 d3 d4 d5 : Int) (w : World) (hI : Kd.C (Kd.int .i64) w AI 0 []) (hC : Kd.C (Kd.int .i64) w A0 l.length l) (hc : l.length ≤ c0) (h : sweep_Begin.f 61 [] (-1) 0 0 l = some (d1,d2,d3,d4,d5)) :
  Calls Try.prog 22 #[.agg #[.slice AI 0 cI,.int .i64 (-1),.int .i64 0,.int .i64 0],.slice A0 l.length c0] w fun e w' => ∃ v0_ : Value,e = .returned (.tuple #[.agg #[v0_,.int .i64 d2,.int .i64 d3,.int .i64 d4],.int .i64 d5]) ∧ Kd.R (Kd.int .i64) 3 w' w.heap.size (fun _ => True) v0_ d1 ∧ Below w.heap.size w w' :=
 sweep_Begin.calls 61 AI cI [] (-1) 0 0 A0 c0 l d1 d2 d3 d4 d5 w hI (Nat.zero_le _) hC hc h
set_option maxHeartbeats 8000000 in
set_option maxRecDepth 100000 in
theorem SweepOwn_walk0 (A0 : Option Addr) (c0 : Nat) (l0 : List Int) (v s n seg nn : Int) (w : World) (hC : Kd.C (Kd.int .i64) w A0 l0.length l0) (hc : l0.length ≤ c0) :
  Calls Try.prog 6 #[.agg #[.slice A0 l0.length c0,.int .i64 v,.int .i64 s,.int .i64 n],.int .i64 seg,.int .i64 nn] w fun e w' => e = .returned (.bool true) ∧ Below w.heap.size w w' := by
 obtain ⟨l,hl⟩ : ∃ l,l = l0.take 20 := ⟨_,rfl⟩
 have hl20 : l.length ≤ 20 := by rw [hl,List.length_take]; omega
 have HCl : Aside0 (Kd.C (Kd.int .i64) w A0 l.length l) := ⟨by rw [hl,List.take_eq_take_min]; exact Kd.C_take hC (by omega)⟩
 have Hcl : Aside0 (l.length ≤ c0) := ⟨by rw [hl,List.length_take]; omega⟩
 have H20 := Aside0.mk hl20
 have HC0 := Aside0.mk hc
 have HLL := Aside0.mk hl
 clear hC hc hl20 hl
 go_enter Try.func6,Try.ntmps6
 go_upto_region 1 with fail
 obtain ⟨W1,hW1⟩ : ∃ W1,W1 = w.alloc (.cells #[.slice A0 l0.length c0,.int .i64 (v),.int .i64 (s),.int .i64 (n)] 25) := ⟨_,rfl⟩
 rw [← hW1]
 obtain ⟨gs,hgs⟩ : ∃ g,g = w.heap.size := ⟨_,rfl⟩
 have HXs : Aside0 (W1.heap[gs]? = some (.cells #[.slice A0 l0.length c0,.int .i64 (v),.int .i64 (s),.int .i64 (n)] 25 (0,0))) := ⟨by rw [hW1,hgs]; exact blk_new _ _⟩
 have HB : Aside0 (Below w.heap.size w W1) := ⟨by rw [hW1]; exact below_alloc (Below.refl _ _) _⟩
 have HGS : Aside0 (w.heap.size ≤ gs) := ⟨Nat.le_of_eq hgs.symm⟩
 rw [← hgs]
 clear hW1 hgs
 have s_0 : W1.cell? ⟨gs,0,none⟩ = some (.slice A0 l0.length c0) := (blk_cell HXs.out 0).trans rfl
 have s_1 : W1.cell? ⟨gs,1,none⟩ = some (.int .i64 (v)) := (blk_cell HXs.out 1).trans rfl
 have s_2 : W1.cell? ⟨gs,2,none⟩ = some (.int .i64 (s)) := (blk_cell HXs.out 2).trans rfl
 have s_3 : W1.cell? ⟨gs,3,none⟩ = some (.int .i64 (n)) := (blk_cell HXs.out 3).trans rfl
 go_wp2_with fail
 clear s_0 s_1 s_2 s_3
 refine (lodgerlaw15_Cut.calls A0 c0 l0 v s n _ HC0.out).mono ?_
 rintro e w2 ⟨rfl,hb⟩
 rw [← HLL.out]
 replace HXs := Aside0.mk (blk_below HXs.out hb)
 replace HB := Aside0.mk (below_step HB.out hb)
 clear hb
 have sf_0 := blk_frozen HXs.out 0
 have sf_1 := blk_frozen HXs.out 1
 have sf_2 := blk_frozen HXs.out 2
 have sf_3 := blk_frozen HXs.out 3
 have s_0 : w2.cell? ⟨gs,0,none⟩ = some (.slice A0 l0.length c0) := (blk_cell HXs.out 0).trans rfl
 have s_1 : w2.cell? ⟨gs,1,none⟩ = some (.int .i64 (v)) := (blk_cell HXs.out 1).trans rfl
 have s_2 : w2.cell? ⟨gs,2,none⟩ = some (.int .i64 (s)) := (blk_cell HXs.out 2).trans rfl
 have s_3 : w2.cell? ⟨gs,3,none⟩ = some (.int .i64 (n)) := (blk_cell HXs.out 3).trans rfl
 go_upto_region 2 with fail
 clear s_0 s_1 s_2 s_3 sf_0 sf_1 sf_2 sf_3
 obtain ⟨W3,hW⟩ : ∃ W_,W_ = ((((w2.setCell ⟨gs,0,none⟩ (.slice A0 l.length c0)).setCell ⟨gs,1,none⟩ (.int .i64 (v))).setCell ⟨gs,2,none⟩ (.int .i64 (s))).setCell ⟨gs,3,none⟩ (.int .i64 (n))) := ⟨_,rfl⟩
 rw [← hW]
 have q1 := (blk_set (blk_set (blk_set (blk_set HXs.out 0 (.slice A0 l.length c0)) 1 (.int .i64 (v))) 2 (.int .i64 (s))) 3 (.int .i64 (n)))
 simp only [znI,zns0,zns1] at q1
 have q2 := (below_set (g := gs) (j := 3) (v := .int .i64 (n)) (below_set (g := gs) (j := 2) (v := .int .i64 (s)) (below_set (g := gs) (j := 1) (v := .int .i64 (v)) (below_set (g := gs) (j := 0) (v := .slice A0 l.length c0) HB.out HGS.out) HGS.out) HGS.out) HGS.out)
 rw [← hW] at q1 q2
 clear hW HXs HB
 have HXs := Aside0.mk q1
 have HB := Aside0.mk q2
 clear q1 q2
 have s_0 : W3.cell? ⟨gs,0,none⟩ = some (.slice A0 l.length c0) := (blk_cell HXs.out 0).trans rfl
 have s_1 : W3.cell? ⟨gs,1,none⟩ = some (.int .i64 (v)) := (blk_cell HXs.out 1).trans rfl
 have s_2 : W3.cell? ⟨gs,2,none⟩ = some (.int .i64 (s)) := (blk_cell HXs.out 2).trans rfl
 have s_3 : W3.cell? ⟨gs,3,none⟩ = some (.int .i64 (n)) := (blk_cell HXs.out 3).trans rfl
 go_wp2_with fail
 clear s_0 s_1 s_2 s_3
 refine (lodgerlaw15_Ref.calls A0 c0 l v s n _).mono ?_
 rintro e w4 ⟨rfl,hb⟩
 replace HXs := Aside0.mk (blk_below HXs.out hb)
 replace HB := Aside0.mk (below_step HB.out hb)
 clear hb
 go_wp2_with fail
 obtain ⟨b,hb⟩ : ∃ b,rt l v s n = b := ⟨_,rfl⟩
 have HRT := Aside0.mk hb
 refine (lodgerref15_Right.calls 61 A0 c0 l v s n b _ (Kd.C_below HCl.out HB.out) Hcl.out ((ref_right_is l v s n H20.out 61 (by omega)).trans (congrArg some HRT.out))).mono ?_
 clear hb
 rintro e w5 ⟨rfl,hb⟩
 replace HXs := Aside0.mk (blk_below HXs.out hb)
 replace HB := Aside0.mk (below_step HB.out hb)
 clear hb
 cases b
 ·have s_0 : w5.cell? ⟨gs,0,none⟩ = some (.slice A0 l.length c0) := (blk_cell HXs.out 0).trans rfl
  have s_1 : w5.cell? ⟨gs,1,none⟩ = some (.int .i64 (v)) := (blk_cell HXs.out 1).trans rfl
  have s_2 : w5.cell? ⟨gs,2,none⟩ = some (.int .i64 (s)) := (blk_cell HXs.out 2).trans rfl
  have s_3 : w5.cell? ⟨gs,3,none⟩ = some (.int .i64 (n)) := (blk_cell HXs.out 3).trans rfl
  go_wp2_with fail
  clear s_0 s_1 s_2 s_3
  refine (sweep_Right.calls 61 A0 c0 l v s n false _ (Kd.C_below HCl.out HB.out) Hcl.out ((right_is l v s n H20.out 61 (by omega)).trans (congrArg some HRT.out))).mono ?_
  rintro e w6 ⟨rfl,hb⟩
  replace HB := Aside0.mk (below_step HB.out hb)
  clear hb
  go_wp2_with fail
  refine (lodgerlaw15_fixed.calls _).mono ?_
  rintro e wf ⟨rfl,hb⟩
  go_wp2
  go_ret
  exact ⟨rfl,below_step HB.out hb⟩
 go_upto_region 5 with (first | ((with_reducible refine gate_dst (N := 31) rfl ?_); refine Kd.R_lit (Kd.int .i64) _ 3 ?hg (N := 31) ?hd (xs := ([] : List Int)) (inner := []) (ok := fun _ => True) (okp := fun _ => True) ?hr ?hp (fun _ hk => hk) trivial (Below.refl _ _) (Nat.le_refl _) (by simp) ?_; (case hd => rfl); (case hg => rfl); (case hr => first | (go_simp; done) | (go_simp; rfl)); (case hp => exact (Reps.none _ _)); intro vr w6 ho hb hg_ hnew_; clear hg_ hnew_; have HV := Aside0.mk (Kd.R_lower ho (below_size HB.out)); have q2 := Aside0.mk (blk_below HXs.out hb); have q3 := Aside0.mk (below_step HB.out hb); clear HB HXs ho hb; have HXs := q2; have HB := q3; clear q2 q3; have s_0 : w6.cell? ⟨gs,0,none⟩ = some (.slice A0 l.length c0) := (blk_cell HXs.out 0).trans rfl) | ((with_reducible refine gate_builtin (b := .append) (xs := #[.tmp 31,.tmp 33]) rfl ?_); at_builtin; refine Kd.R_append_rows (Kd.int .i64) (w0 := w) w.heap.size rfl (.tmp 31) (.tmp 33) 23 3 (.int .i64 0) 8 rfl Try.underlying23 info3 rfl (by decide) (by omega) vr ([] : List Int) l _ _ _ (fun _ => True) (fun _ => False) rfl rfl ?aO ?aR (fun _ _ h => h) (fun _ h => h.elim) ?aF ?aB ?aS ?aL ?_; (case aR => exact (Kd.C_below HCl.out HB.out)); (case aB => exact HB.out); (case aF => exact (fun _ _ => trivial)); (case aO => exact HV.out); (case aS => exact below_size HB.out); (case aL => have := H20.out; rw [List.length_nil]; omega); intro vw w7 ho hb hg hat; rw [List.nil_append] at ho; have q2 := Aside0.mk (blk_grown HXs.out hg (Kd.R_ne HV.out HXs.out (by decide))); have q1 := Aside0.mk ho; have q3 := Aside0.mk hb; clear HV HXs HB ho hb hg hat s_0; have HXs := q2; have HV := q1; have HB := q3; clear q1 q2 q3))
 obtain ⟨N0,hN0⟩ : ∃ N0,N0 = w7.heap.size := ⟨_,rfl⟩
 have HST : Aside0 (St w w7 gs #[.slice A0 l.length c0,.int .i64 (v),.int .i64 (s),.int .i64 (n)] N0 vw l) := ⟨⟨HXs.out,Kd.R_mono (Kd.R_bound HV.out) (fun k hk => by rw [hN0]; exact hk.2.2.1),HB.out,Nat.le_of_eq hN0,by rw [hN0]; exact below_size HB.out,by rw [hN0]; exact blk_lt HXs.out⟩⟩
 clear hN0 HXs HV HB
 obtain ⟨Aw,cw,hvw,_,_⟩ := Kd.R_reads HST.out.2.1
 subst hvw
 obtain ⟨⟨a1,a2,a3,a4,a5⟩,hR⟩ : ∃ R : Res,R = takeR l v seg nn := ⟨_,rfl⟩
 have HKa := Aside0.mk hR
 clear hR
 have s_0 : w7.cell? ⟨gs,0,none⟩ = some (.slice A0 l.length c0) := (blk_cell HST.out.1 0).trans rfl
 have s_1 : w7.cell? ⟨gs,1,none⟩ = some (.int .i64 (v)) := (blk_cell HST.out.1 1).trans rfl
 have s_2 : w7.cell? ⟨gs,2,none⟩ = some (.int .i64 (s)) := (blk_cell HST.out.1 2).trans rfl
 have s_3 : w7.cell? ⟨gs,3,none⟩ = some (.int .i64 (n)) := (blk_cell HST.out.1 3).trans rfl
 go_wp2_with fail
 clear s_0 s_1 s_2 s_3
 refine (sweep_Take.calls 61 A0 c0 l v s n seg nn a1 a2 a3 a4 a5 _ (Kd.C_below HCl.out (St_B HST.out)) Hcl.out ((take_is HRT.out seg nn).1.trans (congrArg some HKa.out.symm))).mono ?_
 rintro e wa ⟨v0,rfl,hv,hb⟩
 obtain ⟨Aa,ca,hv0,_,_⟩ := Kd.R_reads hv
 subst hv0
 have HM := Aside0.mk (Rm_of hv HST.out.2.2.2.1)
 replace HST := Aside0.mk (St_below HST.out hb)
 clear hv hb
 go_upto_region 6 with ((with_reducible refine gate_dst (N := 8) rfl ?_); refine box_event ?hg (N := 8) ?hd (cs := #[.slice none 0 0,.int .i64 0,.int .i64 0,.int .i64 0]) (t := 25) ?hr ?_; (case hd => rfl); (case hg => rfl); (case hr => first | (go_simp; done) | (go_simp; rfl)); intro ga hgo wa2 hbox hbb; have HBO := Aside0.mk hbox; have HBB := Aside0.mk hbb; have HGO := Aside0.mk hgo; have y0 : wa2.cell? ⟨ga,0,none⟩ = some (.slice none 0 0) := (blk_cell hbox 0).trans rfl; have y1 : wa2.cell? ⟨ga,1,none⟩ = some (.int .i64 0) := (blk_cell hbox 1).trans rfl; have y2 : wa2.cell? ⟨ga,2,none⟩ = some (.int .i64 0) := (blk_cell hbox 2).trans rfl; have y3 : wa2.cell? ⟨ga,3,none⟩ = some (.int .i64 0) := (blk_cell hbox 3).trans rfl; have yf0 := blk_frozen hbox 0; have yf1 := blk_frozen hbox 1; have yf2 := blk_frozen hbox 2; have yf3 := blk_frozen hbox 3; clear hbox hbb hgo)
 clear y0 y1 y2 y3 yf0 yf1 yf2 yf3
 obtain ⟨Wa,hW⟩ : ∃ W_,W_ = ((((wa2.setCell ⟨ga,0,none⟩ (.slice Aa a1.length ca)).setCell ⟨ga,1,none⟩ (.int .i64 (a2))).setCell ⟨ga,2,none⟩ (.int .i64 (a3))).setCell ⟨ga,3,none⟩ (.int .i64 (a4))) := ⟨_,rfl⟩
 rw [← hW]
 have HG : Aside0 (N0 ≤ ga) := ⟨by rw [HGO.out]; exact HST.out.2.2.2.1⟩
 replace HST := Aside0.mk (St_below HST.out HBB.out)
 replace HST := Aside0.mk (St_4 hW HST.out HG.out)
 have HBa := Aside0.mk (Bx_new hW HBO.out (Rm_below HM.out HBB.out) HG.out)
 clear hW HBO HBB HGO HM HG
 obtain ⟨⟨b1,b2,b3,b4,b5⟩,hR⟩ : ∃ R : Res,R = seenR l v s n := ⟨_,rfl⟩
 have HKb := Aside0.mk hR
 clear hR
 have s_0 : Wa.cell? ⟨gs,0,none⟩ = some (.slice A0 l.length c0) := (blk_cell HST.out.1 0).trans rfl
 have s_1 : Wa.cell? ⟨gs,1,none⟩ = some (.int .i64 (v)) := (blk_cell HST.out.1 1).trans rfl
 have s_2 : Wa.cell? ⟨gs,2,none⟩ = some (.int .i64 (s)) := (blk_cell HST.out.1 2).trans rfl
 have s_3 : Wa.cell? ⟨gs,3,none⟩ = some (.int .i64 (n)) := (blk_cell HST.out.1 3).trans rfl
 go_wp2_with fail
 clear s_0 s_1 s_2 s_3
 refine (sweep_Seen.calls 61 A0 c0 l v s n b1 b2 b3 b4 b5 _ (Kd.C_below HCl.out (St_B HST.out)) Hcl.out ((seen_is HRT.out).1.trans (congrArg some HKb.out.symm))).mono ?_
 rintro e wb ⟨v0,rfl,hv,hb⟩
 obtain ⟨Ab,cb,hv0,_,_⟩ := Kd.R_reads hv
 subst hv0
 have HM := Aside0.mk (Rm_of hv HST.out.2.2.2.1)
 replace HBa := Aside0.mk (Bx_below HBa.out hb)
 replace HST := Aside0.mk (St_below HST.out hb)
 clear hv hb
 go_upto_region 7 with ((with_reducible refine gate_dst (N := 10) rfl ?_); refine box_event ?hg (N := 10) ?hd (cs := #[.slice none 0 0,.int .i64 0,.int .i64 0,.int .i64 0]) (t := 25) ?hr ?_; (case hd => rfl); (case hg => rfl); (case hr => first | (go_simp; done) | (go_simp; rfl)); intro gb hgo wb2 hbox hbb; have HBO := Aside0.mk hbox; have HBB := Aside0.mk hbb; have HGO := Aside0.mk hgo; have y0 : wb2.cell? ⟨gb,0,none⟩ = some (.slice none 0 0) := (blk_cell hbox 0).trans rfl; have y1 : wb2.cell? ⟨gb,1,none⟩ = some (.int .i64 0) := (blk_cell hbox 1).trans rfl; have y2 : wb2.cell? ⟨gb,2,none⟩ = some (.int .i64 0) := (blk_cell hbox 2).trans rfl; have y3 : wb2.cell? ⟨gb,3,none⟩ = some (.int .i64 0) := (blk_cell hbox 3).trans rfl; have yf0 := blk_frozen hbox 0; have yf1 := blk_frozen hbox 1; have yf2 := blk_frozen hbox 2; have yf3 := blk_frozen hbox 3; clear hbox hbb hgo)
 clear y0 y1 y2 y3 yf0 yf1 yf2 yf3
 obtain ⟨Wb,hW⟩ : ∃ W_,W_ = ((((wb2.setCell ⟨gb,0,none⟩ (.slice Ab b1.length cb)).setCell ⟨gb,1,none⟩ (.int .i64 (b2))).setCell ⟨gb,2,none⟩ (.int .i64 (b3))).setCell ⟨gb,3,none⟩ (.int .i64 (b4))) := ⟨_,rfl⟩
 rw [← hW]
 have HG : Aside0 (N0 ≤ gb) := ⟨by rw [HGO.out]; exact HST.out.2.2.2.1⟩
 have HLab : Aside0 (ga < gb) := ⟨by rw [HGO.out]; exact blk_lt HBa.out.1⟩
 replace HBa := Aside0.mk (Bx_below HBa.out HBB.out)
 replace HST := Aside0.mk (St_below HST.out HBB.out)
 replace HST := Aside0.mk (St_4 hW HST.out HG.out)
 replace HBa := Aside0.mk (Bx_4 hW HBa.out HLab.out)
 have HBb := Aside0.mk (Bx_new hW HBO.out (Rm_below HM.out HBB.out) HG.out)
 clear hW HBO HBB HGO HM HG
 obtain ⟨⟨c1,c2,c3,c4,c5⟩,hR⟩ : ∃ R : Res,R = givenR l v s n := ⟨_,rfl⟩
 have HKc := Aside0.mk hR
 clear hR
 have s_0 : Wb.cell? ⟨gs,0,none⟩ = some (.slice A0 l.length c0) := (blk_cell HST.out.1 0).trans rfl
 have s_1 : Wb.cell? ⟨gs,1,none⟩ = some (.int .i64 (v)) := (blk_cell HST.out.1 1).trans rfl
 have s_2 : Wb.cell? ⟨gs,2,none⟩ = some (.int .i64 (s)) := (blk_cell HST.out.1 2).trans rfl
 have s_3 : Wb.cell? ⟨gs,3,none⟩ = some (.int .i64 (n)) := (blk_cell HST.out.1 3).trans rfl
 go_wp2_with fail
 clear s_0 s_1 s_2 s_3
 refine (sweep_Given.calls 61 A0 c0 l v s n c1 c2 c3 c4 c5 _ (Kd.C_below HCl.out (St_B HST.out)) Hcl.out ((given_is HRT.out).1.trans (congrArg some HKc.out.symm))).mono ?_
 rintro e wc ⟨v0,rfl,hv,hb⟩
 obtain ⟨Ac,cc,hv0,_,_⟩ := Kd.R_reads hv
 subst hv0
 have HM := Aside0.mk (Rm_of hv HST.out.2.2.2.1)
 replace HBa := Aside0.mk (Bx_below HBa.out hb)
 replace HBb := Aside0.mk (Bx_below HBb.out hb)
 replace HST := Aside0.mk (St_below HST.out hb)
 clear hv hb
 go_upto_region 8 with ((with_reducible refine gate_dst (N := 12) rfl ?_); refine box_event ?hg (N := 12) ?hd (cs := #[.slice none 0 0,.int .i64 0,.int .i64 0,.int .i64 0]) (t := 25) ?hr ?_; (case hd => rfl); (case hg => rfl); (case hr => first | (go_simp; done) | (go_simp; rfl)); intro gc hgo wc2 hbox hbb; have HBO := Aside0.mk hbox; have HBB := Aside0.mk hbb; have HGO := Aside0.mk hgo; have y0 : wc2.cell? ⟨gc,0,none⟩ = some (.slice none 0 0) := (blk_cell hbox 0).trans rfl; have y1 : wc2.cell? ⟨gc,1,none⟩ = some (.int .i64 0) := (blk_cell hbox 1).trans rfl; have y2 : wc2.cell? ⟨gc,2,none⟩ = some (.int .i64 0) := (blk_cell hbox 2).trans rfl; have y3 : wc2.cell? ⟨gc,3,none⟩ = some (.int .i64 0) := (blk_cell hbox 3).trans rfl; have yf0 := blk_frozen hbox 0; have yf1 := blk_frozen hbox 1; have yf2 := blk_frozen hbox 2; have yf3 := blk_frozen hbox 3; clear hbox hbb hgo)
 clear y0 y1 y2 y3 yf0 yf1 yf2 yf3
 obtain ⟨Wc,hW⟩ : ∃ W_,W_ = ((((wc2.setCell ⟨gc,0,none⟩ (.slice Ac c1.length cc)).setCell ⟨gc,1,none⟩ (.int .i64 (c2))).setCell ⟨gc,2,none⟩ (.int .i64 (c3))).setCell ⟨gc,3,none⟩ (.int .i64 (c4))) := ⟨_,rfl⟩
 rw [← hW]
 have HG : Aside0 (N0 ≤ gc) := ⟨by rw [HGO.out]; exact HST.out.2.2.2.1⟩
 have HLac : Aside0 (ga < gc) := ⟨by rw [HGO.out]; exact blk_lt HBa.out.1⟩
 have HLbc : Aside0 (gb < gc) := ⟨by rw [HGO.out]; exact blk_lt HBb.out.1⟩
 replace HBa := Aside0.mk (Bx_below HBa.out HBB.out)
 replace HBb := Aside0.mk (Bx_below HBb.out HBB.out)
 replace HST := Aside0.mk (St_below HST.out HBB.out)
 replace HST := Aside0.mk (St_4 hW HST.out HG.out)
 replace HBa := Aside0.mk (Bx_4 hW HBa.out HLac.out)
 replace HBb := Aside0.mk (Bx_4 hW HBb.out HLbc.out)
 have HBc := Aside0.mk (Bx_new hW HBO.out (Rm_below HM.out HBB.out) HG.out)
 clear hW HBO HBB HGO HM HG
 obtain ⟨⟨d1,d2,d3,d4,d5⟩,hR⟩ : ∃ R : Res,R = beginR [] (-1) l := ⟨_,rfl⟩
 have HKd := Aside0.mk hR
 clear hR
 go_wp2_with fail
 refine start_ (n := 10) (S := fun w' => w'.cell? ⟨gs,0,none⟩ = some (.slice A0 l.length c0)) (ds := []) zn0 (by kernel_rfl) rfl rfl (((blk_cell (St_drew HST.out).1 0).trans rfl)) (fun hHeld => ?_)
 refine with_tabW sweep_own6.tab8 sweep_own6.bits8 (fun HT_ HW_ => ?_)
 replace HST := Aside0.mk (St_drew HST.out)
 replace HBa := Aside0.mk (Bx_drew HBa.out)
 replace HBb := Aside0.mk (Bx_drew HBb.out)
 replace HBc := Aside0.mk (Bx_drew HBc.out)
 generalize Wc.drew = wd8 at *
 refine pure_ (i := 1) (N := some 54) (v := ?_) (a' := ?_) zn1 rfl rfl (any_of HT_.out (by kernel_rfl)) (fun _ _ _ h => h) (Or.inl ⟨by rfl,?_⟩) ?_ ?_
 rotate_left
 ·intro w'
  go_simp
  with_reducible rfl
 rotate_left
 ·simp only [Act.put,znI,zns0,zns1,i64_w,i32_w]
  rfl
 refine take_ (i := 2) (N := some 55) (v := ?_) (a' := ?_) zn2 rfl rfl (take_ofW HT_.out HW_.out (by kernel_rfl)) (fun _ _ _ h => h) (Or.inl ⟨by rfl,?_⟩) hHeld ?_ ?_
 rotate_left
 ·intro w' s0
  go_simp
  with_reducible rfl
 rotate_left
 ·simp only [Act.put,znI,zns0,zns1,i64_w,i32_w]
  rfl
 refine join_ (σ := Nat × Value × Option Addr × Nat) 2 zn3 (fun s_ => [(53,s_.2.1),(56,.tuple #[.agg #[.slice s_.2.2.1 d1.length s_.2.2.2,.int .i64 d2,.int .i64 d3,.int .i64 d4],.int .i64 d5]),(52,.tuple #[.agg #[.slice s_.2.2.1 d1.length s_.2.2.2,.int .i64 d2,.int .i64 d3,.int .i64 d4],.int .i64 d5]),(57,.agg #[.slice s_.2.2.1 d1.length s_.2.2.2,.int .i64 d2,.int .i64 d3,.int .i64 d4]),(58,.int .i64 d5),(14,.pointer (some ⟨s_.1,0,none⟩))]) (fun s_ w' => w'.heap[s_.1]? = some (.cells #[.slice none 0 0,.int .i64 0,.int .i64 0,.int .i64 0] 25 (0,0)) ∧ N0 ≤ s_.1 ∧ St w w' gs #[.slice A0 l.length c0,.int .i64 (v),.int .i64 (s),.int .i64 (n)] N0 (.slice Aw l.length cw) l ∧ Bx w' N0 ga Aa a1.length ca a2 a3 a4 ∧ ga < s_.1 ∧ Bx w' N0 gb Ab b1.length cb b2 b3 b4 ∧ gb < s_.1 ∧ Bx w' N0 gc Ac c1.length cc c2 c3 c4 ∧ gc < s_.1 ∧ (∃ AI cI,s_.2.1 = Value.agg #[.slice AI 0 cI,.int .i64 (-1),.int .i64 0,.int .i64 0]) ∧ Rm w' N0 s_.2.2.1 d1.length) ?_ ?_
 rotate_left
 ·intro hCont
  refine two_ (i := 0) (j := 7) (Ni := some 53) (Nj := some 14) zn4 zn5 rfl rfl rfl rfl (two_of HT_.out (by kernel_rfl)) (by decide) (by decide) (fun K hK => ?_) (fun K hK => ?_)
  ·skip
   refine goes_ Try.func8 (by kernel_rfl) rfl #[] (by rfl) rfl rfl (by simp) ?_
   with_reducible refine (sweep_Idle.calls [] (-1) 0 0 _ (by kernel_rfl)).mono ?_
   rintro e_ wf1 ⟨v0,rfl,hv,hb⟩
   obtain ⟨AI,cI,hv0,_,_⟩ := Kd.R_reads hv
   have hv1 : v0 = .slice AI 0 cI := hv0
   subst hv1
   clear hv0
   refine ⟨_,rfl,?_⟩
   have HI : Aside0 (Kd.C (Kd.int .i64) _ AI 0 []) := ⟨(Kd.R_reads' hv).2.2⟩
   replace HBa := Aside0.mk (Bx_below HBa.out hb)
   replace HBb := Aside0.mk (Bx_below HBb.out hb)
   replace HBc := Aside0.mk (Bx_below HBc.out hb)
   replace HST := Aside0.mk (St_below HST.out hb)
   clear hv hb
   refine hK.out _ _ (((blk_cell HST.out.1 0).trans rfl)) (fun hHeld => ?_)
   clear hK K
   refine norm_ (a' := ?_) ?_ ?_
   rotate_left
   ·show Act.put _ (some 53) _ = _
    simp only [Act.put,znI,zns0,zns1,i64_w,i32_w]
    rfl
   refine two_ (i := 3) (j := 7) (Ni := some 56) (Nj := some 14) zn6 zn7 rfl rfl rfl rfl (two_of HT_.out (by kernel_rfl)) (by decide) (by decide) (fun K hK => ?_) (fun K hK => ?_)
   ·skip
    refine goes_ Try.func22 (by kernel_rfl) rfl #[.agg #[.slice AI 0 cI,.int .i64 (-1),.int .i64 0,.int .i64 0],.slice A0 l.length c0] (by rfl) rfl rfl (by simp only [List.map_toArray,List.map_cons,List.map_nil]; rfl) ?_
    with_reducible refine (begin_own AI cI A0 c0 l d1 d2 d3 d4 d5 _ HI.out (Kd.C_below HCl.out (St_B HST.out)) Hcl.out ((begin_is (by decide) l H20.out).1.trans (congrArg some HKd.out.symm))).mono ?_
    rintro e_ wf2 ⟨v0,rfl,hv,hb⟩
    obtain ⟨Ad,cd,hv0,_,_⟩ := Kd.R_reads hv
    subst hv0
    refine ⟨_,rfl,?_⟩
    have HM := Aside0.mk (Rm_of hv HST.out.2.2.2.1)
    replace HBa := Aside0.mk (Bx_below HBa.out hb)
    replace HBb := Aside0.mk (Bx_below HBb.out hb)
    replace HBc := Aside0.mk (Bx_below HBc.out hb)
    replace HST := Aside0.mk (St_below HST.out hb)
    clear hv hb HI
    refine hK.out _ _ (((blk_cell HST.out.1 0).trans rfl)) (fun hHeld => ?_)
    clear hK K
    refine norm_ (a' := ?_) ?_ ?_
    rotate_left
    ·show Act.put _ (some 56) _ = _
     simp only [Act.put,znI,zns0,zns1,i64_w,i32_w]
     rfl
    refine pure_ (i := 4) (N := some 52) (v := ?_) (a' := ?_) zn8 rfl rfl (any_of HT_.out (by kernel_rfl)) (fun _ _ _ h => h) (Or.inl ⟨by rfl,?_⟩) ?_ ?_
    rotate_left
    ·intro w'
     go_simp
     with_reducible rfl
    rotate_left
    ·simp only [Act.put,znI,zns0,zns1,i64_w,i32_w]
     rfl
    refine pure_ (i := 5) (N := some 57) (v := ?_) (a' := ?_) zn9 rfl rfl (any_of HT_.out (by kernel_rfl)) (fun _ _ _ h => h) (Or.inl ⟨by rfl,?_⟩) ?_ ?_
    rotate_left
    ·intro w'
     go_simp
     with_reducible rfl
    rotate_left
    ·simp only [Act.put,znI,zns0,zns1,i64_w,i32_w]
     rfl
    refine pure_ (i := 6) (N := some 58) (v := ?_) (a' := ?_) zn10 rfl rfl (any_of HT_.out (by kernel_rfl)) (fun _ _ _ h => h) (Or.inl ⟨by rfl,?_⟩) ?_ ?_
    rotate_left
    ·intro w'
     go_simp
     with_reducible rfl
    rotate_left
    ·simp only [Act.put,znI,zns0,zns1,i64_w,i32_w]
     rfl
    refine one_ (i := 7) (N := some 14) zn3 rfl rfl (one_of HT_.out (by kernel_rfl)) (by decide) (fun K hK => ?_)
    refine value_ (w1 := ?_) (v := ?_) (by rfl) rfl ?_ ?_
    rotate_left 2
    ·go_simp
     constructor
     ·rfl
     ·rfl
    obtain ⟨wf3,hW⟩ : ∃ W_,W_ = wf2.alloc (.cells #[.slice none 0 0,.int .i64 0,.int .i64 0,.int .i64 0] 25) := ⟨_,rfl⟩
    rw [← hW]
    obtain ⟨gd,hg⟩ : ∃ g,g = wf2.heap.size := ⟨_,rfl⟩
    rw [← hg]
    have hb : Below wf2.heap.size wf2 wf3 := by rw [hW]; exact below_alloc (Below.refl _ _) _
    have HBX : Aside0 (wf3.heap[gd]? = some (.cells #[.slice none 0 0,.int .i64 0,.int .i64 0,.int .i64 0] 25 (0,0))) := ⟨by rw [hW,hg]; exact blk_new _ _⟩
    have HG : Aside0 (N0 ≤ gd) := ⟨by rw [hg]; exact HST.out.2.2.2.1⟩
    have HLad : Aside0 (ga < gd) := ⟨by rw [hg]; exact blk_lt HBa.out.1⟩
    have HLbd : Aside0 (gb < gd) := ⟨by rw [hg]; exact blk_lt HBb.out.1⟩
    have HLcd : Aside0 (gc < gd) := ⟨by rw [hg]; exact blk_lt HBc.out.1⟩
    replace HBa := Aside0.mk (Bx_below HBa.out hb)
    replace HBb := Aside0.mk (Bx_below HBb.out hb)
    replace HBc := Aside0.mk (Bx_below HBc.out hb)
    replace HST := Aside0.mk (St_below HST.out hb)
    replace HM := Aside0.mk (Rm_below HM.out hb)
    clear hb hg hW
    refine hK.out _ _ (((blk_cell HST.out.1 0).trans rfl)) (fun hHeld => ?_)
    clear hK K
    refine norm_ (a' := ?_) ?_ ?_
    rotate_left
    ·show Act.put _ (some 14) _ = _
     simp only [Act.put,znI,zns0,zns1,i64_w,i32_w]
     rfl
    exact norm_ (by first | (simp only [putAll,Act.put,znI,zns0,zns1]; done) | (simp only [putAll,Act.put,znI,zns0,zns1]; rfl)) (hCont (gd,.agg #[.slice AI 0 cI,.int .i64 (-1),.int .i64 0,.int .i64 0],Ad,cd) _ ⟨HBX.out,HG.out,HST.out,HBa.out,HLad.out,HBb.out,HLbd.out,HBc.out,HLcd.out,⟨AI,cI,rfl⟩,HM.out⟩)
   ·skip
    refine value_ (w1 := ?_) (v := ?_) (by rfl) rfl ?_ ?_
    rotate_left 2
    ·go_simp
     constructor
     ·rfl
     ·rfl
    obtain ⟨wf2,hW⟩ : ∃ W_,W_ = wf1.alloc (.cells #[.slice none 0 0,.int .i64 0,.int .i64 0,.int .i64 0] 25) := ⟨_,rfl⟩
    rw [← hW]
    obtain ⟨gd,hg⟩ : ∃ g,g = wf1.heap.size := ⟨_,rfl⟩
    rw [← hg]
    have hb : Below wf1.heap.size wf1 wf2 := by rw [hW]; exact below_alloc (Below.refl _ _) _
    have HBX : Aside0 (wf2.heap[gd]? = some (.cells #[.slice none 0 0,.int .i64 0,.int .i64 0,.int .i64 0] 25 (0,0))) := ⟨by rw [hW,hg]; exact blk_new _ _⟩
    have HG : Aside0 (N0 ≤ gd) := ⟨by rw [hg]; exact HST.out.2.2.2.1⟩
    have HLad : Aside0 (ga < gd) := ⟨by rw [hg]; exact blk_lt HBa.out.1⟩
    have HLbd : Aside0 (gb < gd) := ⟨by rw [hg]; exact blk_lt HBb.out.1⟩
    have HLcd : Aside0 (gc < gd) := ⟨by rw [hg]; exact blk_lt HBc.out.1⟩
    replace HBa := Aside0.mk (Bx_below HBa.out hb)
    replace HBb := Aside0.mk (Bx_below HBb.out hb)
    replace HBc := Aside0.mk (Bx_below HBc.out hb)
    replace HST := Aside0.mk (St_below HST.out hb)
    replace HI := Aside0.mk (Kd.C_below HI.out hb)
    clear hb hg hW
    refine hK.out _ _ (((blk_cell HST.out.1 0).trans rfl)) (fun hHeld => ?_)
    clear hK K
    refine norm_ (a' := ?_) ?_ ?_
    rotate_left
    ·show Act.put _ (some 14) _ = _
     simp only [Act.put,znI,zns0,zns1,i64_w,i32_w]
     rfl
    refine one_ (i := 3) (N := some 56) zn11 rfl rfl (one_of HT_.out (by kernel_rfl)) (by decide) (fun K hK => ?_)
    refine goes_ Try.func22 (by kernel_rfl) rfl #[.agg #[.slice AI 0 cI,.int .i64 (-1),.int .i64 0,.int .i64 0],.slice A0 l.length c0] (by rfl) rfl rfl (by simp only [List.map_toArray,List.map_cons,List.map_nil]; rfl) ?_
    with_reducible refine (begin_own AI cI A0 c0 l d1 d2 d3 d4 d5 _ HI.out (Kd.C_below HCl.out (St_B HST.out)) Hcl.out ((begin_is (by decide) l H20.out).1.trans (congrArg some HKd.out.symm))).mono ?_
    rintro e_ wf3 ⟨v0,rfl,hv,hb⟩
    obtain ⟨Ad,cd,hv0,_,_⟩ := Kd.R_reads hv
    subst hv0
    refine ⟨_,rfl,?_⟩
    have HM := Aside0.mk (Rm_of hv HST.out.2.2.2.1)
    replace HBa := Aside0.mk (Bx_below HBa.out hb)
    replace HBb := Aside0.mk (Bx_below HBb.out hb)
    replace HBc := Aside0.mk (Bx_below HBc.out hb)
    replace HST := Aside0.mk (St_below HST.out hb)
    replace HBX := Aside0.mk (blk_below HBX.out hb)
    clear hv hb HI
    refine hK.out _ _ (((blk_cell HST.out.1 0).trans rfl)) (fun hHeld => ?_)
    clear hK K
    refine norm_ (a' := ?_) ?_ ?_
    rotate_left
    ·show Act.put _ (some 56) _ = _
     simp only [Act.put,znI,zns0,zns1,i64_w,i32_w]
     rfl
    refine pure_ (i := 4) (N := some 52) (v := ?_) (a' := ?_) zn12 rfl rfl (any_of HT_.out (by kernel_rfl)) (fun _ _ _ h => h) (Or.inl ⟨by rfl,?_⟩) ?_ ?_
    rotate_left
    ·intro w'
     go_simp
     with_reducible rfl
    rotate_left
    ·simp only [Act.put,znI,zns0,zns1,i64_w,i32_w]
     rfl
    refine pure_ (i := 5) (N := some 57) (v := ?_) (a' := ?_) zn13 rfl rfl (any_of HT_.out (by kernel_rfl)) (fun _ _ _ h => h) (Or.inl ⟨by rfl,?_⟩) ?_ ?_
    rotate_left
    ·intro w'
     go_simp
     with_reducible rfl
    rotate_left
    ·simp only [Act.put,znI,zns0,zns1,i64_w,i32_w]
     rfl
    refine pure_ (i := 6) (N := some 58) (v := ?_) (a' := ?_) zn3 rfl rfl (any_of HT_.out (by kernel_rfl)) (fun _ _ _ h => h) (Or.inl ⟨by rfl,?_⟩) ?_ ?_
    rotate_left
    ·intro w'
     go_simp
     with_reducible rfl
    rotate_left
    ·simp only [Act.put,znI,zns0,zns1,i64_w,i32_w]
     rfl
    exact norm_ (by first | (simp only [putAll,Act.put,znI,zns0,zns1]; done) | (simp only [putAll,Act.put,znI,zns0,zns1]; rfl)) (hCont (gd,.agg #[.slice AI 0 cI,.int .i64 (-1),.int .i64 0,.int .i64 0],Ad,cd) _ ⟨HBX.out,HG.out,HST.out,HBa.out,HLad.out,HBb.out,HLbd.out,HBc.out,HLcd.out,⟨AI,cI,rfl⟩,HM.out⟩)
  ·skip
   refine value_ (w1 := ?_) (v := ?_) (by rfl) rfl ?_ ?_
   rotate_left 2
   ·go_simp
    constructor
    ·rfl
    ·rfl
   obtain ⟨wf1,hW⟩ : ∃ W_,W_ = wd8.alloc (.cells #[.slice none 0 0,.int .i64 0,.int .i64 0,.int .i64 0] 25) := ⟨_,rfl⟩
   rw [← hW]
   obtain ⟨gd,hg⟩ : ∃ g,g = wd8.heap.size := ⟨_,rfl⟩
   rw [← hg]
   have hb : Below wd8.heap.size wd8 wf1 := by rw [hW]; exact below_alloc (Below.refl _ _) _
   have HBX : Aside0 (wf1.heap[gd]? = some (.cells #[.slice none 0 0,.int .i64 0,.int .i64 0,.int .i64 0] 25 (0,0))) := ⟨by rw [hW,hg]; exact blk_new _ _⟩
   have HG : Aside0 (N0 ≤ gd) := ⟨by rw [hg]; exact HST.out.2.2.2.1⟩
   have HLad : Aside0 (ga < gd) := ⟨by rw [hg]; exact blk_lt HBa.out.1⟩
   have HLbd : Aside0 (gb < gd) := ⟨by rw [hg]; exact blk_lt HBb.out.1⟩
   have HLcd : Aside0 (gc < gd) := ⟨by rw [hg]; exact blk_lt HBc.out.1⟩
   replace HBa := Aside0.mk (Bx_below HBa.out hb)
   replace HBb := Aside0.mk (Bx_below HBb.out hb)
   replace HBc := Aside0.mk (Bx_below HBc.out hb)
   replace HST := Aside0.mk (St_below HST.out hb)
   clear hb hg hW
   refine hK.out _ _ (((blk_cell HST.out.1 0).trans rfl)) (fun hHeld => ?_)
   clear hK K
   refine norm_ (a' := ?_) ?_ ?_
   rotate_left
   ·show Act.put _ (some 14) _ = _
    simp only [Act.put,znI,zns0,zns1,i64_w,i32_w]
    rfl
   refine one_ (i := 0) (N := some 53) zn7 rfl rfl (one_of HT_.out (by kernel_rfl)) (by decide) (fun K hK => ?_)
   refine goes_ Try.func8 (by kernel_rfl) rfl #[] (by rfl) rfl rfl (by simp) ?_
   with_reducible refine (sweep_Idle.calls [] (-1) 0 0 _ (by kernel_rfl)).mono ?_
   rintro e_ wf2 ⟨v0,rfl,hv,hb⟩
   obtain ⟨AI,cI,hv0,_,_⟩ := Kd.R_reads hv
   have hv1 : v0 = .slice AI 0 cI := hv0
   subst hv1
   clear hv0
   refine ⟨_,rfl,?_⟩
   have HI : Aside0 (Kd.C (Kd.int .i64) _ AI 0 []) := ⟨(Kd.R_reads' hv).2.2⟩
   replace HBa := Aside0.mk (Bx_below HBa.out hb)
   replace HBb := Aside0.mk (Bx_below HBb.out hb)
   replace HBc := Aside0.mk (Bx_below HBc.out hb)
   replace HST := Aside0.mk (St_below HST.out hb)
   replace HBX := Aside0.mk (blk_below HBX.out hb)
   clear hv hb
   refine hK.out _ _ (((blk_cell HST.out.1 0).trans rfl)) (fun hHeld => ?_)
   clear hK K
   refine norm_ (a' := ?_) ?_ ?_
   rotate_left
   ·show Act.put _ (some 53) _ = _
    simp only [Act.put,znI,zns0,zns1,i64_w,i32_w]
    rfl
   refine one_ (i := 3) (N := some 56) zn11 rfl rfl (one_of HT_.out (by kernel_rfl)) (by decide) (fun K hK => ?_)
   refine goes_ Try.func22 (by kernel_rfl) rfl #[.agg #[.slice AI 0 cI,.int .i64 (-1),.int .i64 0,.int .i64 0],.slice A0 l.length c0] (by rfl) rfl rfl (by simp only [List.map_toArray,List.map_cons,List.map_nil]; rfl) ?_
   with_reducible refine (begin_own AI cI A0 c0 l d1 d2 d3 d4 d5 _ HI.out (Kd.C_below HCl.out (St_B HST.out)) Hcl.out ((begin_is (by decide) l H20.out).1.trans (congrArg some HKd.out.symm))).mono ?_
   rintro e_ wf3 ⟨v0,rfl,hv,hb⟩
   obtain ⟨Ad,cd,hv0,_,_⟩ := Kd.R_reads hv
   subst hv0
   refine ⟨_,rfl,?_⟩
   have HM := Aside0.mk (Rm_of hv HST.out.2.2.2.1)
   replace HBa := Aside0.mk (Bx_below HBa.out hb)
   replace HBb := Aside0.mk (Bx_below HBb.out hb)
   replace HBc := Aside0.mk (Bx_below HBc.out hb)
   replace HST := Aside0.mk (St_below HST.out hb)
   replace HBX := Aside0.mk (blk_below HBX.out hb)
   clear hv hb HI
   refine hK.out _ _ (((blk_cell HST.out.1 0).trans rfl)) (fun hHeld => ?_)
   clear hK K
   refine norm_ (a' := ?_) ?_ ?_
   rotate_left
   ·show Act.put _ (some 56) _ = _
    simp only [Act.put,znI,zns0,zns1,i64_w,i32_w]
    rfl
   refine pure_ (i := 4) (N := some 52) (v := ?_) (a' := ?_) zn12 rfl rfl (any_of HT_.out (by kernel_rfl)) (fun _ _ _ h => h) (Or.inl ⟨by rfl,?_⟩) ?_ ?_
   rotate_left
   ·intro w'
    go_simp
    with_reducible rfl
   rotate_left
   ·simp only [Act.put,znI,zns0,zns1,i64_w,i32_w]
    rfl
   refine pure_ (i := 5) (N := some 57) (v := ?_) (a' := ?_) zn13 rfl rfl (any_of HT_.out (by kernel_rfl)) (fun _ _ _ h => h) (Or.inl ⟨by rfl,?_⟩) ?_ ?_
   rotate_left
   ·intro w'
    go_simp
    with_reducible rfl
   rotate_left
   ·simp only [Act.put,znI,zns0,zns1,i64_w,i32_w]
    rfl
   refine pure_ (i := 6) (N := some 58) (v := ?_) (a' := ?_) zn3 rfl rfl (any_of HT_.out (by kernel_rfl)) (fun _ _ _ h => h) (Or.inl ⟨by rfl,?_⟩) ?_ ?_
   rotate_left
   ·intro w'
    go_simp
    with_reducible rfl
   rotate_left
   ·simp only [Act.put,znI,zns0,zns1,i64_w,i32_w]
    rfl
   exact norm_ (by first | (simp only [putAll,Act.put,znI,zns0,zns1]; done) | (simp only [putAll,Act.put,znI,zns0,zns1]; rfl)) (hCont (gd,.agg #[.slice AI 0 cI,.int .i64 (-1),.int .i64 0,.int .i64 0],Ad,cd) _ ⟨HBX.out,HG.out,HST.out,HBa.out,HLad.out,HBb.out,HLbd.out,HBc.out,HLcd.out,⟨AI,cI,rfl⟩,HM.out⟩)
 rintro ⟨gd,VI,Ad,cd⟩ w9 ⟨hx,hg,hs,ha,la,hb,lb,hc,lc,⟨AI,cI,hVI⟩,hm⟩
 dsimp only at hx hg hs hVI hm ha la hb lb hc lc
 subst hVI
 clear HST HBa HBb HBc
 have HBX := Aside0.mk hx
 have HG := Aside0.mk hg
 have HST := Aside0.mk hs
 have HM := Aside0.mk hm
 have HBa := Aside0.mk ha
 have HBb := Aside0.mk hb
 have HBc := Aside0.mk hc
 have HLad := Aside0.mk la
 have HLbd := Aside0.mk lb
 have HLcd := Aside0.mk lc
 clear hx hg hs hm ha la hb lb hc lc
 have hHeld : (fun w' => w'.cell? ⟨gs,0,none⟩ = some (.slice A0 l.length c0)) w9 := ((blk_cell HST.out.1 0).trans rfl)
 refine norm_ (a' := ?_) ?_ ?_
 rotate_left
 ·simp only [putAll,Act.put,znI,zns0,zns1]
  rfl
 refine one_ (i := 8) (N := none) zn14 rfl rfl (one_of HT_.out (by kernel_rfl)) (by decide) (fun K hK => ?_)
 have z_0 : w9.cell? ⟨gd,0,none⟩ = some (.slice none 0 0) := (blk_cell HBX.out 0).trans rfl
 have z_1 : w9.cell? ⟨gd,1,none⟩ = some (.int .i64 0) := (blk_cell HBX.out 1).trans rfl
 have z_2 : w9.cell? ⟨gd,2,none⟩ = some (.int .i64 0) := (blk_cell HBX.out 2).trans rfl
 have z_3 : w9.cell? ⟨gd,3,none⟩ = some (.int .i64 0) := (blk_cell HBX.out 3).trans rfl
 have zf_0 := blk_frozen HBX.out 0
 have zf_1 := blk_frozen HBX.out 1
 have zf_2 := blk_frozen HBX.out 2
 have zf_3 := blk_frozen HBX.out 3
 refine skip_ (w1 := ?_) (by rfl) rfl ?_ ?_
 rotate_left
 ·go_simp
  rfl
 clear z_0 z_1 z_2 z_3 zf_0 zf_1 zf_2 zf_3
 obtain ⟨Wd,hW⟩ : ∃ W_,W_ = ((((w9.setCell ⟨gd,0,none⟩ (.slice Ad d1.length cd)).setCell ⟨gd,1,none⟩ (.int .i64 (d2))).setCell ⟨gd,2,none⟩ (.int .i64 (d3))).setCell ⟨gd,3,none⟩ (.int .i64 (d4))) := ⟨_,rfl⟩
 rw [← hW]
 replace HST := Aside0.mk (St_4 hW HST.out HG.out)
 replace HBa := Aside0.mk (Bx_4 hW HBa.out HLad.out)
 replace HBb := Aside0.mk (Bx_4 hW HBb.out HLbd.out)
 replace HBc := Aside0.mk (Bx_4 hW HBc.out HLcd.out)
 have HBd := Aside0.mk (Bx_new hW HBX.out HM.out HG.out)
 clear hW HBX HM
 refine hK.out _ _ (((blk_cell HST.out.1 0).trans rfl)) (fun hHeld => ?_)
 clear hK K
 refine pure_ (i := 9) (N := some 15) (v := ?_) (a' := ?_) zn15 rfl rfl (any_of HT_.out (by kernel_rfl)) (fun _ _ _ h => h) (Or.inl ⟨by rfl,?_⟩) ?_ ?_
 rotate_left
 ·intro w'
  go_simp
  with_reducible rfl
 rotate_left
 ·simp only [Act.put,znI,zns0,zns1,i64_w,i32_w]
  rfl
 refine done_ (done_of HT_.out (by kernel_rfl)) ?_
 clear HT_ HW_ hHeld
 have hqa := HBa.out.1
 have ya_0 : Wd.cell? ⟨ga,0,none⟩ = some (.slice Aa a1.length ca) := (blk_cell hqa 0).trans rfl
 have ya_1 : Wd.cell? ⟨ga,1,none⟩ = some (.int .i64 (a2)) := (blk_cell hqa 1).trans rfl
 have ya_2 : Wd.cell? ⟨ga,2,none⟩ = some (.int .i64 (a3)) := (blk_cell hqa 2).trans rfl
 have ya_3 : Wd.cell? ⟨ga,3,none⟩ = some (.int .i64 (a4)) := (blk_cell hqa 3).trans rfl
 clear hqa
 have hqb := HBb.out.1
 have yb_0 : Wd.cell? ⟨gb,0,none⟩ = some (.slice Ab b1.length cb) := (blk_cell hqb 0).trans rfl
 have yb_1 : Wd.cell? ⟨gb,1,none⟩ = some (.int .i64 (b2)) := (blk_cell hqb 1).trans rfl
 have yb_2 : Wd.cell? ⟨gb,2,none⟩ = some (.int .i64 (b3)) := (blk_cell hqb 2).trans rfl
 have yb_3 : Wd.cell? ⟨gb,3,none⟩ = some (.int .i64 (b4)) := (blk_cell hqb 3).trans rfl
 clear hqb
 have hqc := HBc.out.1
 have yc_0 : Wd.cell? ⟨gc,0,none⟩ = some (.slice Ac c1.length cc) := (blk_cell hqc 0).trans rfl
 have yc_1 : Wd.cell? ⟨gc,1,none⟩ = some (.int .i64 (c2)) := (blk_cell hqc 1).trans rfl
 have yc_2 : Wd.cell? ⟨gc,2,none⟩ = some (.int .i64 (c3)) := (blk_cell hqc 2).trans rfl
 have yc_3 : Wd.cell? ⟨gc,3,none⟩ = some (.int .i64 (c4)) := (blk_cell hqc 3).trans rfl
 clear hqc
 have hqd := HBd.out.1
 have yd_0 : Wd.cell? ⟨gd,0,none⟩ = some (.slice Ad d1.length cd) := (blk_cell hqd 0).trans rfl
 have yd_1 : Wd.cell? ⟨gd,1,none⟩ = some (.int .i64 (d2)) := (blk_cell hqd 1).trans rfl
 have yd_2 : Wd.cell? ⟨gd,2,none⟩ = some (.int .i64 (d3)) := (blk_cell hqd 2).trans rfl
 have yd_3 : Wd.cell? ⟨gd,3,none⟩ = some (.int .i64 (d4)) := (blk_cell hqd 3).trans rfl
 clear hqd
 go_upto_region 10 with fail
 clear ya_0 ya_1 ya_2 ya_3 yb_0 yb_1 yb_2 yb_3 yc_0 yc_1 yc_2 yc_3 yd_0 yd_1 yd_2 yd_3
 obtain ⟨gl,hgl⟩ : ∃ g,g = Wd.heap.size := ⟨_,rfl⟩
 rw [← hgl]
 obtain ⟨We,hW⟩ : ∃ W_,W_ = Wd.alloc (.cells #[.slice Aa a1.length ca,.int .i64 (a2),.int .i64 (a3),.int .i64 (a4),.slice Ab b1.length cb,.int .i64 (b2),.int .i64 (b3),.int .i64 (b4),.slice Ac c1.length cc,.int .i64 (c2),.int .i64 (c3),.int .i64 (c4),.slice Ad d1.length cd,.int .i64 (d2),.int .i64 (d3),.int .i64 (d4)] 25) := ⟨_,rfl⟩
 rw [← hW]
 have hb : Below Wd.heap.size Wd We := by rw [hW]; exact below_alloc (Below.refl _ _) _
 have hx : We.heap[gl]? = some (.cells #[.slice Aa a1.length ca,.int .i64 (a2),.int .i64 (a3),.int .i64 (a4),.slice Ab b1.length cb,.int .i64 (b2),.int .i64 (b3),.int .i64 (b4),.slice Ac c1.length cc,.int .i64 (c2),.int .i64 (c3),.int .i64 (c4),.slice Ad d1.length cd,.int .i64 (d2),.int .i64 (d3),.int .i64 (d4)] 25 (0,0)) := by rw [hW,hgl]; exact blk_new _ _
 have hgN : N0 ≤ gl := by rw [hgl]; exact HST.out.2.2.2.1
 have ma := Rm_below HBa.out.2.1 hb
 have mb := Rm_below HBb.out.2.1 hb
 have mc := Rm_below HBc.out.2.1 hb
 have md := Rm_below HBd.out.2.1 hb
 have ka := takeR_len HRT.out HKa.out
 have kb := seenR_len HRT.out HKb.out
 have kc := givenR_len HRT.out HKc.out
 have kd := beginR_len H20.out HKd.out
 have HFR : Aside0 (Fr We N0 gl) := ⟨⟨hgN,_,hx,fun i hi => by
  rcases (show i = 0 ∨ i = 1 ∨ i = 2 ∨ i = 3 by omega) with rfl | rfl | rfl | rfl
  ·exact ⟨Aa,a1.length,ca,rfl,by omega,ma⟩
  ·exact ⟨Ab,b1.length,cb,rfl,by omega,mb⟩
  ·exact ⟨Ac,c1.length,cc,rfl,by omega,mc⟩
  ·exact ⟨Ad,d1.length,cd,rfl,by omega,md⟩⟩⟩
 replace HST := Aside0.mk (St_below HST.out hb)
 clear hW hb hx hgN hgl ma ka HBa HKa mb kb HBb HKb mc kc HBc HKc md kd HBd HKd
 go_wp2_with fail
 go_loopw [17] (fun v17 w' => ∃ x : Int,Aside0 (0 ≤ x ∧ x ≤ 4) ∧ v17 = .int .i64 x ∧ Aside0 (St w w' gs #[.slice A0 l.length c0,.int .i64 (v),.int .i64 (s),.int .i64 (n)] N0 (.slice Aw l.length cw) l) ∧ Aside0 (Fr w' N0 gl)) (fun v17 _ => 4 - (intOf v17).toNat)
 case atStart => exact ⟨0,⟨by omega,by omega⟩,rfl,HST,HFR⟩
 case round =>
  clear HST HFR
  obtain ⟨x,hx,rfl,HST,HFR⟩ := hrel
  have hx0 := hx.out.1
  have hx64 : x + 1 ≤ 9223372036854775807 := by have := hx.out; omega
  by_cases hx4 : x < 4
  ·have HX4 := Aside0.mk hx4
   have hx4t := decide_eq_true hx4
   have hx0e := eq_true hx0
   have hx4e := eq_true hx4
   clear hx4
   rename World => wO
   go_wp2_with fail
   go_loopw [18] (fun v18 w' => ∃ y : Int,Aside0 (0 ≤ y) ∧ v18 = .int .i64 y ∧ Aside0 (St w w' gs #[.slice A0 l.length c0,.int .i64 (v),.int .i64 (s),.int .i64 (n)] N0 (.slice Aw l.length cw) l) ∧ Aside0 (Fr w' N0 gl)) (fun v18 w' => 9223372036854775807 - (intOf v18).toNat)
   case atStart => exact ⟨0,⟨by omega⟩,rfl,HST,HFR⟩
   case round =>
    clear HST HFR
    obtain ⟨y,hy,rfl,HST,HFR⟩ := hrel
    have hy0 := hy.out
    obtain ⟨An,n1,c1_,hcell,hn1,hrm⟩ := Fr_cell HFR.out x hx.out.1 HX4.out
    have HN := Aside0.mk hn1
    have HRM := Aside0.mk hrm
    clear hn1 hrm
    by_cases hyn : y < (n1 : Int)
    ·have HYN := Aside0.mk hyn
     have hynt := decide_eq_true hyn
     have hy0e := eq_true hy0
     have hyne := eq_true hyn
     clear hyn
     obtain ⟨g,cs,rfl,hgN,hblk,hsz⟩ := HRM.out (by have := HYN.out; have := hy.out; omega)
     have HGN := Aside0.mk hgN
     have HBK := Aside0.mk hblk
     have HSZ := Aside0.mk hsz
     clear hgN hblk hsz
     have hy64 : y + 1 ≤ 9223372036854775807 := by have := HYN.out; have := HN.out; omega
     have hz : wr.cell? ⟨g,y.toNat,none⟩ = some (cs[y.toNat]'(by have := HYN.out; have := HSZ.out; omega)) := (blk_cell HBK.out _).trans (Array.getElem?_eq_getElem _)
     have hf := blk_frozen HBK.out y.toNat
     go_wp2_with fail
     clear hcell hz hf
     go_roundw
     case rel => exact ⟨y + 1,⟨by have := hy.out; omega⟩,rfl,⟨St_set HST.out HGN.out _⟩,⟨Fr_set HFR.out HBK.out _⟩⟩
     case measure => have := hy.out; have := HYN.out; have := HN.out; simp [intOf]; omega
    ·have hynt := decide_eq_false hyn
     clear hyn
     go_wp2_with fail
     clear hcell
     go_roundw
     case rel => exact ⟨x + 1,⟨by have := hx.out; have := HX4.out; omega⟩,rfl,HST,HFR⟩
     case measure => have := hx.out; have := HX4.out; simp [intOf]; omega
  ·have hx4t := decide_eq_false hx4
   clear hx4
   have s_0 : wr.cell? ⟨gs,0,none⟩ = some (.slice A0 l.length c0) := (blk_cell HST.out.1 0).trans rfl
   go_wp2_with fail
   clear s_0
   refine (lodgerref07_Ints.calls 61 A0 c0 l Aw cw l true _ (Kd.C_below HCl.out (St_B HST.out)) Hcl.out (Kd.R_reads' HST.out.2.1).2.2 (Kd.R_reads' HST.out.2.1).2.1 (ints_is l H20.out 61 (by omega))).mono ?_
   rintro e w8 ⟨rfl,hb0⟩
   have hb : Below wr.heap.size wr w8 := by first | exact hb0 | exact hb0.below
   clear hb0
   have HB := Aside0.mk (below_step (St_B HST.out) hb)
   clear hb HST HFR
   go_wp2_with fail
   refine (lodgerlaw15_fixed.calls _).mono ?_
   rintro e wf ⟨rfl,hb⟩
   go_wp2
   go_ret
   exact ⟨rfl,below_step HB.out hb⟩
end Go.Proofs.Ytbcmjbjhjnojjaa.H
