/-
The walk of TableOwn.
-/
import Derived.Test.YtbefoehjlgdcgaaTo
import Derived.Test.YtbefoehjlgdcgaaCu
import Derived.Test.YtbefoehjlgdcgaaWFour
import Derived.Test.YtbefoehjlgdcgaaRr
namespace Go.Proofs.Ytbefoehjlgdcgaa.H
open Go.RowKit Go.Proofs.YtbefoehjlgdcgaaW.PrintWords Go.Proofs.YtbefoehjlgdcgaaW.PrintLast Go.Proofs.YtbefoehjlgdcgaaW.PrintMore
attribute [local go_sem] min2_int min_two
set_option linter.unusedVariables false
set_option linter.unusedSimpArgs false
def yz0 : Array Bool := #[false,false,false,false,false,false,false,false,false,false,false,false,false,false,false,false,false,false,false]
def yz1 : Array Bool := #[true,false,false,false,false,false,false,false,false,false,false,false,false,false,false,false,false,false,false]
def yz2 : Array Bool := #[true,false,true,false,false,false,false,false,false,false,false,false,false,false,false,false,false,false,false]
def yz3 : Array Bool := #[true,false,true,false,false,true,false,false,false,false,false,false,false,false,false,false,false,false,false]
def yz4 : Array Bool := #[true,false,true,false,false,true,false,false,false,true,false,false,false,false,false,false,false,false,false]
def yz5 : Array Bool := #[true,false,true,false,false,true,false,false,false,true,false,false,false,true,false,false,false,false,false]
def yz6 : Array Bool := #[true,true,true,false,false,true,false,false,false,true,false,false,false,true,false,false,false,false,false]
def yz7 : Array Bool := #[true,true,true,true,false,true,false,false,false,true,false,false,false,true,false,false,false,false,false]
def yz8 : Array Bool := #[true,true,true,true,false,true,true,false,false,true,false,false,false,true,false,false,false,false,false]
def yz9 : Array Bool := #[true,true,true,true,false,true,true,false,false,true,true,false,false,true,false,false,false,false,false]
def yz10 : Array Bool := #[true,true,true,true,false,true,true,false,false,true,true,false,false,true,true,false,false,false,false]
def yz11 : Array Bool := #[true,true,true,true,true,true,true,true,true,true,true,true,true,true,true,true,true,true,false]
def yz12 : Array Bool := #[true,true,true,true,true,true,true,true,true,true,true,true,true,true,true,true,true,false,false]
def yz13 : Array Bool := #[true,true,true,true,true,true,true,true,true,true,true,true,true,true,true,false,false,true,false]
def yz14 : Array Bool := #[true,true,true,true,true,true,true,true,true,true,true,true,true,true,true,false,false,false,false]
def yz15 : Array Bool := #[true,true,true,true,true,true,true,true,true,true,true,true,false,true,true,false,false,true,false]
def yz16 : Array Bool := #[true,true,true,true,true,true,true,true,true,true,true,false,true,true,true,false,false,true,false]
def yz17 : Array Bool := #[true,true,true,true,true,true,true,true,true,true,true,true,false,true,true,false,false,false,false]
def yz18 : Array Bool := #[true,true,true,true,true,true,true,true,true,true,true,false,true,true,true,false,false,false,false]
def yz19 : Array Bool := #[true,true,true,true,true,true,true,true,true,true,true,false,false,true,true,false,false,true,false]
def yz20 : Array Bool := #[true,true,true,true,true,true,true,true,false,true,true,false,true,true,true,false,false,true,false]
def yz21 : Array Bool := #[true,true,true,true,true,true,true,false,true,true,true,false,true,true,true,false,false,true,false]
def yz22 : Array Bool := #[true,true,true,true,true,true,true,true,true,true,true,false,false,true,true,false,false,false,false]
def yz23 : Array Bool := #[true,true,true,true,true,true,true,true,false,true,true,false,true,true,true,false,false,false,false]
def yz24 : Array Bool := #[true,true,true,true,true,true,true,true,false,true,true,false,false,true,true,false,false,true,false]
def yz25 : Array Bool := #[true,true,true,true,true,true,true,false,true,true,true,false,true,true,true,false,false,false,false]
def yz26 : Array Bool := #[true,true,true,true,true,true,true,false,true,true,true,false,false,true,true,false,false,true,false]
def yz27 : Array Bool := #[true,true,true,true,true,true,true,false,false,true,true,false,true,true,true,false,false,true,false]
def yz28 : Array Bool := #[true,true,true,true,false,true,true,false,true,true,true,false,true,true,true,false,false,true,false]
def yz29 : Array Bool := #[true,true,true,true,true,true,true,true,false,true,true,false,false,true,true,false,false,false,false]
def yz30 : Array Bool := #[true,true,true,true,true,true,true,false,true,true,true,false,false,true,true,false,false,false,false]
def yz31 : Array Bool := #[true,true,true,true,true,true,true,false,false,true,true,false,true,true,true,false,false,false,false]
def yz32 : Array Bool := #[true,true,true,true,true,true,true,false,false,true,true,false,false,true,true,false,false,true,false]
def yz33 : Array Bool := #[true,true,true,true,false,true,true,false,true,true,true,false,true,true,true,false,false,false,false]
def yz34 : Array Bool := #[true,true,true,true,false,true,true,false,true,true,true,false,false,true,true,false,false,true,false]
def yz35 : Array Bool := #[true,true,true,true,false,true,true,false,false,true,true,false,true,true,true,false,false,true,false]
def yz36 : Array Bool := #[true,true,true,true,true,true,true,false,false,true,true,false,false,true,true,false,false,false,false]
def yz37 : Array Bool := #[true,true,true,true,false,true,true,false,true,true,true,false,false,true,true,false,false,false,false]
def yz38 : Array Bool := #[true,true,true,true,false,true,true,false,false,true,true,false,true,true,true,false,false,false,false]
def yz39 : Array Bool := #[true,true,true,true,false,true,true,false,false,true,true,false,false,true,true,false,false,true,false]
def yz40 : Array Bool := #[true,true,true,true,true,true,true,true,true,true,true,true,true,true,true,true,false,false,false]
def yz41 : Array Bool := #[true,true,true,true,true,true,true,true,true,true,true,true,true,true,true,true,false,true,false]
def yz42 : Array Bool := #[true,true,true,true,true,true,true,true,true,true,true,true,true,true,true,true,true,true,true]
def yz43 : Array Bool := #[false,false,false,false,false,false,false,false,false,false,false,false]
def yz44 : Array Bool := #[false,true,false,false,false,false,false,false,false,false,false,false]
def yz45 : Array Bool := #[true,true,false,false,false,false,false,false,false,false,false,false]
def yz46 : Array Bool := #[true,true,true,false,false,false,false,false,false,false,false,false]
def yz47 : Array Bool := #[true,true,true,true,false,false,false,false,false,false,false,false]
def yz48 : Array Bool := #[true,true,true,true,true,false,false,false,false,false,false,false]
def yz49 : Array Bool := #[true,true,true,true,true,true,true,true,true,true,false,false]
def yz50 : Array Bool := #[true,true,true,true,true,true,false,false,false,false,false,false]
def yz51 : Array Bool := #[true,true,true,true,true,false,false,false,false,true,false,false]
def yz52 : Array Bool := #[true,true,true,true,true,true,true,false,false,false,false,false]
def yz53 : Array Bool := #[true,true,true,true,true,true,true,true,false,false,false,false]
def yz54 : Array Bool := #[true,true,true,true,true,true,true,true,true,false,false,false]
def yz55 : Array Bool := #[true,true,true,true,true,true,false,false,false,true,false,false]
def yz56 : Array Bool := #[true,true,true,true,true,true,true,false,false,true,false,false]
def yz57 : Array Bool := #[true,true,true,true,true,true,true,true,false,true,false,false]
def yz58 : Array Bool := #[true,true,true,true,true,true,true,true,true,true,true,false]
def yz59 : Array Bool := #[true,true,true,true,true,true,true,true,true,true,true,true]
def yz60 : Array Bool := #[false,false,false,false,false,false,false,false,false,false,false,false,false,false,false,false,false,false,false,false,false,false,false,false,false,false,false,false,false,false,false,false]
def yz61 : Array Bool := #[true,false,false,false,false,false,false,false,false,false,false,false,false,false,false,false,false,false,false,false,false,false,false,false,false,false,false,false,false,false,false,false]
def yz62 : Array Bool := #[true,true,false,false,false,false,false,false,false,false,false,false,false,false,false,false,false,false,false,false,false,false,false,false,false,false,false,false,false,false,false,false]
def yz63 : Array Bool := #[true,true,true,false,false,false,false,false,false,false,false,false,false,false,false,false,false,false,false,false,false,false,false,false,false,false,false,false,false,false,false,false]
def yz64 : Array Bool := #[true,true,true,true,false,false,false,false,false,false,false,false,false,false,false,false,false,false,false,false,false,false,false,false,false,false,false,false,false,false,false,false]
def yz65 : Array Bool := #[true,true,true,true,true,false,false,false,false,false,false,false,false,false,false,false,false,false,false,false,false,false,false,false,false,false,false,false,false,false,false,false]
def yz66 : Array Bool := #[true,true,true,true,true,true,false,false,false,false,false,false,false,false,false,false,false,false,false,false,false,false,false,false,false,false,false,false,false,false,false,false]
def yz67 : Array Bool := #[true,true,true,true,true,true,true,false,false,false,false,false,false,false,false,false,false,false,false,false,false,false,false,false,false,false,false,false,false,false,false,false]
def yz68 : Array Bool := #[true,true,true,true,true,true,true,true,false,false,false,false,false,false,false,false,false,false,false,false,false,false,false,false,false,false,false,false,false,false,false,false]
def yz69 : Array Bool := #[true,true,true,true,true,true,true,true,true,false,false,false,false,false,false,false,false,false,false,false,false,false,false,false,false,false,false,false,false,false,false,false]
def yz70 : Array Bool := #[true,true,true,true,true,true,true,true,true,true,false,false,false,false,false,false,false,false,false,false,false,false,false,false,false,false,false,false,false,false,false,false]
def yz71 : Array Bool := #[true,true,true,true,true,true,true,true,true,true,true,false,false,false,false,false,false,false,false,false,false,false,false,false,false,false,false,false,false,false,false,false]
def yz72 : Array Bool := #[true,true,true,true,true,true,true,true,true,true,true,true,false,false,false,false,false,false,false,false,false,false,false,false,false,false,false,false,false,false,false,false]
def yz73 : Array Bool := #[true,true,true,true,true,true,true,true,true,true,true,true,true,false,false,false,false,false,false,false,false,false,false,false,false,false,false,false,false,false,false,false]
def yz74 : Array Bool := #[true,true,true,true,true,true,true,true,true,true,true,true,true,true,false,false,false,false,false,false,false,false,false,false,false,false,false,false,false,false,false,false]
def yz75 : Array Bool := #[true,true,true,true,true,true,true,true,true,true,true,true,true,true,true,false,false,false,false,false,false,false,false,false,false,false,false,false,false,false,false,false]
def yz76 : Array Bool := #[true,true,true,true,true,true,true,true,true,true,true,true,true,true,true,true,false,false,false,false,false,false,false,false,false,false,false,false,false,false,false,false]
def yz77 : Array Bool := #[true,true,true,true,true,true,true,true,true,true,true,true,true,true,true,true,true,false,false,false,false,false,false,false,false,false,false,false,false,false,false,false]
def yz78 : Array Bool := #[true,true,true,true,true,true,true,true,true,true,true,true,true,true,true,true,true,true,false,false,false,false,false,false,false,false,false,false,false,false,false,false]
def yz79 : Array Bool := #[true,true,true,true,true,true,true,true,true,true,true,true,true,true,true,true,true,true,true,false,false,false,false,false,false,false,false,false,false,false,false,false]
def yz80 : Array Bool := #[true,true,true,true,true,true,true,true,true,true,true,true,true,true,true,true,true,true,true,true,false,false,false,false,false,false,false,false,false,false,false,false]
def yz81 : Array Bool := #[true,true,true,true,true,true,true,true,true,true,true,true,true,true,true,true,true,true,true,true,true,false,false,false,false,false,false,false,false,false,false,false]
def yz82 : Array Bool := #[true,true,true,true,true,true,true,true,true,true,true,true,true,true,true,true,true,true,true,true,true,true,false,false,false,false,false,false,false,false,false,false]
def yz83 : Array Bool := #[true,true,true,true,true,true,true,true,true,true,true,true,true,true,true,true,true,true,true,true,true,true,true,false,false,false,false,false,false,false,false,false]
def yz84 : Array Bool := #[true,true,true,true,true,true,true,true,true,true,true,true,true,true,true,true,true,true,true,true,true,true,true,true,false,false,false,false,false,false,false,false]
def yz85 : Array Bool := #[true,true,true,true,true,true,true,true,true,true,true,true,true,true,true,true,true,true,true,true,true,true,true,true,false,true,false,false,false,false,false,false]
def yz86 : Array Bool := #[true,true,true,true,true,true,true,true,true,true,true,true,true,true,true,true,true,true,true,true,true,true,true,true,true,true,false,false,false,false,false,false]
def yz87 : Array Bool := #[true,true,true,true,true,true,true,true,true,true,true,true,true,true,true,true,true,true,true,true,true,true,true,true,true,true,true,false,false,false,false,false]
def yz88 : Array Bool := #[true,true,true,true,true,true,true,true,true,true,true,true,true,true,true,true,true,true,true,true,true,true,true,true,true,true,true,true,false,false,false,false]
def yz89 : Array Bool := #[true,true,true,true,true,true,true,true,true,true,true,true,true,true,true,true,true,true,true,true,true,true,true,true,true,true,true,true,true,false,false,false]
def yz90 : Array Bool := #[true,true,true,true,true,true,true,true,true,true,true,true,true,true,true,true,true,true,true,true,true,true,true,true,true,true,true,true,true,true,false,false]
def yz91 : Array Bool := #[true,true,true,true,true,true,true,true,true,true,true,true,true,true,true,true,true,true,true,true,true,true,true,true,true,true,true,true,true,true,true,false]
def yz92 : Array Bool := #[true,true,true,true,true,true,true,true,true,true,true,true,true,true,true,true,true,true,true,true,true,true,true,true,true,true,true,true,true,true,true,true]
theorem yzI {α : Type} (l : List α) (i : Nat) (a : α) : l.toArray.setIfInBounds i a = (l.set i a).toArray := List.setIfInBounds_toArray l i a
theorem yzs0 {α : Type} (x : α) (l : List α) (a : α) : (x :: l).set 0 a = a :: l := rfl
theorem yzs1 {α : Type} (x : α) (l : List α) (i : Nat) (a : α) : (x :: l).set (i + 1) a = x :: l.set i a := rfl
/-- A slice of whole numbers that may be written: its block lies at N0 or behind, and has room. -/
def Rm (W : World) (N0 e : Nat) (A : Option Addr) (n : Nat) : Prop := 0 < n → ∃ g cs,A = some ⟨g,0,none⟩ ∧ N0 ≤ g ∧ W.heap[g]? = some (.cells cs e (0,0)) ∧ n ≤ cs.size
theorem Rm_of {W : World} {k : IntKind} {N0 e B n c : Nat} {ok : Nat → Prop} {A : Option Addr} {xs : List Int} (h : Kd.R (Kd.int k) e W B ok (.slice A n c) xs) (hB : N0 ≤ B) : Rm W N0 e A n := fun hn => by
 have hx := (Kd.R_reads' h).1
 obtain ⟨g,cap,q,h1,_,cs,h3⟩ := Kd.R_form h (by omega)
 cases q
 refine ⟨g,cs,rfl,by omega,h3,?_⟩
 obtain ⟨ce,hcl,_,hcc,_⟩ := Kd.R_elem h 0 ((xs.length : Int) - 1) (by omega) (by omega)
 have e1 : ce.length = 1 := hcl
 obtain ⟨z,rfl⟩ := List.length_eq_one_iff.1 e1
 have h4 := hcc 0 z rfl
 rw [blk_cell h3] at h4
 have h5 := (Array.getElem?_eq_some_iff.1 h4).1
 have e2 : (Kd.int k).sz = 1 := rfl
 rw [e2] at h5
 omega
theorem Rm_below {W W' : World} {N0 e n : Nat} {A : Option Addr} (h : Rm W N0 e A n) (hb : Below W.heap.size W W') : Rm W' N0 e A n := fun hn => by
 obtain ⟨g,cs,q,h1,h2,h3⟩ := h hn
 exact ⟨g,cs,q,h1,blk_below h2 hb,h3⟩
theorem Rm_set {W : World} {N0 e n g j : Nat} {A : Option Addr} (h : Rm W N0 e A n) (u : Value) : Rm (W.setCell ⟨g,j,none⟩ u) N0 e A n := fun hn => by
 obtain ⟨k,cs,q,h1,h2,h3⟩ := h hn
 by_cases hk : k = g
 ·subst hk
  exact ⟨k,_,q,h1,blk_set h2 j u,by simpa using h3⟩
 ·exact ⟨k,cs,q,h1,blk_far h2 (p := ⟨g,j,none⟩) hk u,h3⟩
/-- What a told table's rows are for one who writes into them. -/
def Rw (W : World) (N0 : Nat) (P1 : Option Addr) (m1 : Nat) (P2 : Option Addr) (m2 : Nat) (P3 : Option Addr) (m3 : Nat) : Prop := (m1 ≤ 1001 ∧ Rm W N0 3 P1 m1) ∧ (m2 ≤ 1001 ∧ Rm W N0 3 P2 m2) ∧ m3 ≤ 1001 ∧ Rm W N0 23 P3 m3
theorem Rw_of {w : World} {B N0 : Nat} {ok : Prop} {E g s er n0 n1 : Int} {o l f : List Int} {P1 P2 P3 : Option Addr} {m1 m2 m3 k1 k2 k3 : Nat} (h : TO w B ok E g s o l f er n0 n1 P1 m1 k1 P2 m2 k2 P3 m3 k3) (hB : N0 ≤ B) (hl : o.length ≤ 1001 ∧ l.length ≤ 1001 ∧ f.length ≤ 1001) : Rw w N0 P1 m1 P2 m2 P3 m3 := by
 rcases h with ⟨_,_,_,_,_,rfl,_,_,rfl,_,_,rfl,_⟩ | ⟨_,_,_,_,rfl,rfl,rfl,h7⟩
 ·have z : ∀ (e : Nat) (A : Option Addr),Rm w N0 e A 0 := fun e A hn => absurd hn (Nat.lt_irrefl 0)
  exact ⟨⟨by omega,z _ _⟩,⟨by omega,z _ _⟩,by omega,z _ _⟩
 ·exact ⟨⟨hl.1,Rm_of (TR_o h7) hB⟩,⟨hl.2.1,Rm_of (TR_l h7) hB⟩,hl.2.2,Rm_of (TR_f h7) hB⟩
theorem TO_er {w : World} {B : Nat} {ok : Prop} {E g s er n0 n1 : Int} {o l f : List Int} {P1 P2 P3 : Option Addr} {m1 m2 m3 k1 k2 k3 : Nat} (h : TO w B ok E g s o l f er n0 n1 P1 m1 k1 P2 m2 k2 P3 m3 k3) : er = 0 ∨ er = E := by
 rcases h with ⟨_,h,_⟩ | ⟨_,h,_⟩
 ·exact .inr h.symm
 ·exact .inl h
theorem Rw_below {W W' : World} {N0 m1 m2 m3 : Nat} {P1 P2 P3 : Option Addr} (h : Rw W N0 P1 m1 P2 m2 P3 m3) (hb : Below W.heap.size W W') : Rw W' N0 P1 m1 P2 m2 P3 m3 := ⟨⟨h.1.1,Rm_below h.1.2 hb⟩,⟨h.2.1.1,Rm_below h.2.1.2 hb⟩,h.2.2.1,Rm_below h.2.2.2 hb⟩
/-- A row of three such tables. -/
def Fr (W : World) (N0 g : Nat) : Prop := ∃ cs,W.heap[g]? = some (.cells cs 28 (0,0)) ∧ ∀ i,i < 3 → ∀ j e,((j = 2 ∨ j = 3) ∧ e = 3 ∨ j = 4 ∧ e = 23) → ∃ A n c,cs[i * 5 + j]? = some (.slice A n c) ∧ n ≤ 1001 ∧ Rm W N0 e A n
theorem Fr_cell {W : World} {N0 g : Nat} (h : Fr W N0 g) (x : Int) (h0 : 0 ≤ x) (h3 : x < 3) (j e : Nat) (hj : (j = 2 ∨ j = 3) ∧ e = 3 ∨ j = 4 ∧ e = 23) : ∃ A n c,W.cell? ⟨g,x.toNat * 5 + j,none⟩ = some (.slice A n c) ∧ n ≤ 1001 ∧ Rm W N0 e A n := by
 obtain ⟨cs,h1,h2⟩ := h
 obtain ⟨A,n,c,h3,h5⟩ := h2 x.toNat (by omega) j e hj
 exact ⟨A,n,c,(blk_cell h1 _).trans h3,h5⟩
theorem Fr_set {W : World} {N0 g k j e : Nat} {cs : Array Value} (h : Fr W N0 g) (hk : W.heap[k]? = some (.cells cs e (0,0))) (he : e ≠ 28) (u : Value) : Fr (W.setCell ⟨k,j,none⟩ u) N0 g := by
 obtain ⟨ds,h1,h2⟩ := h
 have hne : g ≠ k := fun q => by subst q; rw [h1] at hk; cases hk; exact he rfl
 refine ⟨ds,blk_far h1 (p := ⟨k,j,none⟩) hne u,fun i hi j' e' hj => ?_⟩
 obtain ⟨A,n,c,h3,h4,h5⟩ := h2 i hi j' e' hj
 exact ⟨A,n,c,h3,h4,Rm_set h5 u⟩
theorem Fr_mk {W : World} {N0 g : Nat} {a0 a1 b0 b1 c0 c1 : Value} {A1 A2 A3 B1 B2 B3 C1 C2 C3 : Option Addr} {m1 m2 m3 n1 n2 n3 p1 p2 p3 x1 x2 x3 y1 y2 y3 z1 z2 z3 : Nat} (h : W.heap[g]? = some (.cells #[a0,a1,.slice A1 m1 x1,.slice A2 m2 x2,.slice A3 m3 x3,b0,b1,.slice B1 n1 y1,.slice B2 n2 y2,.slice B3 n3 y3,c0,c1,.slice C1 p1 z1,.slice C2 p2 z2,.slice C3 p3 z3] 28 (0,0))) (ha : Rw W N0 A1 m1 A2 m2 A3 m3) (hb : Rw W N0 B1 n1 B2 n2 B3 n3) (hc : Rw W N0 C1 p1 C2 p2 C3 p3) : Fr W N0 g := by
 refine ⟨_,h,fun i hi j e hj => ?_⟩
 rcases (show i = 0 ∨ i = 1 ∨ i = 2 by omega) with rfl | rfl | rfl <;> rcases hj with ⟨rfl | rfl,rfl⟩ | ⟨rfl,rfl⟩
 ·exact ⟨_,_,_,rfl,ha.1⟩
 ·exact ⟨_,_,_,rfl,ha.2.1⟩
 ·exact ⟨_,_,_,rfl,ha.2.2⟩
 ·exact ⟨_,_,_,rfl,hb.1⟩
 ·exact ⟨_,_,_,rfl,hb.2.1⟩
 ·exact ⟨_,_,_,rfl,hb.2.2⟩
 ·exact ⟨_,_,_,rfl,hc.1⟩
 ·exact ⟨_,_,_,rfl,hc.2.1⟩
 ·exact ⟨_,_,_,rfl,hc.2.2⟩
theorem roll_few {g : Int} {o l f : List Int} {s first : Int} (h : RT g s o l f) : (o ++ [(frk g.toNat o).headD 0]).length ≤ 1001 ∧ (l ++ [0]).length ≤ 1001 ∧ (f ++ [first]).length ≤ 1001 := by
 have h1 := h.len
 have h2 := h.may
 have h3 := h.hl
 have h4 := h.hf
 simp only [List.length_append,List.length_cons,List.length_nil]
 omega
theorem count_few {g : Int} {o l f : List Int} {s v : Int} (h : RT g s o l f) (i : Nat) : o.length ≤ 1001 ∧ (l.set i v).length ≤ 1001 ∧ f.length ≤ 1001 := by
 have h1 := h.len
 have h2 := h.may
 have h3 := h.hl
 have h4 := h.hf
 rw [List.length_set]
 omega
theorem drop_few {g : Int} {o l f : List Int} {s : Int} (h : RT g s o l f) (i : Nat) : (o.eraseIdx i).length ≤ 1001 ∧ (l.eraseIdx i).length ≤ 1001 ∧ (f.eraseIdx i).length ≤ 1001 := by
 have h1 := h.len
 have h2 := h.may
 have h3 := h.hl
 have h4 := h.hf
 have e1 := List.length_eraseIdx_le o i
 have e2 := List.length_eraseIdx_le l i
 have e3 := List.length_eraseIdx_le f i
 omega
def own8.T4 : Bool × List (List Nat × List Nat) := (true,[([],[]),([0],[0]),([],[]),([2],[2]),([],[]),([],[]),([5],[5]),([4,6],[4,6]),([],[]),([],[]),([9],[9]),([8,10,7],[8,10]),([],[]),([],[]),([13],[13]),([12,14,11],[12,14]),([1,3,7,11,15],[1,3,7,11,15]),([],[]),([17,16,15,0,1,2,3,4,5,6,7,8,9,10,11,12,13,14,15,16,17],[16,17])])
def own8.B4 : List Nat := [0,1,0,4,0,0,32,112,0,0,512,2032,0,0,8192,32752,65535,0,262143]
theorem own8.tab4 : rtab .any (opsOf Try.f6 4) = own8.T4 := by kernel_rfl
theorem own8.bits4 : waitsOk own8.T4.2 own8.B4 = true := by kernel_rfl
def own8.T7 : Bool × List (List Nat × List Nat) := (true,[([],[]),([],[]),([1],[1]),([2],[2]),([3],[3]),([0,4],[0,4]),([5],[5]),([6],[6]),([6],[6]),([],[]),([9,7,5,0,1,2,3,4,5,6,7,9],[7,9]),([8,10,0,1,2,3,4,5,6,7,8,9,10],[8])])
def own8.B7 : List Nat := [0,0,2,6,14,31,63,127,127,0,767,2047]
theorem own8.tab7 : rtab .any (opsOf Try.f6 7) = own8.T7 := by kernel_rfl
theorem own8.bits7 : waitsOk own8.T7.2 own8.B7 = true := by kernel_rfl
def own8.T24 : Bool × List (List Nat × List Nat) := (true,[([],[]),([0],[0]),([1],[1]),([2],[2]),([3,2],[2,3]),([2,4],[2,4]),([5,2],[5]),([6],[6]),([7,6],[6,7]),([8,6,6],[6,8]),([9],[9]),([10,9],[9,10]),([9,11,6],[6,9,11]),([6,12],[6,12]),([13,9],[13]),([14],[14]),([15,14],[14,15]),([16,14,14],[14,16]),([17],[17]),([18,17],[17,18]),([17,19,14],[14,17,19]),([14,20],[14,20]),([21,17],[21]),([22],[22]),([23,22,22],[22,23]),([22],[22]),([24,25,24,22],[22,24,25]),([22,26],[22,26]),([27,26],[27]),([28,28],[28]),([28,29],[28,29]),([30,29,0,1,2,3,4,5,6,7,8,9,10,11,12,13,14,15,16,17,18,19,20,21,22,23,24,25,26,27,28,29,30],[30])])
def own8.B24 : List Nat := [0,1,3,7,15,31,63,127,255,511,1023,2047,4095,8191,16383,32767,65535,131071,262143,524287,1048575,2097151,4194303,8388607,16777215,8388607,67108863,134217727,268435455,536870911,1073741823,2147483647]
theorem own8.tab24 : rtab .any (opsOf Try.f6 24) = own8.T24 := by kernel_rfl
theorem own8.bits24 : waitsOk own8.T24.2 own8.B24 = true := by kernel_rfl
set_option maxHeartbeats 8000000 in
set_option maxRecDepth 100000 in
theorem TableOwn_walk0 (g s : Int) (Ao : Option Addr) (co : Nat) (o0 : List Int) (Al : Option Addr) (cl : Nat) (l0 : List Int) (Af : Option Addr) (cf : Nat) (f0 : List Int) (first : Int) (w : World) (hT : TC w Ao co o0 Al cl l0 Af cf f0) :
  Calls Try.prog 6 #[.agg #[.int .i64 g,.int .i64 s,.slice Ao o0.length co,.slice Al l0.length cl,.slice Af f0.length cf],.int .u64 first] w fun e w' => e = .returned (.bool true) ∧ Below w.heap.size w w' := by
 obtain ⟨o,ho⟩ : ∃ z,z = o0.take 20 := ⟨_,rfl⟩
 obtain ⟨l,hl⟩ : ∃ z,z = l0.take 20 := ⟨_,rfl⟩
 obtain ⟨f,hf⟩ : ∃ z,z = f0.take 20 := ⟨_,rfl⟩
 have HT0 := Aside0.mk hT
 have hT2 := TC_cut hT
 rw [← ho,← hl,← hf] at hT2
 have HT := Aside0.mk hT2
 have HEQ := Aside0.mk (And.intro ho (And.intro hl hf))
 have HLN : Aside0 (o.length ≤ 20 ∧ l.length ≤ 20 ∧ f.length ≤ 20) := ⟨by rw [ho,hl,hf,List.length_take,List.length_take,List.length_take]; omega⟩
 clear hT hT2 ho hl hf
 go_enter Try.func6,Try.ntmps6
 go_upto_region 1 with fail
 obtain ⟨W1,hW1⟩ : ∃ W1,W1 = w.alloc (.cells #[.int .i64 g,.int .i64 s,.slice Ao o0.length co,.slice Al l0.length cl,.slice Af f0.length cf] 28) := ⟨_,rfl⟩
 rw [← hW1]
 obtain ⟨g2,hg2⟩ : ∃ g,g = w.heap.size := ⟨_,rfl⟩
 have HX2 : Aside0 (W1.heap[g2]? = some (.cells #[.int .i64 g,.int .i64 s,.slice Ao o0.length co,.slice Al l0.length cl,.slice Af f0.length cf] 28 (0,0))) := ⟨by rw [hW1,hg2]; exact blk_new _ _⟩
 have HB : Aside0 (Below w.heap.size w W1) := ⟨by rw [hW1]; exact below_alloc (Below.refl _ _) _⟩
 have HG2 : Aside0 (w.heap.size ≤ g2) := ⟨Nat.le_of_eq hg2.symm⟩
 rw [← hg2]
 clear hW1 hg2
 have s_0 : W1.cell? ⟨g2,0,none⟩ = some (.int .i64 g) := cL HX2 0 rfl
 have s_1 : W1.cell? ⟨g2,1,none⟩ = some (.int .i64 s) := cL HX2 1 rfl
 have s_2 : W1.cell? ⟨g2,2,none⟩ = some (.slice Ao o0.length co) := cL HX2 2 rfl
 have s_3 : W1.cell? ⟨g2,3,none⟩ = some (.slice Al l0.length cl) := cL HX2 3 rfl
 have s_4 : W1.cell? ⟨g2,4,none⟩ = some (.slice Af f0.length cf) := cL HX2 4 rfl
 go_wp2_with fail
 clear s_0 s_1 s_2 s_3 s_4
 refine (cut_calls g s Ao co o0 Al cl l0 Af cf f0 _ (TC_below HT0.out HB.out)).mono ?_
 rintro e_ w2 ⟨rfl,hb⟩
 rw [← HEQ.out.1,← HEQ.out.2.1,← HEQ.out.2.2]
 replace HX2 := mB HX2 hb
 replace HB := mS HB hb
 clear hb HT0 HEQ
 have n_0 : w2.cell? ⟨g2,0,none⟩ = some (.int .i64 g) := cL HX2 0 rfl
 have n_1 : w2.cell? ⟨g2,1,none⟩ = some (.int .i64 s) := cL HX2 1 rfl
 have n_2 : w2.cell? ⟨g2,2,none⟩ = some (.slice Ao o0.length co) := cL HX2 2 rfl
 have n_3 : w2.cell? ⟨g2,3,none⟩ = some (.slice Al l0.length cl) := cL HX2 3 rfl
 have n_4 : w2.cell? ⟨g2,4,none⟩ = some (.slice Af f0.length cf) := cL HX2 4 rfl
 have nf_0 := blk_frozen HX2.out 0
 have nf_1 := blk_frozen HX2.out 1
 have nf_2 := blk_frozen HX2.out 2
 have nf_3 := blk_frozen HX2.out 3
 have nf_4 := blk_frozen HX2.out 4
 go_upto_region 2 with fail
 clear n_0 n_1 n_2 n_3 n_4 nf_0 nf_1 nf_2 nf_3 nf_4
 obtain ⟨w3,hW⟩ : ∃ W_,W_ = (((((w2.setCell ⟨g2,0,none⟩ (.int .i64 g)).setCell ⟨g2,1,none⟩ (.int .i64 s)).setCell ⟨g2,2,none⟩ (.slice Ao o.length co)).setCell ⟨g2,3,none⟩ (.slice Al l.length cl)).setCell ⟨g2,4,none⟩ (.slice Af f.length cf)) := ⟨_,rfl⟩
 rw [← hW]
 replace HB := Aside0.mk (below5 hW HB.out HG2.out)
 replace HX2 := Aside0.mk (set5 hW HX2.out)
 clear hW
 have s_0 : w3.cell? ⟨g2,0,none⟩ = some (.int .i64 g) := cL HX2 0 rfl
 have s_1 : w3.cell? ⟨g2,1,none⟩ = some (.int .i64 s) := cL HX2 1 rfl
 have s_2 : w3.cell? ⟨g2,2,none⟩ = some (.slice Ao o.length co) := cL HX2 2 rfl
 have s_3 : w3.cell? ⟨g2,3,none⟩ = some (.slice Al l.length cl) := cL HX2 3 rfl
 have s_4 : w3.cell? ⟨g2,4,none⟩ = some (.slice Af f.length cf) := cL HX2 4 rfl
 go_wp2_with fail
 clear s_0 s_1 s_2 s_3 s_4
 refine (ref_calls g s Ao co o Al cl l Af cf f _).mono ?_
 rintro e_ w4 ⟨rfl,hb⟩
 replace HX2 := mB HX2 hb
 replace HB := mS HB hb
 clear hb
 go_wp2_with fail
 refine (rright_calls g s Ao co o Al cl l Af cf f _ (TC_below HT.out HB.out) (by have := HLN.out; omega)).mono ?_
 rintro e_ w5 ⟨rfl,hb⟩
 replace HX2 := mB HX2 hb
 replace HB := mS HB hb
 clear hb
 by_cases hR : rtT g s o l f = false
 ·rw [hR]
  have s_0 : w5.cell? ⟨g2,0,none⟩ = some (.int .i64 g) := cL HX2 0 rfl
  have s_1 : w5.cell? ⟨g2,1,none⟩ = some (.int .i64 s) := cL HX2 1 rfl
  have s_2 : w5.cell? ⟨g2,2,none⟩ = some (.slice Ao o.length co) := cL HX2 2 rfl
  have s_3 : w5.cell? ⟨g2,3,none⟩ = some (.slice Al l.length cl) := cL HX2 3 rfl
  have s_4 : w5.cell? ⟨g2,4,none⟩ = some (.slice Af f.length cf) := cL HX2 4 rfl
  go_wp2_with fail
  clear s_0 s_1 s_2 s_3 s_4
  refine (right_calls g s Ao co o Al cl l Af cf f _ (TC_below HT.out HB.out) (by have := HLN.out; omega)).mono ?_
  rintro e_ w6 ⟨rfl,hb⟩
  replace HX2 := mB HX2 hb
  replace HB := mS HB hb
  clear hb
  rw [hR]
  go_wp2_with fail
  refine (fixed_calls _).mono ?_
  rintro e_ w7 ⟨rfl,hb⟩
  go_wp2_with fail
  go_ret
  exact ⟨rfl,below_step HB.out hb⟩
 ·have hR2 : rtT g s o l f = true := by simpa using hR
  rw [hR2]
  have HRT := Aside0.mk (rt_iff.1 hR2)
  clear hR hR2
  go_upto_region 4 with fail
  refine start_ (n := 19) (S := fun w' => w'.cell? ⟨g2,0,none⟩ = some (.int .i64 g) ∧ w'.cell? ⟨g2,1,none⟩ = some (.int .i64 s) ∧ w'.cell? ⟨g2,2,none⟩ = some (.slice Ao o.length co) ∧ w'.cell? ⟨g2,3,none⟩ = some (.slice Al l.length cl) ∧ w'.cell? ⟨g2,4,none⟩ = some (.slice Af f.length cf)) (ds := [18]) yz0 (by kernel_rfl) rfl rfl ⟨((blk_cell (blk_drew HX2.out) 0).trans rfl),((blk_cell (blk_drew HX2.out) 1).trans rfl),((blk_cell (blk_drew HX2.out) 2).trans rfl),((blk_cell (blk_drew HX2.out) 3).trans rfl),((blk_cell (blk_drew HX2.out) 4).trans rfl)⟩ (fun hHeld => ?_)
  refine with_tabW own8.tab4 own8.bits4 (fun HT_ HW_ => ?_)
  replace HX2 := Aside0.mk (blk_drew HX2.out)
  replace HB := Aside0.mk (below_drew HB.out)
  generalize w5.drew = wd4 at *
  refine pure_ (i := 0) (N := some 29) (v := ?_) (a' := ?_) yz1 rfl rfl (any_of HT_.out (by kernel_rfl)) (fun _ _ _ h => h) (Or.inl ⟨by rfl,?_⟩) ?_ ?_
  rotate_left
  ·intro w'
   go_simp
   with_reducible rfl
  rotate_left
  ·simp only [Act.put,yzI,yzs0,yzs1,i64_w,i32_w]
   rfl
  refine pure_ (i := 2) (N := some 31) (v := ?_) (a' := ?_) yz2 rfl rfl (any_of HT_.out (by kernel_rfl)) (fun _ _ _ h => h) (Or.inl ⟨by rfl,?_⟩) ?_ ?_
  rotate_left
  ·intro w'
   go_simp
   with_reducible rfl
  rotate_left
  ·simp only [Act.put,yzI,yzs0,yzs1,i64_w,i32_w]
   rfl
  refine pure_ (i := 5) (N := some 34) (v := ?_) (a' := ?_) yz3 rfl rfl (any_of HT_.out (by kernel_rfl)) (fun _ _ _ h => h) (Or.inl ⟨by rfl,?_⟩) ?_ ?_
  rotate_left
  ·intro w'
   go_simp
   with_reducible rfl
  rotate_left
  ·simp only [Act.put,yzI,yzs0,yzs1,i64_w,i32_w]
   rfl
  refine pure_ (i := 9) (N := some 38) (v := ?_) (a' := ?_) yz4 rfl rfl (any_of HT_.out (by kernel_rfl)) (fun _ _ _ h => h) (Or.inl ⟨by rfl,?_⟩) ?_ ?_
  rotate_left
  ·intro w'
   go_simp
   with_reducible rfl
  rotate_left
  ·simp only [Act.put,yzI,yzs0,yzs1,i64_w,i32_w]
   rfl
  refine pure_ (i := 13) (N := some 42) (v := ?_) (a' := ?_) yz5 rfl rfl (any_of HT_.out (by kernel_rfl)) (fun _ _ _ h => h) (Or.inl ⟨by rfl,?_⟩) ?_ ?_
  rotate_left
  ·intro w'
   go_simp
   with_reducible rfl
  rotate_left
  ·simp only [Act.put,yzI,yzs0,yzs1,i64_w,i32_w]
   rfl
  refine take_ (i := 1) (N := some 30) (v := ?_) (a' := ?_) yz6 rfl rfl (take_ofW HT_.out HW_.out (by kernel_rfl)) (fun _ _ _ h => h) (Or.inl ⟨by rfl,?_⟩) hHeld ?_ ?_
  rotate_left
  ·rintro w' ⟨s0,s1,s2,s3,s4⟩
   go_simp
   with_reducible rfl
  rotate_left
  ·simp only [Act.put,yzI,yzs0,yzs1,i64_w,i32_w]
   rfl
  refine take_ (i := 3) (N := some 32) (v := ?_) (a' := ?_) yz7 rfl rfl (take_ofW HT_.out HW_.out (by kernel_rfl)) (fun _ _ _ h => h) (Or.inl ⟨by rfl,?_⟩) hHeld ?_ ?_
  rotate_left
  ·rintro w' ⟨s0,s1,s2,s3,s4⟩
   go_simp
   with_reducible rfl
  rotate_left
  ·simp only [Act.put,yzI,yzs0,yzs1,i64_w,i32_w]
   rfl
  refine take_ (i := 6) (N := some 35) (v := ?_) (a' := ?_) yz8 rfl rfl (take_ofW HT_.out HW_.out (by kernel_rfl)) (fun _ _ _ h => h) (Or.inl ⟨by rfl,?_⟩) hHeld ?_ ?_
  rotate_left
  ·rintro w' ⟨s0,s1,s2,s3,s4⟩
   go_simp
   with_reducible rfl
  rotate_left
  ·simp only [Act.put,yzI,yzs0,yzs1,i64_w,i32_w]
   rfl
  refine take_ (i := 10) (N := some 39) (v := ?_) (a' := ?_) yz9 rfl rfl (take_ofW HT_.out HW_.out (by kernel_rfl)) (fun _ _ _ h => h) (Or.inl ⟨by rfl,?_⟩) hHeld ?_ ?_
  rotate_left
  ·rintro w' ⟨s0,s1,s2,s3,s4⟩
   go_simp
   with_reducible rfl
  rotate_left
  ·simp only [Act.put,yzI,yzs0,yzs1,i64_w,i32_w]
   rfl
  refine take_ (i := 14) (N := some 43) (v := ?_) (a' := ?_) yz10 rfl rfl (take_ofW HT_.out HW_.out (by kernel_rfl)) (fun _ _ _ h => h) (Or.inl ⟨by rfl,?_⟩) hHeld ?_ ?_
  rotate_left
  ·rintro w' ⟨s0,s1,s2,s3,s4⟩
   go_simp
   with_reducible rfl
  rotate_left
  ·simp only [Act.put,yzI,yzs0,yzs1,i64_w,i32_w]
   rfl
  refine join_ (σ := Value × Value × Value × Value × Value × Value × Nat) 1 yz11 (fun s_ => [(33,s_.1),(36,s_.2.1),(37,s_.2.2.1),(40,s_.2.2.2.1),(41,s_.2.2.2.2.1),(44,s_.2.2.2.2.2.1),(5,.pointer (some ⟨s_.2.2.2.2.2.2,0,none⟩)),(45,.agg #[.int .i64 g,.int .i64 s,s_.2.1,s_.2.2.2.1,s_.2.2.2.2.2.1])]) (fun s_ w' => ∃ (A1 : Option Addr) (d1 : Nat) (A2 : Option Addr) (d2 : Nat) (A3 : Option Addr) (d3 : Nat),s_.2.1 = .slice A1 o.length d1 ∧ s_.2.2.2.1 = .slice A2 l.length d2 ∧ s_.2.2.2.2.2.1 = .slice A3 f.length d3 ∧ Kd.R (Kd.int .i64) 3 w' w.heap.size (fun _ => True) s_.2.1 o ∧ Kd.R (Kd.int .i64) 3 w' w.heap.size (fun _ => True) s_.2.2.2.1 l ∧ Kd.R (Kd.int .u64) 23 w' w.heap.size (fun _ => True) s_.2.2.2.2.2.1 f ∧ DOL s_.2.1 s_.2.2.2.1 ∧ w'.heap[s_.2.2.2.2.2.2]? = some (.cells #[.int .i64 0,.int .i64 0,.slice none 0 0,.slice none 0 0,.slice none 0 0] 32 (0,0)) ∧ w.heap.size ≤ s_.2.2.2.2.2.2 ∧ g2 ≠ s_.2.2.2.2.2.2 ∧ w'.heap[g2]? = some (.cells #[.int .i64 g,.int .i64 s,.slice Ao o.length co,.slice Al l.length cl,.slice Af f.length cf] 28 (0,0)) ∧ Below w.heap.size w w') ?_ ?_
  rotate_left
  ·intro hJ4_7_8_11_12_15_17
   refine join_ (σ := Value × Value × Value × Value × Value × Value) 2 yz12 (fun s_ => [(33,s_.1),(36,s_.2.1),(37,s_.2.2.1),(40,s_.2.2.2.1),(41,s_.2.2.2.2.1),(44,s_.2.2.2.2.2),(45,.agg #[.int .i64 g,.int .i64 s,s_.2.1,s_.2.2.2.1,s_.2.2.2.2.2])]) (fun s_ w' => ∃ (A1 : Option Addr) (d1 : Nat) (A2 : Option Addr) (d2 : Nat) (A3 : Option Addr) (d3 : Nat),s_.2.1 = .slice A1 o.length d1 ∧ s_.2.2.2.1 = .slice A2 l.length d2 ∧ s_.2.2.2.2.2 = .slice A3 f.length d3 ∧ Kd.R (Kd.int .i64) 3 w' w.heap.size (fun _ => True) s_.2.1 o ∧ Kd.R (Kd.int .i64) 3 w' w.heap.size (fun _ => True) s_.2.2.2.1 l ∧ Kd.R (Kd.int .u64) 23 w' w.heap.size (fun _ => True) s_.2.2.2.2.2 f ∧ DOL s_.2.1 s_.2.2.2.1 ∧ w'.heap[g2]? = some (.cells #[.int .i64 g,.int .i64 s,.slice Ao o.length co,.slice Al l.length cl,.slice Af f.length cf] 28 (0,0)) ∧ Below w.heap.size w w') ?_ ?_
   rotate_left
   ·intro hJ4_7_8_11_12_15
    refine join_ (σ := Value × Value × Value × Value × Value × Nat) 3 yz13 (fun s_ => [(33,s_.1),(36,s_.2.1),(37,s_.2.2.1),(40,s_.2.2.2.1),(41,s_.2.2.2.2.1),(5,.pointer (some ⟨s_.2.2.2.2.2,0,none⟩))]) (fun s_ w' => Kd.R (Kd.int .i64) 3 w' w.heap.size (fun _ => True) s_.2.1 o ∧ Kd.R (Kd.int .i64) 3 w' w.heap.size (fun _ => True) s_.2.2.2.1 l ∧ Kd.R (Kd.int .u64) 23 w' w.heap.size (fun _ => True) s_.2.2.2.2.1 [] ∧ DOL s_.2.1 s_.2.2.2.1 ∧ w'.heap[s_.2.2.2.2.2]? = some (.cells #[.int .i64 0,.int .i64 0,.slice none 0 0,.slice none 0 0,.slice none 0 0] 32 (0,0)) ∧ w.heap.size ≤ s_.2.2.2.2.2 ∧ g2 ≠ s_.2.2.2.2.2 ∧ w'.heap[g2]? = some (.cells #[.int .i64 g,.int .i64 s,.slice Ao o.length co,.slice Al l.length cl,.slice Af f.length cf] 28 (0,0)) ∧ Below w.heap.size w w') ?_ ?_
    rotate_left
    ·intro hJ4_7_8_11_12_17
     refine join_ (σ := Value × Value × Value × Value × Value) 4 yz14 (fun s_ => [(33,s_.1),(36,s_.2.1),(37,s_.2.2.1),(40,s_.2.2.2.1),(41,s_.2.2.2.2)]) (fun s_ w' => Kd.R (Kd.int .i64) 3 w' w.heap.size (fun _ => True) s_.2.1 o ∧ Kd.R (Kd.int .i64) 3 w' w.heap.size (fun _ => True) s_.2.2.2.1 l ∧ Kd.R (Kd.int .u64) 23 w' w.heap.size (fun _ => True) s_.2.2.2.2 [] ∧ DOL s_.2.1 s_.2.2.2.1 ∧ w'.heap[g2]? = some (.cells #[.int .i64 g,.int .i64 s,.slice Ao o.length co,.slice Al l.length cl,.slice Af f.length cf] 28 (0,0)) ∧ Below w.heap.size w w') ?_ ?_
     rotate_left
     ·intro hJ4_7_8_11_12
      refine join_ (σ := Value × Value × Value × Value × Nat) 4 yz15 (fun s_ => [(33,s_.1),(36,s_.2.1),(37,s_.2.2.1),(40,s_.2.2.2.1),(5,.pointer (some ⟨s_.2.2.2.2,0,none⟩))]) (fun s_ w' => Kd.R (Kd.int .i64) 3 w' w.heap.size (fun _ => True) s_.2.1 o ∧ Kd.R (Kd.int .i64) 3 w' w.heap.size (fun _ => True) s_.2.2.2.1 l ∧ DOL s_.2.1 s_.2.2.2.1 ∧ w'.heap[s_.2.2.2.2]? = some (.cells #[.int .i64 0,.int .i64 0,.slice none 0 0,.slice none 0 0,.slice none 0 0] 32 (0,0)) ∧ w.heap.size ≤ s_.2.2.2.2 ∧ g2 ≠ s_.2.2.2.2 ∧ w'.heap[g2]? = some (.cells #[.int .i64 g,.int .i64 s,.slice Ao o.length co,.slice Al l.length cl,.slice Af f.length cf] 28 (0,0)) ∧ Below w.heap.size w w') ?_ ?_
      rotate_left
      ·intro hJ4_7_8_11_17
       refine join_ (σ := Value × Value × Value × Value × Nat) 4 yz16 (fun s_ => [(33,s_.1),(36,s_.2.1),(37,s_.2.2.1),(41,s_.2.2.2.1),(5,.pointer (some ⟨s_.2.2.2.2,0,none⟩))]) (fun s_ w' => Kd.R (Kd.int .i64) 3 w' w.heap.size (fun _ => True) s_.2.1 o ∧ Kd.R (Kd.int .i64) 3 w' w.heap.size (fun _ => True) s_.2.2.1 [] ∧ Kd.R (Kd.int .u64) 23 w' w.heap.size (fun _ => True) s_.2.2.2.1 [] ∧ DOL s_.2.1 s_.2.2.1 ∧ w'.heap[s_.2.2.2.2]? = some (.cells #[.int .i64 0,.int .i64 0,.slice none 0 0,.slice none 0 0,.slice none 0 0] 32 (0,0)) ∧ w.heap.size ≤ s_.2.2.2.2 ∧ g2 ≠ s_.2.2.2.2 ∧ w'.heap[g2]? = some (.cells #[.int .i64 g,.int .i64 s,.slice Ao o.length co,.slice Al l.length cl,.slice Af f.length cf] 28 (0,0)) ∧ Below w.heap.size w w') ?_ ?_
       rotate_left
       ·intro hJ4_7_8_12_17
        refine join_ (σ := Value × Value × Value × Value) 5 yz17 (fun s_ => [(33,s_.1),(36,s_.2.1),(37,s_.2.2.1),(40,s_.2.2.2)]) (fun s_ w' => Kd.R (Kd.int .i64) 3 w' w.heap.size (fun _ => True) s_.2.1 o ∧ Kd.R (Kd.int .i64) 3 w' w.heap.size (fun _ => True) s_.2.2.2 l ∧ DOL s_.2.1 s_.2.2.2 ∧ w'.heap[g2]? = some (.cells #[.int .i64 g,.int .i64 s,.slice Ao o.length co,.slice Al l.length cl,.slice Af f.length cf] 28 (0,0)) ∧ Below w.heap.size w w') ?_ ?_
        rotate_left
        ·intro hJ4_7_8_11
         refine join_ (σ := Value × Value × Value × Value) 5 yz18 (fun s_ => [(33,s_.1),(36,s_.2.1),(37,s_.2.2.1),(41,s_.2.2.2)]) (fun s_ w' => Kd.R (Kd.int .i64) 3 w' w.heap.size (fun _ => True) s_.2.1 o ∧ Kd.R (Kd.int .i64) 3 w' w.heap.size (fun _ => True) s_.2.2.1 [] ∧ Kd.R (Kd.int .u64) 23 w' w.heap.size (fun _ => True) s_.2.2.2 [] ∧ DOL s_.2.1 s_.2.2.1 ∧ w'.heap[g2]? = some (.cells #[.int .i64 g,.int .i64 s,.slice Ao o.length co,.slice Al l.length cl,.slice Af f.length cf] 28 (0,0)) ∧ Below w.heap.size w w') ?_ ?_
         rotate_left
         ·intro hJ4_7_8_12
          refine join_ (σ := Value × Value × Value × Nat) 5 yz19 (fun s_ => [(33,s_.1),(36,s_.2.1),(37,s_.2.2.1),(5,.pointer (some ⟨s_.2.2.2,0,none⟩))]) (fun s_ w' => Kd.R (Kd.int .i64) 3 w' w.heap.size (fun _ => True) s_.2.1 o ∧ Kd.R (Kd.int .i64) 3 w' w.heap.size (fun _ => True) s_.2.2.1 [] ∧ DOL s_.2.1 s_.2.2.1 ∧ w'.heap[s_.2.2.2]? = some (.cells #[.int .i64 0,.int .i64 0,.slice none 0 0,.slice none 0 0,.slice none 0 0] 32 (0,0)) ∧ w.heap.size ≤ s_.2.2.2 ∧ g2 ≠ s_.2.2.2 ∧ w'.heap[g2]? = some (.cells #[.int .i64 g,.int .i64 s,.slice Ao o.length co,.slice Al l.length cl,.slice Af f.length cf] 28 (0,0)) ∧ Below w.heap.size w w') ?_ ?_
          rotate_left
          ·intro hJ4_7_8_17
           refine join_ (σ := Value × Value × Value × Nat) 5 yz20 (fun s_ => [(33,s_.1),(36,s_.2.1),(41,s_.2.2.1),(5,.pointer (some ⟨s_.2.2.2,0,none⟩))]) (fun s_ w' => Kd.R (Kd.int .i64) 3 w' w.heap.size (fun _ => True) s_.2.1 o ∧ Kd.R (Kd.int .u64) 23 w' w.heap.size (fun _ => True) s_.2.2.1 [] ∧ w'.heap[s_.2.2.2]? = some (.cells #[.int .i64 0,.int .i64 0,.slice none 0 0,.slice none 0 0,.slice none 0 0] 32 (0,0)) ∧ w.heap.size ≤ s_.2.2.2 ∧ g2 ≠ s_.2.2.2 ∧ w'.heap[g2]? = some (.cells #[.int .i64 g,.int .i64 s,.slice Ao o.length co,.slice Al l.length cl,.slice Af f.length cf] 28 (0,0)) ∧ Below w.heap.size w w') ?_ ?_
           rotate_left
           ·intro hJ4_7_12_17
            refine join_ (σ := Value × Value × Value × Nat) 5 yz21 (fun s_ => [(33,s_.1),(37,s_.2.1),(41,s_.2.2.1),(5,.pointer (some ⟨s_.2.2.2,0,none⟩))]) (fun s_ w' => Kd.R (Kd.int .i64) 3 w' w.heap.size (fun _ => True) s_.1 [] ∧ Kd.R (Kd.int .i64) 3 w' w.heap.size (fun _ => True) s_.2.1 [] ∧ Kd.R (Kd.int .u64) 23 w' w.heap.size (fun _ => True) s_.2.2.1 [] ∧ DOL s_.1 s_.2.1 ∧ w'.heap[s_.2.2.2]? = some (.cells #[.int .i64 0,.int .i64 0,.slice none 0 0,.slice none 0 0,.slice none 0 0] 32 (0,0)) ∧ w.heap.size ≤ s_.2.2.2 ∧ g2 ≠ s_.2.2.2 ∧ w'.heap[g2]? = some (.cells #[.int .i64 g,.int .i64 s,.slice Ao o.length co,.slice Al l.length cl,.slice Af f.length cf] 28 (0,0)) ∧ Below w.heap.size w w') ?_ ?_
            rotate_left
            ·intro hJ4_8_12_17
             refine join_ (σ := Value × Value × Value) 6 yz22 (fun s_ => [(33,s_.1),(36,s_.2.1),(37,s_.2.2)]) (fun s_ w' => Kd.R (Kd.int .i64) 3 w' w.heap.size (fun _ => True) s_.2.1 o ∧ Kd.R (Kd.int .i64) 3 w' w.heap.size (fun _ => True) s_.2.2 [] ∧ DOL s_.2.1 s_.2.2 ∧ w'.heap[g2]? = some (.cells #[.int .i64 g,.int .i64 s,.slice Ao o.length co,.slice Al l.length cl,.slice Af f.length cf] 28 (0,0)) ∧ Below w.heap.size w w') ?_ ?_
             rotate_left
             ·intro hJ4_7_8
              refine join_ (σ := Value × Value × Value) 6 yz23 (fun s_ => [(33,s_.1),(36,s_.2.1),(41,s_.2.2)]) (fun s_ w' => Kd.R (Kd.int .i64) 3 w' w.heap.size (fun _ => True) s_.2.1 o ∧ Kd.R (Kd.int .u64) 23 w' w.heap.size (fun _ => True) s_.2.2 [] ∧ w'.heap[g2]? = some (.cells #[.int .i64 g,.int .i64 s,.slice Ao o.length co,.slice Al l.length cl,.slice Af f.length cf] 28 (0,0)) ∧ Below w.heap.size w w') ?_ ?_
              rotate_left
              ·intro hJ4_7_12
               refine join_ (σ := Value × Value × Nat) 6 yz24 (fun s_ => [(33,s_.1),(36,s_.2.1),(5,.pointer (some ⟨s_.2.2,0,none⟩))]) (fun s_ w' => Kd.R (Kd.int .i64) 3 w' w.heap.size (fun _ => True) s_.2.1 o ∧ w'.heap[s_.2.2]? = some (.cells #[.int .i64 0,.int .i64 0,.slice none 0 0,.slice none 0 0,.slice none 0 0] 32 (0,0)) ∧ w.heap.size ≤ s_.2.2 ∧ g2 ≠ s_.2.2 ∧ w'.heap[g2]? = some (.cells #[.int .i64 g,.int .i64 s,.slice Ao o.length co,.slice Al l.length cl,.slice Af f.length cf] 28 (0,0)) ∧ Below w.heap.size w w') ?_ ?_
               rotate_left
               ·intro hJ4_7_17
                refine join_ (σ := Value × Value × Value) 6 yz25 (fun s_ => [(33,s_.1),(37,s_.2.1),(41,s_.2.2)]) (fun s_ w' => Kd.R (Kd.int .i64) 3 w' w.heap.size (fun _ => True) s_.1 [] ∧ Kd.R (Kd.int .i64) 3 w' w.heap.size (fun _ => True) s_.2.1 [] ∧ Kd.R (Kd.int .u64) 23 w' w.heap.size (fun _ => True) s_.2.2 [] ∧ DOL s_.1 s_.2.1 ∧ w'.heap[g2]? = some (.cells #[.int .i64 g,.int .i64 s,.slice Ao o.length co,.slice Al l.length cl,.slice Af f.length cf] 28 (0,0)) ∧ Below w.heap.size w w') ?_ ?_
                rotate_left
                ·intro hJ4_8_12
                 refine join_ (σ := Value × Value × Nat) 6 yz26 (fun s_ => [(33,s_.1),(37,s_.2.1),(5,.pointer (some ⟨s_.2.2,0,none⟩))]) (fun s_ w' => Kd.R (Kd.int .i64) 3 w' w.heap.size (fun _ => True) s_.1 [] ∧ Kd.R (Kd.int .i64) 3 w' w.heap.size (fun _ => True) s_.2.1 [] ∧ DOL s_.1 s_.2.1 ∧ w'.heap[s_.2.2]? = some (.cells #[.int .i64 0,.int .i64 0,.slice none 0 0,.slice none 0 0,.slice none 0 0] 32 (0,0)) ∧ w.heap.size ≤ s_.2.2 ∧ g2 ≠ s_.2.2 ∧ w'.heap[g2]? = some (.cells #[.int .i64 g,.int .i64 s,.slice Ao o.length co,.slice Al l.length cl,.slice Af f.length cf] 28 (0,0)) ∧ Below w.heap.size w w') ?_ ?_
                 rotate_left
                 ·intro hJ4_8_17
                  refine join_ (σ := Value × Value × Nat) 6 yz27 (fun s_ => [(33,s_.1),(41,s_.2.1),(5,.pointer (some ⟨s_.2.2,0,none⟩))]) (fun s_ w' => Kd.R (Kd.int .i64) 3 w' w.heap.size (fun _ => True) s_.1 [] ∧ Kd.R (Kd.int .u64) 23 w' w.heap.size (fun _ => True) s_.2.1 [] ∧ w'.heap[s_.2.2]? = some (.cells #[.int .i64 0,.int .i64 0,.slice none 0 0,.slice none 0 0,.slice none 0 0] 32 (0,0)) ∧ w.heap.size ≤ s_.2.2 ∧ g2 ≠ s_.2.2 ∧ w'.heap[g2]? = some (.cells #[.int .i64 g,.int .i64 s,.slice Ao o.length co,.slice Al l.length cl,.slice Af f.length cf] 28 (0,0)) ∧ Below w.heap.size w w') ?_ ?_
                  rotate_left
                  ·intro hJ4_12_17
                   refine join_ (σ := Value × Value × Nat) 6 yz28 (fun s_ => [(37,s_.1),(41,s_.2.1),(5,.pointer (some ⟨s_.2.2,0,none⟩))]) (fun s_ w' => Kd.R (Kd.int .i64) 3 w' w.heap.size (fun _ => True) s_.1 [] ∧ Kd.R (Kd.int .u64) 23 w' w.heap.size (fun _ => True) s_.2.1 [] ∧ w'.heap[s_.2.2]? = some (.cells #[.int .i64 0,.int .i64 0,.slice none 0 0,.slice none 0 0,.slice none 0 0] 32 (0,0)) ∧ w.heap.size ≤ s_.2.2 ∧ g2 ≠ s_.2.2 ∧ w'.heap[g2]? = some (.cells #[.int .i64 g,.int .i64 s,.slice Ao o.length co,.slice Al l.length cl,.slice Af f.length cf] 28 (0,0)) ∧ Below w.heap.size w w') ?_ ?_
                   rotate_left
                   ·intro hJ8_12_17
                    refine join_ (σ := Value × Value) 7 yz29 (fun s_ => [(33,s_.1),(36,s_.2)]) (fun s_ w' => Kd.R (Kd.int .i64) 3 w' w.heap.size (fun _ => True) s_.2 o ∧ w'.heap[g2]? = some (.cells #[.int .i64 g,.int .i64 s,.slice Ao o.length co,.slice Al l.length cl,.slice Af f.length cf] 28 (0,0)) ∧ Below w.heap.size w w') ?_ ?_
                    rotate_left
                    ·intro hJ4_7
                     refine join_ (σ := Value × Value) 7 yz30 (fun s_ => [(33,s_.1),(37,s_.2)]) (fun s_ w' => Kd.R (Kd.int .i64) 3 w' w.heap.size (fun _ => True) s_.1 [] ∧ Kd.R (Kd.int .i64) 3 w' w.heap.size (fun _ => True) s_.2 [] ∧ DOL s_.1 s_.2 ∧ w'.heap[g2]? = some (.cells #[.int .i64 g,.int .i64 s,.slice Ao o.length co,.slice Al l.length cl,.slice Af f.length cf] 28 (0,0)) ∧ Below w.heap.size w w') ?_ ?_
                     rotate_left
                     ·intro hJ4_8
                      refine join_ (σ := Value × Value) 7 yz31 (fun s_ => [(33,s_.1),(41,s_.2)]) (fun s_ w' => Kd.R (Kd.int .i64) 3 w' w.heap.size (fun _ => True) s_.1 [] ∧ Kd.R (Kd.int .u64) 23 w' w.heap.size (fun _ => True) s_.2 [] ∧ w'.heap[g2]? = some (.cells #[.int .i64 g,.int .i64 s,.slice Ao o.length co,.slice Al l.length cl,.slice Af f.length cf] 28 (0,0)) ∧ Below w.heap.size w w') ?_ ?_
                      rotate_left
                      ·intro hJ4_12
                       refine join_ (σ := Value × Nat) 7 yz32 (fun s_ => [(33,s_.1),(5,.pointer (some ⟨s_.2,0,none⟩))]) (fun s_ w' => Kd.R (Kd.int .i64) 3 w' w.heap.size (fun _ => True) s_.1 [] ∧ w'.heap[s_.2]? = some (.cells #[.int .i64 0,.int .i64 0,.slice none 0 0,.slice none 0 0,.slice none 0 0] 32 (0,0)) ∧ w.heap.size ≤ s_.2 ∧ g2 ≠ s_.2 ∧ w'.heap[g2]? = some (.cells #[.int .i64 g,.int .i64 s,.slice Ao o.length co,.slice Al l.length cl,.slice Af f.length cf] 28 (0,0)) ∧ Below w.heap.size w w') ?_ ?_
                       rotate_left
                       ·intro hJ4_17
                        refine join_ (σ := Value × Value) 7 yz33 (fun s_ => [(37,s_.1),(41,s_.2)]) (fun s_ w' => Kd.R (Kd.int .i64) 3 w' w.heap.size (fun _ => True) s_.1 [] ∧ Kd.R (Kd.int .u64) 23 w' w.heap.size (fun _ => True) s_.2 [] ∧ w'.heap[g2]? = some (.cells #[.int .i64 g,.int .i64 s,.slice Ao o.length co,.slice Al l.length cl,.slice Af f.length cf] 28 (0,0)) ∧ Below w.heap.size w w') ?_ ?_
                        rotate_left
                        ·intro hJ8_12
                         refine join_ (σ := Value × Nat) 7 yz34 (fun s_ => [(37,s_.1),(5,.pointer (some ⟨s_.2,0,none⟩))]) (fun s_ w' => Kd.R (Kd.int .i64) 3 w' w.heap.size (fun _ => True) s_.1 [] ∧ w'.heap[s_.2]? = some (.cells #[.int .i64 0,.int .i64 0,.slice none 0 0,.slice none 0 0,.slice none 0 0] 32 (0,0)) ∧ w.heap.size ≤ s_.2 ∧ g2 ≠ s_.2 ∧ w'.heap[g2]? = some (.cells #[.int .i64 g,.int .i64 s,.slice Ao o.length co,.slice Al l.length cl,.slice Af f.length cf] 28 (0,0)) ∧ Below w.heap.size w w') ?_ ?_
                         rotate_left
                         ·intro hJ8_17
                          refine join_ (σ := Value × Nat) 7 yz35 (fun s_ => [(41,s_.1),(5,.pointer (some ⟨s_.2,0,none⟩))]) (fun s_ w' => Kd.R (Kd.int .u64) 23 w' w.heap.size (fun _ => True) s_.1 [] ∧ w'.heap[s_.2]? = some (.cells #[.int .i64 0,.int .i64 0,.slice none 0 0,.slice none 0 0,.slice none 0 0] 32 (0,0)) ∧ w.heap.size ≤ s_.2 ∧ g2 ≠ s_.2 ∧ w'.heap[g2]? = some (.cells #[.int .i64 g,.int .i64 s,.slice Ao o.length co,.slice Al l.length cl,.slice Af f.length cf] 28 (0,0)) ∧ Below w.heap.size w w') ?_ ?_
                          rotate_left
                          ·intro hJ12_17
                           refine join_ (σ := Value) 8 yz36 (fun s_ => [(33,s_)]) (fun s_ w' => Kd.R (Kd.int .i64) 3 w' w.heap.size (fun _ => True) s_ [] ∧ w'.heap[g2]? = some (.cells #[.int .i64 g,.int .i64 s,.slice Ao o.length co,.slice Al l.length cl,.slice Af f.length cf] 28 (0,0)) ∧ Below w.heap.size w w') ?_ ?_
                           rotate_left
                           ·intro hJ4
                            refine join_ (σ := Value) 8 yz37 (fun s_ => [(37,s_)]) (fun s_ w' => Kd.R (Kd.int .i64) 3 w' w.heap.size (fun _ => True) s_ [] ∧ w'.heap[g2]? = some (.cells #[.int .i64 g,.int .i64 s,.slice Ao o.length co,.slice Al l.length cl,.slice Af f.length cf] 28 (0,0)) ∧ Below w.heap.size w w') ?_ ?_
                            rotate_left
                            ·intro hJ8
                             refine join_ (σ := Value) 8 yz38 (fun s_ => [(41,s_)]) (fun s_ w' => Kd.R (Kd.int .u64) 23 w' w.heap.size (fun _ => True) s_ [] ∧ w'.heap[g2]? = some (.cells #[.int .i64 g,.int .i64 s,.slice Ao o.length co,.slice Al l.length cl,.slice Af f.length cf] 28 (0,0)) ∧ Below w.heap.size w w') ?_ ?_
                             rotate_left
                             ·intro hJ12
                              refine join_ (σ := Nat) 8 yz39 (fun s_ => [(5,.pointer (some ⟨s_,0,none⟩))]) (fun s_ w' => w'.heap[s_]? = some (.cells #[.int .i64 0,.int .i64 0,.slice none 0 0,.slice none 0 0,.slice none 0 0] 32 (0,0)) ∧ w.heap.size ≤ s_ ∧ g2 ≠ s_ ∧ w'.heap[g2]? = some (.cells #[.int .i64 g,.int .i64 s,.slice Ao o.length co,.slice Al l.length cl,.slice Af f.length cf] 28 (0,0)) ∧ Below w.heap.size w w') ?_ ?_
                              rotate_left
                              ·intro hJ17
                               refine four_ (i := 4) (j := 8) (k := 12) (m := 17) (Ni := some 33) (Nj := some 37) (Nk := some 41) (Nm := some 5) yz36 yz37 yz38 yz39 rfl rfl rfl rfl rfl rfl rfl rfl (four_of HT_.out (by kernel_rfl)) (by decide) (by decide) (by decide) (by decide) (fun K hK => ?_) (fun K hK => ?_) (fun K hK => ?_) (fun K hK => ?_)
                               ·skip
                                refine value_ (w1 := ?_) (v := ?_) (by rfl) rfl ?_ ?_
                                rotate_left 2
                                ·go_simp
                                 constructor
                                 ·rfl
                                 ·rfl
                                obtain ⟨wk,hW⟩ : ∃ W_,W_ = wd4.alloc (.cells #[] 3) := ⟨_,rfl⟩
                                have hb_ : Below wd4.heap.size wd4 wk := by rw [hW]; exact below_alloc (Below.refl _ _) _
                                have hR_ : Kd.R (Kd.int .i64) 3 wk w.heap.size (fun _ => True) (.slice (some ⟨wd4.heap.size,0,none⟩) 0 0) [] := by rw [hW]; exact R_zero (below_size HB.out)
                                obtain ⟨v4,hv_⟩ : ∃ y_,y_ = Value.slice (some ⟨wd4.heap.size,0,none⟩) 0 0 := ⟨_,rfl⟩
                                rw [← hv_] at hR_ ⊢
                                rw [← hW]
                                have HVo := Aside0.mk hR_
                                replace HX2 := mB HX2 hb_
                                replace HB := mS HB hb_
                                clear hW hb_ hR_ hv_
                                refine hK.out _ _ ⟨(cL HX2 0 rfl),(cL HX2 1 rfl),(cL HX2 2 rfl),(cL HX2 3 rfl),(cL HX2 4 rfl)⟩ (fun hHeld => ?_)
                                clear hK K
                                refine norm_ (a' := ?_) ?_ ?_
                                rotate_left
                                ·show Act.put _ (some 33) _ = _
                                 simp only [Act.put,yzI,yzs0,yzs1,i64_w,i32_w]
                                 rfl
                                exact norm_ (by first | (simp only [putAll,Act.put,yzI,yzs0,yzs1]; done) | (simp only [putAll,Act.put,yzI,yzs0,yzs1]; rfl)) (hJ4 v4 _ ⟨HVo.out,HX2.out,HB.out⟩)
                               ·skip
                                refine value_ (w1 := ?_) (v := ?_) (by rfl) rfl ?_ ?_
                                rotate_left 2
                                ·go_simp
                                 constructor
                                 ·rfl
                                 ·rfl
                                obtain ⟨wk,hW⟩ : ∃ W_,W_ = wd4.alloc (.cells #[] 3) := ⟨_,rfl⟩
                                have hb_ : Below wd4.heap.size wd4 wk := by rw [hW]; exact below_alloc (Below.refl _ _) _
                                have hR_ : Kd.R (Kd.int .i64) 3 wk w.heap.size (fun _ => True) (.slice (some ⟨wd4.heap.size,0,none⟩) 0 0) [] := by rw [hW]; exact R_zero (below_size HB.out)
                                obtain ⟨v8,hv_⟩ : ∃ y_,y_ = Value.slice (some ⟨wd4.heap.size,0,none⟩) 0 0 := ⟨_,rfl⟩
                                rw [← hv_] at hR_ ⊢
                                rw [← hW]
                                have HVl := Aside0.mk hR_
                                replace HX2 := mB HX2 hb_
                                replace HB := mS HB hb_
                                clear hW hb_ hR_ hv_
                                refine hK.out _ _ ⟨(cL HX2 0 rfl),(cL HX2 1 rfl),(cL HX2 2 rfl),(cL HX2 3 rfl),(cL HX2 4 rfl)⟩ (fun hHeld => ?_)
                                clear hK K
                                refine norm_ (a' := ?_) ?_ ?_
                                rotate_left
                                ·show Act.put _ (some 37) _ = _
                                 simp only [Act.put,yzI,yzs0,yzs1,i64_w,i32_w]
                                 rfl
                                exact norm_ (by first | (simp only [putAll,Act.put,yzI,yzs0,yzs1]; done) | (simp only [putAll,Act.put,yzI,yzs0,yzs1]; rfl)) (hJ8 v8 _ ⟨HVl.out,HX2.out,HB.out⟩)
                               ·skip
                                refine value_ (w1 := ?_) (v := ?_) (by rfl) rfl ?_ ?_
                                rotate_left 2
                                ·go_simp
                                 constructor
                                 ·rfl
                                 ·rfl
                                obtain ⟨wk,hW⟩ : ∃ W_,W_ = wd4.alloc (.cells #[] 23) := ⟨_,rfl⟩
                                have hb_ : Below wd4.heap.size wd4 wk := by rw [hW]; exact below_alloc (Below.refl _ _) _
                                have hR_ : Kd.R (Kd.int .u64) 23 wk w.heap.size (fun _ => True) (.slice (some ⟨wd4.heap.size,0,none⟩) 0 0) [] := by rw [hW]; exact R_zero (below_size HB.out)
                                obtain ⟨v12,hv_⟩ : ∃ y_,y_ = Value.slice (some ⟨wd4.heap.size,0,none⟩) 0 0 := ⟨_,rfl⟩
                                rw [← hv_] at hR_ ⊢
                                rw [← hW]
                                have HVf := Aside0.mk hR_
                                replace HX2 := mB HX2 hb_
                                replace HB := mS HB hb_
                                clear hW hb_ hR_ hv_
                                refine hK.out _ _ ⟨(cL HX2 0 rfl),(cL HX2 1 rfl),(cL HX2 2 rfl),(cL HX2 3 rfl),(cL HX2 4 rfl)⟩ (fun hHeld => ?_)
                                clear hK K
                                refine norm_ (a' := ?_) ?_ ?_
                                rotate_left
                                ·show Act.put _ (some 41) _ = _
                                 simp only [Act.put,yzI,yzs0,yzs1,i64_w,i32_w]
                                 rfl
                                exact norm_ (by first | (simp only [putAll,Act.put,yzI,yzs0,yzs1]; done) | (simp only [putAll,Act.put,yzI,yzs0,yzs1]; rfl)) (hJ12 v12 _ ⟨HVf.out,HX2.out,HB.out⟩)
                               ·skip
                                refine value_ (w1 := ?_) (v := ?_) (by rfl) rfl ?_ ?_
                                rotate_left 2
                                ·go_simp
                                 constructor
                                 ·rfl
                                 ·rfl
                                obtain ⟨wk,hW⟩ : ∃ W_,W_ = wd4.alloc (.cells #[.int .i64 0,.int .i64 0,.slice none 0 0,.slice none 0 0,.slice none 0 0] 32) := ⟨_,rfl⟩
                                obtain ⟨g5,hh⟩ : ∃ g_,g_ = wd4.heap.size := ⟨_,rfl⟩
                                rw [← hW,← hh]
                                have hb_ : Below wd4.heap.size wd4 wk := by rw [hW]; exact below_alloc (Below.refl _ _) _
                                have HX5 : Aside0 (wk.heap[g5]? = some (.cells #[.int .i64 0,.int .i64 0,.slice none 0 0,.slice none 0 0,.slice none 0 0] 32 (0,0))) := ⟨by rw [hW,hh]; exact blk_new _ _⟩
                                have HG5 : Aside0 (w.heap.size ≤ g5) := ⟨by rw [hh]; exact below_size HB.out⟩
                                have N25 : Aside0 (g2 ≠ g5) := ⟨by rw [hh]; exact Nat.ne_of_lt (blk_lt HX2.out)⟩
                                replace HX2 := mB HX2 hb_
                                replace HB := mS HB hb_
                                clear hW hh hb_
                                refine hK.out _ _ ⟨(cL HX2 0 rfl),(cL HX2 1 rfl),(cL HX2 2 rfl),(cL HX2 3 rfl),(cL HX2 4 rfl)⟩ (fun hHeld => ?_)
                                clear hK K
                                refine norm_ (a' := ?_) ?_ ?_
                                rotate_left
                                ·show Act.put _ (some 5) _ = _
                                 simp only [Act.put,yzI,yzs0,yzs1,i64_w,i32_w]
                                 rfl
                                exact norm_ (by first | (simp only [putAll,Act.put,yzI,yzs0,yzs1]; done) | (simp only [putAll,Act.put,yzI,yzs0,yzs1]; rfl)) (hJ17 g5 _ ⟨HX5.out,HG5.out,N25.out,HX2.out,HB.out⟩)
                              ·skip
                               rintro g5 wj ⟨h_0,h_1,h_2,h_3,h_4⟩
                               try dsimp only at h_0 h_1 h_2 h_3 h_4
                               clear HX2 HB
                               have HX5 := Aside0.mk h_0
                               have HG5 := Aside0.mk h_1
                               have N25 := Aside0.mk h_2
                               have HX2 := Aside0.mk h_3
                               have HB := Aside0.mk h_4
                               clear h_0 h_1 h_2 h_3 h_4
                               have hHeld : (fun w' => w'.cell? ⟨g2,0,none⟩ = some (.int .i64 g) ∧ w'.cell? ⟨g2,1,none⟩ = some (.int .i64 s) ∧ w'.cell? ⟨g2,2,none⟩ = some (.slice Ao o.length co) ∧ w'.cell? ⟨g2,3,none⟩ = some (.slice Al l.length cl) ∧ w'.cell? ⟨g2,4,none⟩ = some (.slice Af f.length cf)) wj := ⟨(cL HX2 0 rfl),(cL HX2 1 rfl),(cL HX2 2 rfl),(cL HX2 3 rfl),(cL HX2 4 rfl)⟩
                               refine norm_ (a' := ?_) ?_ ?_
                               rotate_left
                               ·simp only [putAll,Act.put,yzI,yzs0,yzs1]
                                rfl
                               refine three_ (i := 4) (j := 8) (k := 12) (Ni := some 33) (Nj := some 37) (Nk := some 41) yz32 yz34 yz35 rfl rfl rfl rfl rfl rfl (three_of HT_.out (by kernel_rfl)) (by decide) (by decide) (by decide) (fun K hK => ?_) (fun K hK => ?_) (fun K hK => ?_)
                               ·skip
                                refine value_ (w1 := ?_) (v := ?_) (by rfl) rfl ?_ ?_
                                rotate_left 2
                                ·go_simp
                                 constructor
                                 ·rfl
                                 ·rfl
                                obtain ⟨wk,hW⟩ : ∃ W_,W_ = wj.alloc (.cells #[] 3) := ⟨_,rfl⟩
                                have hb_ : Below wj.heap.size wj wk := by rw [hW]; exact below_alloc (Below.refl _ _) _
                                have hR_ : Kd.R (Kd.int .i64) 3 wk w.heap.size (fun _ => True) (.slice (some ⟨wj.heap.size,0,none⟩) 0 0) [] := by rw [hW]; exact R_zero (below_size HB.out)
                                obtain ⟨v4,hv_⟩ : ∃ y_,y_ = Value.slice (some ⟨wj.heap.size,0,none⟩) 0 0 := ⟨_,rfl⟩
                                rw [← hv_] at hR_ ⊢
                                rw [← hW]
                                have HVo := Aside0.mk hR_
                                replace HX2 := mB HX2 hb_
                                replace HX5 := mB HX5 hb_
                                replace HB := mS HB hb_
                                clear hW hb_ hR_ hv_
                                refine hK.out _ _ ⟨(cL HX2 0 rfl),(cL HX2 1 rfl),(cL HX2 2 rfl),(cL HX2 3 rfl),(cL HX2 4 rfl)⟩ (fun hHeld => ?_)
                                clear hK K
                                refine norm_ (a' := ?_) ?_ ?_
                                rotate_left
                                ·show Act.put _ (some 33) _ = _
                                 simp only [Act.put,yzI,yzs0,yzs1,i64_w,i32_w]
                                 rfl
                                exact norm_ (by first | (simp only [putAll,Act.put,yzI,yzs0,yzs1]; done) | (simp only [putAll,Act.put,yzI,yzs0,yzs1]; rfl)) (hJ4_17 (v4,g5) _ ⟨HVo.out,HX5.out,HG5.out,N25.out,HX2.out,HB.out⟩)
                               ·skip
                                refine value_ (w1 := ?_) (v := ?_) (by rfl) rfl ?_ ?_
                                rotate_left 2
                                ·go_simp
                                 constructor
                                 ·rfl
                                 ·rfl
                                obtain ⟨wk,hW⟩ : ∃ W_,W_ = wj.alloc (.cells #[] 3) := ⟨_,rfl⟩
                                have hb_ : Below wj.heap.size wj wk := by rw [hW]; exact below_alloc (Below.refl _ _) _
                                have hR_ : Kd.R (Kd.int .i64) 3 wk w.heap.size (fun _ => True) (.slice (some ⟨wj.heap.size,0,none⟩) 0 0) [] := by rw [hW]; exact R_zero (below_size HB.out)
                                obtain ⟨v8,hv_⟩ : ∃ y_,y_ = Value.slice (some ⟨wj.heap.size,0,none⟩) 0 0 := ⟨_,rfl⟩
                                rw [← hv_] at hR_ ⊢
                                rw [← hW]
                                have HVl := Aside0.mk hR_
                                replace HX2 := mB HX2 hb_
                                replace HX5 := mB HX5 hb_
                                replace HB := mS HB hb_
                                clear hW hb_ hR_ hv_
                                refine hK.out _ _ ⟨(cL HX2 0 rfl),(cL HX2 1 rfl),(cL HX2 2 rfl),(cL HX2 3 rfl),(cL HX2 4 rfl)⟩ (fun hHeld => ?_)
                                clear hK K
                                refine norm_ (a' := ?_) ?_ ?_
                                rotate_left
                                ·show Act.put _ (some 37) _ = _
                                 simp only [Act.put,yzI,yzs0,yzs1,i64_w,i32_w]
                                 rfl
                                exact norm_ (by first | (simp only [putAll,Act.put,yzI,yzs0,yzs1]; done) | (simp only [putAll,Act.put,yzI,yzs0,yzs1]; rfl)) (hJ8_17 (v8,g5) _ ⟨HVl.out,HX5.out,HG5.out,N25.out,HX2.out,HB.out⟩)
                               ·skip
                                refine value_ (w1 := ?_) (v := ?_) (by rfl) rfl ?_ ?_
                                rotate_left 2
                                ·go_simp
                                 constructor
                                 ·rfl
                                 ·rfl
                                obtain ⟨wk,hW⟩ : ∃ W_,W_ = wj.alloc (.cells #[] 23) := ⟨_,rfl⟩
                                have hb_ : Below wj.heap.size wj wk := by rw [hW]; exact below_alloc (Below.refl _ _) _
                                have hR_ : Kd.R (Kd.int .u64) 23 wk w.heap.size (fun _ => True) (.slice (some ⟨wj.heap.size,0,none⟩) 0 0) [] := by rw [hW]; exact R_zero (below_size HB.out)
                                obtain ⟨v12,hv_⟩ : ∃ y_,y_ = Value.slice (some ⟨wj.heap.size,0,none⟩) 0 0 := ⟨_,rfl⟩
                                rw [← hv_] at hR_ ⊢
                                rw [← hW]
                                have HVf := Aside0.mk hR_
                                replace HX2 := mB HX2 hb_
                                replace HX5 := mB HX5 hb_
                                replace HB := mS HB hb_
                                clear hW hb_ hR_ hv_
                                refine hK.out _ _ ⟨(cL HX2 0 rfl),(cL HX2 1 rfl),(cL HX2 2 rfl),(cL HX2 3 rfl),(cL HX2 4 rfl)⟩ (fun hHeld => ?_)
                                clear hK K
                                refine norm_ (a' := ?_) ?_ ?_
                                rotate_left
                                ·show Act.put _ (some 41) _ = _
                                 simp only [Act.put,yzI,yzs0,yzs1,i64_w,i32_w]
                                 rfl
                                exact norm_ (by first | (simp only [putAll,Act.put,yzI,yzs0,yzs1]; done) | (simp only [putAll,Act.put,yzI,yzs0,yzs1]; rfl)) (hJ12_17 (v12,g5) _ ⟨HVf.out,HX5.out,HG5.out,N25.out,HX2.out,HB.out⟩)
                             ·skip
                              rintro v12 wj ⟨h_0,h_1,h_2⟩
                              try dsimp only at h_0 h_1 h_2
                              clear HX2 HB
                              have HVf := Aside0.mk h_0
                              have HX2 := Aside0.mk h_1
                              have HB := Aside0.mk h_2
                              clear h_0 h_1 h_2
                              have hHeld : (fun w' => w'.cell? ⟨g2,0,none⟩ = some (.int .i64 g) ∧ w'.cell? ⟨g2,1,none⟩ = some (.int .i64 s) ∧ w'.cell? ⟨g2,2,none⟩ = some (.slice Ao o.length co) ∧ w'.cell? ⟨g2,3,none⟩ = some (.slice Al l.length cl) ∧ w'.cell? ⟨g2,4,none⟩ = some (.slice Af f.length cf)) wj := ⟨(cL HX2 0 rfl),(cL HX2 1 rfl),(cL HX2 2 rfl),(cL HX2 3 rfl),(cL HX2 4 rfl)⟩
                              refine norm_ (a' := ?_) ?_ ?_
                              rotate_left
                              ·simp only [putAll,Act.put,yzI,yzs0,yzs1]
                               rfl
                              refine three_ (i := 4) (j := 8) (k := 17) (Ni := some 33) (Nj := some 37) (Nk := some 5) yz31 yz33 yz35 rfl rfl rfl rfl rfl rfl (three_of HT_.out (by kernel_rfl)) (by decide) (by decide) (by decide) (fun K hK => ?_) (fun K hK => ?_) (fun K hK => ?_)
                              ·skip
                               refine value_ (w1 := ?_) (v := ?_) (by rfl) rfl ?_ ?_
                               rotate_left 2
                               ·go_simp
                                constructor
                                ·rfl
                                ·rfl
                               obtain ⟨wk,hW⟩ : ∃ W_,W_ = wj.alloc (.cells #[] 3) := ⟨_,rfl⟩
                               have hb_ : Below wj.heap.size wj wk := by rw [hW]; exact below_alloc (Below.refl _ _) _
                               have hR_ : Kd.R (Kd.int .i64) 3 wk w.heap.size (fun _ => True) (.slice (some ⟨wj.heap.size,0,none⟩) 0 0) [] := by rw [hW]; exact R_zero (below_size HB.out)
                               obtain ⟨v4,hv_⟩ : ∃ y_,y_ = Value.slice (some ⟨wj.heap.size,0,none⟩) 0 0 := ⟨_,rfl⟩
                               rw [← hv_] at hR_ ⊢
                               rw [← hW]
                               have HVo := Aside0.mk hR_
                               replace HVf := Aside0.mk (Kd.R_below HVf.out hb_)
                               replace HX2 := mB HX2 hb_
                               replace HB := mS HB hb_
                               clear hW hb_ hR_ hv_
                               refine hK.out _ _ ⟨(cL HX2 0 rfl),(cL HX2 1 rfl),(cL HX2 2 rfl),(cL HX2 3 rfl),(cL HX2 4 rfl)⟩ (fun hHeld => ?_)
                               clear hK K
                               refine norm_ (a' := ?_) ?_ ?_
                               rotate_left
                               ·show Act.put _ (some 33) _ = _
                                simp only [Act.put,yzI,yzs0,yzs1,i64_w,i32_w]
                                rfl
                               exact norm_ (by first | (simp only [putAll,Act.put,yzI,yzs0,yzs1]; done) | (simp only [putAll,Act.put,yzI,yzs0,yzs1]; rfl)) (hJ4_12 (v4,v12) _ ⟨HVo.out,HVf.out,HX2.out,HB.out⟩)
                              ·skip
                               refine value_ (w1 := ?_) (v := ?_) (by rfl) rfl ?_ ?_
                               rotate_left 2
                               ·go_simp
                                constructor
                                ·rfl
                                ·rfl
                               obtain ⟨wk,hW⟩ : ∃ W_,W_ = wj.alloc (.cells #[] 3) := ⟨_,rfl⟩
                               have hb_ : Below wj.heap.size wj wk := by rw [hW]; exact below_alloc (Below.refl _ _) _
                               have hR_ : Kd.R (Kd.int .i64) 3 wk w.heap.size (fun _ => True) (.slice (some ⟨wj.heap.size,0,none⟩) 0 0) [] := by rw [hW]; exact R_zero (below_size HB.out)
                               obtain ⟨v8,hv_⟩ : ∃ y_,y_ = Value.slice (some ⟨wj.heap.size,0,none⟩) 0 0 := ⟨_,rfl⟩
                               rw [← hv_] at hR_ ⊢
                               rw [← hW]
                               have HVl := Aside0.mk hR_
                               replace HVf := Aside0.mk (Kd.R_below HVf.out hb_)
                               replace HX2 := mB HX2 hb_
                               replace HB := mS HB hb_
                               clear hW hb_ hR_ hv_
                               refine hK.out _ _ ⟨(cL HX2 0 rfl),(cL HX2 1 rfl),(cL HX2 2 rfl),(cL HX2 3 rfl),(cL HX2 4 rfl)⟩ (fun hHeld => ?_)
                               clear hK K
                               refine norm_ (a' := ?_) ?_ ?_
                               rotate_left
                               ·show Act.put _ (some 37) _ = _
                                simp only [Act.put,yzI,yzs0,yzs1,i64_w,i32_w]
                                rfl
                               exact norm_ (by first | (simp only [putAll,Act.put,yzI,yzs0,yzs1]; done) | (simp only [putAll,Act.put,yzI,yzs0,yzs1]; rfl)) (hJ8_12 (v8,v12) _ ⟨HVl.out,HVf.out,HX2.out,HB.out⟩)
                              ·skip
                               refine value_ (w1 := ?_) (v := ?_) (by rfl) rfl ?_ ?_
                               rotate_left 2
                               ·go_simp
                                constructor
                                ·rfl
                                ·rfl
                               obtain ⟨wk,hW⟩ : ∃ W_,W_ = wj.alloc (.cells #[.int .i64 0,.int .i64 0,.slice none 0 0,.slice none 0 0,.slice none 0 0] 32) := ⟨_,rfl⟩
                               obtain ⟨g5,hh⟩ : ∃ g_,g_ = wj.heap.size := ⟨_,rfl⟩
                               rw [← hW,← hh]
                               have hb_ : Below wj.heap.size wj wk := by rw [hW]; exact below_alloc (Below.refl _ _) _
                               have HX5 : Aside0 (wk.heap[g5]? = some (.cells #[.int .i64 0,.int .i64 0,.slice none 0 0,.slice none 0 0,.slice none 0 0] 32 (0,0))) := ⟨by rw [hW,hh]; exact blk_new _ _⟩
                               have HG5 : Aside0 (w.heap.size ≤ g5) := ⟨by rw [hh]; exact below_size HB.out⟩
                               have N25 : Aside0 (g2 ≠ g5) := ⟨by rw [hh]; exact Nat.ne_of_lt (blk_lt HX2.out)⟩
                               replace HVf := Aside0.mk (Kd.R_below HVf.out hb_)
                               replace HX2 := mB HX2 hb_
                               replace HB := mS HB hb_
                               clear hW hh hb_
                               refine hK.out _ _ ⟨(cL HX2 0 rfl),(cL HX2 1 rfl),(cL HX2 2 rfl),(cL HX2 3 rfl),(cL HX2 4 rfl)⟩ (fun hHeld => ?_)
                               clear hK K
                               refine norm_ (a' := ?_) ?_ ?_
                               rotate_left
                               ·show Act.put _ (some 5) _ = _
                                simp only [Act.put,yzI,yzs0,yzs1,i64_w,i32_w]
                                rfl
                               exact norm_ (by first | (simp only [putAll,Act.put,yzI,yzs0,yzs1]; done) | (simp only [putAll,Act.put,yzI,yzs0,yzs1]; rfl)) (hJ12_17 (v12,g5) _ ⟨HVf.out,HX5.out,HG5.out,N25.out,HX2.out,HB.out⟩)
                            ·skip
                             rintro v8 wj ⟨h_0,h_1,h_2⟩
                             try dsimp only at h_0 h_1 h_2
                             clear HX2 HB
                             have HVl := Aside0.mk h_0
                             have HX2 := Aside0.mk h_1
                             have HB := Aside0.mk h_2
                             clear h_0 h_1 h_2
                             have hHeld : (fun w' => w'.cell? ⟨g2,0,none⟩ = some (.int .i64 g) ∧ w'.cell? ⟨g2,1,none⟩ = some (.int .i64 s) ∧ w'.cell? ⟨g2,2,none⟩ = some (.slice Ao o.length co) ∧ w'.cell? ⟨g2,3,none⟩ = some (.slice Al l.length cl) ∧ w'.cell? ⟨g2,4,none⟩ = some (.slice Af f.length cf)) wj := ⟨(cL HX2 0 rfl),(cL HX2 1 rfl),(cL HX2 2 rfl),(cL HX2 3 rfl),(cL HX2 4 rfl)⟩
                             refine norm_ (a' := ?_) ?_ ?_
                             rotate_left
                             ·simp only [putAll,Act.put,yzI,yzs0,yzs1]
                              rfl
                             refine three_ (i := 4) (j := 12) (k := 17) (Ni := some 33) (Nj := some 41) (Nk := some 5) yz30 yz33 yz34 rfl rfl rfl rfl rfl rfl (three_of HT_.out (by kernel_rfl)) (by decide) (by decide) (by decide) (fun K hK => ?_) (fun K hK => ?_) (fun K hK => ?_)
                             ·skip
                              refine value_ (w1 := ?_) (v := ?_) (by rfl) rfl ?_ ?_
                              rotate_left 2
                              ·go_simp
                               constructor
                               ·rfl
                               ·rfl
                              obtain ⟨wk,hW⟩ : ∃ W_,W_ = wj.alloc (.cells #[] 3) := ⟨_,rfl⟩
                              have hb_ : Below wj.heap.size wj wk := by rw [hW]; exact below_alloc (Below.refl _ _) _
                              have hR_ : Kd.R (Kd.int .i64) 3 wk w.heap.size (fun _ => True) (.slice (some ⟨wj.heap.size,0,none⟩) 0 0) [] := by rw [hW]; exact R_zero (below_size HB.out)
                              have hd_ := dol_new (n := 0) (c := 0) HVl.out
                              obtain ⟨v4,hv_⟩ : ∃ y_,y_ = Value.slice (some ⟨wj.heap.size,0,none⟩) 0 0 := ⟨_,rfl⟩
                              rw [← hv_] at hR_ ⊢
                              rw [← hv_] at hd_
                              have HD := Aside0.mk (DOL.symm hd_)
                              clear hd_
                              rw [← hW]
                              have HVo := Aside0.mk hR_
                              replace HVl := Aside0.mk (Kd.R_below HVl.out hb_)
                              replace HX2 := mB HX2 hb_
                              replace HB := mS HB hb_
                              clear hW hb_ hR_ hv_
                              refine hK.out _ _ ⟨(cL HX2 0 rfl),(cL HX2 1 rfl),(cL HX2 2 rfl),(cL HX2 3 rfl),(cL HX2 4 rfl)⟩ (fun hHeld => ?_)
                              clear hK K
                              refine norm_ (a' := ?_) ?_ ?_
                              rotate_left
                              ·show Act.put _ (some 33) _ = _
                               simp only [Act.put,yzI,yzs0,yzs1,i64_w,i32_w]
                               rfl
                              exact norm_ (by first | (simp only [putAll,Act.put,yzI,yzs0,yzs1]; done) | (simp only [putAll,Act.put,yzI,yzs0,yzs1]; rfl)) (hJ4_8 (v4,v8) _ ⟨HVo.out,HVl.out,HD.out,HX2.out,HB.out⟩)
                             ·skip
                              refine value_ (w1 := ?_) (v := ?_) (by rfl) rfl ?_ ?_
                              rotate_left 2
                              ·go_simp
                               constructor
                               ·rfl
                               ·rfl
                              obtain ⟨wk,hW⟩ : ∃ W_,W_ = wj.alloc (.cells #[] 23) := ⟨_,rfl⟩
                              have hb_ : Below wj.heap.size wj wk := by rw [hW]; exact below_alloc (Below.refl _ _) _
                              have hR_ : Kd.R (Kd.int .u64) 23 wk w.heap.size (fun _ => True) (.slice (some ⟨wj.heap.size,0,none⟩) 0 0) [] := by rw [hW]; exact R_zero (below_size HB.out)
                              obtain ⟨v12,hv_⟩ : ∃ y_,y_ = Value.slice (some ⟨wj.heap.size,0,none⟩) 0 0 := ⟨_,rfl⟩
                              rw [← hv_] at hR_ ⊢
                              rw [← hW]
                              have HVf := Aside0.mk hR_
                              replace HVl := Aside0.mk (Kd.R_below HVl.out hb_)
                              replace HX2 := mB HX2 hb_
                              replace HB := mS HB hb_
                              clear hW hb_ hR_ hv_
                              refine hK.out _ _ ⟨(cL HX2 0 rfl),(cL HX2 1 rfl),(cL HX2 2 rfl),(cL HX2 3 rfl),(cL HX2 4 rfl)⟩ (fun hHeld => ?_)
                              clear hK K
                              refine norm_ (a' := ?_) ?_ ?_
                              rotate_left
                              ·show Act.put _ (some 41) _ = _
                               simp only [Act.put,yzI,yzs0,yzs1,i64_w,i32_w]
                               rfl
                              exact norm_ (by first | (simp only [putAll,Act.put,yzI,yzs0,yzs1]; done) | (simp only [putAll,Act.put,yzI,yzs0,yzs1]; rfl)) (hJ8_12 (v8,v12) _ ⟨HVl.out,HVf.out,HX2.out,HB.out⟩)
                             ·skip
                              refine value_ (w1 := ?_) (v := ?_) (by rfl) rfl ?_ ?_
                              rotate_left 2
                              ·go_simp
                               constructor
                               ·rfl
                               ·rfl
                              obtain ⟨wk,hW⟩ : ∃ W_,W_ = wj.alloc (.cells #[.int .i64 0,.int .i64 0,.slice none 0 0,.slice none 0 0,.slice none 0 0] 32) := ⟨_,rfl⟩
                              obtain ⟨g5,hh⟩ : ∃ g_,g_ = wj.heap.size := ⟨_,rfl⟩
                              rw [← hW,← hh]
                              have hb_ : Below wj.heap.size wj wk := by rw [hW]; exact below_alloc (Below.refl _ _) _
                              have HX5 : Aside0 (wk.heap[g5]? = some (.cells #[.int .i64 0,.int .i64 0,.slice none 0 0,.slice none 0 0,.slice none 0 0] 32 (0,0))) := ⟨by rw [hW,hh]; exact blk_new _ _⟩
                              have HG5 : Aside0 (w.heap.size ≤ g5) := ⟨by rw [hh]; exact below_size HB.out⟩
                              have N25 : Aside0 (g2 ≠ g5) := ⟨by rw [hh]; exact Nat.ne_of_lt (blk_lt HX2.out)⟩
                              replace HVl := Aside0.mk (Kd.R_below HVl.out hb_)
                              replace HX2 := mB HX2 hb_
                              replace HB := mS HB hb_
                              clear hW hh hb_
                              refine hK.out _ _ ⟨(cL HX2 0 rfl),(cL HX2 1 rfl),(cL HX2 2 rfl),(cL HX2 3 rfl),(cL HX2 4 rfl)⟩ (fun hHeld => ?_)
                              clear hK K
                              refine norm_ (a' := ?_) ?_ ?_
                              rotate_left
                              ·show Act.put _ (some 5) _ = _
                               simp only [Act.put,yzI,yzs0,yzs1,i64_w,i32_w]
                               rfl
                              exact norm_ (by first | (simp only [putAll,Act.put,yzI,yzs0,yzs1]; done) | (simp only [putAll,Act.put,yzI,yzs0,yzs1]; rfl)) (hJ8_17 (v8,g5) _ ⟨HVl.out,HX5.out,HG5.out,N25.out,HX2.out,HB.out⟩)
                           ·skip
                            rintro v4 wj ⟨h_0,h_1,h_2⟩
                            try dsimp only at h_0 h_1 h_2
                            clear HX2 HB
                            have HVo := Aside0.mk h_0
                            have HX2 := Aside0.mk h_1
                            have HB := Aside0.mk h_2
                            clear h_0 h_1 h_2
                            have hHeld : (fun w' => w'.cell? ⟨g2,0,none⟩ = some (.int .i64 g) ∧ w'.cell? ⟨g2,1,none⟩ = some (.int .i64 s) ∧ w'.cell? ⟨g2,2,none⟩ = some (.slice Ao o.length co) ∧ w'.cell? ⟨g2,3,none⟩ = some (.slice Al l.length cl) ∧ w'.cell? ⟨g2,4,none⟩ = some (.slice Af f.length cf)) wj := ⟨(cL HX2 0 rfl),(cL HX2 1 rfl),(cL HX2 2 rfl),(cL HX2 3 rfl),(cL HX2 4 rfl)⟩
                            refine norm_ (a' := ?_) ?_ ?_
                            rotate_left
                            ·simp only [putAll,Act.put,yzI,yzs0,yzs1]
                             rfl
                            refine four_ (i := 7) (j := 8) (k := 12) (m := 17) (Ni := some 36) (Nj := some 37) (Nk := some 41) (Nm := some 5) yz29 yz30 yz31 yz32 rfl rfl rfl rfl rfl rfl rfl rfl (four_of HT_.out (by kernel_rfl)) (by decide) (by decide) (by decide) (by decide) (fun K hK => ?_) (fun K hK => ?_) (fun K hK => ?_) (fun K hK => ?_)
                            ·skip
                             refine Kd.R_append_rows_step (Kd.int .i64) (w0 := w) w.heap.size (by rfl) (.tmp 33) (.tmp 35) 25 3 (.int .i64 0) 8 rfl Try.underlying25 info3 rfl (by decide) (by omega) v4 [] o _ _ _ (fun _ => True) (fun _ => False) rfl rfl ?aO ?aR (fun _ _ h => h) (fun _ h => h.elim) ?aF ?aB ?aS ?aL ?_
                             (case aR => exact (TC_oC (TC_below HT.out HB.out)))
                             (case aB => exact HB.out)
                             (case aF => exact (fun _ _ => trivial))
                             (case aO => exact HVo.out)
                             (case aS => exact below_size HB.out)
                             (case aL => have := HLN.out; rw [List.length_nil]; omega)
                             intro u7 wk ho_ hb_ hg_ hat_
                             rw [List.nil_append] at ho_
                             replace HX2 := Aside0.mk (blk_grown HX2.out hg_ (Kd.R_ne HVo.out HX2.out (by decide)))
                             replace HVo := Aside0.mk (ho_)
                             replace HB := Aside0.mk (hb_)
                             clear ho_ hb_ hg_ hat_
                             refine hK.out _ _ ⟨(cL HX2 0 rfl),(cL HX2 1 rfl),(cL HX2 2 rfl),(cL HX2 3 rfl),(cL HX2 4 rfl)⟩ (fun hHeld => ?_)
                             clear hK K
                             refine norm_ (a' := ?_) ?_ ?_
                             rotate_left
                             ·show Act.put _ (some 36) _ = _
                              simp only [Act.put,yzI,yzs0,yzs1,i64_w,i32_w]
                              rfl
                             exact norm_ (by first | (simp only [putAll,Act.put,yzI,yzs0,yzs1]; done) | (simp only [putAll,Act.put,yzI,yzs0,yzs1]; rfl)) (hJ4_7 (v4,u7) _ ⟨HVo.out,HX2.out,HB.out⟩)
                            ·skip
                             refine value_ (w1 := ?_) (v := ?_) (by rfl) rfl ?_ ?_
                             rotate_left 2
                             ·go_simp
                              constructor
                              ·rfl
                              ·rfl
                             obtain ⟨wk,hW⟩ : ∃ W_,W_ = wj.alloc (.cells #[] 3) := ⟨_,rfl⟩
                             have hb_ : Below wj.heap.size wj wk := by rw [hW]; exact below_alloc (Below.refl _ _) _
                             have hR_ : Kd.R (Kd.int .i64) 3 wk w.heap.size (fun _ => True) (.slice (some ⟨wj.heap.size,0,none⟩) 0 0) [] := by rw [hW]; exact R_zero (below_size HB.out)
                             have hd_ := dol_new (n := 0) (c := 0) HVo.out
                             obtain ⟨v8,hv_⟩ : ∃ y_,y_ = Value.slice (some ⟨wj.heap.size,0,none⟩) 0 0 := ⟨_,rfl⟩
                             rw [← hv_] at hR_ ⊢
                             rw [← hv_] at hd_
                             have HD := Aside0.mk (hd_)
                             clear hd_
                             rw [← hW]
                             have HVl := Aside0.mk hR_
                             replace HVo := Aside0.mk (Kd.R_below HVo.out hb_)
                             replace HX2 := mB HX2 hb_
                             replace HB := mS HB hb_
                             clear hW hb_ hR_ hv_
                             refine hK.out _ _ ⟨(cL HX2 0 rfl),(cL HX2 1 rfl),(cL HX2 2 rfl),(cL HX2 3 rfl),(cL HX2 4 rfl)⟩ (fun hHeld => ?_)
                             clear hK K
                             refine norm_ (a' := ?_) ?_ ?_
                             rotate_left
                             ·show Act.put _ (some 37) _ = _
                              simp only [Act.put,yzI,yzs0,yzs1,i64_w,i32_w]
                              rfl
                             exact norm_ (by first | (simp only [putAll,Act.put,yzI,yzs0,yzs1]; done) | (simp only [putAll,Act.put,yzI,yzs0,yzs1]; rfl)) (hJ4_8 (v4,v8) _ ⟨HVo.out,HVl.out,HD.out,HX2.out,HB.out⟩)
                            ·skip
                             refine value_ (w1 := ?_) (v := ?_) (by rfl) rfl ?_ ?_
                             rotate_left 2
                             ·go_simp
                              constructor
                              ·rfl
                              ·rfl
                             obtain ⟨wk,hW⟩ : ∃ W_,W_ = wj.alloc (.cells #[] 23) := ⟨_,rfl⟩
                             have hb_ : Below wj.heap.size wj wk := by rw [hW]; exact below_alloc (Below.refl _ _) _
                             have hR_ : Kd.R (Kd.int .u64) 23 wk w.heap.size (fun _ => True) (.slice (some ⟨wj.heap.size,0,none⟩) 0 0) [] := by rw [hW]; exact R_zero (below_size HB.out)
                             obtain ⟨v12,hv_⟩ : ∃ y_,y_ = Value.slice (some ⟨wj.heap.size,0,none⟩) 0 0 := ⟨_,rfl⟩
                             rw [← hv_] at hR_ ⊢
                             rw [← hW]
                             have HVf := Aside0.mk hR_
                             replace HVo := Aside0.mk (Kd.R_below HVo.out hb_)
                             replace HX2 := mB HX2 hb_
                             replace HB := mS HB hb_
                             clear hW hb_ hR_ hv_
                             refine hK.out _ _ ⟨(cL HX2 0 rfl),(cL HX2 1 rfl),(cL HX2 2 rfl),(cL HX2 3 rfl),(cL HX2 4 rfl)⟩ (fun hHeld => ?_)
                             clear hK K
                             refine norm_ (a' := ?_) ?_ ?_
                             rotate_left
                             ·show Act.put _ (some 41) _ = _
                              simp only [Act.put,yzI,yzs0,yzs1,i64_w,i32_w]
                              rfl
                             exact norm_ (by first | (simp only [putAll,Act.put,yzI,yzs0,yzs1]; done) | (simp only [putAll,Act.put,yzI,yzs0,yzs1]; rfl)) (hJ4_12 (v4,v12) _ ⟨HVo.out,HVf.out,HX2.out,HB.out⟩)
                            ·skip
                             refine value_ (w1 := ?_) (v := ?_) (by rfl) rfl ?_ ?_
                             rotate_left 2
                             ·go_simp
                              constructor
                              ·rfl
                              ·rfl
                             obtain ⟨wk,hW⟩ : ∃ W_,W_ = wj.alloc (.cells #[.int .i64 0,.int .i64 0,.slice none 0 0,.slice none 0 0,.slice none 0 0] 32) := ⟨_,rfl⟩
                             obtain ⟨g5,hh⟩ : ∃ g_,g_ = wj.heap.size := ⟨_,rfl⟩
                             rw [← hW,← hh]
                             have hb_ : Below wj.heap.size wj wk := by rw [hW]; exact below_alloc (Below.refl _ _) _
                             have HX5 : Aside0 (wk.heap[g5]? = some (.cells #[.int .i64 0,.int .i64 0,.slice none 0 0,.slice none 0 0,.slice none 0 0] 32 (0,0))) := ⟨by rw [hW,hh]; exact blk_new _ _⟩
                             have HG5 : Aside0 (w.heap.size ≤ g5) := ⟨by rw [hh]; exact below_size HB.out⟩
                             have N25 : Aside0 (g2 ≠ g5) := ⟨by rw [hh]; exact Nat.ne_of_lt (blk_lt HX2.out)⟩
                             replace HVo := Aside0.mk (Kd.R_below HVo.out hb_)
                             replace HX2 := mB HX2 hb_
                             replace HB := mS HB hb_
                             clear hW hh hb_
                             refine hK.out _ _ ⟨(cL HX2 0 rfl),(cL HX2 1 rfl),(cL HX2 2 rfl),(cL HX2 3 rfl),(cL HX2 4 rfl)⟩ (fun hHeld => ?_)
                             clear hK K
                             refine norm_ (a' := ?_) ?_ ?_
                             rotate_left
                             ·show Act.put _ (some 5) _ = _
                              simp only [Act.put,yzI,yzs0,yzs1,i64_w,i32_w]
                              rfl
                             exact norm_ (by first | (simp only [putAll,Act.put,yzI,yzs0,yzs1]; done) | (simp only [putAll,Act.put,yzI,yzs0,yzs1]; rfl)) (hJ4_17 (v4,g5) _ ⟨HVo.out,HX5.out,HG5.out,N25.out,HX2.out,HB.out⟩)
                          ·skip
                           rintro ⟨v12,g5⟩ wj ⟨h_0,h_1,h_2,h_3,h_4,h_5⟩
                           try dsimp only at h_0 h_1 h_2 h_3 h_4 h_5
                           clear HX2 HB
                           have HVf := Aside0.mk h_0
                           have HX5 := Aside0.mk h_1
                           have HG5 := Aside0.mk h_2
                           have N25 := Aside0.mk h_3
                           have HX2 := Aside0.mk h_4
                           have HB := Aside0.mk h_5
                           clear h_0 h_1 h_2 h_3 h_4 h_5
                           have hHeld : (fun w' => w'.cell? ⟨g2,0,none⟩ = some (.int .i64 g) ∧ w'.cell? ⟨g2,1,none⟩ = some (.int .i64 s) ∧ w'.cell? ⟨g2,2,none⟩ = some (.slice Ao o.length co) ∧ w'.cell? ⟨g2,3,none⟩ = some (.slice Al l.length cl) ∧ w'.cell? ⟨g2,4,none⟩ = some (.slice Af f.length cf)) wj := ⟨(cL HX2 0 rfl),(cL HX2 1 rfl),(cL HX2 2 rfl),(cL HX2 3 rfl),(cL HX2 4 rfl)⟩
                           refine norm_ (a' := ?_) ?_ ?_
                           rotate_left
                           ·simp only [putAll,Act.put,yzI,yzs0,yzs1]
                            rfl
                           refine two_ (i := 4) (j := 8) (Ni := some 33) (Nj := some 37) yz27 yz28 rfl rfl rfl rfl (two_of HT_.out (by kernel_rfl)) (by decide) (by decide) (fun K hK => ?_) (fun K hK => ?_)
                           ·skip
                            refine value_ (w1 := ?_) (v := ?_) (by rfl) rfl ?_ ?_
                            rotate_left 2
                            ·go_simp
                             constructor
                             ·rfl
                             ·rfl
                            obtain ⟨wk,hW⟩ : ∃ W_,W_ = wj.alloc (.cells #[] 3) := ⟨_,rfl⟩
                            have hb_ : Below wj.heap.size wj wk := by rw [hW]; exact below_alloc (Below.refl _ _) _
                            have hR_ : Kd.R (Kd.int .i64) 3 wk w.heap.size (fun _ => True) (.slice (some ⟨wj.heap.size,0,none⟩) 0 0) [] := by rw [hW]; exact R_zero (below_size HB.out)
                            obtain ⟨v4,hv_⟩ : ∃ y_,y_ = Value.slice (some ⟨wj.heap.size,0,none⟩) 0 0 := ⟨_,rfl⟩
                            rw [← hv_] at hR_ ⊢
                            rw [← hW]
                            have HVo := Aside0.mk hR_
                            replace HVf := Aside0.mk (Kd.R_below HVf.out hb_)
                            replace HX2 := mB HX2 hb_
                            replace HX5 := mB HX5 hb_
                            replace HB := mS HB hb_
                            clear hW hb_ hR_ hv_
                            refine hK.out _ _ ⟨(cL HX2 0 rfl),(cL HX2 1 rfl),(cL HX2 2 rfl),(cL HX2 3 rfl),(cL HX2 4 rfl)⟩ (fun hHeld => ?_)
                            clear hK K
                            refine norm_ (a' := ?_) ?_ ?_
                            rotate_left
                            ·show Act.put _ (some 33) _ = _
                             simp only [Act.put,yzI,yzs0,yzs1,i64_w,i32_w]
                             rfl
                            exact norm_ (by first | (simp only [putAll,Act.put,yzI,yzs0,yzs1]; done) | (simp only [putAll,Act.put,yzI,yzs0,yzs1]; rfl)) (hJ4_12_17 (v4,v12,g5) _ ⟨HVo.out,HVf.out,HX5.out,HG5.out,N25.out,HX2.out,HB.out⟩)
                           ·skip
                            refine value_ (w1 := ?_) (v := ?_) (by rfl) rfl ?_ ?_
                            rotate_left 2
                            ·go_simp
                             constructor
                             ·rfl
                             ·rfl
                            obtain ⟨wk,hW⟩ : ∃ W_,W_ = wj.alloc (.cells #[] 3) := ⟨_,rfl⟩
                            have hb_ : Below wj.heap.size wj wk := by rw [hW]; exact below_alloc (Below.refl _ _) _
                            have hR_ : Kd.R (Kd.int .i64) 3 wk w.heap.size (fun _ => True) (.slice (some ⟨wj.heap.size,0,none⟩) 0 0) [] := by rw [hW]; exact R_zero (below_size HB.out)
                            obtain ⟨v8,hv_⟩ : ∃ y_,y_ = Value.slice (some ⟨wj.heap.size,0,none⟩) 0 0 := ⟨_,rfl⟩
                            rw [← hv_] at hR_ ⊢
                            rw [← hW]
                            have HVl := Aside0.mk hR_
                            replace HVf := Aside0.mk (Kd.R_below HVf.out hb_)
                            replace HX2 := mB HX2 hb_
                            replace HX5 := mB HX5 hb_
                            replace HB := mS HB hb_
                            clear hW hb_ hR_ hv_
                            refine hK.out _ _ ⟨(cL HX2 0 rfl),(cL HX2 1 rfl),(cL HX2 2 rfl),(cL HX2 3 rfl),(cL HX2 4 rfl)⟩ (fun hHeld => ?_)
                            clear hK K
                            refine norm_ (a' := ?_) ?_ ?_
                            rotate_left
                            ·show Act.put _ (some 37) _ = _
                             simp only [Act.put,yzI,yzs0,yzs1,i64_w,i32_w]
                             rfl
                            exact norm_ (by first | (simp only [putAll,Act.put,yzI,yzs0,yzs1]; done) | (simp only [putAll,Act.put,yzI,yzs0,yzs1]; rfl)) (hJ8_12_17 (v8,v12,g5) _ ⟨HVl.out,HVf.out,HX5.out,HG5.out,N25.out,HX2.out,HB.out⟩)
                         ·skip
                          rintro ⟨v8,g5⟩ wj ⟨h_0,h_1,h_2,h_3,h_4,h_5⟩
                          try dsimp only at h_0 h_1 h_2 h_3 h_4 h_5
                          clear HX2 HB
                          have HVl := Aside0.mk h_0
                          have HX5 := Aside0.mk h_1
                          have HG5 := Aside0.mk h_2
                          have N25 := Aside0.mk h_3
                          have HX2 := Aside0.mk h_4
                          have HB := Aside0.mk h_5
                          clear h_0 h_1 h_2 h_3 h_4 h_5
                          have hHeld : (fun w' => w'.cell? ⟨g2,0,none⟩ = some (.int .i64 g) ∧ w'.cell? ⟨g2,1,none⟩ = some (.int .i64 s) ∧ w'.cell? ⟨g2,2,none⟩ = some (.slice Ao o.length co) ∧ w'.cell? ⟨g2,3,none⟩ = some (.slice Al l.length cl) ∧ w'.cell? ⟨g2,4,none⟩ = some (.slice Af f.length cf)) wj := ⟨(cL HX2 0 rfl),(cL HX2 1 rfl),(cL HX2 2 rfl),(cL HX2 3 rfl),(cL HX2 4 rfl)⟩
                          refine norm_ (a' := ?_) ?_ ?_
                          rotate_left
                          ·simp only [putAll,Act.put,yzI,yzs0,yzs1]
                           rfl
                          refine two_ (i := 4) (j := 12) (Ni := some 33) (Nj := some 41) yz26 yz28 rfl rfl rfl rfl (two_of HT_.out (by kernel_rfl)) (by decide) (by decide) (fun K hK => ?_) (fun K hK => ?_)
                          ·skip
                           refine value_ (w1 := ?_) (v := ?_) (by rfl) rfl ?_ ?_
                           rotate_left 2
                           ·go_simp
                            constructor
                            ·rfl
                            ·rfl
                           obtain ⟨wk,hW⟩ : ∃ W_,W_ = wj.alloc (.cells #[] 3) := ⟨_,rfl⟩
                           have hb_ : Below wj.heap.size wj wk := by rw [hW]; exact below_alloc (Below.refl _ _) _
                           have hR_ : Kd.R (Kd.int .i64) 3 wk w.heap.size (fun _ => True) (.slice (some ⟨wj.heap.size,0,none⟩) 0 0) [] := by rw [hW]; exact R_zero (below_size HB.out)
                           have hd_ := dol_new (n := 0) (c := 0) HVl.out
                           obtain ⟨v4,hv_⟩ : ∃ y_,y_ = Value.slice (some ⟨wj.heap.size,0,none⟩) 0 0 := ⟨_,rfl⟩
                           rw [← hv_] at hR_ ⊢
                           rw [← hv_] at hd_
                           have HD := Aside0.mk (DOL.symm hd_)
                           clear hd_
                           rw [← hW]
                           have HVo := Aside0.mk hR_
                           replace HVl := Aside0.mk (Kd.R_below HVl.out hb_)
                           replace HX2 := mB HX2 hb_
                           replace HX5 := mB HX5 hb_
                           replace HB := mS HB hb_
                           clear hW hb_ hR_ hv_
                           refine hK.out _ _ ⟨(cL HX2 0 rfl),(cL HX2 1 rfl),(cL HX2 2 rfl),(cL HX2 3 rfl),(cL HX2 4 rfl)⟩ (fun hHeld => ?_)
                           clear hK K
                           refine norm_ (a' := ?_) ?_ ?_
                           rotate_left
                           ·show Act.put _ (some 33) _ = _
                            simp only [Act.put,yzI,yzs0,yzs1,i64_w,i32_w]
                            rfl
                           exact norm_ (by first | (simp only [putAll,Act.put,yzI,yzs0,yzs1]; done) | (simp only [putAll,Act.put,yzI,yzs0,yzs1]; rfl)) (hJ4_8_17 (v4,v8,g5) _ ⟨HVo.out,HVl.out,HD.out,HX5.out,HG5.out,N25.out,HX2.out,HB.out⟩)
                          ·skip
                           refine value_ (w1 := ?_) (v := ?_) (by rfl) rfl ?_ ?_
                           rotate_left 2
                           ·go_simp
                            constructor
                            ·rfl
                            ·rfl
                           obtain ⟨wk,hW⟩ : ∃ W_,W_ = wj.alloc (.cells #[] 23) := ⟨_,rfl⟩
                           have hb_ : Below wj.heap.size wj wk := by rw [hW]; exact below_alloc (Below.refl _ _) _
                           have hR_ : Kd.R (Kd.int .u64) 23 wk w.heap.size (fun _ => True) (.slice (some ⟨wj.heap.size,0,none⟩) 0 0) [] := by rw [hW]; exact R_zero (below_size HB.out)
                           obtain ⟨v12,hv_⟩ : ∃ y_,y_ = Value.slice (some ⟨wj.heap.size,0,none⟩) 0 0 := ⟨_,rfl⟩
                           rw [← hv_] at hR_ ⊢
                           rw [← hW]
                           have HVf := Aside0.mk hR_
                           replace HVl := Aside0.mk (Kd.R_below HVl.out hb_)
                           replace HX2 := mB HX2 hb_
                           replace HX5 := mB HX5 hb_
                           replace HB := mS HB hb_
                           clear hW hb_ hR_ hv_
                           refine hK.out _ _ ⟨(cL HX2 0 rfl),(cL HX2 1 rfl),(cL HX2 2 rfl),(cL HX2 3 rfl),(cL HX2 4 rfl)⟩ (fun hHeld => ?_)
                           clear hK K
                           refine norm_ (a' := ?_) ?_ ?_
                           rotate_left
                           ·show Act.put _ (some 41) _ = _
                            simp only [Act.put,yzI,yzs0,yzs1,i64_w,i32_w]
                            rfl
                           exact norm_ (by first | (simp only [putAll,Act.put,yzI,yzs0,yzs1]; done) | (simp only [putAll,Act.put,yzI,yzs0,yzs1]; rfl)) (hJ8_12_17 (v8,v12,g5) _ ⟨HVl.out,HVf.out,HX5.out,HG5.out,N25.out,HX2.out,HB.out⟩)
                        ·skip
                         rintro ⟨v8,v12⟩ wj ⟨h_0,h_1,h_2,h_3⟩
                         try dsimp only at h_0 h_1 h_2 h_3
                         clear HX2 HB
                         have HVl := Aside0.mk h_0
                         have HVf := Aside0.mk h_1
                         have HX2 := Aside0.mk h_2
                         have HB := Aside0.mk h_3
                         clear h_0 h_1 h_2 h_3
                         have hHeld : (fun w' => w'.cell? ⟨g2,0,none⟩ = some (.int .i64 g) ∧ w'.cell? ⟨g2,1,none⟩ = some (.int .i64 s) ∧ w'.cell? ⟨g2,2,none⟩ = some (.slice Ao o.length co) ∧ w'.cell? ⟨g2,3,none⟩ = some (.slice Al l.length cl) ∧ w'.cell? ⟨g2,4,none⟩ = some (.slice Af f.length cf)) wj := ⟨(cL HX2 0 rfl),(cL HX2 1 rfl),(cL HX2 2 rfl),(cL HX2 3 rfl),(cL HX2 4 rfl)⟩
                         refine norm_ (a' := ?_) ?_ ?_
                         rotate_left
                         ·simp only [putAll,Act.put,yzI,yzs0,yzs1]
                          rfl
                         refine two_ (i := 4) (j := 17) (Ni := some 33) (Nj := some 5) yz25 yz28 rfl rfl rfl rfl (two_of HT_.out (by kernel_rfl)) (by decide) (by decide) (fun K hK => ?_) (fun K hK => ?_)
                         ·skip
                          refine value_ (w1 := ?_) (v := ?_) (by rfl) rfl ?_ ?_
                          rotate_left 2
                          ·go_simp
                           constructor
                           ·rfl
                           ·rfl
                          obtain ⟨wk,hW⟩ : ∃ W_,W_ = wj.alloc (.cells #[] 3) := ⟨_,rfl⟩
                          have hb_ : Below wj.heap.size wj wk := by rw [hW]; exact below_alloc (Below.refl _ _) _
                          have hR_ : Kd.R (Kd.int .i64) 3 wk w.heap.size (fun _ => True) (.slice (some ⟨wj.heap.size,0,none⟩) 0 0) [] := by rw [hW]; exact R_zero (below_size HB.out)
                          have hd_ := dol_new (n := 0) (c := 0) HVl.out
                          obtain ⟨v4,hv_⟩ : ∃ y_,y_ = Value.slice (some ⟨wj.heap.size,0,none⟩) 0 0 := ⟨_,rfl⟩
                          rw [← hv_] at hR_ ⊢
                          rw [← hv_] at hd_
                          have HD := Aside0.mk (DOL.symm hd_)
                          clear hd_
                          rw [← hW]
                          have HVo := Aside0.mk hR_
                          replace HVl := Aside0.mk (Kd.R_below HVl.out hb_)
                          replace HVf := Aside0.mk (Kd.R_below HVf.out hb_)
                          replace HX2 := mB HX2 hb_
                          replace HB := mS HB hb_
                          clear hW hb_ hR_ hv_
                          refine hK.out _ _ ⟨(cL HX2 0 rfl),(cL HX2 1 rfl),(cL HX2 2 rfl),(cL HX2 3 rfl),(cL HX2 4 rfl)⟩ (fun hHeld => ?_)
                          clear hK K
                          refine norm_ (a' := ?_) ?_ ?_
                          rotate_left
                          ·show Act.put _ (some 33) _ = _
                           simp only [Act.put,yzI,yzs0,yzs1,i64_w,i32_w]
                           rfl
                          exact norm_ (by first | (simp only [putAll,Act.put,yzI,yzs0,yzs1]; done) | (simp only [putAll,Act.put,yzI,yzs0,yzs1]; rfl)) (hJ4_8_12 (v4,v8,v12) _ ⟨HVo.out,HVl.out,HVf.out,HD.out,HX2.out,HB.out⟩)
                         ·skip
                          refine value_ (w1 := ?_) (v := ?_) (by rfl) rfl ?_ ?_
                          rotate_left 2
                          ·go_simp
                           constructor
                           ·rfl
                           ·rfl
                          obtain ⟨wk,hW⟩ : ∃ W_,W_ = wj.alloc (.cells #[.int .i64 0,.int .i64 0,.slice none 0 0,.slice none 0 0,.slice none 0 0] 32) := ⟨_,rfl⟩
                          obtain ⟨g5,hh⟩ : ∃ g_,g_ = wj.heap.size := ⟨_,rfl⟩
                          rw [← hW,← hh]
                          have hb_ : Below wj.heap.size wj wk := by rw [hW]; exact below_alloc (Below.refl _ _) _
                          have HX5 : Aside0 (wk.heap[g5]? = some (.cells #[.int .i64 0,.int .i64 0,.slice none 0 0,.slice none 0 0,.slice none 0 0] 32 (0,0))) := ⟨by rw [hW,hh]; exact blk_new _ _⟩
                          have HG5 : Aside0 (w.heap.size ≤ g5) := ⟨by rw [hh]; exact below_size HB.out⟩
                          have N25 : Aside0 (g2 ≠ g5) := ⟨by rw [hh]; exact Nat.ne_of_lt (blk_lt HX2.out)⟩
                          replace HVl := Aside0.mk (Kd.R_below HVl.out hb_)
                          replace HVf := Aside0.mk (Kd.R_below HVf.out hb_)
                          replace HX2 := mB HX2 hb_
                          replace HB := mS HB hb_
                          clear hW hh hb_
                          refine hK.out _ _ ⟨(cL HX2 0 rfl),(cL HX2 1 rfl),(cL HX2 2 rfl),(cL HX2 3 rfl),(cL HX2 4 rfl)⟩ (fun hHeld => ?_)
                          clear hK K
                          refine norm_ (a' := ?_) ?_ ?_
                          rotate_left
                          ·show Act.put _ (some 5) _ = _
                           simp only [Act.put,yzI,yzs0,yzs1,i64_w,i32_w]
                           rfl
                          exact norm_ (by first | (simp only [putAll,Act.put,yzI,yzs0,yzs1]; done) | (simp only [putAll,Act.put,yzI,yzs0,yzs1]; rfl)) (hJ8_12_17 (v8,v12,g5) _ ⟨HVl.out,HVf.out,HX5.out,HG5.out,N25.out,HX2.out,HB.out⟩)
                       ·skip
                        rintro ⟨v4,g5⟩ wj ⟨h_0,h_1,h_2,h_3,h_4,h_5⟩
                        try dsimp only at h_0 h_1 h_2 h_3 h_4 h_5
                        clear HX2 HB
                        have HVo := Aside0.mk h_0
                        have HX5 := Aside0.mk h_1
                        have HG5 := Aside0.mk h_2
                        have N25 := Aside0.mk h_3
                        have HX2 := Aside0.mk h_4
                        have HB := Aside0.mk h_5
                        clear h_0 h_1 h_2 h_3 h_4 h_5
                        have hHeld : (fun w' => w'.cell? ⟨g2,0,none⟩ = some (.int .i64 g) ∧ w'.cell? ⟨g2,1,none⟩ = some (.int .i64 s) ∧ w'.cell? ⟨g2,2,none⟩ = some (.slice Ao o.length co) ∧ w'.cell? ⟨g2,3,none⟩ = some (.slice Al l.length cl) ∧ w'.cell? ⟨g2,4,none⟩ = some (.slice Af f.length cf)) wj := ⟨(cL HX2 0 rfl),(cL HX2 1 rfl),(cL HX2 2 rfl),(cL HX2 3 rfl),(cL HX2 4 rfl)⟩
                        refine norm_ (a' := ?_) ?_ ?_
                        rotate_left
                        ·simp only [putAll,Act.put,yzI,yzs0,yzs1]
                         rfl
                        refine three_ (i := 7) (j := 8) (k := 12) (Ni := some 36) (Nj := some 37) (Nk := some 41) yz24 yz26 yz27 rfl rfl rfl rfl rfl rfl (three_of HT_.out (by kernel_rfl)) (by decide) (by decide) (by decide) (fun K hK => ?_) (fun K hK => ?_) (fun K hK => ?_)
                        ·skip
                         refine Kd.R_append_rows_step (Kd.int .i64) (w0 := w) w.heap.size (by rfl) (.tmp 33) (.tmp 35) 25 3 (.int .i64 0) 8 rfl Try.underlying25 info3 rfl (by decide) (by omega) v4 [] o _ _ _ (fun _ => True) (fun _ => False) rfl rfl ?aO ?aR (fun _ _ h => h) (fun _ h => h.elim) ?aF ?aB ?aS ?aL ?_
                         (case aR => exact (TC_oC (TC_below HT.out HB.out)))
                         (case aB => exact HB.out)
                         (case aF => exact (fun _ _ => trivial))
                         (case aO => exact HVo.out)
                         (case aS => exact below_size HB.out)
                         (case aL => have := HLN.out; rw [List.length_nil]; omega)
                         intro u7 wk ho_ hb_ hg_ hat_
                         rw [List.nil_append] at ho_
                         replace HX2 := Aside0.mk (blk_grown HX2.out hg_ (Kd.R_ne HVo.out HX2.out (by decide)))
                         replace HX5 := Aside0.mk (blk_grown HX5.out hg_ (Kd.R_ne HVo.out HX5.out (by decide)))
                         replace HVo := Aside0.mk (ho_)
                         replace HB := Aside0.mk (hb_)
                         clear ho_ hb_ hg_ hat_
                         refine hK.out _ _ ⟨(cL HX2 0 rfl),(cL HX2 1 rfl),(cL HX2 2 rfl),(cL HX2 3 rfl),(cL HX2 4 rfl)⟩ (fun hHeld => ?_)
                         clear hK K
                         refine norm_ (a' := ?_) ?_ ?_
                         rotate_left
                         ·show Act.put _ (some 36) _ = _
                          simp only [Act.put,yzI,yzs0,yzs1,i64_w,i32_w]
                          rfl
                         exact norm_ (by first | (simp only [putAll,Act.put,yzI,yzs0,yzs1]; done) | (simp only [putAll,Act.put,yzI,yzs0,yzs1]; rfl)) (hJ4_7_17 (v4,u7,g5) _ ⟨HVo.out,HX5.out,HG5.out,N25.out,HX2.out,HB.out⟩)
                        ·skip
                         refine value_ (w1 := ?_) (v := ?_) (by rfl) rfl ?_ ?_
                         rotate_left 2
                         ·go_simp
                          constructor
                          ·rfl
                          ·rfl
                         obtain ⟨wk,hW⟩ : ∃ W_,W_ = wj.alloc (.cells #[] 3) := ⟨_,rfl⟩
                         have hb_ : Below wj.heap.size wj wk := by rw [hW]; exact below_alloc (Below.refl _ _) _
                         have hR_ : Kd.R (Kd.int .i64) 3 wk w.heap.size (fun _ => True) (.slice (some ⟨wj.heap.size,0,none⟩) 0 0) [] := by rw [hW]; exact R_zero (below_size HB.out)
                         have hd_ := dol_new (n := 0) (c := 0) HVo.out
                         obtain ⟨v8,hv_⟩ : ∃ y_,y_ = Value.slice (some ⟨wj.heap.size,0,none⟩) 0 0 := ⟨_,rfl⟩
                         rw [← hv_] at hR_ ⊢
                         rw [← hv_] at hd_
                         have HD := Aside0.mk (hd_)
                         clear hd_
                         rw [← hW]
                         have HVl := Aside0.mk hR_
                         replace HVo := Aside0.mk (Kd.R_below HVo.out hb_)
                         replace HX2 := mB HX2 hb_
                         replace HX5 := mB HX5 hb_
                         replace HB := mS HB hb_
                         clear hW hb_ hR_ hv_
                         refine hK.out _ _ ⟨(cL HX2 0 rfl),(cL HX2 1 rfl),(cL HX2 2 rfl),(cL HX2 3 rfl),(cL HX2 4 rfl)⟩ (fun hHeld => ?_)
                         clear hK K
                         refine norm_ (a' := ?_) ?_ ?_
                         rotate_left
                         ·show Act.put _ (some 37) _ = _
                          simp only [Act.put,yzI,yzs0,yzs1,i64_w,i32_w]
                          rfl
                         exact norm_ (by first | (simp only [putAll,Act.put,yzI,yzs0,yzs1]; done) | (simp only [putAll,Act.put,yzI,yzs0,yzs1]; rfl)) (hJ4_8_17 (v4,v8,g5) _ ⟨HVo.out,HVl.out,HD.out,HX5.out,HG5.out,N25.out,HX2.out,HB.out⟩)
                        ·skip
                         refine value_ (w1 := ?_) (v := ?_) (by rfl) rfl ?_ ?_
                         rotate_left 2
                         ·go_simp
                          constructor
                          ·rfl
                          ·rfl
                         obtain ⟨wk,hW⟩ : ∃ W_,W_ = wj.alloc (.cells #[] 23) := ⟨_,rfl⟩
                         have hb_ : Below wj.heap.size wj wk := by rw [hW]; exact below_alloc (Below.refl _ _) _
                         have hR_ : Kd.R (Kd.int .u64) 23 wk w.heap.size (fun _ => True) (.slice (some ⟨wj.heap.size,0,none⟩) 0 0) [] := by rw [hW]; exact R_zero (below_size HB.out)
                         obtain ⟨v12,hv_⟩ : ∃ y_,y_ = Value.slice (some ⟨wj.heap.size,0,none⟩) 0 0 := ⟨_,rfl⟩
                         rw [← hv_] at hR_ ⊢
                         rw [← hW]
                         have HVf := Aside0.mk hR_
                         replace HVo := Aside0.mk (Kd.R_below HVo.out hb_)
                         replace HX2 := mB HX2 hb_
                         replace HX5 := mB HX5 hb_
                         replace HB := mS HB hb_
                         clear hW hb_ hR_ hv_
                         refine hK.out _ _ ⟨(cL HX2 0 rfl),(cL HX2 1 rfl),(cL HX2 2 rfl),(cL HX2 3 rfl),(cL HX2 4 rfl)⟩ (fun hHeld => ?_)
                         clear hK K
                         refine norm_ (a' := ?_) ?_ ?_
                         rotate_left
                         ·show Act.put _ (some 41) _ = _
                          simp only [Act.put,yzI,yzs0,yzs1,i64_w,i32_w]
                          rfl
                         exact norm_ (by first | (simp only [putAll,Act.put,yzI,yzs0,yzs1]; done) | (simp only [putAll,Act.put,yzI,yzs0,yzs1]; rfl)) (hJ4_12_17 (v4,v12,g5) _ ⟨HVo.out,HVf.out,HX5.out,HG5.out,N25.out,HX2.out,HB.out⟩)
                      ·skip
                       rintro ⟨v4,v12⟩ wj ⟨h_0,h_1,h_2,h_3⟩
                       try dsimp only at h_0 h_1 h_2 h_3
                       clear HX2 HB
                       have HVo := Aside0.mk h_0
                       have HVf := Aside0.mk h_1
                       have HX2 := Aside0.mk h_2
                       have HB := Aside0.mk h_3
                       clear h_0 h_1 h_2 h_3
                       have hHeld : (fun w' => w'.cell? ⟨g2,0,none⟩ = some (.int .i64 g) ∧ w'.cell? ⟨g2,1,none⟩ = some (.int .i64 s) ∧ w'.cell? ⟨g2,2,none⟩ = some (.slice Ao o.length co) ∧ w'.cell? ⟨g2,3,none⟩ = some (.slice Al l.length cl) ∧ w'.cell? ⟨g2,4,none⟩ = some (.slice Af f.length cf)) wj := ⟨(cL HX2 0 rfl),(cL HX2 1 rfl),(cL HX2 2 rfl),(cL HX2 3 rfl),(cL HX2 4 rfl)⟩
                       refine norm_ (a' := ?_) ?_ ?_
                       rotate_left
                       ·simp only [putAll,Act.put,yzI,yzs0,yzs1]
                        rfl
                       refine three_ (i := 7) (j := 8) (k := 17) (Ni := some 36) (Nj := some 37) (Nk := some 5) yz23 yz25 yz27 rfl rfl rfl rfl rfl rfl (three_of HT_.out (by kernel_rfl)) (by decide) (by decide) (by decide) (fun K hK => ?_) (fun K hK => ?_) (fun K hK => ?_)
                       ·skip
                        refine Kd.R_append_rows_step (Kd.int .i64) (w0 := w) w.heap.size (by rfl) (.tmp 33) (.tmp 35) 25 3 (.int .i64 0) 8 rfl Try.underlying25 info3 rfl (by decide) (by omega) v4 [] o _ _ _ (fun _ => True) (fun _ => False) rfl rfl ?aO ?aR (fun _ _ h => h) (fun _ h => h.elim) ?aF ?aB ?aS ?aL ?_
                        (case aR => exact (TC_oC (TC_below HT.out HB.out)))
                        (case aB => exact HB.out)
                        (case aF => exact (fun _ _ => trivial))
                        (case aO => exact HVo.out)
                        (case aS => exact below_size HB.out)
                        (case aL => have := HLN.out; rw [List.length_nil]; omega)
                        intro u7 wk ho_ hb_ hg_ hat_
                        rw [List.nil_append] at ho_
                        replace HVf := Aside0.mk (R_other HVf.out rfl hg_ (type_ne HVo.out HVf.out (by decide)))
                        replace HX2 := Aside0.mk (blk_grown HX2.out hg_ (Kd.R_ne HVo.out HX2.out (by decide)))
                        replace HVo := Aside0.mk (ho_)
                        replace HB := Aside0.mk (hb_)
                        clear ho_ hb_ hg_ hat_
                        refine hK.out _ _ ⟨(cL HX2 0 rfl),(cL HX2 1 rfl),(cL HX2 2 rfl),(cL HX2 3 rfl),(cL HX2 4 rfl)⟩ (fun hHeld => ?_)
                        clear hK K
                        refine norm_ (a' := ?_) ?_ ?_
                        rotate_left
                        ·show Act.put _ (some 36) _ = _
                         simp only [Act.put,yzI,yzs0,yzs1,i64_w,i32_w]
                         rfl
                        exact norm_ (by first | (simp only [putAll,Act.put,yzI,yzs0,yzs1]; done) | (simp only [putAll,Act.put,yzI,yzs0,yzs1]; rfl)) (hJ4_7_12 (v4,u7,v12) _ ⟨HVo.out,HVf.out,HX2.out,HB.out⟩)
                       ·skip
                        refine value_ (w1 := ?_) (v := ?_) (by rfl) rfl ?_ ?_
                        rotate_left 2
                        ·go_simp
                         constructor
                         ·rfl
                         ·rfl
                        obtain ⟨wk,hW⟩ : ∃ W_,W_ = wj.alloc (.cells #[] 3) := ⟨_,rfl⟩
                        have hb_ : Below wj.heap.size wj wk := by rw [hW]; exact below_alloc (Below.refl _ _) _
                        have hR_ : Kd.R (Kd.int .i64) 3 wk w.heap.size (fun _ => True) (.slice (some ⟨wj.heap.size,0,none⟩) 0 0) [] := by rw [hW]; exact R_zero (below_size HB.out)
                        have hd_ := dol_new (n := 0) (c := 0) HVo.out
                        obtain ⟨v8,hv_⟩ : ∃ y_,y_ = Value.slice (some ⟨wj.heap.size,0,none⟩) 0 0 := ⟨_,rfl⟩
                        rw [← hv_] at hR_ ⊢
                        rw [← hv_] at hd_
                        have HD := Aside0.mk (hd_)
                        clear hd_
                        rw [← hW]
                        have HVl := Aside0.mk hR_
                        replace HVo := Aside0.mk (Kd.R_below HVo.out hb_)
                        replace HVf := Aside0.mk (Kd.R_below HVf.out hb_)
                        replace HX2 := mB HX2 hb_
                        replace HB := mS HB hb_
                        clear hW hb_ hR_ hv_
                        refine hK.out _ _ ⟨(cL HX2 0 rfl),(cL HX2 1 rfl),(cL HX2 2 rfl),(cL HX2 3 rfl),(cL HX2 4 rfl)⟩ (fun hHeld => ?_)
                        clear hK K
                        refine norm_ (a' := ?_) ?_ ?_
                        rotate_left
                        ·show Act.put _ (some 37) _ = _
                         simp only [Act.put,yzI,yzs0,yzs1,i64_w,i32_w]
                         rfl
                        exact norm_ (by first | (simp only [putAll,Act.put,yzI,yzs0,yzs1]; done) | (simp only [putAll,Act.put,yzI,yzs0,yzs1]; rfl)) (hJ4_8_12 (v4,v8,v12) _ ⟨HVo.out,HVl.out,HVf.out,HD.out,HX2.out,HB.out⟩)
                       ·skip
                        refine value_ (w1 := ?_) (v := ?_) (by rfl) rfl ?_ ?_
                        rotate_left 2
                        ·go_simp
                         constructor
                         ·rfl
                         ·rfl
                        obtain ⟨wk,hW⟩ : ∃ W_,W_ = wj.alloc (.cells #[.int .i64 0,.int .i64 0,.slice none 0 0,.slice none 0 0,.slice none 0 0] 32) := ⟨_,rfl⟩
                        obtain ⟨g5,hh⟩ : ∃ g_,g_ = wj.heap.size := ⟨_,rfl⟩
                        rw [← hW,← hh]
                        have hb_ : Below wj.heap.size wj wk := by rw [hW]; exact below_alloc (Below.refl _ _) _
                        have HX5 : Aside0 (wk.heap[g5]? = some (.cells #[.int .i64 0,.int .i64 0,.slice none 0 0,.slice none 0 0,.slice none 0 0] 32 (0,0))) := ⟨by rw [hW,hh]; exact blk_new _ _⟩
                        have HG5 : Aside0 (w.heap.size ≤ g5) := ⟨by rw [hh]; exact below_size HB.out⟩
                        have N25 : Aside0 (g2 ≠ g5) := ⟨by rw [hh]; exact Nat.ne_of_lt (blk_lt HX2.out)⟩
                        replace HVo := Aside0.mk (Kd.R_below HVo.out hb_)
                        replace HVf := Aside0.mk (Kd.R_below HVf.out hb_)
                        replace HX2 := mB HX2 hb_
                        replace HB := mS HB hb_
                        clear hW hh hb_
                        refine hK.out _ _ ⟨(cL HX2 0 rfl),(cL HX2 1 rfl),(cL HX2 2 rfl),(cL HX2 3 rfl),(cL HX2 4 rfl)⟩ (fun hHeld => ?_)
                        clear hK K
                        refine norm_ (a' := ?_) ?_ ?_
                        rotate_left
                        ·show Act.put _ (some 5) _ = _
                         simp only [Act.put,yzI,yzs0,yzs1,i64_w,i32_w]
                         rfl
                        exact norm_ (by first | (simp only [putAll,Act.put,yzI,yzs0,yzs1]; done) | (simp only [putAll,Act.put,yzI,yzs0,yzs1]; rfl)) (hJ4_12_17 (v4,v12,g5) _ ⟨HVo.out,HVf.out,HX5.out,HG5.out,N25.out,HX2.out,HB.out⟩)
                     ·skip
                      rintro ⟨v4,v8⟩ wj ⟨h_0,h_1,h_2,h_3,h_4⟩
                      try dsimp only at h_0 h_1 h_2 h_3 h_4
                      clear HX2 HB
                      have HVo := Aside0.mk h_0
                      have HVl := Aside0.mk h_1
                      have HD := Aside0.mk h_2
                      have HX2 := Aside0.mk h_3
                      have HB := Aside0.mk h_4
                      clear h_0 h_1 h_2 h_3 h_4
                      have hHeld : (fun w' => w'.cell? ⟨g2,0,none⟩ = some (.int .i64 g) ∧ w'.cell? ⟨g2,1,none⟩ = some (.int .i64 s) ∧ w'.cell? ⟨g2,2,none⟩ = some (.slice Ao o.length co) ∧ w'.cell? ⟨g2,3,none⟩ = some (.slice Al l.length cl) ∧ w'.cell? ⟨g2,4,none⟩ = some (.slice Af f.length cf)) wj := ⟨(cL HX2 0 rfl),(cL HX2 1 rfl),(cL HX2 2 rfl),(cL HX2 3 rfl),(cL HX2 4 rfl)⟩
                      refine norm_ (a' := ?_) ?_ ?_
                      rotate_left
                      ·simp only [putAll,Act.put,yzI,yzs0,yzs1]
                       rfl
                      refine three_ (i := 7) (j := 12) (k := 17) (Ni := some 36) (Nj := some 41) (Nk := some 5) yz22 yz25 yz26 rfl rfl rfl rfl rfl rfl (three_of HT_.out (by kernel_rfl)) (by decide) (by decide) (by decide) (fun K hK => ?_) (fun K hK => ?_) (fun K hK => ?_)
                      ·skip
                       refine Kd.R_append_rows_step (Kd.int .i64) (w0 := w) w.heap.size (by rfl) (.tmp 33) (.tmp 35) 25 3 (.int .i64 0) 8 rfl Try.underlying25 info3 rfl (by decide) (by omega) v4 [] o _ _ _ (fun _ => True) (fun _ => False) rfl rfl ?aO ?aR (fun _ _ h => h) (fun _ h => h.elim) ?aF ?aB ?aS ?aL ?_
                       (case aR => exact (TC_oC (TC_below HT.out HB.out)))
                       (case aB => exact HB.out)
                       (case aF => exact (fun _ _ => trivial))
                       (case aO => exact HVo.out)
                       (case aS => exact below_size HB.out)
                       (case aL => have := HLN.out; rw [List.length_nil]; omega)
                       intro u7 wk ho_ hb_ hg_ hat_
                       rw [List.nil_append] at ho_
                       have hd_ := dol_on HVl.out HD.out hat_
                       replace HVl := Aside0.mk (dol_row HVl.out HD.out hg_)
                       replace HD := Aside0.mk (hd_)
                       clear hd_
                       replace HX2 := Aside0.mk (blk_grown HX2.out hg_ (Kd.R_ne HVo.out HX2.out (by decide)))
                       replace HVo := Aside0.mk (ho_)
                       replace HB := Aside0.mk (hb_)
                       clear ho_ hb_ hg_ hat_
                       refine hK.out _ _ ⟨(cL HX2 0 rfl),(cL HX2 1 rfl),(cL HX2 2 rfl),(cL HX2 3 rfl),(cL HX2 4 rfl)⟩ (fun hHeld => ?_)
                       clear hK K
                       refine norm_ (a' := ?_) ?_ ?_
                       rotate_left
                       ·show Act.put _ (some 36) _ = _
                        simp only [Act.put,yzI,yzs0,yzs1,i64_w,i32_w]
                        rfl
                       exact norm_ (by first | (simp only [putAll,Act.put,yzI,yzs0,yzs1]; done) | (simp only [putAll,Act.put,yzI,yzs0,yzs1]; rfl)) (hJ4_7_8 (v4,u7,v8) _ ⟨HVo.out,HVl.out,HD.out,HX2.out,HB.out⟩)
                      ·skip
                       refine value_ (w1 := ?_) (v := ?_) (by rfl) rfl ?_ ?_
                       rotate_left 2
                       ·go_simp
                        constructor
                        ·rfl
                        ·rfl
                       obtain ⟨wk,hW⟩ : ∃ W_,W_ = wj.alloc (.cells #[] 23) := ⟨_,rfl⟩
                       have hb_ : Below wj.heap.size wj wk := by rw [hW]; exact below_alloc (Below.refl _ _) _
                       have hR_ : Kd.R (Kd.int .u64) 23 wk w.heap.size (fun _ => True) (.slice (some ⟨wj.heap.size,0,none⟩) 0 0) [] := by rw [hW]; exact R_zero (below_size HB.out)
                       obtain ⟨v12,hv_⟩ : ∃ y_,y_ = Value.slice (some ⟨wj.heap.size,0,none⟩) 0 0 := ⟨_,rfl⟩
                       rw [← hv_] at hR_ ⊢
                       rw [← hW]
                       have HVf := Aside0.mk hR_
                       replace HVo := Aside0.mk (Kd.R_below HVo.out hb_)
                       replace HVl := Aside0.mk (Kd.R_below HVl.out hb_)
                       replace HX2 := mB HX2 hb_
                       replace HB := mS HB hb_
                       clear hW hb_ hR_ hv_
                       refine hK.out _ _ ⟨(cL HX2 0 rfl),(cL HX2 1 rfl),(cL HX2 2 rfl),(cL HX2 3 rfl),(cL HX2 4 rfl)⟩ (fun hHeld => ?_)
                       clear hK K
                       refine norm_ (a' := ?_) ?_ ?_
                       rotate_left
                       ·show Act.put _ (some 41) _ = _
                        simp only [Act.put,yzI,yzs0,yzs1,i64_w,i32_w]
                        rfl
                       exact norm_ (by first | (simp only [putAll,Act.put,yzI,yzs0,yzs1]; done) | (simp only [putAll,Act.put,yzI,yzs0,yzs1]; rfl)) (hJ4_8_12 (v4,v8,v12) _ ⟨HVo.out,HVl.out,HVf.out,HD.out,HX2.out,HB.out⟩)
                      ·skip
                       refine value_ (w1 := ?_) (v := ?_) (by rfl) rfl ?_ ?_
                       rotate_left 2
                       ·go_simp
                        constructor
                        ·rfl
                        ·rfl
                       obtain ⟨wk,hW⟩ : ∃ W_,W_ = wj.alloc (.cells #[.int .i64 0,.int .i64 0,.slice none 0 0,.slice none 0 0,.slice none 0 0] 32) := ⟨_,rfl⟩
                       obtain ⟨g5,hh⟩ : ∃ g_,g_ = wj.heap.size := ⟨_,rfl⟩
                       rw [← hW,← hh]
                       have hb_ : Below wj.heap.size wj wk := by rw [hW]; exact below_alloc (Below.refl _ _) _
                       have HX5 : Aside0 (wk.heap[g5]? = some (.cells #[.int .i64 0,.int .i64 0,.slice none 0 0,.slice none 0 0,.slice none 0 0] 32 (0,0))) := ⟨by rw [hW,hh]; exact blk_new _ _⟩
                       have HG5 : Aside0 (w.heap.size ≤ g5) := ⟨by rw [hh]; exact below_size HB.out⟩
                       have N25 : Aside0 (g2 ≠ g5) := ⟨by rw [hh]; exact Nat.ne_of_lt (blk_lt HX2.out)⟩
                       replace HVo := Aside0.mk (Kd.R_below HVo.out hb_)
                       replace HVl := Aside0.mk (Kd.R_below HVl.out hb_)
                       replace HX2 := mB HX2 hb_
                       replace HB := mS HB hb_
                       clear hW hh hb_
                       refine hK.out _ _ ⟨(cL HX2 0 rfl),(cL HX2 1 rfl),(cL HX2 2 rfl),(cL HX2 3 rfl),(cL HX2 4 rfl)⟩ (fun hHeld => ?_)
                       clear hK K
                       refine norm_ (a' := ?_) ?_ ?_
                       rotate_left
                       ·show Act.put _ (some 5) _ = _
                        simp only [Act.put,yzI,yzs0,yzs1,i64_w,i32_w]
                        rfl
                       exact norm_ (by first | (simp only [putAll,Act.put,yzI,yzs0,yzs1]; done) | (simp only [putAll,Act.put,yzI,yzs0,yzs1]; rfl)) (hJ4_8_17 (v4,v8,g5) _ ⟨HVo.out,HVl.out,HD.out,HX5.out,HG5.out,N25.out,HX2.out,HB.out⟩)
                    ·skip
                     rintro ⟨v4,u7⟩ wj ⟨h_0,h_1,h_2⟩
                     try dsimp only at h_0 h_1 h_2
                     clear HX2 HB
                     have HVo := Aside0.mk h_0
                     have HX2 := Aside0.mk h_1
                     have HB := Aside0.mk h_2
                     clear h_0 h_1 h_2
                     have hHeld : (fun w' => w'.cell? ⟨g2,0,none⟩ = some (.int .i64 g) ∧ w'.cell? ⟨g2,1,none⟩ = some (.int .i64 s) ∧ w'.cell? ⟨g2,2,none⟩ = some (.slice Ao o.length co) ∧ w'.cell? ⟨g2,3,none⟩ = some (.slice Al l.length cl) ∧ w'.cell? ⟨g2,4,none⟩ = some (.slice Af f.length cf)) wj := ⟨(cL HX2 0 rfl),(cL HX2 1 rfl),(cL HX2 2 rfl),(cL HX2 3 rfl),(cL HX2 4 rfl)⟩
                     refine norm_ (a' := ?_) ?_ ?_
                     rotate_left
                     ·simp only [putAll,Act.put,yzI,yzs0,yzs1]
                      rfl
                     refine three_ (i := 8) (j := 12) (k := 17) (Ni := some 37) (Nj := some 41) (Nk := some 5) yz22 yz23 yz24 rfl rfl rfl rfl rfl rfl (three_of HT_.out (by kernel_rfl)) (by decide) (by decide) (by decide) (fun K hK => ?_) (fun K hK => ?_) (fun K hK => ?_)
                     ·skip
                      refine value_ (w1 := ?_) (v := ?_) (by rfl) rfl ?_ ?_
                      rotate_left 2
                      ·go_simp
                       constructor
                       ·rfl
                       ·rfl
                      obtain ⟨wk,hW⟩ : ∃ W_,W_ = wj.alloc (.cells #[] 3) := ⟨_,rfl⟩
                      have hb_ : Below wj.heap.size wj wk := by rw [hW]; exact below_alloc (Below.refl _ _) _
                      have hR_ : Kd.R (Kd.int .i64) 3 wk w.heap.size (fun _ => True) (.slice (some ⟨wj.heap.size,0,none⟩) 0 0) [] := by rw [hW]; exact R_zero (below_size HB.out)
                      have hd_ := dol_new (n := 0) (c := 0) HVo.out
                      obtain ⟨v8,hv_⟩ : ∃ y_,y_ = Value.slice (some ⟨wj.heap.size,0,none⟩) 0 0 := ⟨_,rfl⟩
                      rw [← hv_] at hR_ ⊢
                      rw [← hv_] at hd_
                      have HD := Aside0.mk (hd_)
                      clear hd_
                      rw [← hW]
                      have HVl := Aside0.mk hR_
                      replace HVo := Aside0.mk (Kd.R_below HVo.out hb_)
                      replace HX2 := mB HX2 hb_
                      replace HB := mS HB hb_
                      clear hW hb_ hR_ hv_
                      refine hK.out _ _ ⟨(cL HX2 0 rfl),(cL HX2 1 rfl),(cL HX2 2 rfl),(cL HX2 3 rfl),(cL HX2 4 rfl)⟩ (fun hHeld => ?_)
                      clear hK K
                      refine norm_ (a' := ?_) ?_ ?_
                      rotate_left
                      ·show Act.put _ (some 37) _ = _
                       simp only [Act.put,yzI,yzs0,yzs1,i64_w,i32_w]
                       rfl
                      exact norm_ (by first | (simp only [putAll,Act.put,yzI,yzs0,yzs1]; done) | (simp only [putAll,Act.put,yzI,yzs0,yzs1]; rfl)) (hJ4_7_8 (v4,u7,v8) _ ⟨HVo.out,HVl.out,HD.out,HX2.out,HB.out⟩)
                     ·skip
                      refine value_ (w1 := ?_) (v := ?_) (by rfl) rfl ?_ ?_
                      rotate_left 2
                      ·go_simp
                       constructor
                       ·rfl
                       ·rfl
                      obtain ⟨wk,hW⟩ : ∃ W_,W_ = wj.alloc (.cells #[] 23) := ⟨_,rfl⟩
                      have hb_ : Below wj.heap.size wj wk := by rw [hW]; exact below_alloc (Below.refl _ _) _
                      have hR_ : Kd.R (Kd.int .u64) 23 wk w.heap.size (fun _ => True) (.slice (some ⟨wj.heap.size,0,none⟩) 0 0) [] := by rw [hW]; exact R_zero (below_size HB.out)
                      obtain ⟨v12,hv_⟩ : ∃ y_,y_ = Value.slice (some ⟨wj.heap.size,0,none⟩) 0 0 := ⟨_,rfl⟩
                      rw [← hv_] at hR_ ⊢
                      rw [← hW]
                      have HVf := Aside0.mk hR_
                      replace HVo := Aside0.mk (Kd.R_below HVo.out hb_)
                      replace HX2 := mB HX2 hb_
                      replace HB := mS HB hb_
                      clear hW hb_ hR_ hv_
                      refine hK.out _ _ ⟨(cL HX2 0 rfl),(cL HX2 1 rfl),(cL HX2 2 rfl),(cL HX2 3 rfl),(cL HX2 4 rfl)⟩ (fun hHeld => ?_)
                      clear hK K
                      refine norm_ (a' := ?_) ?_ ?_
                      rotate_left
                      ·show Act.put _ (some 41) _ = _
                       simp only [Act.put,yzI,yzs0,yzs1,i64_w,i32_w]
                       rfl
                      exact norm_ (by first | (simp only [putAll,Act.put,yzI,yzs0,yzs1]; done) | (simp only [putAll,Act.put,yzI,yzs0,yzs1]; rfl)) (hJ4_7_12 (v4,u7,v12) _ ⟨HVo.out,HVf.out,HX2.out,HB.out⟩)
                     ·skip
                      refine value_ (w1 := ?_) (v := ?_) (by rfl) rfl ?_ ?_
                      rotate_left 2
                      ·go_simp
                       constructor
                       ·rfl
                       ·rfl
                      obtain ⟨wk,hW⟩ : ∃ W_,W_ = wj.alloc (.cells #[.int .i64 0,.int .i64 0,.slice none 0 0,.slice none 0 0,.slice none 0 0] 32) := ⟨_,rfl⟩
                      obtain ⟨g5,hh⟩ : ∃ g_,g_ = wj.heap.size := ⟨_,rfl⟩
                      rw [← hW,← hh]
                      have hb_ : Below wj.heap.size wj wk := by rw [hW]; exact below_alloc (Below.refl _ _) _
                      have HX5 : Aside0 (wk.heap[g5]? = some (.cells #[.int .i64 0,.int .i64 0,.slice none 0 0,.slice none 0 0,.slice none 0 0] 32 (0,0))) := ⟨by rw [hW,hh]; exact blk_new _ _⟩
                      have HG5 : Aside0 (w.heap.size ≤ g5) := ⟨by rw [hh]; exact below_size HB.out⟩
                      have N25 : Aside0 (g2 ≠ g5) := ⟨by rw [hh]; exact Nat.ne_of_lt (blk_lt HX2.out)⟩
                      replace HVo := Aside0.mk (Kd.R_below HVo.out hb_)
                      replace HX2 := mB HX2 hb_
                      replace HB := mS HB hb_
                      clear hW hh hb_
                      refine hK.out _ _ ⟨(cL HX2 0 rfl),(cL HX2 1 rfl),(cL HX2 2 rfl),(cL HX2 3 rfl),(cL HX2 4 rfl)⟩ (fun hHeld => ?_)
                      clear hK K
                      refine norm_ (a' := ?_) ?_ ?_
                      rotate_left
                      ·show Act.put _ (some 5) _ = _
                       simp only [Act.put,yzI,yzs0,yzs1,i64_w,i32_w]
                       rfl
                      exact norm_ (by first | (simp only [putAll,Act.put,yzI,yzs0,yzs1]; done) | (simp only [putAll,Act.put,yzI,yzs0,yzs1]; rfl)) (hJ4_7_17 (v4,u7,g5) _ ⟨HVo.out,HX5.out,HG5.out,N25.out,HX2.out,HB.out⟩)
                   ·skip
                    rintro ⟨v8,v12,g5⟩ wj ⟨h_0,h_1,h_2,h_3,h_4,h_5,h_6⟩
                    try dsimp only at h_0 h_1 h_2 h_3 h_4 h_5 h_6
                    clear HX2 HB
                    have HVl := Aside0.mk h_0
                    have HVf := Aside0.mk h_1
                    have HX5 := Aside0.mk h_2
                    have HG5 := Aside0.mk h_3
                    have N25 := Aside0.mk h_4
                    have HX2 := Aside0.mk h_5
                    have HB := Aside0.mk h_6
                    clear h_0 h_1 h_2 h_3 h_4 h_5 h_6
                    have hHeld : (fun w' => w'.cell? ⟨g2,0,none⟩ = some (.int .i64 g) ∧ w'.cell? ⟨g2,1,none⟩ = some (.int .i64 s) ∧ w'.cell? ⟨g2,2,none⟩ = some (.slice Ao o.length co) ∧ w'.cell? ⟨g2,3,none⟩ = some (.slice Al l.length cl) ∧ w'.cell? ⟨g2,4,none⟩ = some (.slice Af f.length cf)) wj := ⟨(cL HX2 0 rfl),(cL HX2 1 rfl),(cL HX2 2 rfl),(cL HX2 3 rfl),(cL HX2 4 rfl)⟩
                    refine norm_ (a' := ?_) ?_ ?_
                    rotate_left
                    ·simp only [putAll,Act.put,yzI,yzs0,yzs1]
                     rfl
                    refine one_ (i := 4) (N := some 33) yz21 rfl rfl (one_of HT_.out (by kernel_rfl)) (by decide) (fun K hK => ?_)
                    refine value_ (w1 := ?_) (v := ?_) (by rfl) rfl ?_ ?_
                    rotate_left 2
                    ·go_simp
                     constructor
                     ·rfl
                     ·rfl
                    obtain ⟨wk,hW⟩ : ∃ W_,W_ = wj.alloc (.cells #[] 3) := ⟨_,rfl⟩
                    have hb_ : Below wj.heap.size wj wk := by rw [hW]; exact below_alloc (Below.refl _ _) _
                    have hR_ : Kd.R (Kd.int .i64) 3 wk w.heap.size (fun _ => True) (.slice (some ⟨wj.heap.size,0,none⟩) 0 0) [] := by rw [hW]; exact R_zero (below_size HB.out)
                    have hd_ := dol_new (n := 0) (c := 0) HVl.out
                    obtain ⟨v4,hv_⟩ : ∃ y_,y_ = Value.slice (some ⟨wj.heap.size,0,none⟩) 0 0 := ⟨_,rfl⟩
                    rw [← hv_] at hR_ ⊢
                    rw [← hv_] at hd_
                    have HD := Aside0.mk (DOL.symm hd_)
                    clear hd_
                    rw [← hW]
                    have HVo := Aside0.mk hR_
                    replace HVl := Aside0.mk (Kd.R_below HVl.out hb_)
                    replace HVf := Aside0.mk (Kd.R_below HVf.out hb_)
                    replace HX2 := mB HX2 hb_
                    replace HX5 := mB HX5 hb_
                    replace HB := mS HB hb_
                    clear hW hb_ hR_ hv_
                    refine hK.out _ _ ⟨(cL HX2 0 rfl),(cL HX2 1 rfl),(cL HX2 2 rfl),(cL HX2 3 rfl),(cL HX2 4 rfl)⟩ (fun hHeld => ?_)
                    clear hK K
                    refine norm_ (a' := ?_) ?_ ?_
                    rotate_left
                    ·show Act.put _ (some 33) _ = _
                     simp only [Act.put,yzI,yzs0,yzs1,i64_w,i32_w]
                     rfl
                    exact norm_ (by first | (simp only [putAll,Act.put,yzI,yzs0,yzs1]; done) | (simp only [putAll,Act.put,yzI,yzs0,yzs1]; rfl)) (hJ4_8_12_17 (v4,v8,v12,g5) _ ⟨HVo.out,HVl.out,HVf.out,HD.out,HX5.out,HG5.out,N25.out,HX2.out,HB.out⟩)
                  ·skip
                   rintro ⟨v4,v12,g5⟩ wj ⟨h_0,h_1,h_2,h_3,h_4,h_5,h_6⟩
                   try dsimp only at h_0 h_1 h_2 h_3 h_4 h_5 h_6
                   clear HX2 HB
                   have HVo := Aside0.mk h_0
                   have HVf := Aside0.mk h_1
                   have HX5 := Aside0.mk h_2
                   have HG5 := Aside0.mk h_3
                   have N25 := Aside0.mk h_4
                   have HX2 := Aside0.mk h_5
                   have HB := Aside0.mk h_6
                   clear h_0 h_1 h_2 h_3 h_4 h_5 h_6
                   have hHeld : (fun w' => w'.cell? ⟨g2,0,none⟩ = some (.int .i64 g) ∧ w'.cell? ⟨g2,1,none⟩ = some (.int .i64 s) ∧ w'.cell? ⟨g2,2,none⟩ = some (.slice Ao o.length co) ∧ w'.cell? ⟨g2,3,none⟩ = some (.slice Al l.length cl) ∧ w'.cell? ⟨g2,4,none⟩ = some (.slice Af f.length cf)) wj := ⟨(cL HX2 0 rfl),(cL HX2 1 rfl),(cL HX2 2 rfl),(cL HX2 3 rfl),(cL HX2 4 rfl)⟩
                   refine norm_ (a' := ?_) ?_ ?_
                   rotate_left
                   ·simp only [putAll,Act.put,yzI,yzs0,yzs1]
                    rfl
                   refine two_ (i := 7) (j := 8) (Ni := some 36) (Nj := some 37) yz20 yz21 rfl rfl rfl rfl (two_of HT_.out (by kernel_rfl)) (by decide) (by decide) (fun K hK => ?_) (fun K hK => ?_)
                   ·skip
                    refine Kd.R_append_rows_step (Kd.int .i64) (w0 := w) w.heap.size (by rfl) (.tmp 33) (.tmp 35) 25 3 (.int .i64 0) 8 rfl Try.underlying25 info3 rfl (by decide) (by omega) v4 [] o _ _ _ (fun _ => True) (fun _ => False) rfl rfl ?aO ?aR (fun _ _ h => h) (fun _ h => h.elim) ?aF ?aB ?aS ?aL ?_
                    (case aR => exact (TC_oC (TC_below HT.out HB.out)))
                    (case aB => exact HB.out)
                    (case aF => exact (fun _ _ => trivial))
                    (case aO => exact HVo.out)
                    (case aS => exact below_size HB.out)
                    (case aL => have := HLN.out; rw [List.length_nil]; omega)
                    intro u7 wk ho_ hb_ hg_ hat_
                    rw [List.nil_append] at ho_
                    replace HVf := Aside0.mk (R_other HVf.out rfl hg_ (type_ne HVo.out HVf.out (by decide)))
                    replace HX2 := Aside0.mk (blk_grown HX2.out hg_ (Kd.R_ne HVo.out HX2.out (by decide)))
                    replace HX5 := Aside0.mk (blk_grown HX5.out hg_ (Kd.R_ne HVo.out HX5.out (by decide)))
                    replace HVo := Aside0.mk (ho_)
                    replace HB := Aside0.mk (hb_)
                    clear ho_ hb_ hg_ hat_
                    refine hK.out _ _ ⟨(cL HX2 0 rfl),(cL HX2 1 rfl),(cL HX2 2 rfl),(cL HX2 3 rfl),(cL HX2 4 rfl)⟩ (fun hHeld => ?_)
                    clear hK K
                    refine norm_ (a' := ?_) ?_ ?_
                    rotate_left
                    ·show Act.put _ (some 36) _ = _
                     simp only [Act.put,yzI,yzs0,yzs1,i64_w,i32_w]
                     rfl
                    exact norm_ (by first | (simp only [putAll,Act.put,yzI,yzs0,yzs1]; done) | (simp only [putAll,Act.put,yzI,yzs0,yzs1]; rfl)) (hJ4_7_12_17 (v4,u7,v12,g5) _ ⟨HVo.out,HVf.out,HX5.out,HG5.out,N25.out,HX2.out,HB.out⟩)
                   ·skip
                    refine value_ (w1 := ?_) (v := ?_) (by rfl) rfl ?_ ?_
                    rotate_left 2
                    ·go_simp
                     constructor
                     ·rfl
                     ·rfl
                    obtain ⟨wk,hW⟩ : ∃ W_,W_ = wj.alloc (.cells #[] 3) := ⟨_,rfl⟩
                    have hb_ : Below wj.heap.size wj wk := by rw [hW]; exact below_alloc (Below.refl _ _) _
                    have hR_ : Kd.R (Kd.int .i64) 3 wk w.heap.size (fun _ => True) (.slice (some ⟨wj.heap.size,0,none⟩) 0 0) [] := by rw [hW]; exact R_zero (below_size HB.out)
                    have hd_ := dol_new (n := 0) (c := 0) HVo.out
                    obtain ⟨v8,hv_⟩ : ∃ y_,y_ = Value.slice (some ⟨wj.heap.size,0,none⟩) 0 0 := ⟨_,rfl⟩
                    rw [← hv_] at hR_ ⊢
                    rw [← hv_] at hd_
                    have HD := Aside0.mk (hd_)
                    clear hd_
                    rw [← hW]
                    have HVl := Aside0.mk hR_
                    replace HVo := Aside0.mk (Kd.R_below HVo.out hb_)
                    replace HVf := Aside0.mk (Kd.R_below HVf.out hb_)
                    replace HX2 := mB HX2 hb_
                    replace HX5 := mB HX5 hb_
                    replace HB := mS HB hb_
                    clear hW hb_ hR_ hv_
                    refine hK.out _ _ ⟨(cL HX2 0 rfl),(cL HX2 1 rfl),(cL HX2 2 rfl),(cL HX2 3 rfl),(cL HX2 4 rfl)⟩ (fun hHeld => ?_)
                    clear hK K
                    refine norm_ (a' := ?_) ?_ ?_
                    rotate_left
                    ·show Act.put _ (some 37) _ = _
                     simp only [Act.put,yzI,yzs0,yzs1,i64_w,i32_w]
                     rfl
                    exact norm_ (by first | (simp only [putAll,Act.put,yzI,yzs0,yzs1]; done) | (simp only [putAll,Act.put,yzI,yzs0,yzs1]; rfl)) (hJ4_8_12_17 (v4,v8,v12,g5) _ ⟨HVo.out,HVl.out,HVf.out,HD.out,HX5.out,HG5.out,N25.out,HX2.out,HB.out⟩)
                 ·skip
                  rintro ⟨v4,v8,g5⟩ wj ⟨h_0,h_1,h_2,h_3,h_4,h_5,h_6,h_7⟩
                  try dsimp only at h_0 h_1 h_2 h_3 h_4 h_5 h_6 h_7
                  clear HX2 HB
                  have HVo := Aside0.mk h_0
                  have HVl := Aside0.mk h_1
                  have HD := Aside0.mk h_2
                  have HX5 := Aside0.mk h_3
                  have HG5 := Aside0.mk h_4
                  have N25 := Aside0.mk h_5
                  have HX2 := Aside0.mk h_6
                  have HB := Aside0.mk h_7
                  clear h_0 h_1 h_2 h_3 h_4 h_5 h_6 h_7
                  have hHeld : (fun w' => w'.cell? ⟨g2,0,none⟩ = some (.int .i64 g) ∧ w'.cell? ⟨g2,1,none⟩ = some (.int .i64 s) ∧ w'.cell? ⟨g2,2,none⟩ = some (.slice Ao o.length co) ∧ w'.cell? ⟨g2,3,none⟩ = some (.slice Al l.length cl) ∧ w'.cell? ⟨g2,4,none⟩ = some (.slice Af f.length cf)) wj := ⟨(cL HX2 0 rfl),(cL HX2 1 rfl),(cL HX2 2 rfl),(cL HX2 3 rfl),(cL HX2 4 rfl)⟩
                  refine norm_ (a' := ?_) ?_ ?_
                  rotate_left
                  ·simp only [putAll,Act.put,yzI,yzs0,yzs1]
                   rfl
                  refine two_ (i := 7) (j := 12) (Ni := some 36) (Nj := some 41) yz19 yz21 rfl rfl rfl rfl (two_of HT_.out (by kernel_rfl)) (by decide) (by decide) (fun K hK => ?_) (fun K hK => ?_)
                  ·skip
                   refine Kd.R_append_rows_step (Kd.int .i64) (w0 := w) w.heap.size (by rfl) (.tmp 33) (.tmp 35) 25 3 (.int .i64 0) 8 rfl Try.underlying25 info3 rfl (by decide) (by omega) v4 [] o _ _ _ (fun _ => True) (fun _ => False) rfl rfl ?aO ?aR (fun _ _ h => h) (fun _ h => h.elim) ?aF ?aB ?aS ?aL ?_
                   (case aR => exact (TC_oC (TC_below HT.out HB.out)))
                   (case aB => exact HB.out)
                   (case aF => exact (fun _ _ => trivial))
                   (case aO => exact HVo.out)
                   (case aS => exact below_size HB.out)
                   (case aL => have := HLN.out; rw [List.length_nil]; omega)
                   intro u7 wk ho_ hb_ hg_ hat_
                   rw [List.nil_append] at ho_
                   have hd_ := dol_on HVl.out HD.out hat_
                   replace HVl := Aside0.mk (dol_row HVl.out HD.out hg_)
                   replace HD := Aside0.mk (hd_)
                   clear hd_
                   replace HX2 := Aside0.mk (blk_grown HX2.out hg_ (Kd.R_ne HVo.out HX2.out (by decide)))
                   replace HX5 := Aside0.mk (blk_grown HX5.out hg_ (Kd.R_ne HVo.out HX5.out (by decide)))
                   replace HVo := Aside0.mk (ho_)
                   replace HB := Aside0.mk (hb_)
                   clear ho_ hb_ hg_ hat_
                   refine hK.out _ _ ⟨(cL HX2 0 rfl),(cL HX2 1 rfl),(cL HX2 2 rfl),(cL HX2 3 rfl),(cL HX2 4 rfl)⟩ (fun hHeld => ?_)
                   clear hK K
                   refine norm_ (a' := ?_) ?_ ?_
                   rotate_left
                   ·show Act.put _ (some 36) _ = _
                    simp only [Act.put,yzI,yzs0,yzs1,i64_w,i32_w]
                    rfl
                   exact norm_ (by first | (simp only [putAll,Act.put,yzI,yzs0,yzs1]; done) | (simp only [putAll,Act.put,yzI,yzs0,yzs1]; rfl)) (hJ4_7_8_17 (v4,u7,v8,g5) _ ⟨HVo.out,HVl.out,HD.out,HX5.out,HG5.out,N25.out,HX2.out,HB.out⟩)
                  ·skip
                   refine value_ (w1 := ?_) (v := ?_) (by rfl) rfl ?_ ?_
                   rotate_left 2
                   ·go_simp
                    constructor
                    ·rfl
                    ·rfl
                   obtain ⟨wk,hW⟩ : ∃ W_,W_ = wj.alloc (.cells #[] 23) := ⟨_,rfl⟩
                   have hb_ : Below wj.heap.size wj wk := by rw [hW]; exact below_alloc (Below.refl _ _) _
                   have hR_ : Kd.R (Kd.int .u64) 23 wk w.heap.size (fun _ => True) (.slice (some ⟨wj.heap.size,0,none⟩) 0 0) [] := by rw [hW]; exact R_zero (below_size HB.out)
                   obtain ⟨v12,hv_⟩ : ∃ y_,y_ = Value.slice (some ⟨wj.heap.size,0,none⟩) 0 0 := ⟨_,rfl⟩
                   rw [← hv_] at hR_ ⊢
                   rw [← hW]
                   have HVf := Aside0.mk hR_
                   replace HVo := Aside0.mk (Kd.R_below HVo.out hb_)
                   replace HVl := Aside0.mk (Kd.R_below HVl.out hb_)
                   replace HX2 := mB HX2 hb_
                   replace HX5 := mB HX5 hb_
                   replace HB := mS HB hb_
                   clear hW hb_ hR_ hv_
                   refine hK.out _ _ ⟨(cL HX2 0 rfl),(cL HX2 1 rfl),(cL HX2 2 rfl),(cL HX2 3 rfl),(cL HX2 4 rfl)⟩ (fun hHeld => ?_)
                   clear hK K
                   refine norm_ (a' := ?_) ?_ ?_
                   rotate_left
                   ·show Act.put _ (some 41) _ = _
                    simp only [Act.put,yzI,yzs0,yzs1,i64_w,i32_w]
                    rfl
                   exact norm_ (by first | (simp only [putAll,Act.put,yzI,yzs0,yzs1]; done) | (simp only [putAll,Act.put,yzI,yzs0,yzs1]; rfl)) (hJ4_8_12_17 (v4,v8,v12,g5) _ ⟨HVo.out,HVl.out,HVf.out,HD.out,HX5.out,HG5.out,N25.out,HX2.out,HB.out⟩)
                ·skip
                 rintro ⟨v4,v8,v12⟩ wj ⟨h_0,h_1,h_2,h_3,h_4,h_5⟩
                 try dsimp only at h_0 h_1 h_2 h_3 h_4 h_5
                 clear HX2 HB
                 have HVo := Aside0.mk h_0
                 have HVl := Aside0.mk h_1
                 have HVf := Aside0.mk h_2
                 have HD := Aside0.mk h_3
                 have HX2 := Aside0.mk h_4
                 have HB := Aside0.mk h_5
                 clear h_0 h_1 h_2 h_3 h_4 h_5
                 have hHeld : (fun w' => w'.cell? ⟨g2,0,none⟩ = some (.int .i64 g) ∧ w'.cell? ⟨g2,1,none⟩ = some (.int .i64 s) ∧ w'.cell? ⟨g2,2,none⟩ = some (.slice Ao o.length co) ∧ w'.cell? ⟨g2,3,none⟩ = some (.slice Al l.length cl) ∧ w'.cell? ⟨g2,4,none⟩ = some (.slice Af f.length cf)) wj := ⟨(cL HX2 0 rfl),(cL HX2 1 rfl),(cL HX2 2 rfl),(cL HX2 3 rfl),(cL HX2 4 rfl)⟩
                 refine norm_ (a' := ?_) ?_ ?_
                 rotate_left
                 ·simp only [putAll,Act.put,yzI,yzs0,yzs1]
                  rfl
                 refine two_ (i := 7) (j := 17) (Ni := some 36) (Nj := some 5) yz18 yz21 rfl rfl rfl rfl (two_of HT_.out (by kernel_rfl)) (by decide) (by decide) (fun K hK => ?_) (fun K hK => ?_)
                 ·skip
                  refine Kd.R_append_rows_step (Kd.int .i64) (w0 := w) w.heap.size (by rfl) (.tmp 33) (.tmp 35) 25 3 (.int .i64 0) 8 rfl Try.underlying25 info3 rfl (by decide) (by omega) v4 [] o _ _ _ (fun _ => True) (fun _ => False) rfl rfl ?aO ?aR (fun _ _ h => h) (fun _ h => h.elim) ?aF ?aB ?aS ?aL ?_
                  (case aR => exact (TC_oC (TC_below HT.out HB.out)))
                  (case aB => exact HB.out)
                  (case aF => exact (fun _ _ => trivial))
                  (case aO => exact HVo.out)
                  (case aS => exact below_size HB.out)
                  (case aL => have := HLN.out; rw [List.length_nil]; omega)
                  intro u7 wk ho_ hb_ hg_ hat_
                  rw [List.nil_append] at ho_
                  have hd_ := dol_on HVl.out HD.out hat_
                  replace HVl := Aside0.mk (dol_row HVl.out HD.out hg_)
                  replace HD := Aside0.mk (hd_)
                  clear hd_
                  replace HVf := Aside0.mk (R_other HVf.out rfl hg_ (type_ne HVo.out HVf.out (by decide)))
                  replace HX2 := Aside0.mk (blk_grown HX2.out hg_ (Kd.R_ne HVo.out HX2.out (by decide)))
                  replace HVo := Aside0.mk (ho_)
                  replace HB := Aside0.mk (hb_)
                  clear ho_ hb_ hg_ hat_
                  refine hK.out _ _ ⟨(cL HX2 0 rfl),(cL HX2 1 rfl),(cL HX2 2 rfl),(cL HX2 3 rfl),(cL HX2 4 rfl)⟩ (fun hHeld => ?_)
                  clear hK K
                  refine norm_ (a' := ?_) ?_ ?_
                  rotate_left
                  ·show Act.put _ (some 36) _ = _
                   simp only [Act.put,yzI,yzs0,yzs1,i64_w,i32_w]
                   rfl
                  exact norm_ (by first | (simp only [putAll,Act.put,yzI,yzs0,yzs1]; done) | (simp only [putAll,Act.put,yzI,yzs0,yzs1]; rfl)) (hJ4_7_8_12 (v4,u7,v8,v12) _ ⟨HVo.out,HVl.out,HVf.out,HD.out,HX2.out,HB.out⟩)
                 ·skip
                  refine value_ (w1 := ?_) (v := ?_) (by rfl) rfl ?_ ?_
                  rotate_left 2
                  ·go_simp
                   constructor
                   ·rfl
                   ·rfl
                  obtain ⟨wk,hW⟩ : ∃ W_,W_ = wj.alloc (.cells #[.int .i64 0,.int .i64 0,.slice none 0 0,.slice none 0 0,.slice none 0 0] 32) := ⟨_,rfl⟩
                  obtain ⟨g5,hh⟩ : ∃ g_,g_ = wj.heap.size := ⟨_,rfl⟩
                  rw [← hW,← hh]
                  have hb_ : Below wj.heap.size wj wk := by rw [hW]; exact below_alloc (Below.refl _ _) _
                  have HX5 : Aside0 (wk.heap[g5]? = some (.cells #[.int .i64 0,.int .i64 0,.slice none 0 0,.slice none 0 0,.slice none 0 0] 32 (0,0))) := ⟨by rw [hW,hh]; exact blk_new _ _⟩
                  have HG5 : Aside0 (w.heap.size ≤ g5) := ⟨by rw [hh]; exact below_size HB.out⟩
                  have N25 : Aside0 (g2 ≠ g5) := ⟨by rw [hh]; exact Nat.ne_of_lt (blk_lt HX2.out)⟩
                  replace HVo := Aside0.mk (Kd.R_below HVo.out hb_)
                  replace HVl := Aside0.mk (Kd.R_below HVl.out hb_)
                  replace HVf := Aside0.mk (Kd.R_below HVf.out hb_)
                  replace HX2 := mB HX2 hb_
                  replace HB := mS HB hb_
                  clear hW hh hb_
                  refine hK.out _ _ ⟨(cL HX2 0 rfl),(cL HX2 1 rfl),(cL HX2 2 rfl),(cL HX2 3 rfl),(cL HX2 4 rfl)⟩ (fun hHeld => ?_)
                  clear hK K
                  refine norm_ (a' := ?_) ?_ ?_
                  rotate_left
                  ·show Act.put _ (some 5) _ = _
                   simp only [Act.put,yzI,yzs0,yzs1,i64_w,i32_w]
                   rfl
                  exact norm_ (by first | (simp only [putAll,Act.put,yzI,yzs0,yzs1]; done) | (simp only [putAll,Act.put,yzI,yzs0,yzs1]; rfl)) (hJ4_8_12_17 (v4,v8,v12,g5) _ ⟨HVo.out,HVl.out,HVf.out,HD.out,HX5.out,HG5.out,N25.out,HX2.out,HB.out⟩)
               ·skip
                rintro ⟨v4,u7,g5⟩ wj ⟨h_0,h_1,h_2,h_3,h_4,h_5⟩
                try dsimp only at h_0 h_1 h_2 h_3 h_4 h_5
                clear HX2 HB
                have HVo := Aside0.mk h_0
                have HX5 := Aside0.mk h_1
                have HG5 := Aside0.mk h_2
                have N25 := Aside0.mk h_3
                have HX2 := Aside0.mk h_4
                have HB := Aside0.mk h_5
                clear h_0 h_1 h_2 h_3 h_4 h_5
                have hHeld : (fun w' => w'.cell? ⟨g2,0,none⟩ = some (.int .i64 g) ∧ w'.cell? ⟨g2,1,none⟩ = some (.int .i64 s) ∧ w'.cell? ⟨g2,2,none⟩ = some (.slice Ao o.length co) ∧ w'.cell? ⟨g2,3,none⟩ = some (.slice Al l.length cl) ∧ w'.cell? ⟨g2,4,none⟩ = some (.slice Af f.length cf)) wj := ⟨(cL HX2 0 rfl),(cL HX2 1 rfl),(cL HX2 2 rfl),(cL HX2 3 rfl),(cL HX2 4 rfl)⟩
                refine norm_ (a' := ?_) ?_ ?_
                rotate_left
                ·simp only [putAll,Act.put,yzI,yzs0,yzs1]
                 rfl
                refine two_ (i := 8) (j := 12) (Ni := some 37) (Nj := some 41) yz19 yz20 rfl rfl rfl rfl (two_of HT_.out (by kernel_rfl)) (by decide) (by decide) (fun K hK => ?_) (fun K hK => ?_)
                ·skip
                 refine value_ (w1 := ?_) (v := ?_) (by rfl) rfl ?_ ?_
                 rotate_left 2
                 ·go_simp
                  constructor
                  ·rfl
                  ·rfl
                 obtain ⟨wk,hW⟩ : ∃ W_,W_ = wj.alloc (.cells #[] 3) := ⟨_,rfl⟩
                 have hb_ : Below wj.heap.size wj wk := by rw [hW]; exact below_alloc (Below.refl _ _) _
                 have hR_ : Kd.R (Kd.int .i64) 3 wk w.heap.size (fun _ => True) (.slice (some ⟨wj.heap.size,0,none⟩) 0 0) [] := by rw [hW]; exact R_zero (below_size HB.out)
                 have hd_ := dol_new (n := 0) (c := 0) HVo.out
                 obtain ⟨v8,hv_⟩ : ∃ y_,y_ = Value.slice (some ⟨wj.heap.size,0,none⟩) 0 0 := ⟨_,rfl⟩
                 rw [← hv_] at hR_ ⊢
                 rw [← hv_] at hd_
                 have HD := Aside0.mk (hd_)
                 clear hd_
                 rw [← hW]
                 have HVl := Aside0.mk hR_
                 replace HVo := Aside0.mk (Kd.R_below HVo.out hb_)
                 replace HX2 := mB HX2 hb_
                 replace HX5 := mB HX5 hb_
                 replace HB := mS HB hb_
                 clear hW hb_ hR_ hv_
                 refine hK.out _ _ ⟨(cL HX2 0 rfl),(cL HX2 1 rfl),(cL HX2 2 rfl),(cL HX2 3 rfl),(cL HX2 4 rfl)⟩ (fun hHeld => ?_)
                 clear hK K
                 refine norm_ (a' := ?_) ?_ ?_
                 rotate_left
                 ·show Act.put _ (some 37) _ = _
                  simp only [Act.put,yzI,yzs0,yzs1,i64_w,i32_w]
                  rfl
                 exact norm_ (by first | (simp only [putAll,Act.put,yzI,yzs0,yzs1]; done) | (simp only [putAll,Act.put,yzI,yzs0,yzs1]; rfl)) (hJ4_7_8_17 (v4,u7,v8,g5) _ ⟨HVo.out,HVl.out,HD.out,HX5.out,HG5.out,N25.out,HX2.out,HB.out⟩)
                ·skip
                 refine value_ (w1 := ?_) (v := ?_) (by rfl) rfl ?_ ?_
                 rotate_left 2
                 ·go_simp
                  constructor
                  ·rfl
                  ·rfl
                 obtain ⟨wk,hW⟩ : ∃ W_,W_ = wj.alloc (.cells #[] 23) := ⟨_,rfl⟩
                 have hb_ : Below wj.heap.size wj wk := by rw [hW]; exact below_alloc (Below.refl _ _) _
                 have hR_ : Kd.R (Kd.int .u64) 23 wk w.heap.size (fun _ => True) (.slice (some ⟨wj.heap.size,0,none⟩) 0 0) [] := by rw [hW]; exact R_zero (below_size HB.out)
                 obtain ⟨v12,hv_⟩ : ∃ y_,y_ = Value.slice (some ⟨wj.heap.size,0,none⟩) 0 0 := ⟨_,rfl⟩
                 rw [← hv_] at hR_ ⊢
                 rw [← hW]
                 have HVf := Aside0.mk hR_
                 replace HVo := Aside0.mk (Kd.R_below HVo.out hb_)
                 replace HX2 := mB HX2 hb_
                 replace HX5 := mB HX5 hb_
                 replace HB := mS HB hb_
                 clear hW hb_ hR_ hv_
                 refine hK.out _ _ ⟨(cL HX2 0 rfl),(cL HX2 1 rfl),(cL HX2 2 rfl),(cL HX2 3 rfl),(cL HX2 4 rfl)⟩ (fun hHeld => ?_)
                 clear hK K
                 refine norm_ (a' := ?_) ?_ ?_
                 rotate_left
                 ·show Act.put _ (some 41) _ = _
                  simp only [Act.put,yzI,yzs0,yzs1,i64_w,i32_w]
                  rfl
                 exact norm_ (by first | (simp only [putAll,Act.put,yzI,yzs0,yzs1]; done) | (simp only [putAll,Act.put,yzI,yzs0,yzs1]; rfl)) (hJ4_7_12_17 (v4,u7,v12,g5) _ ⟨HVo.out,HVf.out,HX5.out,HG5.out,N25.out,HX2.out,HB.out⟩)
              ·skip
               rintro ⟨v4,u7,v12⟩ wj ⟨h_0,h_1,h_2,h_3⟩
               try dsimp only at h_0 h_1 h_2 h_3
               clear HX2 HB
               have HVo := Aside0.mk h_0
               have HVf := Aside0.mk h_1
               have HX2 := Aside0.mk h_2
               have HB := Aside0.mk h_3
               clear h_0 h_1 h_2 h_3
               have hHeld : (fun w' => w'.cell? ⟨g2,0,none⟩ = some (.int .i64 g) ∧ w'.cell? ⟨g2,1,none⟩ = some (.int .i64 s) ∧ w'.cell? ⟨g2,2,none⟩ = some (.slice Ao o.length co) ∧ w'.cell? ⟨g2,3,none⟩ = some (.slice Al l.length cl) ∧ w'.cell? ⟨g2,4,none⟩ = some (.slice Af f.length cf)) wj := ⟨(cL HX2 0 rfl),(cL HX2 1 rfl),(cL HX2 2 rfl),(cL HX2 3 rfl),(cL HX2 4 rfl)⟩
               refine norm_ (a' := ?_) ?_ ?_
               rotate_left
               ·simp only [putAll,Act.put,yzI,yzs0,yzs1]
                rfl
               refine two_ (i := 8) (j := 17) (Ni := some 37) (Nj := some 5) yz18 yz20 rfl rfl rfl rfl (two_of HT_.out (by kernel_rfl)) (by decide) (by decide) (fun K hK => ?_) (fun K hK => ?_)
               ·skip
                refine value_ (w1 := ?_) (v := ?_) (by rfl) rfl ?_ ?_
                rotate_left 2
                ·go_simp
                 constructor
                 ·rfl
                 ·rfl
                obtain ⟨wk,hW⟩ : ∃ W_,W_ = wj.alloc (.cells #[] 3) := ⟨_,rfl⟩
                have hb_ : Below wj.heap.size wj wk := by rw [hW]; exact below_alloc (Below.refl _ _) _
                have hR_ : Kd.R (Kd.int .i64) 3 wk w.heap.size (fun _ => True) (.slice (some ⟨wj.heap.size,0,none⟩) 0 0) [] := by rw [hW]; exact R_zero (below_size HB.out)
                have hd_ := dol_new (n := 0) (c := 0) HVo.out
                obtain ⟨v8,hv_⟩ : ∃ y_,y_ = Value.slice (some ⟨wj.heap.size,0,none⟩) 0 0 := ⟨_,rfl⟩
                rw [← hv_] at hR_ ⊢
                rw [← hv_] at hd_
                have HD := Aside0.mk (hd_)
                clear hd_
                rw [← hW]
                have HVl := Aside0.mk hR_
                replace HVo := Aside0.mk (Kd.R_below HVo.out hb_)
                replace HVf := Aside0.mk (Kd.R_below HVf.out hb_)
                replace HX2 := mB HX2 hb_
                replace HB := mS HB hb_
                clear hW hb_ hR_ hv_
                refine hK.out _ _ ⟨(cL HX2 0 rfl),(cL HX2 1 rfl),(cL HX2 2 rfl),(cL HX2 3 rfl),(cL HX2 4 rfl)⟩ (fun hHeld => ?_)
                clear hK K
                refine norm_ (a' := ?_) ?_ ?_
                rotate_left
                ·show Act.put _ (some 37) _ = _
                 simp only [Act.put,yzI,yzs0,yzs1,i64_w,i32_w]
                 rfl
                exact norm_ (by first | (simp only [putAll,Act.put,yzI,yzs0,yzs1]; done) | (simp only [putAll,Act.put,yzI,yzs0,yzs1]; rfl)) (hJ4_7_8_12 (v4,u7,v8,v12) _ ⟨HVo.out,HVl.out,HVf.out,HD.out,HX2.out,HB.out⟩)
               ·skip
                refine value_ (w1 := ?_) (v := ?_) (by rfl) rfl ?_ ?_
                rotate_left 2
                ·go_simp
                 constructor
                 ·rfl
                 ·rfl
                obtain ⟨wk,hW⟩ : ∃ W_,W_ = wj.alloc (.cells #[.int .i64 0,.int .i64 0,.slice none 0 0,.slice none 0 0,.slice none 0 0] 32) := ⟨_,rfl⟩
                obtain ⟨g5,hh⟩ : ∃ g_,g_ = wj.heap.size := ⟨_,rfl⟩
                rw [← hW,← hh]
                have hb_ : Below wj.heap.size wj wk := by rw [hW]; exact below_alloc (Below.refl _ _) _
                have HX5 : Aside0 (wk.heap[g5]? = some (.cells #[.int .i64 0,.int .i64 0,.slice none 0 0,.slice none 0 0,.slice none 0 0] 32 (0,0))) := ⟨by rw [hW,hh]; exact blk_new _ _⟩
                have HG5 : Aside0 (w.heap.size ≤ g5) := ⟨by rw [hh]; exact below_size HB.out⟩
                have N25 : Aside0 (g2 ≠ g5) := ⟨by rw [hh]; exact Nat.ne_of_lt (blk_lt HX2.out)⟩
                replace HVo := Aside0.mk (Kd.R_below HVo.out hb_)
                replace HVf := Aside0.mk (Kd.R_below HVf.out hb_)
                replace HX2 := mB HX2 hb_
                replace HB := mS HB hb_
                clear hW hh hb_
                refine hK.out _ _ ⟨(cL HX2 0 rfl),(cL HX2 1 rfl),(cL HX2 2 rfl),(cL HX2 3 rfl),(cL HX2 4 rfl)⟩ (fun hHeld => ?_)
                clear hK K
                refine norm_ (a' := ?_) ?_ ?_
                rotate_left
                ·show Act.put _ (some 5) _ = _
                 simp only [Act.put,yzI,yzs0,yzs1,i64_w,i32_w]
                 rfl
                exact norm_ (by first | (simp only [putAll,Act.put,yzI,yzs0,yzs1]; done) | (simp only [putAll,Act.put,yzI,yzs0,yzs1]; rfl)) (hJ4_7_12_17 (v4,u7,v12,g5) _ ⟨HVo.out,HVf.out,HX5.out,HG5.out,N25.out,HX2.out,HB.out⟩)
             ·skip
              rintro ⟨v4,u7,v8⟩ wj ⟨h_0,h_1,h_2,h_3,h_4⟩
              try dsimp only at h_0 h_1 h_2 h_3 h_4
              clear HX2 HB
              have HVo := Aside0.mk h_0
              have HVl := Aside0.mk h_1
              have HD := Aside0.mk h_2
              have HX2 := Aside0.mk h_3
              have HB := Aside0.mk h_4
              clear h_0 h_1 h_2 h_3 h_4
              have hHeld : (fun w' => w'.cell? ⟨g2,0,none⟩ = some (.int .i64 g) ∧ w'.cell? ⟨g2,1,none⟩ = some (.int .i64 s) ∧ w'.cell? ⟨g2,2,none⟩ = some (.slice Ao o.length co) ∧ w'.cell? ⟨g2,3,none⟩ = some (.slice Al l.length cl) ∧ w'.cell? ⟨g2,4,none⟩ = some (.slice Af f.length cf)) wj := ⟨(cL HX2 0 rfl),(cL HX2 1 rfl),(cL HX2 2 rfl),(cL HX2 3 rfl),(cL HX2 4 rfl)⟩
              refine norm_ (a' := ?_) ?_ ?_
              rotate_left
              ·simp only [putAll,Act.put,yzI,yzs0,yzs1]
               rfl
              refine three_ (i := 11) (j := 12) (k := 17) (Ni := some 40) (Nj := some 41) (Nk := some 5) yz17 yz18 yz19 rfl rfl rfl rfl rfl rfl (three_of HT_.out (by kernel_rfl)) (by decide) (by decide) (by decide) (fun K hK => ?_) (fun K hK => ?_) (fun K hK => ?_)
              ·skip
               refine Kd.R_append_rows_step (Kd.int .i64) (w0 := w) w.heap.size (by rfl) (.tmp 37) (.tmp 39) 25 3 (.int .i64 0) 8 rfl Try.underlying25 info3 rfl (by decide) (by omega) v8 [] l _ _ _ (fun _ => True) (fun _ => False) rfl rfl ?aO ?aR (fun _ _ h => h) (fun _ h => h.elim) ?aF ?aB ?aS ?aL ?_
               (case aR => exact (TC_l (TC_below HT.out HB.out)))
               (case aB => exact HB.out)
               (case aF => exact (fun _ _ => trivial))
               (case aO => exact HVl.out)
               (case aS => exact below_size HB.out)
               (case aL => have := HLN.out; rw [List.length_nil]; omega)
               intro u11 wk ho_ hb_ hg_ hat_
               rw [List.nil_append] at ho_
               have hd_ := dol_on HVo.out (DOL.symm HD.out) hat_
               replace HVo := Aside0.mk (dol_row HVo.out (DOL.symm HD.out) hg_)
               replace HD := Aside0.mk (DOL.symm hd_)
               clear hd_
               replace HX2 := Aside0.mk (blk_grown HX2.out hg_ (Kd.R_ne HVl.out HX2.out (by decide)))
               replace HVl := Aside0.mk (ho_)
               replace HB := Aside0.mk (hb_)
               clear ho_ hb_ hg_ hat_
               refine hK.out _ _ ⟨(cL HX2 0 rfl),(cL HX2 1 rfl),(cL HX2 2 rfl),(cL HX2 3 rfl),(cL HX2 4 rfl)⟩ (fun hHeld => ?_)
               clear hK K
               refine norm_ (a' := ?_) ?_ ?_
               rotate_left
               ·show Act.put _ (some 40) _ = _
                simp only [Act.put,yzI,yzs0,yzs1,i64_w,i32_w]
                rfl
               exact norm_ (by first | (simp only [putAll,Act.put,yzI,yzs0,yzs1]; done) | (simp only [putAll,Act.put,yzI,yzs0,yzs1]; rfl)) (hJ4_7_8_11 (v4,u7,v8,u11) _ ⟨HVo.out,HVl.out,HD.out,HX2.out,HB.out⟩)
              ·skip
               refine value_ (w1 := ?_) (v := ?_) (by rfl) rfl ?_ ?_
               rotate_left 2
               ·go_simp
                constructor
                ·rfl
                ·rfl
               obtain ⟨wk,hW⟩ : ∃ W_,W_ = wj.alloc (.cells #[] 23) := ⟨_,rfl⟩
               have hb_ : Below wj.heap.size wj wk := by rw [hW]; exact below_alloc (Below.refl _ _) _
               have hR_ : Kd.R (Kd.int .u64) 23 wk w.heap.size (fun _ => True) (.slice (some ⟨wj.heap.size,0,none⟩) 0 0) [] := by rw [hW]; exact R_zero (below_size HB.out)
               obtain ⟨v12,hv_⟩ : ∃ y_,y_ = Value.slice (some ⟨wj.heap.size,0,none⟩) 0 0 := ⟨_,rfl⟩
               rw [← hv_] at hR_ ⊢
               rw [← hW]
               have HVf := Aside0.mk hR_
               replace HVo := Aside0.mk (Kd.R_below HVo.out hb_)
               replace HVl := Aside0.mk (Kd.R_below HVl.out hb_)
               replace HX2 := mB HX2 hb_
               replace HB := mS HB hb_
               clear hW hb_ hR_ hv_
               refine hK.out _ _ ⟨(cL HX2 0 rfl),(cL HX2 1 rfl),(cL HX2 2 rfl),(cL HX2 3 rfl),(cL HX2 4 rfl)⟩ (fun hHeld => ?_)
               clear hK K
               refine norm_ (a' := ?_) ?_ ?_
               rotate_left
               ·show Act.put _ (some 41) _ = _
                simp only [Act.put,yzI,yzs0,yzs1,i64_w,i32_w]
                rfl
               exact norm_ (by first | (simp only [putAll,Act.put,yzI,yzs0,yzs1]; done) | (simp only [putAll,Act.put,yzI,yzs0,yzs1]; rfl)) (hJ4_7_8_12 (v4,u7,v8,v12) _ ⟨HVo.out,HVl.out,HVf.out,HD.out,HX2.out,HB.out⟩)
              ·skip
               refine value_ (w1 := ?_) (v := ?_) (by rfl) rfl ?_ ?_
               rotate_left 2
               ·go_simp
                constructor
                ·rfl
                ·rfl
               obtain ⟨wk,hW⟩ : ∃ W_,W_ = wj.alloc (.cells #[.int .i64 0,.int .i64 0,.slice none 0 0,.slice none 0 0,.slice none 0 0] 32) := ⟨_,rfl⟩
               obtain ⟨g5,hh⟩ : ∃ g_,g_ = wj.heap.size := ⟨_,rfl⟩
               rw [← hW,← hh]
               have hb_ : Below wj.heap.size wj wk := by rw [hW]; exact below_alloc (Below.refl _ _) _
               have HX5 : Aside0 (wk.heap[g5]? = some (.cells #[.int .i64 0,.int .i64 0,.slice none 0 0,.slice none 0 0,.slice none 0 0] 32 (0,0))) := ⟨by rw [hW,hh]; exact blk_new _ _⟩
               have HG5 : Aside0 (w.heap.size ≤ g5) := ⟨by rw [hh]; exact below_size HB.out⟩
               have N25 : Aside0 (g2 ≠ g5) := ⟨by rw [hh]; exact Nat.ne_of_lt (blk_lt HX2.out)⟩
               replace HVo := Aside0.mk (Kd.R_below HVo.out hb_)
               replace HVl := Aside0.mk (Kd.R_below HVl.out hb_)
               replace HX2 := mB HX2 hb_
               replace HB := mS HB hb_
               clear hW hh hb_
               refine hK.out _ _ ⟨(cL HX2 0 rfl),(cL HX2 1 rfl),(cL HX2 2 rfl),(cL HX2 3 rfl),(cL HX2 4 rfl)⟩ (fun hHeld => ?_)
               clear hK K
               refine norm_ (a' := ?_) ?_ ?_
               rotate_left
               ·show Act.put _ (some 5) _ = _
                simp only [Act.put,yzI,yzs0,yzs1,i64_w,i32_w]
                rfl
               exact norm_ (by first | (simp only [putAll,Act.put,yzI,yzs0,yzs1]; done) | (simp only [putAll,Act.put,yzI,yzs0,yzs1]; rfl)) (hJ4_7_8_17 (v4,u7,v8,g5) _ ⟨HVo.out,HVl.out,HD.out,HX5.out,HG5.out,N25.out,HX2.out,HB.out⟩)
            ·skip
             rintro ⟨v4,v8,v12,g5⟩ wj ⟨h_0,h_1,h_2,h_3,h_4,h_5,h_6,h_7,h_8⟩
             try dsimp only at h_0 h_1 h_2 h_3 h_4 h_5 h_6 h_7 h_8
             clear HX2 HB
             have HVo := Aside0.mk h_0
             have HVl := Aside0.mk h_1
             have HVf := Aside0.mk h_2
             have HD := Aside0.mk h_3
             have HX5 := Aside0.mk h_4
             have HG5 := Aside0.mk h_5
             have N25 := Aside0.mk h_6
             have HX2 := Aside0.mk h_7
             have HB := Aside0.mk h_8
             clear h_0 h_1 h_2 h_3 h_4 h_5 h_6 h_7 h_8
             have hHeld : (fun w' => w'.cell? ⟨g2,0,none⟩ = some (.int .i64 g) ∧ w'.cell? ⟨g2,1,none⟩ = some (.int .i64 s) ∧ w'.cell? ⟨g2,2,none⟩ = some (.slice Ao o.length co) ∧ w'.cell? ⟨g2,3,none⟩ = some (.slice Al l.length cl) ∧ w'.cell? ⟨g2,4,none⟩ = some (.slice Af f.length cf)) wj := ⟨(cL HX2 0 rfl),(cL HX2 1 rfl),(cL HX2 2 rfl),(cL HX2 3 rfl),(cL HX2 4 rfl)⟩
             refine norm_ (a' := ?_) ?_ ?_
             rotate_left
             ·simp only [putAll,Act.put,yzI,yzs0,yzs1]
              rfl
             refine one_ (i := 7) (N := some 36) yz16 rfl rfl (one_of HT_.out (by kernel_rfl)) (by decide) (fun K hK => ?_)
             refine Kd.R_append_rows_step (Kd.int .i64) (w0 := w) w.heap.size (by rfl) (.tmp 33) (.tmp 35) 25 3 (.int .i64 0) 8 rfl Try.underlying25 info3 rfl (by decide) (by omega) v4 [] o _ _ _ (fun _ => True) (fun _ => False) rfl rfl ?aO ?aR (fun _ _ h => h) (fun _ h => h.elim) ?aF ?aB ?aS ?aL ?_
             (case aR => exact (TC_oC (TC_below HT.out HB.out)))
             (case aB => exact HB.out)
             (case aF => exact (fun _ _ => trivial))
             (case aO => exact HVo.out)
             (case aS => exact below_size HB.out)
             (case aL => have := HLN.out; rw [List.length_nil]; omega)
             intro u7 wk ho_ hb_ hg_ hat_
             rw [List.nil_append] at ho_
             have hd_ := dol_on HVl.out HD.out hat_
             replace HVl := Aside0.mk (dol_row HVl.out HD.out hg_)
             replace HD := Aside0.mk (hd_)
             clear hd_
             replace HVf := Aside0.mk (R_other HVf.out rfl hg_ (type_ne HVo.out HVf.out (by decide)))
             replace HX2 := Aside0.mk (blk_grown HX2.out hg_ (Kd.R_ne HVo.out HX2.out (by decide)))
             replace HX5 := Aside0.mk (blk_grown HX5.out hg_ (Kd.R_ne HVo.out HX5.out (by decide)))
             replace HVo := Aside0.mk (ho_)
             replace HB := Aside0.mk (hb_)
             clear ho_ hb_ hg_ hat_
             refine hK.out _ _ ⟨(cL HX2 0 rfl),(cL HX2 1 rfl),(cL HX2 2 rfl),(cL HX2 3 rfl),(cL HX2 4 rfl)⟩ (fun hHeld => ?_)
             clear hK K
             refine norm_ (a' := ?_) ?_ ?_
             rotate_left
             ·show Act.put _ (some 36) _ = _
              simp only [Act.put,yzI,yzs0,yzs1,i64_w,i32_w]
              rfl
             exact norm_ (by first | (simp only [putAll,Act.put,yzI,yzs0,yzs1]; done) | (simp only [putAll,Act.put,yzI,yzs0,yzs1]; rfl)) (hJ4_7_8_12_17 (v4,u7,v8,v12,g5) _ ⟨HVo.out,HVl.out,HVf.out,HD.out,HX5.out,HG5.out,N25.out,HX2.out,HB.out⟩)
           ·skip
            rintro ⟨v4,u7,v12,g5⟩ wj ⟨h_0,h_1,h_2,h_3,h_4,h_5,h_6⟩
            try dsimp only at h_0 h_1 h_2 h_3 h_4 h_5 h_6
            clear HX2 HB
            have HVo := Aside0.mk h_0
            have HVf := Aside0.mk h_1
            have HX5 := Aside0.mk h_2
            have HG5 := Aside0.mk h_3
            have N25 := Aside0.mk h_4
            have HX2 := Aside0.mk h_5
            have HB := Aside0.mk h_6
            clear h_0 h_1 h_2 h_3 h_4 h_5 h_6
            have hHeld : (fun w' => w'.cell? ⟨g2,0,none⟩ = some (.int .i64 g) ∧ w'.cell? ⟨g2,1,none⟩ = some (.int .i64 s) ∧ w'.cell? ⟨g2,2,none⟩ = some (.slice Ao o.length co) ∧ w'.cell? ⟨g2,3,none⟩ = some (.slice Al l.length cl) ∧ w'.cell? ⟨g2,4,none⟩ = some (.slice Af f.length cf)) wj := ⟨(cL HX2 0 rfl),(cL HX2 1 rfl),(cL HX2 2 rfl),(cL HX2 3 rfl),(cL HX2 4 rfl)⟩
            refine norm_ (a' := ?_) ?_ ?_
            rotate_left
            ·simp only [putAll,Act.put,yzI,yzs0,yzs1]
             rfl
            refine one_ (i := 8) (N := some 37) yz16 rfl rfl (one_of HT_.out (by kernel_rfl)) (by decide) (fun K hK => ?_)
            refine value_ (w1 := ?_) (v := ?_) (by rfl) rfl ?_ ?_
            rotate_left 2
            ·go_simp
             constructor
             ·rfl
             ·rfl
            obtain ⟨wk,hW⟩ : ∃ W_,W_ = wj.alloc (.cells #[] 3) := ⟨_,rfl⟩
            have hb_ : Below wj.heap.size wj wk := by rw [hW]; exact below_alloc (Below.refl _ _) _
            have hR_ : Kd.R (Kd.int .i64) 3 wk w.heap.size (fun _ => True) (.slice (some ⟨wj.heap.size,0,none⟩) 0 0) [] := by rw [hW]; exact R_zero (below_size HB.out)
            have hd_ := dol_new (n := 0) (c := 0) HVo.out
            obtain ⟨v8,hv_⟩ : ∃ y_,y_ = Value.slice (some ⟨wj.heap.size,0,none⟩) 0 0 := ⟨_,rfl⟩
            rw [← hv_] at hR_ ⊢
            rw [← hv_] at hd_
            have HD := Aside0.mk (hd_)
            clear hd_
            rw [← hW]
            have HVl := Aside0.mk hR_
            replace HVo := Aside0.mk (Kd.R_below HVo.out hb_)
            replace HVf := Aside0.mk (Kd.R_below HVf.out hb_)
            replace HX2 := mB HX2 hb_
            replace HX5 := mB HX5 hb_
            replace HB := mS HB hb_
            clear hW hb_ hR_ hv_
            refine hK.out _ _ ⟨(cL HX2 0 rfl),(cL HX2 1 rfl),(cL HX2 2 rfl),(cL HX2 3 rfl),(cL HX2 4 rfl)⟩ (fun hHeld => ?_)
            clear hK K
            refine norm_ (a' := ?_) ?_ ?_
            rotate_left
            ·show Act.put _ (some 37) _ = _
             simp only [Act.put,yzI,yzs0,yzs1,i64_w,i32_w]
             rfl
            exact norm_ (by first | (simp only [putAll,Act.put,yzI,yzs0,yzs1]; done) | (simp only [putAll,Act.put,yzI,yzs0,yzs1]; rfl)) (hJ4_7_8_12_17 (v4,u7,v8,v12,g5) _ ⟨HVo.out,HVl.out,HVf.out,HD.out,HX5.out,HG5.out,N25.out,HX2.out,HB.out⟩)
          ·skip
           rintro ⟨v4,u7,v8,g5⟩ wj ⟨h_0,h_1,h_2,h_3,h_4,h_5,h_6,h_7⟩
           try dsimp only at h_0 h_1 h_2 h_3 h_4 h_5 h_6 h_7
           clear HX2 HB
           have HVo := Aside0.mk h_0
           have HVl := Aside0.mk h_1
           have HD := Aside0.mk h_2
           have HX5 := Aside0.mk h_3
           have HG5 := Aside0.mk h_4
           have N25 := Aside0.mk h_5
           have HX2 := Aside0.mk h_6
           have HB := Aside0.mk h_7
           clear h_0 h_1 h_2 h_3 h_4 h_5 h_6 h_7
           have hHeld : (fun w' => w'.cell? ⟨g2,0,none⟩ = some (.int .i64 g) ∧ w'.cell? ⟨g2,1,none⟩ = some (.int .i64 s) ∧ w'.cell? ⟨g2,2,none⟩ = some (.slice Ao o.length co) ∧ w'.cell? ⟨g2,3,none⟩ = some (.slice Al l.length cl) ∧ w'.cell? ⟨g2,4,none⟩ = some (.slice Af f.length cf)) wj := ⟨(cL HX2 0 rfl),(cL HX2 1 rfl),(cL HX2 2 rfl),(cL HX2 3 rfl),(cL HX2 4 rfl)⟩
           refine norm_ (a' := ?_) ?_ ?_
           rotate_left
           ·simp only [putAll,Act.put,yzI,yzs0,yzs1]
            rfl
           refine two_ (i := 11) (j := 12) (Ni := some 40) (Nj := some 41) yz15 yz16 rfl rfl rfl rfl (two_of HT_.out (by kernel_rfl)) (by decide) (by decide) (fun K hK => ?_) (fun K hK => ?_)
           ·skip
            refine Kd.R_append_rows_step (Kd.int .i64) (w0 := w) w.heap.size (by rfl) (.tmp 37) (.tmp 39) 25 3 (.int .i64 0) 8 rfl Try.underlying25 info3 rfl (by decide) (by omega) v8 [] l _ _ _ (fun _ => True) (fun _ => False) rfl rfl ?aO ?aR (fun _ _ h => h) (fun _ h => h.elim) ?aF ?aB ?aS ?aL ?_
            (case aR => exact (TC_l (TC_below HT.out HB.out)))
            (case aB => exact HB.out)
            (case aF => exact (fun _ _ => trivial))
            (case aO => exact HVl.out)
            (case aS => exact below_size HB.out)
            (case aL => have := HLN.out; rw [List.length_nil]; omega)
            intro u11 wk ho_ hb_ hg_ hat_
            rw [List.nil_append] at ho_
            have hd_ := dol_on HVo.out (DOL.symm HD.out) hat_
            replace HVo := Aside0.mk (dol_row HVo.out (DOL.symm HD.out) hg_)
            replace HD := Aside0.mk (DOL.symm hd_)
            clear hd_
            replace HX2 := Aside0.mk (blk_grown HX2.out hg_ (Kd.R_ne HVl.out HX2.out (by decide)))
            replace HX5 := Aside0.mk (blk_grown HX5.out hg_ (Kd.R_ne HVl.out HX5.out (by decide)))
            replace HVl := Aside0.mk (ho_)
            replace HB := Aside0.mk (hb_)
            clear ho_ hb_ hg_ hat_
            refine hK.out _ _ ⟨(cL HX2 0 rfl),(cL HX2 1 rfl),(cL HX2 2 rfl),(cL HX2 3 rfl),(cL HX2 4 rfl)⟩ (fun hHeld => ?_)
            clear hK K
            refine norm_ (a' := ?_) ?_ ?_
            rotate_left
            ·show Act.put _ (some 40) _ = _
             simp only [Act.put,yzI,yzs0,yzs1,i64_w,i32_w]
             rfl
            exact norm_ (by first | (simp only [putAll,Act.put,yzI,yzs0,yzs1]; done) | (simp only [putAll,Act.put,yzI,yzs0,yzs1]; rfl)) (hJ4_7_8_11_17 (v4,u7,v8,u11,g5) _ ⟨HVo.out,HVl.out,HD.out,HX5.out,HG5.out,N25.out,HX2.out,HB.out⟩)
           ·skip
            refine value_ (w1 := ?_) (v := ?_) (by rfl) rfl ?_ ?_
            rotate_left 2
            ·go_simp
             constructor
             ·rfl
             ·rfl
            obtain ⟨wk,hW⟩ : ∃ W_,W_ = wj.alloc (.cells #[] 23) := ⟨_,rfl⟩
            have hb_ : Below wj.heap.size wj wk := by rw [hW]; exact below_alloc (Below.refl _ _) _
            have hR_ : Kd.R (Kd.int .u64) 23 wk w.heap.size (fun _ => True) (.slice (some ⟨wj.heap.size,0,none⟩) 0 0) [] := by rw [hW]; exact R_zero (below_size HB.out)
            obtain ⟨v12,hv_⟩ : ∃ y_,y_ = Value.slice (some ⟨wj.heap.size,0,none⟩) 0 0 := ⟨_,rfl⟩
            rw [← hv_] at hR_ ⊢
            rw [← hW]
            have HVf := Aside0.mk hR_
            replace HVo := Aside0.mk (Kd.R_below HVo.out hb_)
            replace HVl := Aside0.mk (Kd.R_below HVl.out hb_)
            replace HX2 := mB HX2 hb_
            replace HX5 := mB HX5 hb_
            replace HB := mS HB hb_
            clear hW hb_ hR_ hv_
            refine hK.out _ _ ⟨(cL HX2 0 rfl),(cL HX2 1 rfl),(cL HX2 2 rfl),(cL HX2 3 rfl),(cL HX2 4 rfl)⟩ (fun hHeld => ?_)
            clear hK K
            refine norm_ (a' := ?_) ?_ ?_
            rotate_left
            ·show Act.put _ (some 41) _ = _
             simp only [Act.put,yzI,yzs0,yzs1,i64_w,i32_w]
             rfl
            exact norm_ (by first | (simp only [putAll,Act.put,yzI,yzs0,yzs1]; done) | (simp only [putAll,Act.put,yzI,yzs0,yzs1]; rfl)) (hJ4_7_8_12_17 (v4,u7,v8,v12,g5) _ ⟨HVo.out,HVl.out,HVf.out,HD.out,HX5.out,HG5.out,N25.out,HX2.out,HB.out⟩)
         ·skip
          rintro ⟨v4,u7,v8,v12⟩ wj ⟨h_0,h_1,h_2,h_3,h_4,h_5⟩
          try dsimp only at h_0 h_1 h_2 h_3 h_4 h_5
          clear HX2 HB
          have HVo := Aside0.mk h_0
          have HVl := Aside0.mk h_1
          have HVf := Aside0.mk h_2
          have HD := Aside0.mk h_3
          have HX2 := Aside0.mk h_4
          have HB := Aside0.mk h_5
          clear h_0 h_1 h_2 h_3 h_4 h_5
          have hHeld : (fun w' => w'.cell? ⟨g2,0,none⟩ = some (.int .i64 g) ∧ w'.cell? ⟨g2,1,none⟩ = some (.int .i64 s) ∧ w'.cell? ⟨g2,2,none⟩ = some (.slice Ao o.length co) ∧ w'.cell? ⟨g2,3,none⟩ = some (.slice Al l.length cl) ∧ w'.cell? ⟨g2,4,none⟩ = some (.slice Af f.length cf)) wj := ⟨(cL HX2 0 rfl),(cL HX2 1 rfl),(cL HX2 2 rfl),(cL HX2 3 rfl),(cL HX2 4 rfl)⟩
          refine norm_ (a' := ?_) ?_ ?_
          rotate_left
          ·simp only [putAll,Act.put,yzI,yzs0,yzs1]
           rfl
          refine two_ (i := 11) (j := 17) (Ni := some 40) (Nj := some 5) yz14 yz16 rfl rfl rfl rfl (two_of HT_.out (by kernel_rfl)) (by decide) (by decide) (fun K hK => ?_) (fun K hK => ?_)
          ·skip
           refine Kd.R_append_rows_step (Kd.int .i64) (w0 := w) w.heap.size (by rfl) (.tmp 37) (.tmp 39) 25 3 (.int .i64 0) 8 rfl Try.underlying25 info3 rfl (by decide) (by omega) v8 [] l _ _ _ (fun _ => True) (fun _ => False) rfl rfl ?aO ?aR (fun _ _ h => h) (fun _ h => h.elim) ?aF ?aB ?aS ?aL ?_
           (case aR => exact (TC_l (TC_below HT.out HB.out)))
           (case aB => exact HB.out)
           (case aF => exact (fun _ _ => trivial))
           (case aO => exact HVl.out)
           (case aS => exact below_size HB.out)
           (case aL => have := HLN.out; rw [List.length_nil]; omega)
           intro u11 wk ho_ hb_ hg_ hat_
           rw [List.nil_append] at ho_
           have hd_ := dol_on HVo.out (DOL.symm HD.out) hat_
           replace HVo := Aside0.mk (dol_row HVo.out (DOL.symm HD.out) hg_)
           replace HD := Aside0.mk (DOL.symm hd_)
           clear hd_
           replace HVf := Aside0.mk (R_other HVf.out rfl hg_ (type_ne HVl.out HVf.out (by decide)))
           replace HX2 := Aside0.mk (blk_grown HX2.out hg_ (Kd.R_ne HVl.out HX2.out (by decide)))
           replace HVl := Aside0.mk (ho_)
           replace HB := Aside0.mk (hb_)
           clear ho_ hb_ hg_ hat_
           refine hK.out _ _ ⟨(cL HX2 0 rfl),(cL HX2 1 rfl),(cL HX2 2 rfl),(cL HX2 3 rfl),(cL HX2 4 rfl)⟩ (fun hHeld => ?_)
           clear hK K
           refine norm_ (a' := ?_) ?_ ?_
           rotate_left
           ·show Act.put _ (some 40) _ = _
            simp only [Act.put,yzI,yzs0,yzs1,i64_w,i32_w]
            rfl
           exact norm_ (by first | (simp only [putAll,Act.put,yzI,yzs0,yzs1]; done) | (simp only [putAll,Act.put,yzI,yzs0,yzs1]; rfl)) (hJ4_7_8_11_12 (v4,u7,v8,u11,v12) _ ⟨HVo.out,HVl.out,HVf.out,HD.out,HX2.out,HB.out⟩)
          ·skip
           refine value_ (w1 := ?_) (v := ?_) (by rfl) rfl ?_ ?_
           rotate_left 2
           ·go_simp
            constructor
            ·rfl
            ·rfl
           obtain ⟨wk,hW⟩ : ∃ W_,W_ = wj.alloc (.cells #[.int .i64 0,.int .i64 0,.slice none 0 0,.slice none 0 0,.slice none 0 0] 32) := ⟨_,rfl⟩
           obtain ⟨g5,hh⟩ : ∃ g_,g_ = wj.heap.size := ⟨_,rfl⟩
           rw [← hW,← hh]
           have hb_ : Below wj.heap.size wj wk := by rw [hW]; exact below_alloc (Below.refl _ _) _
           have HX5 : Aside0 (wk.heap[g5]? = some (.cells #[.int .i64 0,.int .i64 0,.slice none 0 0,.slice none 0 0,.slice none 0 0] 32 (0,0))) := ⟨by rw [hW,hh]; exact blk_new _ _⟩
           have HG5 : Aside0 (w.heap.size ≤ g5) := ⟨by rw [hh]; exact below_size HB.out⟩
           have N25 : Aside0 (g2 ≠ g5) := ⟨by rw [hh]; exact Nat.ne_of_lt (blk_lt HX2.out)⟩
           replace HVo := Aside0.mk (Kd.R_below HVo.out hb_)
           replace HVl := Aside0.mk (Kd.R_below HVl.out hb_)
           replace HVf := Aside0.mk (Kd.R_below HVf.out hb_)
           replace HX2 := mB HX2 hb_
           replace HB := mS HB hb_
           clear hW hh hb_
           refine hK.out _ _ ⟨(cL HX2 0 rfl),(cL HX2 1 rfl),(cL HX2 2 rfl),(cL HX2 3 rfl),(cL HX2 4 rfl)⟩ (fun hHeld => ?_)
           clear hK K
           refine norm_ (a' := ?_) ?_ ?_
           rotate_left
           ·show Act.put _ (some 5) _ = _
            simp only [Act.put,yzI,yzs0,yzs1,i64_w,i32_w]
            rfl
           exact norm_ (by first | (simp only [putAll,Act.put,yzI,yzs0,yzs1]; done) | (simp only [putAll,Act.put,yzI,yzs0,yzs1]; rfl)) (hJ4_7_8_12_17 (v4,u7,v8,v12,g5) _ ⟨HVo.out,HVl.out,HVf.out,HD.out,HX5.out,HG5.out,N25.out,HX2.out,HB.out⟩)
        ·skip
         rintro ⟨v4,u7,v8,u11⟩ wj ⟨h_0,h_1,h_2,h_3,h_4⟩
         try dsimp only at h_0 h_1 h_2 h_3 h_4
         clear HX2 HB
         have HVo := Aside0.mk h_0
         have HVl := Aside0.mk h_1
         have HD := Aside0.mk h_2
         have HX2 := Aside0.mk h_3
         have HB := Aside0.mk h_4
         clear h_0 h_1 h_2 h_3 h_4
         have hHeld : (fun w' => w'.cell? ⟨g2,0,none⟩ = some (.int .i64 g) ∧ w'.cell? ⟨g2,1,none⟩ = some (.int .i64 s) ∧ w'.cell? ⟨g2,2,none⟩ = some (.slice Ao o.length co) ∧ w'.cell? ⟨g2,3,none⟩ = some (.slice Al l.length cl) ∧ w'.cell? ⟨g2,4,none⟩ = some (.slice Af f.length cf)) wj := ⟨(cL HX2 0 rfl),(cL HX2 1 rfl),(cL HX2 2 rfl),(cL HX2 3 rfl),(cL HX2 4 rfl)⟩
         refine norm_ (a' := ?_) ?_ ?_
         rotate_left
         ·simp only [putAll,Act.put,yzI,yzs0,yzs1]
          rfl
         refine two_ (i := 12) (j := 17) (Ni := some 41) (Nj := some 5) yz14 yz15 rfl rfl rfl rfl (two_of HT_.out (by kernel_rfl)) (by decide) (by decide) (fun K hK => ?_) (fun K hK => ?_)
         ·skip
          refine value_ (w1 := ?_) (v := ?_) (by rfl) rfl ?_ ?_
          rotate_left 2
          ·go_simp
           constructor
           ·rfl
           ·rfl
          obtain ⟨wk,hW⟩ : ∃ W_,W_ = wj.alloc (.cells #[] 23) := ⟨_,rfl⟩
          have hb_ : Below wj.heap.size wj wk := by rw [hW]; exact below_alloc (Below.refl _ _) _
          have hR_ : Kd.R (Kd.int .u64) 23 wk w.heap.size (fun _ => True) (.slice (some ⟨wj.heap.size,0,none⟩) 0 0) [] := by rw [hW]; exact R_zero (below_size HB.out)
          obtain ⟨v12,hv_⟩ : ∃ y_,y_ = Value.slice (some ⟨wj.heap.size,0,none⟩) 0 0 := ⟨_,rfl⟩
          rw [← hv_] at hR_ ⊢
          rw [← hW]
          have HVf := Aside0.mk hR_
          replace HVo := Aside0.mk (Kd.R_below HVo.out hb_)
          replace HVl := Aside0.mk (Kd.R_below HVl.out hb_)
          replace HX2 := mB HX2 hb_
          replace HB := mS HB hb_
          clear hW hb_ hR_ hv_
          refine hK.out _ _ ⟨(cL HX2 0 rfl),(cL HX2 1 rfl),(cL HX2 2 rfl),(cL HX2 3 rfl),(cL HX2 4 rfl)⟩ (fun hHeld => ?_)
          clear hK K
          refine norm_ (a' := ?_) ?_ ?_
          rotate_left
          ·show Act.put _ (some 41) _ = _
           simp only [Act.put,yzI,yzs0,yzs1,i64_w,i32_w]
           rfl
          exact norm_ (by first | (simp only [putAll,Act.put,yzI,yzs0,yzs1]; done) | (simp only [putAll,Act.put,yzI,yzs0,yzs1]; rfl)) (hJ4_7_8_11_12 (v4,u7,v8,u11,v12) _ ⟨HVo.out,HVl.out,HVf.out,HD.out,HX2.out,HB.out⟩)
         ·skip
          refine value_ (w1 := ?_) (v := ?_) (by rfl) rfl ?_ ?_
          rotate_left 2
          ·go_simp
           constructor
           ·rfl
           ·rfl
          obtain ⟨wk,hW⟩ : ∃ W_,W_ = wj.alloc (.cells #[.int .i64 0,.int .i64 0,.slice none 0 0,.slice none 0 0,.slice none 0 0] 32) := ⟨_,rfl⟩
          obtain ⟨g5,hh⟩ : ∃ g_,g_ = wj.heap.size := ⟨_,rfl⟩
          rw [← hW,← hh]
          have hb_ : Below wj.heap.size wj wk := by rw [hW]; exact below_alloc (Below.refl _ _) _
          have HX5 : Aside0 (wk.heap[g5]? = some (.cells #[.int .i64 0,.int .i64 0,.slice none 0 0,.slice none 0 0,.slice none 0 0] 32 (0,0))) := ⟨by rw [hW,hh]; exact blk_new _ _⟩
          have HG5 : Aside0 (w.heap.size ≤ g5) := ⟨by rw [hh]; exact below_size HB.out⟩
          have N25 : Aside0 (g2 ≠ g5) := ⟨by rw [hh]; exact Nat.ne_of_lt (blk_lt HX2.out)⟩
          replace HVo := Aside0.mk (Kd.R_below HVo.out hb_)
          replace HVl := Aside0.mk (Kd.R_below HVl.out hb_)
          replace HX2 := mB HX2 hb_
          replace HB := mS HB hb_
          clear hW hh hb_
          refine hK.out _ _ ⟨(cL HX2 0 rfl),(cL HX2 1 rfl),(cL HX2 2 rfl),(cL HX2 3 rfl),(cL HX2 4 rfl)⟩ (fun hHeld => ?_)
          clear hK K
          refine norm_ (a' := ?_) ?_ ?_
          rotate_left
          ·show Act.put _ (some 5) _ = _
           simp only [Act.put,yzI,yzs0,yzs1,i64_w,i32_w]
           rfl
          exact norm_ (by first | (simp only [putAll,Act.put,yzI,yzs0,yzs1]; done) | (simp only [putAll,Act.put,yzI,yzs0,yzs1]; rfl)) (hJ4_7_8_11_17 (v4,u7,v8,u11,g5) _ ⟨HVo.out,HVl.out,HD.out,HX5.out,HG5.out,N25.out,HX2.out,HB.out⟩)
       ·skip
        rintro ⟨v4,u7,v8,v12,g5⟩ wj ⟨h_0,h_1,h_2,h_3,h_4,h_5,h_6,h_7,h_8⟩
        try dsimp only at h_0 h_1 h_2 h_3 h_4 h_5 h_6 h_7 h_8
        clear HX2 HB
        have HVo := Aside0.mk h_0
        have HVl := Aside0.mk h_1
        have HVf := Aside0.mk h_2
        have HD := Aside0.mk h_3
        have HX5 := Aside0.mk h_4
        have HG5 := Aside0.mk h_5
        have N25 := Aside0.mk h_6
        have HX2 := Aside0.mk h_7
        have HB := Aside0.mk h_8
        clear h_0 h_1 h_2 h_3 h_4 h_5 h_6 h_7 h_8
        have hHeld : (fun w' => w'.cell? ⟨g2,0,none⟩ = some (.int .i64 g) ∧ w'.cell? ⟨g2,1,none⟩ = some (.int .i64 s) ∧ w'.cell? ⟨g2,2,none⟩ = some (.slice Ao o.length co) ∧ w'.cell? ⟨g2,3,none⟩ = some (.slice Al l.length cl) ∧ w'.cell? ⟨g2,4,none⟩ = some (.slice Af f.length cf)) wj := ⟨(cL HX2 0 rfl),(cL HX2 1 rfl),(cL HX2 2 rfl),(cL HX2 3 rfl),(cL HX2 4 rfl)⟩
        refine norm_ (a' := ?_) ?_ ?_
        rotate_left
        ·simp only [putAll,Act.put,yzI,yzs0,yzs1]
         rfl
        refine one_ (i := 11) (N := some 40) yz13 rfl rfl (one_of HT_.out (by kernel_rfl)) (by decide) (fun K hK => ?_)
        refine Kd.R_append_rows_step (Kd.int .i64) (w0 := w) w.heap.size (by rfl) (.tmp 37) (.tmp 39) 25 3 (.int .i64 0) 8 rfl Try.underlying25 info3 rfl (by decide) (by omega) v8 [] l _ _ _ (fun _ => True) (fun _ => False) rfl rfl ?aO ?aR (fun _ _ h => h) (fun _ h => h.elim) ?aF ?aB ?aS ?aL ?_
        (case aR => exact (TC_l (TC_below HT.out HB.out)))
        (case aB => exact HB.out)
        (case aF => exact (fun _ _ => trivial))
        (case aO => exact HVl.out)
        (case aS => exact below_size HB.out)
        (case aL => have := HLN.out; rw [List.length_nil]; omega)
        intro u11 wk ho_ hb_ hg_ hat_
        rw [List.nil_append] at ho_
        have hd_ := dol_on HVo.out (DOL.symm HD.out) hat_
        replace HVo := Aside0.mk (dol_row HVo.out (DOL.symm HD.out) hg_)
        replace HD := Aside0.mk (DOL.symm hd_)
        clear hd_
        replace HVf := Aside0.mk (R_other HVf.out rfl hg_ (type_ne HVl.out HVf.out (by decide)))
        replace HX2 := Aside0.mk (blk_grown HX2.out hg_ (Kd.R_ne HVl.out HX2.out (by decide)))
        replace HX5 := Aside0.mk (blk_grown HX5.out hg_ (Kd.R_ne HVl.out HX5.out (by decide)))
        replace HVl := Aside0.mk (ho_)
        replace HB := Aside0.mk (hb_)
        clear ho_ hb_ hg_ hat_
        refine hK.out _ _ ⟨(cL HX2 0 rfl),(cL HX2 1 rfl),(cL HX2 2 rfl),(cL HX2 3 rfl),(cL HX2 4 rfl)⟩ (fun hHeld => ?_)
        clear hK K
        refine norm_ (a' := ?_) ?_ ?_
        rotate_left
        ·show Act.put _ (some 40) _ = _
         simp only [Act.put,yzI,yzs0,yzs1,i64_w,i32_w]
         rfl
        exact norm_ (by first | (simp only [putAll,Act.put,yzI,yzs0,yzs1]; done) | (simp only [putAll,Act.put,yzI,yzs0,yzs1]; rfl)) (hJ4_7_8_11_12_17 (v4,u7,v8,u11,v12,g5) _ ⟨HVo.out,HVl.out,HVf.out,HD.out,HX5.out,HG5.out,N25.out,HX2.out,HB.out⟩)
      ·skip
       rintro ⟨v4,u7,v8,u11,g5⟩ wj ⟨h_0,h_1,h_2,h_3,h_4,h_5,h_6,h_7⟩
       try dsimp only at h_0 h_1 h_2 h_3 h_4 h_5 h_6 h_7
       clear HX2 HB
       have HVo := Aside0.mk h_0
       have HVl := Aside0.mk h_1
       have HD := Aside0.mk h_2
       have HX5 := Aside0.mk h_3
       have HG5 := Aside0.mk h_4
       have N25 := Aside0.mk h_5
       have HX2 := Aside0.mk h_6
       have HB := Aside0.mk h_7
       clear h_0 h_1 h_2 h_3 h_4 h_5 h_6 h_7
       have hHeld : (fun w' => w'.cell? ⟨g2,0,none⟩ = some (.int .i64 g) ∧ w'.cell? ⟨g2,1,none⟩ = some (.int .i64 s) ∧ w'.cell? ⟨g2,2,none⟩ = some (.slice Ao o.length co) ∧ w'.cell? ⟨g2,3,none⟩ = some (.slice Al l.length cl) ∧ w'.cell? ⟨g2,4,none⟩ = some (.slice Af f.length cf)) wj := ⟨(cL HX2 0 rfl),(cL HX2 1 rfl),(cL HX2 2 rfl),(cL HX2 3 rfl),(cL HX2 4 rfl)⟩
       refine norm_ (a' := ?_) ?_ ?_
       rotate_left
       ·simp only [putAll,Act.put,yzI,yzs0,yzs1]
        rfl
       refine one_ (i := 12) (N := some 41) yz13 rfl rfl (one_of HT_.out (by kernel_rfl)) (by decide) (fun K hK => ?_)
       refine value_ (w1 := ?_) (v := ?_) (by rfl) rfl ?_ ?_
       rotate_left 2
       ·go_simp
        constructor
        ·rfl
        ·rfl
       obtain ⟨wk,hW⟩ : ∃ W_,W_ = wj.alloc (.cells #[] 23) := ⟨_,rfl⟩
       have hb_ : Below wj.heap.size wj wk := by rw [hW]; exact below_alloc (Below.refl _ _) _
       have hR_ : Kd.R (Kd.int .u64) 23 wk w.heap.size (fun _ => True) (.slice (some ⟨wj.heap.size,0,none⟩) 0 0) [] := by rw [hW]; exact R_zero (below_size HB.out)
       obtain ⟨v12,hv_⟩ : ∃ y_,y_ = Value.slice (some ⟨wj.heap.size,0,none⟩) 0 0 := ⟨_,rfl⟩
       rw [← hv_] at hR_ ⊢
       rw [← hW]
       have HVf := Aside0.mk hR_
       replace HVo := Aside0.mk (Kd.R_below HVo.out hb_)
       replace HVl := Aside0.mk (Kd.R_below HVl.out hb_)
       replace HX2 := mB HX2 hb_
       replace HX5 := mB HX5 hb_
       replace HB := mS HB hb_
       clear hW hb_ hR_ hv_
       refine hK.out _ _ ⟨(cL HX2 0 rfl),(cL HX2 1 rfl),(cL HX2 2 rfl),(cL HX2 3 rfl),(cL HX2 4 rfl)⟩ (fun hHeld => ?_)
       clear hK K
       refine norm_ (a' := ?_) ?_ ?_
       rotate_left
       ·show Act.put _ (some 41) _ = _
        simp only [Act.put,yzI,yzs0,yzs1,i64_w,i32_w]
        rfl
       exact norm_ (by first | (simp only [putAll,Act.put,yzI,yzs0,yzs1]; done) | (simp only [putAll,Act.put,yzI,yzs0,yzs1]; rfl)) (hJ4_7_8_11_12_17 (v4,u7,v8,u11,v12,g5) _ ⟨HVo.out,HVl.out,HVf.out,HD.out,HX5.out,HG5.out,N25.out,HX2.out,HB.out⟩)
     ·skip
      rintro ⟨v4,u7,v8,u11,v12⟩ wj ⟨h_0,h_1,h_2,h_3,h_4,h_5⟩
      try dsimp only at h_0 h_1 h_2 h_3 h_4 h_5
      clear HX2 HB
      have HVo := Aside0.mk h_0
      have HVl := Aside0.mk h_1
      have HVf := Aside0.mk h_2
      have HD := Aside0.mk h_3
      have HX2 := Aside0.mk h_4
      have HB := Aside0.mk h_5
      clear h_0 h_1 h_2 h_3 h_4 h_5
      have hHeld : (fun w' => w'.cell? ⟨g2,0,none⟩ = some (.int .i64 g) ∧ w'.cell? ⟨g2,1,none⟩ = some (.int .i64 s) ∧ w'.cell? ⟨g2,2,none⟩ = some (.slice Ao o.length co) ∧ w'.cell? ⟨g2,3,none⟩ = some (.slice Al l.length cl) ∧ w'.cell? ⟨g2,4,none⟩ = some (.slice Af f.length cf)) wj := ⟨(cL HX2 0 rfl),(cL HX2 1 rfl),(cL HX2 2 rfl),(cL HX2 3 rfl),(cL HX2 4 rfl)⟩
      refine norm_ (a' := ?_) ?_ ?_
      rotate_left
      ·simp only [putAll,Act.put,yzI,yzs0,yzs1]
       rfl
      refine two_ (i := 15) (j := 17) (Ni := some 44) (Nj := some 5) yz40 yz13 rfl rfl rfl rfl (two_of HT_.out (by kernel_rfl)) (by decide) (by decide) (fun K hK => ?_) (fun K hK => ?_)
      ·skip
       refine Kd.R_append_rows_step (Kd.int .u64) (w0 := w) w.heap.size (by rfl) (.tmp 41) (.tmp 43) 26 23 (.int .u64 0) 8 rfl Try.underlying26 info23 rfl (by decide) (by omega) v12 [] f _ _ _ (fun _ => True) (fun _ => False) rfl rfl ?aO ?aR (fun _ _ h => h) (fun _ h => h.elim) ?aF ?aB ?aS ?aL ?_
       (case aR => exact (TC_f (TC_below HT.out HB.out)))
       (case aB => exact HB.out)
       (case aF => exact (fun _ _ => trivial))
       (case aO => exact HVf.out)
       (case aS => exact below_size HB.out)
       (case aL => have := HLN.out; rw [List.length_nil]; omega)
       intro u15 wk ho_ hb_ hg_ hat_
       rw [List.nil_append] at ho_
       replace HVo := Aside0.mk (R_other HVo.out rfl hg_ (type_ne HVf.out HVo.out (by decide)))
       replace HVl := Aside0.mk (R_other HVl.out rfl hg_ (type_ne HVf.out HVl.out (by decide)))
       replace HX2 := Aside0.mk (blk_grown HX2.out hg_ (Kd.R_ne HVf.out HX2.out (by decide)))
       replace HVf := Aside0.mk (ho_)
       replace HB := Aside0.mk (hb_)
       clear ho_ hb_ hg_ hat_
       obtain ⟨A1,d1,e1⟩ := Kd.R_slice HVo.out
       obtain ⟨A2,d2,e2⟩ := Kd.R_slice HVl.out
       obtain ⟨A3,d3,e3⟩ := Kd.R_slice HVf.out
       subst e1 e2 e3
       refine hK.out _ _ ⟨(cL HX2 0 rfl),(cL HX2 1 rfl),(cL HX2 2 rfl),(cL HX2 3 rfl),(cL HX2 4 rfl)⟩ (fun hHeld => ?_)
       clear hK K
       refine norm_ (a' := ?_) ?_ ?_
       rotate_left
       ·show Act.put _ (some 44) _ = _
        simp only [Act.put,yzI,yzs0,yzs1,i64_w,i32_w]
        rfl
       refine pure_ (i := 16) (N := some 45) (v := ?_) (a' := ?_) yz12 rfl rfl (any_of HT_.out (by kernel_rfl)) (fun _ _ _ h => h) (Or.inl ⟨by rfl,?_⟩) ?_ ?_
       rotate_left
       ·intro w'
        go_simp
        with_reducible rfl
       rotate_left
       ·simp only [Act.put,yzI,yzs0,yzs1,i64_w,i32_w]
        rfl
       exact norm_ (by first | (simp only [putAll,Act.put,yzI,yzs0,yzs1]; done) | (simp only [putAll,Act.put,yzI,yzs0,yzs1]; rfl)) (hJ4_7_8_11_12_15 (v4,.slice A1 o.length d1,v8,.slice A2 l.length d2,v12,.slice A3 f.length d3) _ ⟨A1,d1,A2,d2,A3,d3,rfl,rfl,rfl,HVo.out,HVl.out,HVf.out,HD.out,HX2.out,HB.out⟩)
      ·skip
       refine value_ (w1 := ?_) (v := ?_) (by rfl) rfl ?_ ?_
       rotate_left 2
       ·go_simp
        constructor
        ·rfl
        ·rfl
       obtain ⟨wk,hW⟩ : ∃ W_,W_ = wj.alloc (.cells #[.int .i64 0,.int .i64 0,.slice none 0 0,.slice none 0 0,.slice none 0 0] 32) := ⟨_,rfl⟩
       obtain ⟨g5,hh⟩ : ∃ g_,g_ = wj.heap.size := ⟨_,rfl⟩
       rw [← hW,← hh]
       have hb_ : Below wj.heap.size wj wk := by rw [hW]; exact below_alloc (Below.refl _ _) _
       have HX5 : Aside0 (wk.heap[g5]? = some (.cells #[.int .i64 0,.int .i64 0,.slice none 0 0,.slice none 0 0,.slice none 0 0] 32 (0,0))) := ⟨by rw [hW,hh]; exact blk_new _ _⟩
       have HG5 : Aside0 (w.heap.size ≤ g5) := ⟨by rw [hh]; exact below_size HB.out⟩
       have N25 : Aside0 (g2 ≠ g5) := ⟨by rw [hh]; exact Nat.ne_of_lt (blk_lt HX2.out)⟩
       replace HVo := Aside0.mk (Kd.R_below HVo.out hb_)
       replace HVl := Aside0.mk (Kd.R_below HVl.out hb_)
       replace HVf := Aside0.mk (Kd.R_below HVf.out hb_)
       replace HX2 := mB HX2 hb_
       replace HB := mS HB hb_
       clear hW hh hb_
       refine hK.out _ _ ⟨(cL HX2 0 rfl),(cL HX2 1 rfl),(cL HX2 2 rfl),(cL HX2 3 rfl),(cL HX2 4 rfl)⟩ (fun hHeld => ?_)
       clear hK K
       refine norm_ (a' := ?_) ?_ ?_
       rotate_left
       ·show Act.put _ (some 5) _ = _
        simp only [Act.put,yzI,yzs0,yzs1,i64_w,i32_w]
        rfl
       exact norm_ (by first | (simp only [putAll,Act.put,yzI,yzs0,yzs1]; done) | (simp only [putAll,Act.put,yzI,yzs0,yzs1]; rfl)) (hJ4_7_8_11_12_17 (v4,u7,v8,u11,v12,g5) _ ⟨HVo.out,HVl.out,HVf.out,HD.out,HX5.out,HG5.out,N25.out,HX2.out,HB.out⟩)
    ·skip
     rintro ⟨v4,u7,v8,u11,v12,g5⟩ wj ⟨h_0,h_1,h_2,h_3,h_4,h_5,h_6,h_7,h_8⟩
     try dsimp only at h_0 h_1 h_2 h_3 h_4 h_5 h_6 h_7 h_8
     clear HX2 HB
     have HVo := Aside0.mk h_0
     have HVl := Aside0.mk h_1
     have HVf := Aside0.mk h_2
     have HD := Aside0.mk h_3
     have HX5 := Aside0.mk h_4
     have HG5 := Aside0.mk h_5
     have N25 := Aside0.mk h_6
     have HX2 := Aside0.mk h_7
     have HB := Aside0.mk h_8
     clear h_0 h_1 h_2 h_3 h_4 h_5 h_6 h_7 h_8
     have hHeld : (fun w' => w'.cell? ⟨g2,0,none⟩ = some (.int .i64 g) ∧ w'.cell? ⟨g2,1,none⟩ = some (.int .i64 s) ∧ w'.cell? ⟨g2,2,none⟩ = some (.slice Ao o.length co) ∧ w'.cell? ⟨g2,3,none⟩ = some (.slice Al l.length cl) ∧ w'.cell? ⟨g2,4,none⟩ = some (.slice Af f.length cf)) wj := ⟨(cL HX2 0 rfl),(cL HX2 1 rfl),(cL HX2 2 rfl),(cL HX2 3 rfl),(cL HX2 4 rfl)⟩
     refine norm_ (a' := ?_) ?_ ?_
     rotate_left
     ·simp only [putAll,Act.put,yzI,yzs0,yzs1]
      rfl
     refine one_ (i := 15) (N := some 44) yz41 rfl rfl (one_of HT_.out (by kernel_rfl)) (by decide) (fun K hK => ?_)
     refine Kd.R_append_rows_step (Kd.int .u64) (w0 := w) w.heap.size (by rfl) (.tmp 41) (.tmp 43) 26 23 (.int .u64 0) 8 rfl Try.underlying26 info23 rfl (by decide) (by omega) v12 [] f _ _ _ (fun _ => True) (fun _ => False) rfl rfl ?aO ?aR (fun _ _ h => h) (fun _ h => h.elim) ?aF ?aB ?aS ?aL ?_
     (case aR => exact (TC_f (TC_below HT.out HB.out)))
     (case aB => exact HB.out)
     (case aF => exact (fun _ _ => trivial))
     (case aO => exact HVf.out)
     (case aS => exact below_size HB.out)
     (case aL => have := HLN.out; rw [List.length_nil]; omega)
     intro u15 wk ho_ hb_ hg_ hat_
     rw [List.nil_append] at ho_
     replace HVo := Aside0.mk (R_other HVo.out rfl hg_ (type_ne HVf.out HVo.out (by decide)))
     replace HVl := Aside0.mk (R_other HVl.out rfl hg_ (type_ne HVf.out HVl.out (by decide)))
     replace HX2 := Aside0.mk (blk_grown HX2.out hg_ (Kd.R_ne HVf.out HX2.out (by decide)))
     replace HX5 := Aside0.mk (blk_grown HX5.out hg_ (Kd.R_ne HVf.out HX5.out (by decide)))
     replace HVf := Aside0.mk (ho_)
     replace HB := Aside0.mk (hb_)
     clear ho_ hb_ hg_ hat_
     obtain ⟨A1,d1,e1⟩ := Kd.R_slice HVo.out
     obtain ⟨A2,d2,e2⟩ := Kd.R_slice HVl.out
     obtain ⟨A3,d3,e3⟩ := Kd.R_slice HVf.out
     subst e1 e2 e3
     refine hK.out _ _ ⟨(cL HX2 0 rfl),(cL HX2 1 rfl),(cL HX2 2 rfl),(cL HX2 3 rfl),(cL HX2 4 rfl)⟩ (fun hHeld => ?_)
     clear hK K
     refine norm_ (a' := ?_) ?_ ?_
     rotate_left
     ·show Act.put _ (some 44) _ = _
      simp only [Act.put,yzI,yzs0,yzs1,i64_w,i32_w]
      rfl
     refine pure_ (i := 16) (N := some 45) (v := ?_) (a' := ?_) yz11 rfl rfl (any_of HT_.out (by kernel_rfl)) (fun _ _ _ h => h) (Or.inl ⟨by rfl,?_⟩) ?_ ?_
     rotate_left
     ·intro w'
      go_simp
      with_reducible rfl
     rotate_left
     ·simp only [Act.put,yzI,yzs0,yzs1,i64_w,i32_w]
      rfl
     exact norm_ (by first | (simp only [putAll,Act.put,yzI,yzs0,yzs1]; done) | (simp only [putAll,Act.put,yzI,yzs0,yzs1]; rfl)) (hJ4_7_8_11_12_15_17 (v4,.slice A1 o.length d1,v8,.slice A2 l.length d2,v12,.slice A3 f.length d3,g5) _ ⟨A1,d1,A2,d2,A3,d3,rfl,rfl,rfl,HVo.out,HVl.out,HVf.out,HD.out,HX5.out,HG5.out,N25.out,HX2.out,HB.out⟩)
   ·skip
    rintro ⟨v4,u7,v8,u11,v12,u15⟩ wj ⟨A1,d1,A2,d2,A3,d3,q1,q2,q3,h_0,h_1,h_2,h_3,h_4,h_5⟩
    try dsimp only at q1 q2 q3 h_0 h_1 h_2 h_3 h_4 h_5
    subst q1 q2 q3
    clear HX2 HB
    have HVo := Aside0.mk h_0
    have HVl := Aside0.mk h_1
    have HVf := Aside0.mk h_2
    have HD := Aside0.mk h_3
    have HX2 := Aside0.mk h_4
    have HB := Aside0.mk h_5
    clear h_0 h_1 h_2 h_3 h_4 h_5
    have hHeld : (fun w' => w'.cell? ⟨g2,0,none⟩ = some (.int .i64 g) ∧ w'.cell? ⟨g2,1,none⟩ = some (.int .i64 s) ∧ w'.cell? ⟨g2,2,none⟩ = some (.slice Ao o.length co) ∧ w'.cell? ⟨g2,3,none⟩ = some (.slice Al l.length cl) ∧ w'.cell? ⟨g2,4,none⟩ = some (.slice Af f.length cf)) wj := ⟨(cL HX2 0 rfl),(cL HX2 1 rfl),(cL HX2 2 rfl),(cL HX2 3 rfl),(cL HX2 4 rfl)⟩
    refine norm_ (a' := ?_) ?_ ?_
    rotate_left
    ·simp only [putAll,Act.put,yzI,yzs0,yzs1]
     rfl
    refine one_ (i := 17) (N := some 5) yz11 rfl rfl (one_of HT_.out (by kernel_rfl)) (by decide) (fun K hK => ?_)
    refine value_ (w1 := ?_) (v := ?_) (by rfl) rfl ?_ ?_
    rotate_left 2
    ·go_simp
     constructor
     ·rfl
     ·rfl
    obtain ⟨wk,hW⟩ : ∃ W_,W_ = wj.alloc (.cells #[.int .i64 0,.int .i64 0,.slice none 0 0,.slice none 0 0,.slice none 0 0] 32) := ⟨_,rfl⟩
    obtain ⟨g5,hh⟩ : ∃ g_,g_ = wj.heap.size := ⟨_,rfl⟩
    rw [← hW,← hh]
    have hb_ : Below wj.heap.size wj wk := by rw [hW]; exact below_alloc (Below.refl _ _) _
    have HX5 : Aside0 (wk.heap[g5]? = some (.cells #[.int .i64 0,.int .i64 0,.slice none 0 0,.slice none 0 0,.slice none 0 0] 32 (0,0))) := ⟨by rw [hW,hh]; exact blk_new _ _⟩
    have HG5 : Aside0 (w.heap.size ≤ g5) := ⟨by rw [hh]; exact below_size HB.out⟩
    have N25 : Aside0 (g2 ≠ g5) := ⟨by rw [hh]; exact Nat.ne_of_lt (blk_lt HX2.out)⟩
    replace HVo := Aside0.mk (Kd.R_below HVo.out hb_)
    replace HVl := Aside0.mk (Kd.R_below HVl.out hb_)
    replace HVf := Aside0.mk (Kd.R_below HVf.out hb_)
    replace HX2 := mB HX2 hb_
    replace HB := mS HB hb_
    clear hW hh hb_
    refine hK.out _ _ ⟨(cL HX2 0 rfl),(cL HX2 1 rfl),(cL HX2 2 rfl),(cL HX2 3 rfl),(cL HX2 4 rfl)⟩ (fun hHeld => ?_)
    clear hK K
    refine norm_ (a' := ?_) ?_ ?_
    rotate_left
    ·show Act.put _ (some 5) _ = _
     simp only [Act.put,yzI,yzs0,yzs1,i64_w,i32_w]
     rfl
    exact norm_ (by first | (simp only [putAll,Act.put,yzI,yzs0,yzs1]; done) | (simp only [putAll,Act.put,yzI,yzs0,yzs1]; rfl)) (hJ4_7_8_11_12_15_17 (v4,.slice A1 o.length d1,v8,.slice A2 l.length d2,v12,.slice A3 f.length d3,g5) _ ⟨A1,d1,A2,d2,A3,d3,rfl,rfl,rfl,HVo.out,HVl.out,HVf.out,HD.out,HX5.out,HG5.out,N25.out,HX2.out,HB.out⟩)
  rintro ⟨v4,u7,v8,u11,v12,u15,g5⟩ wj ⟨A1,d1,A2,d2,A3,d3,q1,q2,q3,h_0,h_1,h_2,h_3,h_4,h_5,h_6,h_7,h_8⟩
  try dsimp only at q1 q2 q3 h_0 h_1 h_2 h_3 h_4 h_5 h_6 h_7 h_8
  subst q1 q2 q3
  clear HX2 HB
  have HVo := Aside0.mk h_0
  have HVl := Aside0.mk h_1
  have HVf := Aside0.mk h_2
  have HD := Aside0.mk h_3
  have HX5 := Aside0.mk h_4
  have HG5 := Aside0.mk h_5
  have N25 := Aside0.mk h_6
  have HX2 := Aside0.mk h_7
  have HB := Aside0.mk h_8
  clear h_0 h_1 h_2 h_3 h_4 h_5 h_6 h_7 h_8
  have hHeld : (fun w' => w'.cell? ⟨g2,0,none⟩ = some (.int .i64 g) ∧ w'.cell? ⟨g2,1,none⟩ = some (.int .i64 s) ∧ w'.cell? ⟨g2,2,none⟩ = some (.slice Ao o.length co) ∧ w'.cell? ⟨g2,3,none⟩ = some (.slice Al l.length cl) ∧ w'.cell? ⟨g2,4,none⟩ = some (.slice Af f.length cf)) wj := ⟨(cL HX2 0 rfl),(cL HX2 1 rfl),(cL HX2 2 rfl),(cL HX2 3 rfl),(cL HX2 4 rfl)⟩
  refine norm_ (a' := ?_) ?_ ?_
  rotate_left
  ·simp only [putAll,Act.put,yzI,yzs0,yzs1]
   rfl
  refine last_ (i := 18) (N := none) yz42 rfl rfl (one_of HT_.out (by kernel_rfl)) (by decide) (fun K hK => ?_)
  have r_0 : wj.cell? ⟨g5,0,none⟩ = some (.int .i64 0) := cL HX5 0 rfl
  have r_1 : wj.cell? ⟨g5,1,none⟩ = some (.int .i64 0) := cL HX5 1 rfl
  have r_2 : wj.cell? ⟨g5,2,none⟩ = some (.slice none 0 0) := cL HX5 2 rfl
  have r_3 : wj.cell? ⟨g5,3,none⟩ = some (.slice none 0 0) := cL HX5 3 rfl
  have r_4 : wj.cell? ⟨g5,4,none⟩ = some (.slice none 0 0) := cL HX5 4 rfl
  have rf_0 := blk_frozen HX5.out 0
  have rf_1 := blk_frozen HX5.out 1
  have rf_2 := blk_frozen HX5.out 2
  have rf_3 := blk_frozen HX5.out 3
  have rf_4 := blk_frozen HX5.out 4
  refine skip_ (w1 := ?_) (by rfl) rfl ?_ ?_
  rotate_left
  ·go_simp
   rfl
  clear r_0 r_1 r_2 r_3 r_4 rf_0 rf_1 rf_2 rf_3 rf_4
  obtain ⟨W4,hW⟩ : ∃ W_,W_ = (((((wj.setCell ⟨g5,0,none⟩ (.int .i64 g)).setCell ⟨g5,1,none⟩ (.int .i64 s)).setCell ⟨g5,2,none⟩ (.slice A1 o.length d1)).setCell ⟨g5,3,none⟩ (.slice A2 l.length d2)).setCell ⟨g5,4,none⟩ (.slice A3 f.length d3)) := ⟨_,rfl⟩
  rw [← hW]
  refine hK.out _ _ ?_
  clear hK K
  refine done_ (done_of HT_.out (by kernel_rfl)) ?_
  clear HT_ HW_ hHeld
  have hTw : TR W4 w.heap.size A1 d1 o A2 d2 l A3 d3 f := tr5 hW HX5.out (by decide) (by decide) ⟨⟨HVo.out,HVl.out,HVf.out⟩,HD.out⟩
  have HTw := Aside0.mk (TR_TC hTw)
  replace HX2 := Aside0.mk (far5 hW HX2.out N25.out)
  have HB0 := Aside0.mk (below5 hW HB.out HG5.out)
  replace HX5 := Aside0.mk (set5 hW HX5.out)
  have HTt := Aside0.mk (TC_below HT.out HB0.out)
  clear hW hTw HB HVo HVl HVf HD N25 HG5 HG2 HT
  have HB := Aside0.mk (Below.refl W4.heap.size W4)
  have q_0 : W4.cell? ⟨g2,0,none⟩ = some (.int .i64 g) := (blk_cell (blk_below HX2.out HB.out) 0).trans rfl
  have q_1 : W4.cell? ⟨g2,1,none⟩ = some (.int .i64 s) := (blk_cell (blk_below HX2.out HB.out) 1).trans rfl
  have q_2 : W4.cell? ⟨g2,2,none⟩ = some (.slice Ao o.length co) := (blk_cell (blk_below HX2.out HB.out) 2).trans rfl
  have q_3 : W4.cell? ⟨g2,3,none⟩ = some (.slice Al l.length cl) := (blk_cell (blk_below HX2.out HB.out) 3).trans rfl
  have q_4 : W4.cell? ⟨g2,4,none⟩ = some (.slice Af f.length cf) := (blk_cell (blk_below HX2.out HB.out) 4).trans rfl
  go_wp2_with fail
  clear q_0 q_1 q_2 q_3 q_4
  refine (roll_to g s _ _ o _ _ l _ _ f first _ (TC_below HTt.out HB.out) HRT.out).mono ?_
  rintro e_ x1 ⟨e1,an0,an1,aP1,am1,ak1,aP2,am2,ak2,aP3,am3,ak3,rfl,hto,hb⟩
  have HOa := Aside0.mk (TO_lower hto (below_size HB.out))
  replace HB := mS HB hb
  clear hb hto
  go_upto_region 6 with ((with_reducible refine gate_dst (N := 6) rfl ?_); refine box_event ?hg (N := 6) ?hd (cs := #[.int .i64 0,.int .i64 0,.slice none 0 0,.slice none 0 0,.slice none 0 0]) (t := 28) ?hr ?_; (case hd => rfl); (case hg => rfl); (case hr => first | (go_simp; done) | (go_simp; rfl)); intro g6 hgo x2 hbox hbb; have HBO := Aside0.mk hbox; have HBB := Aside0.mk hbb; have HGO := Aside0.mk hgo; have y0 : x2.cell? ⟨g6,0,none⟩ = some (.int .i64 0) := (blk_cell hbox 0).trans rfl; have y1 : x2.cell? ⟨g6,1,none⟩ = some (.int .i64 0) := (blk_cell hbox 1).trans rfl; have y2 : x2.cell? ⟨g6,2,none⟩ = some (.slice none 0 0) := (blk_cell hbox 2).trans rfl; have y3 : x2.cell? ⟨g6,3,none⟩ = some (.slice none 0 0) := (blk_cell hbox 3).trans rfl; have y4 : x2.cell? ⟨g6,4,none⟩ = some (.slice none 0 0) := (blk_cell hbox 4).trans rfl; have yf0 := blk_frozen hbox 0; have yf1 := blk_frozen hbox 1; have yf2 := blk_frozen hbox 2; have yf3 := blk_frozen hbox 3; have yf4 := blk_frozen hbox 4; clear hbox hbb hgo)
  clear y0 y1 y2 y3 y4 yf0 yf1 yf2 yf3 yf4
  have HG6 : Aside0 (W4.heap.size ≤ g6) := ⟨by rw [HGO.out]; exact below_size HB.out⟩
  replace HOa := Aside0.mk (TO_below HOa.out HBB.out)
  replace HB := Aside0.mk (below_step HB.out HBB.out)
  have HX6 := Aside0.mk HBO.out
  clear HBO HBB HGO
  obtain ⟨X3,hW⟩ : ∃ W_,W_ = (((((x2.setCell ⟨g6,0,none⟩ (.int .i64 an0)).setCell ⟨g6,1,none⟩ (.int .i64 an1)).setCell ⟨g6,2,none⟩ (.slice aP1 am1 ak1)).setCell ⟨g6,3,none⟩ (.slice aP2 am2 ak2)).setCell ⟨g6,4,none⟩ (.slice aP3 am3 ak3)) := ⟨_,rfl⟩
  rw [← hW]
  replace HOa := Aside0.mk (to5 hW HX6.out (by decide) (by decide) HOa.out)
  replace HX6 := Aside0.mk (set5 hW HX6.out)
  replace HB := Aside0.mk (below5 hW HB.out HG6.out)
  clear hW
  have q_0 : X3.cell? ⟨g2,0,none⟩ = some (.int .i64 g) := (blk_cell (blk_below HX2.out HB.out) 0).trans rfl
  have q_1 : X3.cell? ⟨g2,1,none⟩ = some (.int .i64 s) := (blk_cell (blk_below HX2.out HB.out) 1).trans rfl
  have q_2 : X3.cell? ⟨g2,2,none⟩ = some (.slice Ao o.length co) := (blk_cell (blk_below HX2.out HB.out) 2).trans rfl
  have q_3 : X3.cell? ⟨g2,3,none⟩ = some (.slice Al l.length cl) := (blk_cell (blk_below HX2.out HB.out) 3).trans rfl
  have q_4 : X3.cell? ⟨g2,4,none⟩ = some (.slice Af f.length cf) := (blk_cell (blk_below HX2.out HB.out) 4).trans rfl
  go_wp2_with fail
  clear q_0 q_1 q_2 q_3 q_4
  refine (count_to g s _ _ o _ _ l _ _ f _ (TC_below HTt.out HB.out) HRT.out).mono ?_
  rintro e_ x4 ⟨e2,bn0,bn1,bP1,bm1,bk1,bP2,bm2,bk2,bP3,bm3,bk3,rfl,hto,hb⟩
  have HOb := Aside0.mk (TO_lower hto (below_size HB.out))
  replace HX6 := mB HX6 hb
  replace HOa := Aside0.mk (TO_below HOa.out hb)
  replace HB := mS HB hb
  clear hb hto
  go_upto_region 7 with ((with_reducible refine gate_dst (N := 8) rfl ?_); refine box_event ?hg (N := 8) ?hd (cs := #[.int .i64 0,.int .i64 0,.slice none 0 0,.slice none 0 0,.slice none 0 0]) (t := 28) ?hr ?_; (case hd => rfl); (case hg => rfl); (case hr => first | (go_simp; done) | (go_simp; rfl)); intro g8 hgo x5 hbox hbb; have HBO := Aside0.mk hbox; have HBB := Aside0.mk hbb; have HGO := Aside0.mk hgo; have y0 : x5.cell? ⟨g8,0,none⟩ = some (.int .i64 0) := (blk_cell hbox 0).trans rfl; have y1 : x5.cell? ⟨g8,1,none⟩ = some (.int .i64 0) := (blk_cell hbox 1).trans rfl; have y2 : x5.cell? ⟨g8,2,none⟩ = some (.slice none 0 0) := (blk_cell hbox 2).trans rfl; have y3 : x5.cell? ⟨g8,3,none⟩ = some (.slice none 0 0) := (blk_cell hbox 3).trans rfl; have y4 : x5.cell? ⟨g8,4,none⟩ = some (.slice none 0 0) := (blk_cell hbox 4).trans rfl; have yf0 := blk_frozen hbox 0; have yf1 := blk_frozen hbox 1; have yf2 := blk_frozen hbox 2; have yf3 := blk_frozen hbox 3; have yf4 := blk_frozen hbox 4; clear hbox hbb hgo)
  clear y0 y1 y2 y3 y4 yf0 yf1 yf2 yf3 yf4
  have N68 : Aside0 (g6 ≠ g8) := ⟨by rw [HGO.out]; exact Nat.ne_of_lt (blk_lt HX6.out)⟩
  have HG8 : Aside0 (W4.heap.size ≤ g8) := ⟨by rw [HGO.out]; exact below_size HB.out⟩
  replace HX6 := Aside0.mk (blk_below HX6.out HBB.out)
  replace HOa := Aside0.mk (TO_below HOa.out HBB.out)
  replace HOb := Aside0.mk (TO_below HOb.out HBB.out)
  replace HB := Aside0.mk (below_step HB.out HBB.out)
  have HX8 := Aside0.mk HBO.out
  clear HBO HBB HGO
  obtain ⟨X6,hW⟩ : ∃ W_,W_ = (((((x5.setCell ⟨g8,0,none⟩ (.int .i64 bn0)).setCell ⟨g8,1,none⟩ (.int .i64 bn1)).setCell ⟨g8,2,none⟩ (.slice bP1 bm1 bk1)).setCell ⟨g8,3,none⟩ (.slice bP2 bm2 bk2)).setCell ⟨g8,4,none⟩ (.slice bP3 bm3 bk3)) := ⟨_,rfl⟩
  rw [← hW]
  replace HX6 := Aside0.mk (far5 hW HX6.out N68.out)
  replace HOa := Aside0.mk (to5 hW HX8.out (by decide) (by decide) HOa.out)
  replace HOb := Aside0.mk (to5 hW HX8.out (by decide) (by decide) HOb.out)
  replace HX8 := Aside0.mk (set5 hW HX8.out)
  replace HB := Aside0.mk (below5 hW HB.out HG8.out)
  clear hW
  obtain ⟨x,hx⟩ : ∃ x,x = rd o 0 := ⟨_,rfl⟩
  obtain ⟨ao,ea,hz⟩ := Kd.at_int HTt.out.1.1 0 (Int.le_refl _) (by have := HRT.out.n1; omega)
  rw [← hx] at hz
  have hz2 : W4.cell? ao = some (.int .i64 x) := by have h_ : W4.cell? (ao.add 0) = some (.int .i64 x) := hz; rwa [add_none] at h_
  have HZ := Aside0.mk hz2
  cases ea
  clear hz hz2 hx
  have hol : ((0 : Int) < (o.length : Int)) = True := eq_true (by have := HRT.out.n1; omega)
  have hol2 : (0 < o.length) = True := eq_true HRT.out.n1
  go_wp2_with fail
  refine start_ (n := 12) (S := fun w' => w'.cell? ⟨g2,0,none⟩ = some (.int .i64 g) ∧ w'.cell? ⟨g2,1,none⟩ = some (.int .i64 s) ∧ w'.cell? ⟨g2,2,none⟩ = some (.slice (some ao) o.length co) ∧ w'.cell? ⟨g2,3,none⟩ = some (.slice Al l.length cl) ∧ w'.cell? ⟨g2,4,none⟩ = some (.slice Af f.length cf) ∧ w'.cell? ao = some (.int .i64 x)) (ds := []) yz43 (by kernel_rfl) rfl rfl ⟨((blk_cell (blk_below HX2.out (below_drew HB.out)) 0).trans rfl),((blk_cell (blk_below HX2.out (below_drew HB.out)) 1).trans rfl),((blk_cell (blk_below HX2.out (below_drew HB.out)) 2).trans rfl),((blk_cell (blk_below HX2.out (below_drew HB.out)) 3).trans rfl),((blk_cell (blk_below HX2.out (below_drew HB.out)) 4).trans rfl),(pw_cell_below (below_drew HB.out) HZ.out)⟩ (fun hHeld => ?_)
  refine with_tabW own8.tab7 own8.bits7 (fun HT_ HW_ => ?_)
  replace HX6 := Aside0.mk (blk_drew HX6.out)
  replace HX8 := Aside0.mk (blk_drew HX8.out)
  replace HOa := Aside0.mk (TO_below HOa.out (below_drew (Below.refl _ _)))
  replace HOb := Aside0.mk (TO_below HOb.out (below_drew (Below.refl _ _)))
  replace HB := Aside0.mk (below_drew HB.out)
  generalize X6.drew = xd at *
  refine pure_ (i := 1) (N := some 59) (v := ?_) (a' := ?_) yz44 rfl rfl (any_of HT_.out (by kernel_rfl)) (fun _ _ _ h => h) (Or.inl ⟨by rfl,?_⟩) ?_ ?_
  rotate_left
  ·intro w'
   go_simp
   with_reducible rfl
  rotate_left
  ·simp only [Act.put,yzI,yzs0,yzs1,i64_w,i32_w]
   rfl
  refine take_ (i := 0) (N := some 58) (v := ?_) (a' := ?_) yz45 rfl rfl (take_ofW HT_.out HW_.out (by kernel_rfl)) (fun _ _ _ h => h) (Or.inl ⟨by rfl,?_⟩) hHeld ?_ ?_
  rotate_left
  ·rintro w' ⟨s0,s1,s2,s3,s4,s5⟩
   go_simp
   with_reducible rfl
  rotate_left
  ·simp only [Act.put,yzI,yzs0,yzs1,i64_w,i32_w]
   rfl
  refine take_ (i := 2) (N := some 60) (v := ?_) (a' := ?_) yz46 rfl rfl (take_ofW HT_.out HW_.out (by kernel_rfl)) (fun _ _ _ h => h) (Or.inl ⟨by rfl,?_⟩) hHeld ?_ ?_
  rotate_left
  ·rintro w' ⟨s0,s1,s2,s3,s4,s5⟩
   go_simp
   with_reducible rfl
  rotate_left
  ·simp only [Act.put,yzI,yzs0,yzs1,i64_w,i32_w]
   rfl
  refine pure_ (i := 3) (N := some 61) (v := ?_) (a' := ?_) yz47 rfl rfl (any_of HT_.out (by kernel_rfl)) (fun _ _ _ h => h) (Or.inl ⟨by rfl,?_⟩) ?_ ?_
  rotate_left
  ·intro w'
   go_simp
   with_reducible rfl
  rotate_left
  ·simp only [Act.put,yzI,yzs0,yzs1,i64_w,i32_w]
   rfl
  refine take_ (i := 4) (N := some 62) (v := ?_) (a' := ?_) yz48 rfl rfl (take_ofW HT_.out HW_.out (by kernel_rfl)) (fun _ _ _ h => h) (Or.inl ⟨by rfl,?_⟩) hHeld ?_ ?_
  rotate_left
  ·rintro w' ⟨s0,s1,s2,s3,s4,s5⟩
   go_simp
   with_reducible rfl
  rotate_left
  ·simp only [Act.put,yzI,yzs0,yzs1,i64_w,i32_w]
   rfl
  refine join_ (σ := Nat × Value × Value × Value) 2 yz49 (fun s_ => [(63,s_.2.1),(57,s_.2.1),(64,s_.2.2.1),(65,s_.2.2.2),(10,.pointer (some ⟨s_.1,0,none⟩))]) (fun s_ w' => ∃ (e3 : Int) (cn0 : Int) (cn1 : Int) (cP1 : Option Addr) (cm1 : Nat) (ck1 : Nat) (cP2 : Option Addr) (cm2 : Nat) (ck2 : Nat) (cP3 : Option Addr) (cm3 : Nat) (ck3 : Nat),s_.2.1 = .tuple #[.agg #[.int .i64 cn0,.int .i64 cn1,.slice cP1 cm1 ck1,.slice cP2 cm2 ck2,.slice cP3 cm3 ck3],.int .i64 e3] ∧ s_.2.2.1 = .agg #[.int .i64 cn0,.int .i64 cn1,.slice cP1 cm1 ck1,.slice cP2 cm2 ck2,.slice cP3 cm3 ck3] ∧ s_.2.2.2 = .int .i64 e3 ∧ TO w' W4.heap.size (0 ≤ pl o x ∧ pl o x < (o.length : Int) - 1) 1 g s (o.eraseIdx (pl o x).toNat) (l.eraseIdx (pl o x).toNat) (f.eraseIdx (pl o x).toNat) e3 cn0 cn1 cP1 cm1 ck1 cP2 cm2 ck2 cP3 cm3 ck3 ∧ TO w' W4.heap.size (frk g.toNat o ≠ []) 10 g s (o ++ [(frk g.toNat o).headD 0]) (l ++ [0]) (f ++ [first]) e1 an0 an1 aP1 am1 ak1 aP2 am2 ak2 aP3 am3 ak3 ∧ TO w' W4.heap.size (Lst l < s) 10 g s o (l.set (l.length - 1) (Lst l + 1)) f e2 bn0 bn1 bP1 bm1 bk1 bP2 bm2 bk2 bP3 bm3 bk3 ∧ w'.heap[g6]? = some (.cells #[.int .i64 an0,.int .i64 an1,.slice aP1 am1 ak1,.slice aP2 am2 ak2,.slice aP3 am3 ak3] 28 (0,0)) ∧ w'.heap[g8]? = some (.cells #[.int .i64 bn0,.int .i64 bn1,.slice bP1 bm1 bk1,.slice bP2 bm2 bk2,.slice bP3 bm3 bk3] 28 (0,0)) ∧ w'.heap[s_.1]? = some (.cells #[.int .i64 0,.int .i64 0,.slice none 0 0,.slice none 0 0,.slice none 0 0] 28 (0,0)) ∧ Below W4.heap.size W4 w' ∧ W4.heap.size ≤ s_.1 ∧ g6 ≠ s_.1 ∧ g8 ≠ s_.1) ?_ ?_
  rotate_left
  ·intro hCont
   refine two_ (i := 5) (j := 9) (Ni := some 63) (Nj := some 10) yz50 yz51 rfl rfl rfl rfl (two_of HT_.out (by kernel_rfl)) (by decide) (by decide) (fun K hK => ?_) (fun K hK => ?_)
   ·skip
    refine goes_ Try.func31 (by kernel_rfl) rfl #[.agg #[.int .i64 g,.int .i64 s,.slice (some ao) o.length co,.slice Al l.length cl,.slice Af f.length cf],.int .i64 x] (by rfl) rfl rfl (by simp only [List.map_toArray,List.map_cons,List.map_nil]; rfl) ?_
    with_reducible refine (drop_to g s _ _ o _ _ l _ _ f x _ (TC_below HTt.out HB.out) HRT.out).mono ?_
    rintro e_ xf1 ⟨e3,cn0,cn1,cP1,cm1,ck1,cP2,cm2,ck2,cP3,cm3,ck3,rfl,hto,hb⟩
    refine ⟨_,rfl,?_⟩
    have HOc := Aside0.mk (TO_lower hto (below_size HB.out))
    replace HX6 := mB HX6 hb
    replace HX8 := mB HX8 hb
    replace HOa := Aside0.mk (TO_below HOa.out hb)
    replace HOb := Aside0.mk (TO_below HOb.out hb)
    replace HB := mS HB hb
    clear hb hto
    refine hK.out _ _ ⟨((blk_cell (blk_below HX2.out HB.out) 0).trans rfl),((blk_cell (blk_below HX2.out HB.out) 1).trans rfl),((blk_cell (blk_below HX2.out HB.out) 2).trans rfl),((blk_cell (blk_below HX2.out HB.out) 3).trans rfl),((blk_cell (blk_below HX2.out HB.out) 4).trans rfl),(pw_cell_below HB.out HZ.out)⟩ (fun hHeld => ?_)
    clear hK K
    refine norm_ (a' := ?_) ?_ ?_
    rotate_left
    ·show Act.put _ (some 63) _ = _
     simp only [Act.put,yzI,yzs0,yzs1,i64_w,i32_w]
     rfl
    refine pure_ (i := 6) (N := some 57) (v := ?_) (a' := ?_) yz52 rfl rfl (any_of HT_.out (by kernel_rfl)) (fun _ _ _ h => h) (Or.inl ⟨by rfl,?_⟩) ?_ ?_
    rotate_left
    ·intro w'
     go_simp
     with_reducible rfl
    rotate_left
    ·simp only [Act.put,yzI,yzs0,yzs1,i64_w,i32_w]
     rfl
    refine pure_ (i := 7) (N := some 64) (v := ?_) (a' := ?_) yz53 rfl rfl (any_of HT_.out (by kernel_rfl)) (fun _ _ _ h => h) (Or.inl ⟨by rfl,?_⟩) ?_ ?_
    rotate_left
    ·intro w'
     go_simp
     with_reducible rfl
    rotate_left
    ·simp only [Act.put,yzI,yzs0,yzs1,i64_w,i32_w]
     rfl
    refine pure_ (i := 8) (N := some 65) (v := ?_) (a' := ?_) yz54 rfl rfl (any_of HT_.out (by kernel_rfl)) (fun _ _ _ h => h) (Or.inl ⟨by rfl,?_⟩) ?_ ?_
    rotate_left
    ·intro w'
     go_simp
     with_reducible rfl
    rotate_left
    ·simp only [Act.put,yzI,yzs0,yzs1,i64_w,i32_w]
     rfl
    refine one_ (i := 9) (N := some 10) yz49 rfl rfl (one_of HT_.out (by kernel_rfl)) (by decide) (fun K hK => ?_)
    refine value_ (w1 := ?_) (v := ?_) (by rfl) rfl ?_ ?_
    rotate_left 2
    ·go_simp
     constructor
     ·rfl
     ·rfl
    obtain ⟨xf2,hW⟩ : ∃ W_,W_ = xf1.alloc (.cells #[.int .i64 0,.int .i64 0,.slice none 0 0,.slice none 0 0,.slice none 0 0] 28) := ⟨_,rfl⟩
    obtain ⟨ga,hg⟩ : ∃ g_,g_ = xf1.heap.size := ⟨_,rfl⟩
    rw [← hW,← hg]
    have hb : Below xf1.heap.size xf1 xf2 := by rw [hW]; exact below_alloc (Below.refl _ _) _
    have hx_ : xf2.heap[ga]? = some (.cells #[.int .i64 0,.int .i64 0,.slice none 0 0,.slice none 0 0,.slice none 0 0] 28 (0,0)) := by rw [hW,hg]; exact blk_new _ _
    have HGa : Aside0 (W4.heap.size ≤ ga) := ⟨by rw [hg]; exact below_size HB.out⟩
    have N6a : Aside0 (g6 ≠ ga) := ⟨by rw [hg]; exact Nat.ne_of_lt (blk_lt HX6.out)⟩
    have N8a : Aside0 (g8 ≠ ga) := ⟨by rw [hg]; exact Nat.ne_of_lt (blk_lt HX8.out)⟩
    replace HX6 := mB HX6 hb
    replace HX8 := mB HX8 hb
    replace HOa := Aside0.mk (TO_below HOa.out hb)
    replace HOb := Aside0.mk (TO_below HOb.out hb)
    replace HOc := Aside0.mk (TO_below HOc.out hb)
    replace HB := mS HB hb
    have HXa := Aside0.mk hx_
    clear hx_ hb hg hW
    refine hK.out _ _ ⟨((blk_cell (blk_below HX2.out HB.out) 0).trans rfl),((blk_cell (blk_below HX2.out HB.out) 1).trans rfl),((blk_cell (blk_below HX2.out HB.out) 2).trans rfl),((blk_cell (blk_below HX2.out HB.out) 3).trans rfl),((blk_cell (blk_below HX2.out HB.out) 4).trans rfl),(pw_cell_below HB.out HZ.out)⟩ (fun hHeld => ?_)
    clear hK K
    refine norm_ (a' := ?_) ?_ ?_
    rotate_left
    ·show Act.put _ (some 10) _ = _
     simp only [Act.put,yzI,yzs0,yzs1,i64_w,i32_w]
     rfl
    exact norm_ (by first | (simp only [putAll,Act.put,yzI,yzs0,yzs1]; done) | (simp only [putAll,Act.put,yzI,yzs0,yzs1]; rfl)) (hCont (ga,.tuple #[.agg #[.int .i64 cn0,.int .i64 cn1,.slice cP1 cm1 ck1,.slice cP2 cm2 ck2,.slice cP3 cm3 ck3],.int .i64 e3],.agg #[.int .i64 cn0,.int .i64 cn1,.slice cP1 cm1 ck1,.slice cP2 cm2 ck2,.slice cP3 cm3 ck3],.int .i64 e3) _ ⟨e3,cn0,cn1,cP1,cm1,ck1,cP2,cm2,ck2,cP3,cm3,ck3,rfl,rfl,rfl,HOc.out,HOa.out,HOb.out,HX6.out,HX8.out,HXa.out,HB.out,HGa.out,N6a.out,N8a.out⟩)
   ·skip
    refine value_ (w1 := ?_) (v := ?_) (by rfl) rfl ?_ ?_
    rotate_left 2
    ·go_simp
     constructor
     ·rfl
     ·rfl
    obtain ⟨xf1,hW⟩ : ∃ W_,W_ = xd.alloc (.cells #[.int .i64 0,.int .i64 0,.slice none 0 0,.slice none 0 0,.slice none 0 0] 28) := ⟨_,rfl⟩
    obtain ⟨ga,hg⟩ : ∃ g_,g_ = xd.heap.size := ⟨_,rfl⟩
    rw [← hW,← hg]
    have hb : Below xd.heap.size xd xf1 := by rw [hW]; exact below_alloc (Below.refl _ _) _
    have hx_ : xf1.heap[ga]? = some (.cells #[.int .i64 0,.int .i64 0,.slice none 0 0,.slice none 0 0,.slice none 0 0] 28 (0,0)) := by rw [hW,hg]; exact blk_new _ _
    have HGa : Aside0 (W4.heap.size ≤ ga) := ⟨by rw [hg]; exact below_size HB.out⟩
    have N6a : Aside0 (g6 ≠ ga) := ⟨by rw [hg]; exact Nat.ne_of_lt (blk_lt HX6.out)⟩
    have N8a : Aside0 (g8 ≠ ga) := ⟨by rw [hg]; exact Nat.ne_of_lt (blk_lt HX8.out)⟩
    replace HX6 := mB HX6 hb
    replace HX8 := mB HX8 hb
    replace HOa := Aside0.mk (TO_below HOa.out hb)
    replace HOb := Aside0.mk (TO_below HOb.out hb)
    replace HB := mS HB hb
    have HXa := Aside0.mk hx_
    clear hx_ hb hg hW
    refine hK.out _ _ ⟨((blk_cell (blk_below HX2.out HB.out) 0).trans rfl),((blk_cell (blk_below HX2.out HB.out) 1).trans rfl),((blk_cell (blk_below HX2.out HB.out) 2).trans rfl),((blk_cell (blk_below HX2.out HB.out) 3).trans rfl),((blk_cell (blk_below HX2.out HB.out) 4).trans rfl),(pw_cell_below HB.out HZ.out)⟩ (fun hHeld => ?_)
    clear hK K
    refine norm_ (a' := ?_) ?_ ?_
    rotate_left
    ·show Act.put _ (some 10) _ = _
     simp only [Act.put,yzI,yzs0,yzs1,i64_w,i32_w]
     rfl
    refine one_ (i := 5) (N := some 63) yz55 rfl rfl (one_of HT_.out (by kernel_rfl)) (by decide) (fun K hK => ?_)
    refine goes_ Try.func31 (by kernel_rfl) rfl #[.agg #[.int .i64 g,.int .i64 s,.slice (some ao) o.length co,.slice Al l.length cl,.slice Af f.length cf],.int .i64 x] (by rfl) rfl rfl (by simp only [List.map_toArray,List.map_cons,List.map_nil]; rfl) ?_
    with_reducible refine (drop_to g s _ _ o _ _ l _ _ f x _ (TC_below HTt.out HB.out) HRT.out).mono ?_
    rintro e_ xf2 ⟨e3,cn0,cn1,cP1,cm1,ck1,cP2,cm2,ck2,cP3,cm3,ck3,rfl,hto,hb⟩
    refine ⟨_,rfl,?_⟩
    have HOc := Aside0.mk (TO_lower hto (below_size HB.out))
    replace HX6 := mB HX6 hb
    replace HX8 := mB HX8 hb
    replace HXa := mB HXa hb
    replace HOa := Aside0.mk (TO_below HOa.out hb)
    replace HOb := Aside0.mk (TO_below HOb.out hb)
    replace HB := mS HB hb
    clear hb hto
    refine hK.out _ _ ⟨((blk_cell (blk_below HX2.out HB.out) 0).trans rfl),((blk_cell (blk_below HX2.out HB.out) 1).trans rfl),((blk_cell (blk_below HX2.out HB.out) 2).trans rfl),((blk_cell (blk_below HX2.out HB.out) 3).trans rfl),((blk_cell (blk_below HX2.out HB.out) 4).trans rfl),(pw_cell_below HB.out HZ.out)⟩ (fun hHeld => ?_)
    clear hK K
    refine norm_ (a' := ?_) ?_ ?_
    rotate_left
    ·show Act.put _ (some 63) _ = _
     simp only [Act.put,yzI,yzs0,yzs1,i64_w,i32_w]
     rfl
    refine pure_ (i := 6) (N := some 57) (v := ?_) (a' := ?_) yz56 rfl rfl (any_of HT_.out (by kernel_rfl)) (fun _ _ _ h => h) (Or.inl ⟨by rfl,?_⟩) ?_ ?_
    rotate_left
    ·intro w'
     go_simp
     with_reducible rfl
    rotate_left
    ·simp only [Act.put,yzI,yzs0,yzs1,i64_w,i32_w]
     rfl
    refine pure_ (i := 7) (N := some 64) (v := ?_) (a' := ?_) yz57 rfl rfl (any_of HT_.out (by kernel_rfl)) (fun _ _ _ h => h) (Or.inl ⟨by rfl,?_⟩) ?_ ?_
    rotate_left
    ·intro w'
     go_simp
     with_reducible rfl
    rotate_left
    ·simp only [Act.put,yzI,yzs0,yzs1,i64_w,i32_w]
     rfl
    refine pure_ (i := 8) (N := some 65) (v := ?_) (a' := ?_) yz49 rfl rfl (any_of HT_.out (by kernel_rfl)) (fun _ _ _ h => h) (Or.inl ⟨by rfl,?_⟩) ?_ ?_
    rotate_left
    ·intro w'
     go_simp
     with_reducible rfl
    rotate_left
    ·simp only [Act.put,yzI,yzs0,yzs1,i64_w,i32_w]
     rfl
    exact norm_ (by first | (simp only [putAll,Act.put,yzI,yzs0,yzs1]; done) | (simp only [putAll,Act.put,yzI,yzs0,yzs1]; rfl)) (hCont (ga,.tuple #[.agg #[.int .i64 cn0,.int .i64 cn1,.slice cP1 cm1 ck1,.slice cP2 cm2 ck2,.slice cP3 cm3 ck3],.int .i64 e3],.agg #[.int .i64 cn0,.int .i64 cn1,.slice cP1 cm1 ck1,.slice cP2 cm2 ck2,.slice cP3 cm3 ck3],.int .i64 e3) _ ⟨e3,cn0,cn1,cP1,cm1,ck1,cP2,cm2,ck2,cP3,cm3,ck3,rfl,rfl,rfl,HOc.out,HOa.out,HOb.out,HX6.out,HX8.out,HXa.out,HB.out,HGa.out,N6a.out,N8a.out⟩)
  rintro ⟨ga,V,VX,VE⟩ x9 ⟨e3,cn0,cn1,cP1,cm1,ck1,cP2,cm2,ck2,cP3,cm3,ck3,hV,hVX,hVE,h1,h2,h3,h4,h5,h6,h7,h8,h9,h10⟩
  dsimp only at hV hVX hVE h6 h8 h9 h10
  subst hV hVX hVE
  clear HX6 HX8 HOa HOb HB
  have HOc := Aside0.mk h1
  have HOa := Aside0.mk h2
  have HOb := Aside0.mk h3
  have HX6 := Aside0.mk h4
  have HX8 := Aside0.mk h5
  have HXa := Aside0.mk h6
  have HB := Aside0.mk h7
  have HGa := Aside0.mk h8
  have N6a := Aside0.mk h9
  have N8a := Aside0.mk h10
  clear h1 h2 h3 h4 h5 h6 h7 h8 h9 h10
  have hHeld : (fun w' => w'.cell? ⟨g2,0,none⟩ = some (.int .i64 g) ∧ w'.cell? ⟨g2,1,none⟩ = some (.int .i64 s) ∧ w'.cell? ⟨g2,2,none⟩ = some (.slice (some ao) o.length co) ∧ w'.cell? ⟨g2,3,none⟩ = some (.slice Al l.length cl) ∧ w'.cell? ⟨g2,4,none⟩ = some (.slice Af f.length cf) ∧ w'.cell? ao = some (.int .i64 x)) x9 := ⟨((blk_cell (blk_below HX2.out HB.out) 0).trans rfl),((blk_cell (blk_below HX2.out HB.out) 1).trans rfl),((blk_cell (blk_below HX2.out HB.out) 2).trans rfl),((blk_cell (blk_below HX2.out HB.out) 3).trans rfl),((blk_cell (blk_below HX2.out HB.out) 4).trans rfl),(pw_cell_below HB.out HZ.out)⟩
  refine norm_ (a' := ?_) ?_ ?_
  rotate_left
  ·simp only [putAll,Act.put,yzI,yzs0,yzs1]
   rfl
  refine one_ (i := 10) (N := none) yz58 rfl rfl (one_of HT_.out (by kernel_rfl)) (by decide) (fun K hK => ?_)
  have z_0 : x9.cell? ⟨ga,0,none⟩ = some (.int .i64 0) := cL HXa 0 rfl
  have z_1 : x9.cell? ⟨ga,1,none⟩ = some (.int .i64 0) := cL HXa 1 rfl
  have z_2 : x9.cell? ⟨ga,2,none⟩ = some (.slice none 0 0) := cL HXa 2 rfl
  have z_3 : x9.cell? ⟨ga,3,none⟩ = some (.slice none 0 0) := cL HXa 3 rfl
  have z_4 : x9.cell? ⟨ga,4,none⟩ = some (.slice none 0 0) := cL HXa 4 rfl
  have zf_0 := blk_frozen HXa.out 0
  have zf_1 := blk_frozen HXa.out 1
  have zf_2 := blk_frozen HXa.out 2
  have zf_3 := blk_frozen HXa.out 3
  have zf_4 := blk_frozen HXa.out 4
  refine skip_ (w1 := ?_) (by rfl) rfl ?_ ?_
  rotate_left
  ·go_simp
   rfl
  clear z_0 z_1 z_2 z_3 z_4 zf_0 zf_1 zf_2 zf_3 zf_4
  obtain ⟨X10,hW⟩ : ∃ W_,W_ = (((((x9.setCell ⟨ga,0,none⟩ (.int .i64 cn0)).setCell ⟨ga,1,none⟩ (.int .i64 cn1)).setCell ⟨ga,2,none⟩ (.slice cP1 cm1 ck1)).setCell ⟨ga,3,none⟩ (.slice cP2 cm2 ck2)).setCell ⟨ga,4,none⟩ (.slice cP3 cm3 ck3)) := ⟨_,rfl⟩
  rw [← hW]
  replace HX6 := Aside0.mk (far5 hW HX6.out N6a.out)
  replace HX8 := Aside0.mk (far5 hW HX8.out N8a.out)
  replace HOa := Aside0.mk (to5 hW HXa.out (by decide) (by decide) HOa.out)
  replace HOb := Aside0.mk (to5 hW HXa.out (by decide) (by decide) HOb.out)
  replace HOc := Aside0.mk (to5 hW HXa.out (by decide) (by decide) HOc.out)
  replace HXa := Aside0.mk (set5 hW HXa.out)
  replace HB := Aside0.mk (below5 hW HB.out HGa.out)
  clear hW
  refine hK.out _ _ ⟨((blk_cell (blk_below HX2.out HB.out) 0).trans rfl),((blk_cell (blk_below HX2.out HB.out) 1).trans rfl),((blk_cell (blk_below HX2.out HB.out) 2).trans rfl),((blk_cell (blk_below HX2.out HB.out) 3).trans rfl),((blk_cell (blk_below HX2.out HB.out) 4).trans rfl),(pw_cell_below HB.out HZ.out)⟩ (fun hHeld => ?_)
  clear hK K
  refine pure_ (i := 11) (N := some 11) (v := ?_) (a' := ?_) yz59 rfl rfl (any_of HT_.out (by kernel_rfl)) (fun _ _ _ h => h) (Or.inl ⟨by rfl,?_⟩) ?_ ?_
  rotate_left
  ·intro w'
   go_simp
   with_reducible rfl
  rotate_left
  ·simp only [Act.put,yzI,yzs0,yzs1,i64_w,i32_w]
   rfl
  refine done_ (done_of HT_.out (by kernel_rfl)) ?_
  clear HT_ HW_ hHeld
  clear hol hol2
  have p_0 : X10.cell? ⟨g6,0,none⟩ = some (.int .i64 an0) := cL HX6 0 rfl
  have p_1 : X10.cell? ⟨g6,1,none⟩ = some (.int .i64 an1) := cL HX6 1 rfl
  have p_2 : X10.cell? ⟨g6,2,none⟩ = some (.slice aP1 am1 ak1) := cL HX6 2 rfl
  have p_3 : X10.cell? ⟨g6,3,none⟩ = some (.slice aP2 am2 ak2) := cL HX6 3 rfl
  have p_4 : X10.cell? ⟨g6,4,none⟩ = some (.slice aP3 am3 ak3) := cL HX6 4 rfl
  have q_0 : X10.cell? ⟨g8,0,none⟩ = some (.int .i64 bn0) := cL HX8 0 rfl
  have q_1 : X10.cell? ⟨g8,1,none⟩ = some (.int .i64 bn1) := cL HX8 1 rfl
  have q_2 : X10.cell? ⟨g8,2,none⟩ = some (.slice bP1 bm1 bk1) := cL HX8 2 rfl
  have q_3 : X10.cell? ⟨g8,3,none⟩ = some (.slice bP2 bm2 bk2) := cL HX8 3 rfl
  have q_4 : X10.cell? ⟨g8,4,none⟩ = some (.slice bP3 bm3 bk3) := cL HX8 4 rfl
  have r_0 : X10.cell? ⟨ga,0,none⟩ = some (.int .i64 cn0) := cL HXa 0 rfl
  have r_1 : X10.cell? ⟨ga,1,none⟩ = some (.int .i64 cn1) := cL HXa 1 rfl
  have r_2 : X10.cell? ⟨ga,2,none⟩ = some (.slice cP1 cm1 ck1) := cL HXa 2 rfl
  have r_3 : X10.cell? ⟨ga,3,none⟩ = some (.slice cP2 cm2 ck2) := cL HXa 3 rfl
  have r_4 : X10.cell? ⟨ga,4,none⟩ = some (.slice cP3 cm3 ck3) := cL HXa 4 rfl
  go_upto_region 9 with fail
  clear p_0 p_1 p_2 p_3 p_4 q_0 q_1 q_2 q_3 q_4 r_0 r_1 r_2 r_3 r_4
  obtain ⟨gl,hgl⟩ : ∃ g,g = X10.heap.size := ⟨_,rfl⟩
  rw [← hgl]
  obtain ⟨Xl,hW⟩ : ∃ W_,W_ = X10.alloc (.cells #[.int .i64 an0,.int .i64 an1,.slice aP1 am1 ak1,.slice aP2 am2 ak2,.slice aP3 am3 ak3,.int .i64 bn0,.int .i64 bn1,.slice bP1 bm1 bk1,.slice bP2 bm2 bk2,.slice bP3 bm3 bk3,.int .i64 cn0,.int .i64 cn1,.slice cP1 cm1 ck1,.slice cP2 cm2 ck2,.slice cP3 cm3 ck3] 28) := ⟨_,rfl⟩
  rw [← hW]
  have hb : Below X10.heap.size X10 Xl := by rw [hW]; exact below_alloc (Below.refl _ _) _
  have hx : Xl.heap[gl]? = some (.cells #[.int .i64 an0,.int .i64 an1,.slice aP1 am1 ak1,.slice aP2 am2 ak2,.slice aP3 am3 ak3,.int .i64 bn0,.int .i64 bn1,.slice bP1 bm1 bk1,.slice bP2 bm2 bk2,.slice bP3 bm3 bk3,.int .i64 cn0,.int .i64 cn1,.slice cP1 cm1 ck1,.slice cP2 cm2 ck2,.slice cP3 cm3 ck3] 28 (0,0)) := by rw [hW,hgl]; exact blk_new _ _
  have HFR : Aside0 (Fr Xl W4.heap.size gl) := ⟨Fr_mk hx (Rw_below (Rw_of HOa.out (Nat.le_refl _) (roll_few HRT.out)) hb) (Rw_below (Rw_of HOb.out (Nat.le_refl _) (count_few HRT.out _)) hb) (Rw_below (Rw_of HOc.out (Nat.le_refl _) (drop_few HRT.out _)) hb)⟩
  have HE1 := Aside0.mk (TO_er HOa.out)
  have HE2 := Aside0.mk (TO_er HOb.out)
  have HE3 := Aside0.mk (TO_er HOc.out)
  replace HB := mS HB hb
  clear hW hb hx hgl HX6 HX8 HXa HOa HOb HOc HG6 HG8 HGa N68 N6a N8a
  go_wp2_with fail
  go_loopw [13] (fun v13 w' => ∃ i : Int,Aside0 (0 ≤ i ∧ i ≤ 3) ∧ v13 = .int .i64 i ∧ Aside0 (Fr w' W4.heap.size gl) ∧ Aside0 (Below W4.heap.size W4 w')) (fun v13 _ => 3 - (intOf v13).toNat)
  case atStart => exact ⟨0,⟨by omega,by omega⟩,rfl,HFR,HB⟩
  case round =>
   clear HFR HB
   obtain ⟨i,hi,rfl,HFR,HB⟩ := hrel
   have hi0 := hi.out.1
   have hi64 : i + 1 ≤ 9223372036854775807 := by have := hi.out; omega
   by_cases hi3 : i < 3
   ·have HI3 := Aside0.mk hi3
    have hi3t := decide_eq_true hi3
    have hi0e := eq_true hi0
    have hi3e := eq_true hi3
    clear hi3
    rename World => wO
    go_wp2_with fail
    go_loopw [14] (fun v w' => ∃ y : Int,Aside0 (0 ≤ y ∧ y ≤ 1001) ∧ v = .int .i64 y ∧ Aside0 (Fr w' W4.heap.size gl) ∧ Aside0 (Below W4.heap.size W4 w')) (fun v _ => 1001 - (intOf v).toNat)
    case atStart => exact ⟨0,⟨by omega⟩,rfl,HFR,HB⟩
    case round =>
     clear HFR HB
     rename World => wI2
     obtain ⟨y,hy,rfl,HFR,HB⟩ := hrel
     have hy0 := hy.out.1
     obtain ⟨An,n1,c1_,hcell,hn1,hrm⟩ := Fr_cell HFR.out i hi.out.1 HI3.out 2 3 (by omega)
     have HN := Aside0.mk hn1
     have HRM := Aside0.mk hrm
     clear hn1 hrm
     by_cases hyn : y < (n1 : Int)
     ·have HYN := Aside0.mk hyn
      have hynt := decide_eq_true hyn
      have hy0e := eq_true hy0
      have hyne := eq_true hyn
      clear hyn
      obtain ⟨gq,cs,rfl,hgN,hblk,hsz⟩ := HRM.out (by have := HYN.out; have := hy.out; omega)
      have HGN := Aside0.mk hgN
      have HBK := Aside0.mk hblk
      have HSZ := Aside0.mk hsz
      clear hgN hblk hsz
      have hy64 : y + 1 ≤ 9223372036854775807 := by have := HYN.out; have := HN.out; omega
      have hz : wI2.cell? ⟨gq,y.toNat,none⟩ = some (cs[y.toNat]'(by have := HYN.out; have := HSZ.out; have := hy.out; omega)) := (blk_cell HBK.out _).trans (Array.getElem?_eq_getElem _)
      have hf := blk_frozen HBK.out y.toNat
      go_wp2_with fail
      clear hcell hz hf
      go_roundw
      case rel => exact ⟨y + 1,⟨by have := hy.out; have := HYN.out; have := HN.out; omega⟩,rfl,⟨Fr_set HFR.out HBK.out (by decide) _⟩,⟨below_set HB.out HGN.out⟩⟩
      case measure => have := hy.out; have := HYN.out; have := HN.out; simp [intOf]; omega
     ·have hynt := decide_eq_false hyn
      clear hyn
      go_wp2_with fail
      clear hcell hynt hy0
      clear HRM HN hy
      go_loopw [15] (fun v w' => ∃ y : Int,Aside0 (0 ≤ y ∧ y ≤ 1001) ∧ v = .int .i64 y ∧ Aside0 (Fr w' W4.heap.size gl) ∧ Aside0 (Below W4.heap.size W4 w')) (fun v _ => 1001 - (intOf v).toNat)
      case atStart => exact ⟨0,⟨by omega⟩,rfl,HFR,HB⟩
      case round =>
       clear HFR HB
       rename World => wI3
       obtain ⟨y,hy,rfl,HFR,HB⟩ := hrel
       have hy0 := hy.out.1
       obtain ⟨An,n1,c1_,hcell,hn1,hrm⟩ := Fr_cell HFR.out i hi.out.1 HI3.out 3 3 (by omega)
       have HN := Aside0.mk hn1
       have HRM := Aside0.mk hrm
       clear hn1 hrm
       by_cases hyn : y < (n1 : Int)
       ·have HYN := Aside0.mk hyn
        have hynt := decide_eq_true hyn
        have hy0e := eq_true hy0
        have hyne := eq_true hyn
        clear hyn
        obtain ⟨gq,cs,rfl,hgN,hblk,hsz⟩ := HRM.out (by have := HYN.out; have := hy.out; omega)
        have HGN := Aside0.mk hgN
        have HBK := Aside0.mk hblk
        have HSZ := Aside0.mk hsz
        clear hgN hblk hsz
        have hy64 : y + 1 ≤ 9223372036854775807 := by have := HYN.out; have := HN.out; omega
        have hz : wI3.cell? ⟨gq,y.toNat,none⟩ = some (cs[y.toNat]'(by have := HYN.out; have := HSZ.out; have := hy.out; omega)) := (blk_cell HBK.out _).trans (Array.getElem?_eq_getElem _)
        have hf := blk_frozen HBK.out y.toNat
        go_wp2_with fail
        clear hcell hz hf
        go_roundw
        case rel => exact ⟨y + 1,⟨by have := hy.out; have := HYN.out; have := HN.out; omega⟩,rfl,⟨Fr_set HFR.out HBK.out (by decide) _⟩,⟨below_set HB.out HGN.out⟩⟩
        case measure => have := hy.out; have := HYN.out; have := HN.out; simp [intOf]; omega
       ·have hynt := decide_eq_false hyn
        clear hyn
        go_wp2_with fail
        clear hcell hynt hy0
        clear HRM HN hy
        go_loopw [16] (fun v w' => ∃ y : Int,Aside0 (0 ≤ y ∧ y ≤ 1001) ∧ v = .int .i64 y ∧ Aside0 (Fr w' W4.heap.size gl) ∧ Aside0 (Below W4.heap.size W4 w')) (fun v _ => 1001 - (intOf v).toNat)
        case atStart => exact ⟨0,⟨by omega⟩,rfl,HFR,HB⟩
        case round =>
         clear HFR HB
         rename World => wI4
         obtain ⟨y,hy,rfl,HFR,HB⟩ := hrel
         have hy0 := hy.out.1
         obtain ⟨An,n1,c1_,hcell,hn1,hrm⟩ := Fr_cell HFR.out i hi.out.1 HI3.out 4 23 (by omega)
         have HN := Aside0.mk hn1
         have HRM := Aside0.mk hrm
         clear hn1 hrm
         by_cases hyn : y < (n1 : Int)
         ·have HYN := Aside0.mk hyn
          have hynt := decide_eq_true hyn
          have hy0e := eq_true hy0
          have hyne := eq_true hyn
          clear hyn
          obtain ⟨gq,cs,rfl,hgN,hblk,hsz⟩ := HRM.out (by have := HYN.out; have := hy.out; omega)
          have HGN := Aside0.mk hgN
          have HBK := Aside0.mk hblk
          have HSZ := Aside0.mk hsz
          clear hgN hblk hsz
          have hy64 : y + 1 ≤ 9223372036854775807 := by have := HYN.out; have := HN.out; omega
          have hz : wI4.cell? ⟨gq,y.toNat,none⟩ = some (cs[y.toNat]'(by have := HYN.out; have := HSZ.out; have := hy.out; omega)) := (blk_cell HBK.out _).trans (Array.getElem?_eq_getElem _)
          have hf := blk_frozen HBK.out y.toNat
          go_wp2_with fail
          clear hcell hz hf
          go_roundw
          case rel => exact ⟨y + 1,⟨by have := hy.out; have := HYN.out; have := HN.out; omega⟩,rfl,⟨Fr_set HFR.out HBK.out (by decide) _⟩,⟨below_set HB.out HGN.out⟩⟩
          case measure => have := hy.out; have := HYN.out; have := HN.out; simp [intOf]; omega
         ·have hynt := decide_eq_false hyn
          clear hyn
          go_wp2_with fail
          clear hcell hynt hy0
          clear HRM HN hy
          go_roundw
          case rel => exact ⟨i + 1,⟨by have := hi.out; have := HI3.out; omega⟩,rfl,HFR,HB⟩
          case measure => have := hi.out; have := HI3.out; simp [intOf]; omega
   ·have hi3t := decide_eq_false hi3
    clear hi3
    rename World => wE
    have HX2e := Aside0.mk (blk_below HX2.out HB.out)
    have HX5e := Aside0.mk (blk_below HX5.out HB.out)
    go_upto_region 24 with fail
    clear hi3t hi0 hi64
    rcases HE1.out with rfl | rfl <;> rcases HE2.out with rfl | rfl <;> rcases HE3.out with rfl | rfl
    all_goals
     clear HE1 HE2 HE3
     go_wp2_with fail
     refine start_ (n := 32) (S := fun w' => w'.cell? ⟨g2,0,none⟩ = some (.int .i64 g) ∧ w'.cell? ⟨g2,1,none⟩ = some (.int .i64 s) ∧ w'.cell? ⟨g2,2,none⟩ = some (.slice (some ao) o.length co) ∧ w'.cell? ⟨g2,3,none⟩ = some (.slice Al l.length cl) ∧ w'.cell? ⟨g2,4,none⟩ = some (.slice Af f.length cf) ∧ w'.cell? ⟨g5,0,none⟩ = some (.int .i64 g) ∧ w'.cell? ⟨g5,1,none⟩ = some (.int .i64 s) ∧ w'.cell? ⟨g5,2,none⟩ = some (.slice A1 o.length d1) ∧ w'.cell? ⟨g5,3,none⟩ = some (.slice A2 l.length d2) ∧ w'.cell? ⟨g5,4,none⟩ = some (.slice A3 f.length d3)) (ds := []) yz60 (by kernel_rfl) rfl rfl ⟨((blk_cell (blk_drew HX2e.out) 0).trans rfl),((blk_cell (blk_drew HX2e.out) 1).trans rfl),((blk_cell (blk_drew HX2e.out) 2).trans rfl),((blk_cell (blk_drew HX2e.out) 3).trans rfl),((blk_cell (blk_drew HX2e.out) 4).trans rfl),((blk_cell (blk_drew HX5e.out) 0).trans rfl),((blk_cell (blk_drew HX5e.out) 1).trans rfl),((blk_cell (blk_drew HX5e.out) 2).trans rfl),((blk_cell (blk_drew HX5e.out) 3).trans rfl),((blk_cell (blk_drew HX5e.out) 4).trans rfl)⟩ (fun hHeld => ?_)
     refine with_tabW own8.tab24 own8.bits24 (fun HT_ HW_ => ?_)
     replace HX2e := Aside0.mk (blk_drew HX2e.out)
     replace HX5e := Aside0.mk (blk_drew HX5e.out)
     replace HB := Aside0.mk (below_drew HB.out)
     generalize wE.drew = yd at *
     refine pure_ (i := 0) (N := some 125) (v := ?_) (a' := ?_) yz61 rfl rfl (any_of HT_.out (by kernel_rfl)) (fun _ _ _ h => h) (Or.inl ⟨by rfl,?_⟩) ?_ ?_
     rotate_left
     ·intro w'
      go_simp
      with_reducible rfl
     rotate_left
     ·simp only [Act.put,yzI,yzs0,yzs1,i64_w,i32_w]
      rfl
     refine pure_ (i := 1) (N := some 126) (v := ?_) (a' := ?_) yz62 rfl rfl (any_of HT_.out (by kernel_rfl)) (fun _ _ _ h => h) (Or.inl ⟨by rfl,?_⟩) ?_ ?_
     rotate_left
     ·intro w'
      go_simp
      with_reducible rfl
     rotate_left
     ·simp only [Act.put,yzI,yzs0,yzs1,i64_w,i32_w]
      rfl
     refine pure_ (i := 2) (N := some 127) (v := ?_) (a' := ?_) yz63 rfl rfl (any_of HT_.out (by kernel_rfl)) (fun _ _ _ h => h) (Or.inl ⟨by rfl,?_⟩) ?_ ?_
     rotate_left
     ·intro w'
      go_simp
      with_reducible rfl
     rotate_left
     ·simp only [Act.put,yzI,yzs0,yzs1,i64_w,i32_w]
      rfl
     first
      | (refine pure_ (i := 3) (N := some 128) (v := undef) (a' := ?_) yz64 rfl rfl (any_of HT_.out (by kernel_rfl)) (fun _ _ _ h => h) (Or.inr ⟨by rfl,rfl⟩) ?_ ?_; rotate_left; (· (simp only [Act.put,yzI,yzs0,yzs1,i64_w,i32_w]; rfl)))
      | (refine pure_ (i := 3) (N := some 128) (v := ?_) (a' := ?_) yz64 rfl rfl (any_of HT_.out (by kernel_rfl)) (fun _ _ _ h => h) (Or.inl ⟨by rfl,?_⟩) ?_ ?_; rotate_left; (· (intro w'; go_simp; with_reducible rfl)); rotate_left; (· (simp only [Act.put,yzI,yzs0,yzs1,i64_w,i32_w]; rfl)))
     first
      | (refine pure_ (i := 4) (N := some 129) (v := undef) (a' := ?_) yz65 rfl rfl (any_of HT_.out (by kernel_rfl)) (fun _ _ _ h => h) (Or.inr ⟨by rfl,rfl⟩) ?_ ?_; rotate_left; (· (simp only [Act.put,yzI,yzs0,yzs1,i64_w,i32_w]; rfl)))
      | (refine pure_ (i := 4) (N := some 129) (v := ?_) (a' := ?_) yz65 rfl rfl (any_of HT_.out (by kernel_rfl)) (fun _ _ _ h => h) (Or.inl ⟨by rfl,?_⟩) ?_ ?_; rotate_left; (· (intro w'; go_simp; with_reducible rfl)); rotate_left; (· (simp only [Act.put,yzI,yzs0,yzs1,i64_w,i32_w]; rfl)))
     refine pure_ (i := 5) (N := some 130) (v := ?_) (a' := ?_) yz66 rfl rfl (any_of HT_.out (by kernel_rfl)) (fun _ _ _ h => h) (Or.inl ⟨by rfl,?_⟩) ?_ ?_
     rotate_left
     ·intro w'
      go_simp
      with_reducible rfl
     rotate_left
     ·simp only [Act.put,yzI,yzs0,yzs1,i64_w,i32_w]
      rfl
     refine pure_ (i := 6) (N := some 131) (v := ?_) (a' := ?_) yz67 rfl rfl (any_of HT_.out (by kernel_rfl)) (fun _ _ _ h => h) (Or.inl ⟨by rfl,?_⟩) ?_ ?_
     rotate_left
     ·intro w'
      go_simp
      with_reducible rfl
     rotate_left
     ·simp only [Act.put,yzI,yzs0,yzs1,i64_w,i32_w]
      rfl
     refine pure_ (i := 7) (N := some 132) (v := ?_) (a' := ?_) yz68 rfl rfl (any_of HT_.out (by kernel_rfl)) (fun _ _ _ h => h) (Or.inl ⟨by rfl,?_⟩) ?_ ?_
     rotate_left
     ·intro w'
      go_simp
      with_reducible rfl
     rotate_left
     ·simp only [Act.put,yzI,yzs0,yzs1,i64_w,i32_w]
      rfl
     refine pure_ (i := 8) (N := some 133) (v := ?_) (a' := ?_) yz69 rfl rfl (any_of HT_.out (by kernel_rfl)) (fun _ _ _ h => h) (Or.inl ⟨by rfl,?_⟩) ?_ ?_
     rotate_left
     ·intro w'
      go_simp
      with_reducible rfl
     rotate_left
     ·simp only [Act.put,yzI,yzs0,yzs1,i64_w,i32_w]
      rfl
     refine pure_ (i := 9) (N := some 134) (v := ?_) (a' := ?_) yz70 rfl rfl (any_of HT_.out (by kernel_rfl)) (fun _ _ _ h => h) (Or.inl ⟨by rfl,?_⟩) ?_ ?_
     rotate_left
     ·intro w'
      go_simp
      with_reducible rfl
     rotate_left
     ·simp only [Act.put,yzI,yzs0,yzs1,i64_w,i32_w]
      rfl
     first
      | (refine pure_ (i := 10) (N := some 135) (v := undef) (a' := ?_) yz71 rfl rfl (any_of HT_.out (by kernel_rfl)) (fun _ _ _ h => h) (Or.inr ⟨by rfl,rfl⟩) ?_ ?_; rotate_left; (· (simp only [Act.put,yzI,yzs0,yzs1,i64_w,i32_w]; rfl)))
      | (refine pure_ (i := 10) (N := some 135) (v := ?_) (a' := ?_) yz71 rfl rfl (any_of HT_.out (by kernel_rfl)) (fun _ _ _ h => h) (Or.inl ⟨by rfl,?_⟩) ?_ ?_; rotate_left; (· (intro w'; go_simp; with_reducible rfl)); rotate_left; (· (simp only [Act.put,yzI,yzs0,yzs1,i64_w,i32_w]; rfl)))
     first
      | (refine pure_ (i := 11) (N := some 136) (v := undef) (a' := ?_) yz72 rfl rfl (any_of HT_.out (by kernel_rfl)) (fun _ _ _ h => h) (Or.inr ⟨by rfl,rfl⟩) ?_ ?_; rotate_left; (· (simp only [Act.put,yzI,yzs0,yzs1,i64_w,i32_w]; rfl)))
      | (refine pure_ (i := 11) (N := some 136) (v := ?_) (a' := ?_) yz72 rfl rfl (any_of HT_.out (by kernel_rfl)) (fun _ _ _ h => h) (Or.inl ⟨by rfl,?_⟩) ?_ ?_; rotate_left; (· (intro w'; go_simp; with_reducible rfl)); rotate_left; (· (simp only [Act.put,yzI,yzs0,yzs1,i64_w,i32_w]; rfl)))
     refine pure_ (i := 12) (N := some 137) (v := ?_) (a' := ?_) yz73 rfl rfl (any_of HT_.out (by kernel_rfl)) (fun _ _ _ h => h) (Or.inl ⟨by rfl,?_⟩) ?_ ?_
     rotate_left
     ·intro w'
      go_simp
      with_reducible rfl
     rotate_left
     ·simp only [Act.put,yzI,yzs0,yzs1,i64_w,i32_w]
      rfl
     refine pure_ (i := 13) (N := some 138) (v := ?_) (a' := ?_) yz74 rfl rfl (any_of HT_.out (by kernel_rfl)) (fun _ _ _ h => h) (Or.inl ⟨by rfl,?_⟩) ?_ ?_
     rotate_left
     ·intro w'
      go_simp
      with_reducible rfl
     rotate_left
     ·simp only [Act.put,yzI,yzs0,yzs1,i64_w,i32_w]
      rfl
     refine pure_ (i := 14) (N := some 139) (v := ?_) (a' := ?_) yz75 rfl rfl (any_of HT_.out (by kernel_rfl)) (fun _ _ _ h => h) (Or.inl ⟨by rfl,?_⟩) ?_ ?_
     rotate_left
     ·intro w'
      go_simp
      with_reducible rfl
     rotate_left
     ·simp only [Act.put,yzI,yzs0,yzs1,i64_w,i32_w]
      rfl
     refine pure_ (i := 15) (N := some 140) (v := ?_) (a' := ?_) yz76 rfl rfl (any_of HT_.out (by kernel_rfl)) (fun _ _ _ h => h) (Or.inl ⟨by rfl,?_⟩) ?_ ?_
     rotate_left
     ·intro w'
      go_simp
      with_reducible rfl
     rotate_left
     ·simp only [Act.put,yzI,yzs0,yzs1,i64_w,i32_w]
      rfl
     refine pure_ (i := 16) (N := some 141) (v := ?_) (a' := ?_) yz77 rfl rfl (any_of HT_.out (by kernel_rfl)) (fun _ _ _ h => h) (Or.inl ⟨by rfl,?_⟩) ?_ ?_
     rotate_left
     ·intro w'
      go_simp
      with_reducible rfl
     rotate_left
     ·simp only [Act.put,yzI,yzs0,yzs1,i64_w,i32_w]
      rfl
     refine pure_ (i := 17) (N := some 142) (v := ?_) (a' := ?_) yz78 rfl rfl (any_of HT_.out (by kernel_rfl)) (fun _ _ _ h => h) (Or.inl ⟨by rfl,?_⟩) ?_ ?_
     rotate_left
     ·intro w'
      go_simp
      with_reducible rfl
     rotate_left
     ·simp only [Act.put,yzI,yzs0,yzs1,i64_w,i32_w]
      rfl
     first
      | (refine pure_ (i := 18) (N := some 143) (v := undef) (a' := ?_) yz79 rfl rfl (any_of HT_.out (by kernel_rfl)) (fun _ _ _ h => h) (Or.inr ⟨by rfl,rfl⟩) ?_ ?_; rotate_left; (· (simp only [Act.put,yzI,yzs0,yzs1,i64_w,i32_w]; rfl)))
      | (refine pure_ (i := 18) (N := some 143) (v := ?_) (a' := ?_) yz79 rfl rfl (any_of HT_.out (by kernel_rfl)) (fun _ _ _ h => h) (Or.inl ⟨by rfl,?_⟩) ?_ ?_; rotate_left; (· (intro w'; go_simp; with_reducible rfl)); rotate_left; (· (simp only [Act.put,yzI,yzs0,yzs1,i64_w,i32_w]; rfl)))
     first
      | (refine pure_ (i := 19) (N := some 144) (v := undef) (a' := ?_) yz80 rfl rfl (any_of HT_.out (by kernel_rfl)) (fun _ _ _ h => h) (Or.inr ⟨by rfl,rfl⟩) ?_ ?_; rotate_left; (· (simp only [Act.put,yzI,yzs0,yzs1,i64_w,i32_w]; rfl)))
      | (refine pure_ (i := 19) (N := some 144) (v := ?_) (a' := ?_) yz80 rfl rfl (any_of HT_.out (by kernel_rfl)) (fun _ _ _ h => h) (Or.inl ⟨by rfl,?_⟩) ?_ ?_; rotate_left; (· (intro w'; go_simp; with_reducible rfl)); rotate_left; (· (simp only [Act.put,yzI,yzs0,yzs1,i64_w,i32_w]; rfl)))
     refine pure_ (i := 20) (N := some 145) (v := ?_) (a' := ?_) yz81 rfl rfl (any_of HT_.out (by kernel_rfl)) (fun _ _ _ h => h) (Or.inl ⟨by rfl,?_⟩) ?_ ?_
     rotate_left
     ·intro w'
      go_simp
      with_reducible rfl
     rotate_left
     ·simp only [Act.put,yzI,yzs0,yzs1,i64_w,i32_w]
      rfl
     refine pure_ (i := 21) (N := some 146) (v := ?_) (a' := ?_) yz82 rfl rfl (any_of HT_.out (by kernel_rfl)) (fun _ _ _ h => h) (Or.inl ⟨by rfl,?_⟩) ?_ ?_
     rotate_left
     ·intro w'
      go_simp
      with_reducible rfl
     rotate_left
     ·simp only [Act.put,yzI,yzs0,yzs1,i64_w,i32_w]
      rfl
     refine pure_ (i := 22) (N := some 147) (v := ?_) (a' := ?_) yz83 rfl rfl (any_of HT_.out (by kernel_rfl)) (fun _ _ _ h => h) (Or.inl ⟨by rfl,?_⟩) ?_ ?_
     rotate_left
     ·intro w'
      go_simp
      with_reducible rfl
     rotate_left
     ·simp only [Act.put,yzI,yzs0,yzs1,i64_w,i32_w]
      rfl
     refine take_ (i := 23) (N := some 148) (v := ?_) (a' := ?_) yz84 rfl rfl (take_ofW HT_.out HW_.out (by kernel_rfl)) (fun _ _ _ h => h) (Or.inl ⟨by rfl,?_⟩) hHeld ?_ ?_
     rotate_left
     ·rintro w' ⟨s0,s1,s2,s3,s4,s5,s6,s7,s8,s9⟩
      go_simp
      with_reducible rfl
     rotate_left
     ·simp only [Act.put,yzI,yzs0,yzs1,i64_w,i32_w]
      rfl
     refine take_ (i := 25) (N := some 150) (v := ?_) (a' := ?_) yz85 rfl rfl (take_ofW HT_.out HW_.out (by kernel_rfl)) (fun _ _ _ h => h) (Or.inl ⟨by rfl,?_⟩) hHeld ?_ ?_
     rotate_left
     ·rintro w' ⟨s0,s1,s2,s3,s4,s5,s6,s7,s8,s9⟩
      go_simp
      with_reducible rfl
     rotate_left
     ·simp only [Act.put,yzI,yzs0,yzs1,i64_w,i32_w]
      rfl
     refine one_ (i := 24) (N := some 149) yz86 rfl rfl (one_of HT_.out (by kernel_rfl)) (by decide) (fun K hK => ?_)
     refine goes_ Try.func12 (by kernel_rfl) rfl #[.agg #[.int .i64 g,.int .i64 s,.slice (some ao) o.length co,.slice Al l.length cl,.slice Af f.length cf]] (by rfl) rfl rfl (by simp only [List.map_toArray,List.map_cons,List.map_nil]; rfl) ?_
     with_reducible refine (ref_calls g s _ _ o _ _ l _ _ f _).mono ?_
     rintro e_ y1 ⟨rfl,hb⟩
     refine ⟨_,rfl,?_⟩
     replace HX2e := mB HX2e hb
     replace HX5e := mB HX5e hb
     replace HB := mS HB hb
     clear hb
     refine hK.out _ _ ⟨(cL HX2e 0 rfl),(cL HX2e 1 rfl),(cL HX2e 2 rfl),(cL HX2e 3 rfl),(cL HX2e 4 rfl),(cL HX5e 0 rfl),(cL HX5e 1 rfl),(cL HX5e 2 rfl),(cL HX5e 3 rfl),(cL HX5e 4 rfl)⟩ (fun hHeld => ?_)
     clear hK K
     refine norm_ (a' := ?_) ?_ ?_
     rotate_left
     ·show Act.put _ (some 149) _ = _
      simp only [Act.put,yzI,yzs0,yzs1,i64_w,i32_w]
      rfl
     refine one_ (i := 26) (N := some 151) yz87 rfl rfl (one_of HT_.out (by kernel_rfl)) (by decide) (fun K hK => ?_)
     refine goes_ Try.func11 (by kernel_rfl) rfl #[.agg #[.int .i64 g,.int .i64 s,.slice (some ao) o.length co,.slice Al l.length cl,.slice Af f.length cf],.agg #[.int .i64 g,.int .i64 s,.slice A1 o.length d1,.slice A2 l.length d2,.slice A3 f.length d3]] (by rfl) rfl rfl (by simp only [List.map_toArray,List.map_cons,List.map_nil]; rfl) ?_
     with_reducible refine (same_calls g s _ _ o _ _ l _ _ f _ _ _ _ _ _ _ (TC_below HTt.out HB.out) (TC_below HTw.out HB.out) (by have := HLN.out; omega)).mono ?_
     rintro e_ y2 ⟨rfl,hb⟩
     refine ⟨_,rfl,?_⟩
     replace HX2e := mB HX2e hb
     replace HX5e := mB HX5e hb
     replace HB := mS HB hb
     clear hb
     refine hK.out _ _ ⟨(cL HX2e 0 rfl),(cL HX2e 1 rfl),(cL HX2e 2 rfl),(cL HX2e 3 rfl),(cL HX2e 4 rfl),(cL HX5e 0 rfl),(cL HX5e 1 rfl),(cL HX5e 2 rfl),(cL HX5e 3 rfl),(cL HX5e 4 rfl)⟩ (fun hHeld => ?_)
     clear hK K
     refine norm_ (a' := ?_) ?_ ?_
     rotate_left
     ·show Act.put _ (some 151) _ = _
      simp only [Act.put,yzI,yzs0,yzs1,i64_w,i32_w]
      rfl
     refine pure_ (i := 27) (N := some 152) (v := ?_) (a' := ?_) yz88 rfl rfl (any_of HT_.out (by kernel_rfl)) (fun _ _ _ h => h) (Or.inl ⟨by rfl,?_⟩) ?_ ?_
     rotate_left
     ·intro w'
      go_simp
      with_reducible rfl
     rotate_left
     ·simp only [Act.put,yzI,yzs0,yzs1,i64_w,i32_w]
      rfl
     refine pure_ (i := 28) (N := some 153) (v := ?_) (a' := ?_) yz89 rfl rfl (any_of HT_.out (by kernel_rfl)) (fun _ _ _ h => h) (Or.inl ⟨by rfl,?_⟩) ?_ ?_
     rotate_left
     ·intro w'
      go_simp
      with_reducible rfl
     rotate_left
     ·simp only [Act.put,yzI,yzs0,yzs1,i64_w,i32_w]
      rfl
     refine one_ (i := 29) (N := some 154) yz90 rfl rfl (one_of HT_.out (by kernel_rfl)) (by decide) (fun K hK => ?_)
     refine goes_ Try.func25 (by kernel_rfl) rfl #[] (by rfl) rfl rfl (by simp only [List.map_toArray,List.map_cons,List.map_nil]) ?_
     with_reducible refine (fixed_calls _).mono ?_
     rintro e_ y3 ⟨rfl,hb⟩
     refine ⟨_,rfl,?_⟩
     replace HX2e := mB HX2e hb
     replace HX5e := mB HX5e hb
     replace HB := mS HB hb
     clear hb
     refine hK.out _ _ ⟨(cL HX2e 0 rfl),(cL HX2e 1 rfl),(cL HX2e 2 rfl),(cL HX2e 3 rfl),(cL HX2e 4 rfl),(cL HX5e 0 rfl),(cL HX5e 1 rfl),(cL HX5e 2 rfl),(cL HX5e 3 rfl),(cL HX5e 4 rfl)⟩ (fun hHeld => ?_)
     clear hK K
     refine norm_ (a' := ?_) ?_ ?_
     rotate_left
     ·show Act.put _ (some 154) _ = _
      simp only [Act.put,yzI,yzs0,yzs1,i64_w,i32_w]
      rfl
     refine pure_ (i := 30) (N := some 155) (v := ?_) (a' := ?_) yz91 rfl rfl (any_of HT_.out (by kernel_rfl)) (fun _ _ _ h => h) (Or.inl ⟨by rfl,?_⟩) ?_ ?_
     rotate_left
     ·intro w'
      go_simp
      with_reducible rfl
     rotate_left
     ·simp only [Act.put,yzI,yzs0,yzs1,i64_w,i32_w]
      rfl
     refine pure_ (i := 31) (N := some 4) (v := ?_) (a' := ?_) yz92 rfl rfl (any_of HT_.out (by kernel_rfl)) (fun _ _ _ h => h) (Or.inl ⟨by rfl,?_⟩) ?_ ?_
     rotate_left
     ·intro w'
      go_simp
      with_reducible rfl
     rotate_left
     ·simp only [Act.put,yzI,yzs0,yzs1,i64_w,i32_w]
      rfl
     refine done_ (done_of HT_.out (by kernel_rfl)) ?_
     clear HT_ HW_ hHeld
     go_wp2_with fail
     go_ret
     exact ⟨rfl,below_step HB0.out HB.out⟩
end Go.Proofs.Ytbefoehjlgdcgaa.H
