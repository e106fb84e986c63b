/-
lodgerref08.own: a table with lists of its own.
-/
import Derived.Test.YtbefoehjlgdcgaaAp
import Derived.Test.YtbefoehjlgdcgaaTk
namespace Go.Proofs.Ytbefoehjlgdcgaa.H
open Go.RowKit Go.Proofs.YtbefoehjlgdcgaaW.PrintWords Go.Proofs.YtbefoehjlgdcgaaW.PrintLast Go.Proofs.YtbefoehjlgdcgaaW.PrintMore
attribute [local go_sem] min2_int min_two
set_option linter.unusedVariables false
set_option linter.unusedSimpArgs false
theorem R_zero {k : IntKind} {e base : Nat} {W : World} (hb : base ≤ W.heap.size) : Kd.R (Kd.int k) e (W.alloc (.cells #[] e)) base (fun _ => True) (.slice (some ⟨W.heap.size,0,none⟩) 0 0) [] := by
 refine ⟨fun _ _ => trivial,[],?_,Reps.none _ _⟩
 have h2 := World.ownsRow_lit (base := base) (e := e) (size := 1) W #[] 0 hb (by simp [maxLen]) (by simp)
 have e1 : (Kd.int k).sz = 1 := rfl
 rw [e1]
 simpa using h2
/-- Two rows are not the same. -/
def DOL (v u : Value) : Prop := ∀ k,v.ownBlock = some k → u.ownBlock ≠ some k
theorem DOL.symm {v u : Value} (h : DOL v u) : DOL u v := fun k h1 h2 => h k h2 h1
theorem dol_new {W : World} {k : IntKind} {e base : Nat} {ok : Nat → Prop} {v : Value} {xs : List Int} {n c : Nat} (h : Kd.R (Kd.int k) e W base ok v xs) : DOL v (.slice (some ⟨W.heap.size,0,none⟩) n c) := fun j hj hl => by
 have := app_lt h hj
 rw [own_is] at hl
 cases hl
 omega
theorem dol_on {W : World} {k : IntKind} {e base : Nat} {ok : Nat → Prop} {v v1 u : Value} {ys : List Int} (hu : Kd.R (Kd.int k) e W base ok u ys) (hd : DOL v u) (hat : v1.ownBlock = v.ownBlock ∨ ∃ b,v1.ownBlock = some b ∧ W.heap.size ≤ b) : DOL v1 u := fun j hj hl => by
 rcases hat with e | ⟨b,e,hb⟩
 ·exact hd j (e ▸ hj) hl
 ·have := app_lt hu hl
  rw [e] at hj
  cases hj
  omega
theorem dol_row {W W' : World} {k : IntKind} {e base : Nat} {v u : Value} {ys : List Int} (hu : Kd.R (Kd.int k) e W base (fun _ => True) u ys) (hd : DOL v u) (hg : W.grownBy W' v.ownBlock) : Kd.R (Kd.int k) e W' base (fun _ => True) u ys := by
 refine R_other hu rfl hg ?_
 cases hk : v.ownBlock with
 | none => exact .inr rfl
 | some j => exact .inl (fun e => hd j hk e.symm)
theorem TC_l {w : World} {Ao Al Af : Option Addr} {co cl cf : Nat} {o l f : List Int} (h : TC w Ao co o Al cl l Af cf f) : Kd.C (Kd.int .i64) w Al l.length l := h.2.1.1
theorem TC_f {w : World} {Ao Al Af : Option Addr} {co cl cf : Nat} {o l f : List Int} (h : TC w Ao co o Al cl l Af cf f) : Kd.C (Kd.int .u64) w Af f.length f := h.2.2.1
theorem TC_oC {w : World} {Ao Al Af : Option Addr} {co cl cf : Nat} {o l f : List Int} (h : TC w Ao co o Al cl l Af cf f) : Kd.C (Kd.int .i64) w Ao o.length o := h.1.1
def refown.T1 : Bool × List (List Nat × List Nat) := (true,[([],[]),([0],[0]),([],[]),([2],[2]),([],[]),([],[]),([5],[5]),([4,6],[4,6]),([],[]),([],[]),([9],[9]),([8,10,7],[8,10]),([],[]),([],[]),([13],[13]),([12,14,11],[12,14]),([1,3,7,11,15],[1,3,7,11,15]),([16,15,0,1,2,3,4,5,6,7,8,9,10,11,12,13,14,15,16],[16])])
def refown.B1 : List Nat := [0,1,0,4,0,0,32,112,0,0,512,2032,0,0,8192,32752,65535,131071]
theorem refown.tab1 : rtab .any (opsOf Try.f46 1) = refown.T1 := by kernel_rfl
theorem refown.bits1 : waitsOk refown.T1.2 refown.B1 = true := by kernel_rfl
end Go.Proofs.Ytbefoehjlgdcgaa.H
