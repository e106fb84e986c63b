/-
What a table is in memory: its lists as they are read, and as they are owned.
-/
import Derived.Test.YtbefoehjlgdcgaaTp
namespace Go.Proofs.Ytbefoehjlgdcgaa.H
open Go.RowKit Go.Proofs.YtbefoehjlgdcgaaW.PrintWords Go.Proofs.YtbefoehjlgdcgaaW.PrintLast Go.Proofs.YtbefoehjlgdcgaaW.PrintMore
/-- The three lists of a table can be read. -/
def TC (w : World) (Ao : Option Addr) (co : Nat) (o : List Int) (Al : Option Addr) (cl : Nat) (l : List Int) (Af : Option Addr) (cf : Nat) (f : List Int) : Prop :=
  (Kd.C (Kd.int .i64) w Ao o.length o ∧ o.length ≤ co) ∧ (Kd.C (Kd.int .i64) w Al l.length l ∧ l.length ≤ cl) ∧ Kd.C (Kd.int .u64) w Af f.length f ∧ f.length ≤ cf
/-- They are a call's own, each apart from the others. -/
def TR (w : World) (B : Nat) (Ao : Option Addr) (co : Nat) (o : List Int) (Al : Option Addr) (cl : Nat) (l : List Int) (Af : Option Addr) (cf : Nat) (f : List Int) : Prop :=
  (Kd.R (Kd.int .i64) 3 w B (fun _ => True) (.slice Ao o.length co) o ∧ Kd.R (Kd.int .i64) 3 w B (fun _ => True) (.slice Al l.length cl) l ∧ Kd.R (Kd.int .u64) 23 w B (fun _ => True) (.slice Af f.length cf) f) ∧ ∀ k, (Value.slice Ao o.length co).ownBlock = some k → (Value.slice Al l.length cl).ownBlock ≠ some k
variable {w w' : World} {B B' : Nat} {Ao Al Af : Option Addr} {co cl cf : Nat} {o l f : List Int}
theorem TC_below (h : TC w Ao co o Al cl l Af cf f) (hb : Below w.heap.size w w') : TC w' Ao co o Al cl l Af cf f :=
  ⟨⟨Kd.C_below h.1.1 hb, h.1.2⟩, ⟨Kd.C_below h.2.1.1 hb, h.2.1.2⟩, Kd.C_below h.2.2.1 hb, h.2.2.2⟩
theorem TR_below (h : TR w B Ao co o Al cl l Af cf f) (hb : Below w.heap.size w w') : TR w' B Ao co o Al cl l Af cf f :=
  ⟨⟨Kd.R_below h.1.1 hb, Kd.R_below h.1.2.1 hb, Kd.R_below h.1.2.2 hb⟩, h.2⟩
theorem TR_lower (h : TR w B Ao co o Al cl l Af cf f) (hb : B' ≤ B) : TR w B' Ao co o Al cl l Af cf f :=
  ⟨⟨Kd.R_lower h.1.1 hb, Kd.R_lower h.1.2.1 hb, Kd.R_lower h.1.2.2 hb⟩, h.2⟩
theorem TR_TC (h : TR w B Ao co o Al cl l Af cf f) : TC w Ao co o Al cl l Af cf f :=
  ⟨⟨(Kd.R_reads' h.1.1).2.2, (Kd.R_reads' h.1.1).2.1⟩, ⟨(Kd.R_reads' h.1.2.1).2.2, (Kd.R_reads' h.1.2.1).2.1⟩, (Kd.R_reads' h.1.2.2).2.2, (Kd.R_reads' h.1.2.2).2.1⟩
theorem TR_set {g t : Nat} {cs : Array Value} (h : TR w B Ao co o Al cl l Af cf f) (hb : w.heap[g]? = some (.cells cs t (0, 0))) (h3 : 3 ≠ t) (h23 : 23 ≠ t) (j : Nat) (u : Value) : TR (w.setCell ⟨g, j, none⟩ u) B Ao co o Al cl l Af cf f := by
  have a3 : ∀ q, q ∈ 3 :: (Kd.int .i64).E → q ≠ t := fun q hq => by
    have e : (Kd.int .i64).E = [] := rfl
    rw [e] at hq
    rw [List.mem_singleton.1 hq]
    exact h3
  have a23 : ∀ q, q ∈ 23 :: (Kd.int .u64).E → q ≠ t := fun q hq => by
    have e : (Kd.int .u64).E = [] := rfl
    rw [e] at hq
    rw [List.mem_singleton.1 hq]
    exact h23
  exact ⟨⟨Kd.R_set h.1.1 hb a3 j u, Kd.R_set h.1.2.1 hb a3 j u, Kd.R_set h.1.2.2 hb a23 j u⟩, h.2⟩
/-- Short words for what is said again and again. -/
theorem cL {w : World} {g t : Nat} {cs : Array Value} {v : Value} (h : Aside0 (w.heap[g]? = some (.cells cs t (0, 0)))) (j : Nat) (e : cs[j]? = some v) : w.cell? ⟨g, j, none⟩ = some v := (blk_cell h.out j).trans e
theorem mB {w w' : World} {g t : Nat} {cs : Array Value} (h : Aside0 (w.heap[g]? = some (.cells cs t (0, 0)))) (hb : Below w.heap.size w w') : Aside0 (w'.heap[g]? = some (.cells cs t (0, 0))) := ⟨blk_below h.out hb⟩
theorem mS {w0 w w' : World} (h : Aside0 (Below w0.heap.size w0 w)) (hb : Below w.heap.size w w') : Aside0 (Below w0.heap.size w0 w') := ⟨below_step h.out hb⟩
section
variable {W w0 : World} {g k t t' base : Nat} {cs : Array Value} {ok : Nat → Prop} {v v0 v1 v2 v3 v4 c0 c1 c2 c3 c4 : Value}
theorem set5 (hW : W = ((((w.setCell ⟨g, 0, none⟩ v0).setCell ⟨g, 1, none⟩ v1).setCell ⟨g, 2, none⟩ v2).setCell ⟨g, 3, none⟩ v3).setCell ⟨g, 4, none⟩ v4) (h : w.heap[g]? = some (.cells #[c0, c1, c2, c3, c4] t (0, 0))) : W.heap[g]? = some (.cells #[v0, v1, v2, v3, v4] t (0, 0)) := by
  have q := blk_set (blk_set (blk_set (blk_set (blk_set h 0 v0) 1 v1) 2 v2) 3 v3) 4 v4
  simp only [List.setIfInBounds_toArray, List.set_cons_zero, List.set_cons_succ] at q
  rw [hW]
  exact q
theorem far5 (hW : W = ((((w.setCell ⟨g, 0, none⟩ v0).setCell ⟨g, 1, none⟩ v1).setCell ⟨g, 2, none⟩ v2).setCell ⟨g, 3, none⟩ v3).setCell ⟨g, 4, none⟩ v4) (h : w.heap[k]? = some (.cells cs t (0, 0))) (ne : k ≠ g) : W.heap[k]? = some (.cells cs t (0, 0)) := by
  rw [hW]
  exact blk_far (blk_far (blk_far (blk_far (blk_far h (p := ⟨g, 0, none⟩) ne v0) (p := ⟨g, 1, none⟩) ne v1) (p := ⟨g, 2, none⟩) ne v2) (p := ⟨g, 3, none⟩) ne v3) (p := ⟨g, 4, none⟩) ne v4
theorem below5 (hW : W = ((((w.setCell ⟨g, 0, none⟩ v0).setCell ⟨g, 1, none⟩ v1).setCell ⟨g, 2, none⟩ v2).setCell ⟨g, 3, none⟩ v3).setCell ⟨g, 4, none⟩ v4) (hb : Below w0.heap.size w0 w) (hg : w0.heap.size ≤ g) : Below w0.heap.size w0 W := by
  rw [hW]
  exact below_set (below_set (below_set (below_set (below_set hb hg) hg) hg) hg) hg
theorem tr5 (hW : W = ((((w.setCell ⟨g, 0, none⟩ v0).setCell ⟨g, 1, none⟩ v1).setCell ⟨g, 2, none⟩ v2).setCell ⟨g, 3, none⟩ v3).setCell ⟨g, 4, none⟩ v4) (h : w.heap[g]? = some (.cells cs t (0, 0))) (h3 : 3 ≠ t) (h23 : 23 ≠ t) (hr : TR w B Ao co o Al cl l Af cf f) : TR W B Ao co o Al cl l Af cf f := by
  rw [hW]
  exact TR_set (TR_set (TR_set (TR_set (TR_set hr h h3 h23 0 v0) (blk_set h 0 v0) h3 h23 1 v1) (blk_set (blk_set h 0 v0) 1 v1) h3 h23 2 v2) (blk_set (blk_set (blk_set h 0 v0) 1 v1) 2 v2) h3 h23 3 v3) (blk_set (blk_set (blk_set (blk_set h 0 v0) 1 v1) 2 v2) 3 v3) h3 h23 4 v4
end
/-- A row abides what another row of other elements, or of another block, does. -/
theorem R_other {α : Type} {d : Kd α} {e base : Nat} {W w1 : World} {v : Value} {xs : List α} (h : d.R e W base (fun _ => True) v xs) (hE : d.E = []) {row : Option Nat} (hg : W.grownBy w1 row) (hne : row ≠ v.ownBlock ∨ row = none) : d.R e w1 base (fun _ => True) v xs := by
  rcases hne with hne | rfl
  · exact Kd.R_grown1 h hE hg hne
  · exact Kd.R_grown h hg (fun k _ e => by cases e)
theorem type_ne {α β : Type} {d : Kd α} {d' : Kd β} {e e' base base' : Nat} {ok ok' : Nat → Prop} {W : World} {v u : Value} {xs : List α} {ys : List β} (h : d.R e W base ok v xs) (h' : d'.R e' W base' ok' u ys) (he : e ≠ e') : v.ownBlock ≠ u.ownBlock ∨ v.ownBlock = none := by
  cases hv : v.ownBlock with
  | none => exact .inr rfl
  | some k =>
    refine .inl fun hu => ?_
    obtain ⟨cs, h1⟩ := Kd.R_typed h k hv
    obtain ⟨cs', h2⟩ := Kd.R_typed h' k hu.symm
    rw [h1] at h2
    cases h2
    exact he rfl
/-- A row of one whole number, just made. -/
theorem R_one {k : IntKind} {e base : Nat} {W : World} {x : Int} (hb : base ≤ W.heap.size) : Kd.R (Kd.int k) e (W.alloc (.cells #[.int k x] e)) base (fun _ => True) (.slice (some ⟨W.heap.size, 0, none⟩) 1 1) [x] := by
  refine ⟨fun _ _ => trivial, [.int k x], ?_, ?_⟩
  · have h2 := World.ownsRow_lit (base := base) (e := e) (size := 1) W #[.int k x] 1 hb (by simp [maxLen]) (by simp)
    have e1 : (Kd.int k).sz = 1 := rfl
    rw [e1]
    simpa using h2
  · exact (Reps.none _ 1).snoc (p := x) (c := [.int k x]) rfl rfl
/-- A number stored into the second list. -/
theorem TR_put_l {gl : Nat} (h : TR w B Ao co o (some ⟨gl, 0, none⟩) cl l Af cf f) (hn : 0 < l.length) (i : Int) (x : Int) : TR (w.setCell ⟨gl, i.toNat, none⟩ (.int .i64 x)) B Ao co o (some ⟨gl, 0, none⟩) cl (l.set i.toNat x) Af cf f := by
  have hl := (Kd.R_putg (enc := Value.int .i64) (h1 := fun _ => rfl) h.1.2.1 i x)
  have e1 : (l.set i.toNat x).length = l.length := List.length_set
  have hob : (Value.slice (some ⟨gl, 0, none⟩) l.length cl).ownBlock = some gl := by simp [Value.ownBlock]
  refine ⟨⟨?_, by rw [e1]; exact hl.1, ?_⟩, by rw [e1]; exact h.2⟩
  · refine R_other h.1.1 rfl hl.2 (.inl fun e => ?_)
    exact h.2 gl e.symm hob
  · refine R_other h.1.2.2 rfl hl.2 ?_
    rw [← hob]
    exact type_ne h.1.2.1 h.1.2.2 (by decide)
theorem TR_blk_l {gl t g : Nat} {cs : Array Value} (h : TR w B Ao co o (some ⟨gl, 0, none⟩) cl l Af cf f) (hn : 0 < l.length) (hb : w.heap[g]? = some (.cells cs t (0, 0))) (h3 : 3 ≠ t) : g ≠ gl := fun e => by
  have hob : (Value.slice (some ⟨gl, 0, none⟩) l.length cl).ownBlock = some gl := by simp [Value.ownBlock]
  obtain ⟨cs', h2⟩ := Kd.R_typed h.1.2.1 gl hob
  rw [e, h2] at hb
  cases hb
  exact h3 rfl
theorem TR_base_l {gl : Nat} (h : TR w B Ao co o (some ⟨gl, 0, none⟩) cl l Af cf f) : B ≤ gl := Kd.R_base h.1.2.1 gl (by simp [Value.ownBlock])
theorem last_is (g s : Int) (o l f : List Int) (h : o.length ≤ 1000) : table_Table_last.f g s o l f = some ((o.length : Int) - 1) := by
  unfold table_Table_last.f
  exact congrArg some (by unfold wrap64; omega)
end Go.Proofs.Ytbefoehjlgdcgaa.H
