/-
What a table in memory is behind slices.Delete at one of its lists.
-/
import Derived.Test.YtbefoehjlgdcgaaDel
namespace Go.Proofs.Ytbefoehjlgdcgaa.H
open Go.RowKit Go.Proofs.YtbefoehjlgdcgaaW.PrintWords Go.Proofs.YtbefoehjlgdcgaaW.PrintLast Go.Proofs.YtbefoehjlgdcgaaW.PrintMore
variable {w w' : World} {B g1 g2 g3 : Nat} {Ao Al Af : Option Addr} {co cl cf : Nat} {o l f : List Int}
theorem own_is (g n c : Nat) : (Value.slice (some ⟨g, 0, none⟩) n c).ownBlock = some g := by simp [Value.ownBlock]
theorem TR_o (h : TR w B Ao co o Al cl l Af cf f) : Kd.R (Kd.int .i64) 3 w B (fun _ => True) (.slice Ao o.length co) o := h.1.1
theorem TR_l (h : TR w B Ao co o Al cl l Af cf f) : Kd.R (Kd.int .i64) 3 w B (fun _ => True) (.slice Al l.length cl) l := h.1.2.1
theorem TR_f (h : TR w B Ao co o Al cl l Af cf f) : Kd.R (Kd.int .u64) 23 w B (fun _ => True) (.slice Af f.length cf) f := h.1.2.2
theorem del_len {o : List Int} {p : Int} (h0 : 0 ≤ p) (h : p < o.length) : (o.eraseIdx p.toNat).length = o.length - 1 := by rw [List.length_eraseIdx, if_pos (by omega)]
theorem tr_del_o {p : Int} (h : TR w B (some ⟨g1, 0, none⟩) co o Al cl l Af cf f) (h0 : 0 ≤ p) (hp : p < o.length) (hr : Kd.R (Kd.int .i64) 3 w' B (fun _ => True) (.slice (some ⟨g1, 0, none⟩) (o.length - 1) co) (o.eraseIdx p.toNat)) (hg : w.grownBy w' (some g1)) : TR w' B (some ⟨g1, 0, none⟩) co (o.eraseIdx p.toNat) Al cl l Af cf f := by
  have e1 := del_len h0 hp
  refine ⟨⟨by rw [e1]; exact hr, ?_, ?_⟩, ?_⟩
  · exact R_other h.1.2.1 rfl hg (.inl fun e => h.2 g1 (own_is ..) e.symm)
  · refine R_other h.1.2.2 rfl hg ?_
    have := type_ne h.1.1 h.1.2.2 (by decide)
    rwa [own_is] at this
  · intro k hk
    rw [own_is] at hk
    exact h.2 k (by rw [own_is]; exact hk)
theorem tr_del_l {p : Int} (h : TR w B Ao co o (some ⟨g2, 0, none⟩) cl l Af cf f) (h0 : 0 ≤ p) (hp : p < l.length) (hr : Kd.R (Kd.int .i64) 3 w' B (fun _ => True) (.slice (some ⟨g2, 0, none⟩) (l.length - 1) cl) (l.eraseIdx p.toNat)) (hg : w.grownBy w' (some g2)) : TR w' B Ao co o (some ⟨g2, 0, none⟩) cl (l.eraseIdx p.toNat) Af cf f := by
  have e1 := del_len h0 hp
  refine ⟨⟨?_, by rw [e1]; exact hr, ?_⟩, ?_⟩
  · exact R_other h.1.1 rfl hg (.inl fun e => h.2 g2 e.symm (own_is ..))
  · refine R_other h.1.2.2 rfl hg ?_
    have := type_ne h.1.2.1 h.1.2.2 (by decide)
    rwa [own_is] at this
  · intro k hk
    rw [own_is]
    have := h.2 k hk
    rwa [own_is] at this
theorem tr_del_f {p : Int} (h : TR w B Ao co o Al cl l (some ⟨g3, 0, none⟩) cf f) (h0 : 0 ≤ p) (hp : p < f.length) (hr : Kd.R (Kd.int .u64) 23 w' B (fun _ => True) (.slice (some ⟨g3, 0, none⟩) (f.length - 1) cf) (f.eraseIdx p.toNat)) (hg : w.grownBy w' (some g3)) : TR w' B Ao co o Al cl l (some ⟨g3, 0, none⟩) cf (f.eraseIdx p.toNat) := by
  have e1 := del_len h0 hp
  refine ⟨⟨?_, ?_, by rw [e1]; exact hr⟩, h.2⟩
  · refine R_other h.1.1 rfl hg ?_
    have := type_ne h.1.2.2 h.1.1 (by decide)
    rwa [own_is] at this
  · refine R_other h.1.2.1 rfl hg ?_
    have := type_ne h.1.2.2 h.1.2.1 (by decide)
    rwa [own_is] at this
/-- The boxes of a call abide it. -/
theorem del_box {e k t n c : Nat} {W W' : World} {ki : IntKind} {ok : Nat → Prop} {cs : Array Value} {ys : List Int} (h : Kd.R (Kd.int ki) e W B ok (.slice (some ⟨g1, 0, none⟩) n c) ys) (hb : W.heap[k]? = some (.cells cs t (0, 0))) (ht : e ≠ t) (hg : W.grownBy W' (some g1)) : W'.heap[k]? = some (.cells cs t (0, 0)) :=
  blk_grown hb hg (by have := Kd.R_ne h hb ht; rwa [own_is] at this)
theorem del_below {e n c : Nat} {W W' : World} {ki : IntKind} {ok : Nat → Prop} {ys : List Int} (h : Kd.R (Kd.int ki) e W w.heap.size ok (.slice (some ⟨g1, 0, none⟩) n c) ys) (hb : Below w.heap.size w W) (hg : W.grownBy W' (some g1)) : Below w.heap.size w W' :=
  pw_below_grown hb (some g1) (below_size hb) hg (fun k hk => by cases hk; exact Kd.R_base h _ (own_is ..))
end Go.Proofs.Ytbefoehjlgdcgaa.H
