/-
Arguments of laws, opened: from the reading of a datum (DataW.trod) to the words of the printed contracts (Kd.K, Kd.C), for whole numbers, structs, arrays and slices of these, at any depth. No law of the program stands here.
-/
import Derived.Test.YtbefoehjlgdcgaaMo
import Derived.Deep.Slices
import Derived.OpenShut
import Derived.SizedLaws
namespace Go.Proofs.Ytbefoehjlgdcgaa.Op
open Go.ChangeShapes Go.WideShapes Go.Deep Go.Proofs.YtbefoehjlgdcgaaW.PrintWords Go.Proofs.YtbefoehjlgdcgaaW.PrintLast Go.Proofs.YtbefoehjlgdcgaaW.PrintMore
/-- Whatever reads at this type is told by the kind d, and G holds of it. -/
def Opens {α : Type} (P : Program) (t : TypeId) (d : Kd α) (G : α → Prop) : Prop :=
  ∀ {H : Type} {enc : TypeId × Value → H} {W : World} {fuel : Nat} {cs : List Value} {y : DataW H × List MemPlace}, DataW.trod enc P W 0 (fun _ => true) true fuel t cs = some y → ∃ x : α, d.K W x cs ∧ G x
theorem opens_int {P : Program} {t : TypeId} {k : IntKind} (ht : P.underlying t = some (.int k)) : Opens P t (Kd.int k) (fun x => (Lit.int k x).wf = true) := fun h => by
  obtain ⟨n, rfl, _, hw⟩ := DataW.trod_int ht h
  exact ⟨n, rfl, hw⟩
theorem opens_slice {α : Type} [Inhabited α] {P : Program} {t e : TypeId} {d : Kd α} {G : α → Prop} (ht : P.underlying t = some (.slice e)) (hc : P.cellsOf e = d.sz) (he : Opens P e d G) :
    Opens P t (Kd.slice e d) (fun l => ∀ p ∈ l, G p) := fun {H enc W fuel cs y} h => by
  rcases open_slice ht h with ⟨rfl, _⟩ | ⟨a, len, cap, m, n, D, Pl, rfl, _, hl, hm, hmm, _, hx⟩
  · exact ⟨[], ⟨none, 0, rfl, Nat.le_refl _, Kd.C_nil _ _⟩, fun p hp => by cases hp⟩
  · have hm' : m = cap := by simpa using hmm
    subst hm'
    obtain ⟨f, hf⟩ := choose_lt (α := α) (n := len) (p := fun i x => ∃ cs', d.K W x cs' ∧ G x ∧ ∀ j u, cs'[j]? = some u → W.cell? (a.add (i * d.sz + j)) = some u) (fun i hi => by
      obtain ⟨cs', h1, h2⟩ := hx i (by omega)
      obtain ⟨x, hK, hG⟩ := he h2
      obtain ⟨_, hlen, hcell⟩ := World.cells?_some h1
      refine ⟨x, cs', hK, hG, fun j u hu => ?_⟩
      have hj : j < cs'.length := (List.getElem?_eq_some_iff.1 hu).1
      rw [hc] at hcell hlen
      rw [← Go.Deep.add_add, hcell j (by omega), hu])
    refine ⟨(List.range len).map f, ⟨some a, m, by simp, by simpa using hl, by simp, by simp; simp only [maxLen] at hm; omega, fun _ => ⟨a, rfl, fun j p hj => ?_⟩⟩, fun p hp => ?_⟩
    · have hjl : j < len := by have := (List.getElem?_eq_some_iff.1 hj).1; simpa using this
      have hp : f j = p := by simpa [hjl] using hj
      subst hp
      obtain ⟨cs', hK, _, hcell⟩ := hf j hjl
      exact ⟨cs', d.K_len hK, hK, hcell⟩
    · obtain ⟨i, hi, rfl⟩ := List.mem_map.1 hp
      obtain ⟨cs', _, hG, _⟩ := hf i (List.mem_range.1 hi)
      exact hG
/-- The cells of some types, one behind the other. -/
def offs (P : Program) (ts : List TypeId) (i : Nat) : Nat := ((ts.take i).map fun t => P.cellsOf t).sum
def OpensSeq {α : Type} (P : Program) (ts : List TypeId) (d : Kd α) (G : α → Prop) : Prop :=
  ∀ {H : Type} {enc : TypeId × Value → H} {W : World} {fuel : Nat} {cs : List Value}, cs.length = d.sz →
    (∀ i t, ts[i]? = some t → ∃ y, DataW.trod enc P W 0 (fun _ => true) true fuel t ((cs.drop (offs P ts i)).take (P.cellsOf t)) = some y) → ∃ x : α, d.K W x cs ∧ G x
theorem opens_one {α : Type} {P : Program} {t : TypeId} {d : Kd α} {G : α → Prop} (hc : P.cellsOf t = d.sz) (h : Opens P t d G) : OpensSeq P [t] d G := fun hl hx => by
  obtain ⟨y, hy⟩ := hx 0 t rfl
  have e : offs P [t] 0 = 0 := rfl
  rw [e, List.drop_zero, hc, ← hl, List.take_length] at hy
  exact h hy
theorem opens_pair {α β : Type} {P : Program} {t : TypeId} {ts : List TypeId} {a : Kd α} {b : Kd β} {G : α → Prop} {G' : β → Prop} (hc : P.cellsOf t = a.sz) (h : Opens P t a G) (h' : OpensSeq P ts b G') :
    OpensSeq P (t :: ts) (Kd.pair a b) (fun x => G x.1 ∧ G' x.2) := fun {H enc W fuel cs} hl hx => by
  have hl' : cs.length = a.sz + b.sz := hl
  obtain ⟨y, hy⟩ := hx 0 t rfl
  have e : offs P (t :: ts) 0 = 0 := rfl
  rw [e, List.drop_zero, hc] at hy
  obtain ⟨x, hK, hG⟩ := h hy
  obtain ⟨x', hK', hG'⟩ := h' (cs := cs.drop a.sz) (by simp; omega) (fun i t' hi => by
    obtain ⟨y, hy⟩ := hx (i + 1) t' (by simpa using hi)
    refine ⟨y, ?_⟩
    rw [List.drop_drop]
    have e : offs P (t :: ts) (i + 1) = a.sz + offs P ts i := by simp [offs, hc]
    rw [e] at hy
    exact hy)
  exact ⟨(x, x'), ⟨cs.take a.sz, cs.drop a.sz, (List.take_append_drop _ _).symm, hK, hK'⟩, hG, hG'⟩
theorem opens_struct {α β : Type} {P : Program} {t : TypeId} {fs : Array Field} {d : Kd α} {G : α → Prop} {f : β → α} (g : α → β) (hfg : ∀ y, f (g y) = y) (ht : P.underlying t = some (.struct fs)) (ts : List TypeId)
    (hts : (fs.toList.map fun f => f.type) = ts) (hoff : (List.range fs.size).all (fun i => match fs[i]? with | some f => f.offset == offs P ts i | none => false) = true) (hc : P.cellsOf t = d.sz) (h : OpensSeq P ts d G) :
    Opens P t (Kd.iso d f) (fun x => G (f x)) := fun {H enc W fuel cs y} hy => by
  obtain ⟨xs, n, _, _, hl, hlen, hg⟩ := DataW.trod_struct ht hy
  obtain ⟨x, hK, hG⟩ := h (cs := cs) (hl.trans hc) (fun i t' hi => by
    subst hts
    obtain ⟨fl, hfl, rfl⟩ : ∃ fl, fs[i]? = some fl ∧ fl.type = t' := by simpa using hi
    have hil : i < fs.size := (Array.getElem?_eq_some_iff.1 hfl).1
    have ho := List.all_eq_true.1 hoff i (List.mem_range.2 hil)
    rw [hfl] at ho
    simp only [beq_iff_eq] at ho
    have := hg i fl hfl
    rw [ho] at this
    exact ⟨xs[i]'(by omega), this.trans (List.getElem?_eq_getElem (by omega))⟩)
  exact ⟨g x, show d.K W (f (g x)) cs by rw [hfg]; exact hK, show G (f (g x)) by rw [hfg]; exact hG⟩
/-- A struct or an array that is handed over, opened. -/
theorem open_arg_agg {α : Type} {P : Program} {t : TypeId} {d : Kd α} {G : α → Prop} {H : Type} {enc : TypeId × Value → H} {W : World} {cs : Array Value} {D : DataW H} {ps : List MemPlace} (ho : Opens P t d G)
    (h : DataW.Trod enc P W 0 (fun _ => true) true t (.agg cs) D ps) : ∃ x : α, d.K W x cs.toList ∧ G x := by
  obtain ⟨fuel, hf⟩ := h
  exact ho hf
end Go.Proofs.Ytbefoehjlgdcgaa.Op
