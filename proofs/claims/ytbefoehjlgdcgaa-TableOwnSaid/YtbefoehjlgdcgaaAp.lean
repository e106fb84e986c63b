/-
What a table in memory is behind an append at one of its lists.
-/
import Derived.Test.YtbefoehjlgdcgaaTd
import Derived.Test.YtbefoehjlgdcgaaCol
namespace Go.Proofs.Ytbefoehjlgdcgaa.H
open Go.RowKit Go.Shelf Go.Proofs.YtbefoehjlgdcgaaW.PrintWords Go.Proofs.YtbefoehjlgdcgaaW.PrintLast Go.Proofs.YtbefoehjlgdcgaaW.PrintMore
variable {w w' : World} {B : Nat} {Ao Al Af : Option Addr} {co cl cf : Nat} {o l f : List Int} {v : Value}
theorem TR_own {row : Option Nat} (h : TR w B Ao co o Al cl l Af cf f) (hg : w.grownBy w' row) (hr : ∀ r, row = some r → ∃ o : Obj, w.heap[r]? = some o ∧ o.isCells = false) : TR w' B Ao co o Al cl l Af cf f :=
  ⟨⟨R_own' h.1.1 hg hr, R_own' h.1.2.1 hg hr, R_own' h.1.2.2 hg hr⟩, h.2⟩
theorem app_lt {α : Type} {d : Kd α} {e base k : Nat} {ok : Nat → Prop} {u : Value} {xs : List α} (h : d.R e w base ok u xs) (hk : u.ownBlock = some k) : k < w.heap.size := by
  obtain ⟨cs, hc⟩ := Kd.R_typed h k hk
  exact blk_lt hc
theorem app_o {x : Int} (h : TR w B Ao co o Al cl l Af cf f) (hr : Kd.R (Kd.int .i64) 3 w' B (fun _ => True) v (o ++ [x])) (hg : w.grownBy w' (Value.slice Ao o.length co).ownBlock) (hat : v.ownBlock = (Value.slice Ao o.length co).ownBlock ∨ ∃ b, v.ownBlock = some b ∧ w.heap.size ≤ b) :
    ∃ A c, v = .slice A (o ++ [x]).length c ∧ TR w' B A c (o ++ [x]) Al cl l Af cf f := by
  obtain ⟨A, c, e⟩ := Kd.R_slice hr
  subst e
  refine ⟨A, c, rfl, ⟨hr, ?_, ?_⟩, ?_⟩
  · refine R_other h.1.2.1 rfl hg ?_
    cases hk : (Value.slice Ao o.length co).ownBlock with
    | none => exact .inr rfl
    | some k => exact .inl (fun e => h.2 k hk e.symm)
  · exact R_other h.1.2.2 rfl hg (type_ne h.1.1 h.1.2.2 (by decide))
  · intro k hk hl
    rcases hat with e | ⟨b, e, hb⟩
    · exact h.2 k (e ▸ hk) hl
    · have := app_lt h.1.2.1 hl
      rw [e] at hk
      cases hk
      omega
theorem app_l {x : Int} (h : TR w B Ao co o Al cl l Af cf f) (hr : Kd.R (Kd.int .i64) 3 w' B (fun _ => True) v (l ++ [x])) (hg : w.grownBy w' (Value.slice Al l.length cl).ownBlock) (hat : v.ownBlock = (Value.slice Al l.length cl).ownBlock ∨ ∃ b, v.ownBlock = some b ∧ w.heap.size ≤ b) :
    ∃ A c, v = .slice A (l ++ [x]).length c ∧ TR w' B Ao co o A c (l ++ [x]) Af cf f := by
  obtain ⟨A, c, e⟩ := Kd.R_slice hr
  subst e
  refine ⟨A, c, rfl, ⟨?_, hr, ?_⟩, ?_⟩
  · refine R_other h.1.1 rfl hg ?_
    cases hk : (Value.slice Al l.length cl).ownBlock with
    | none => exact .inr rfl
    | some k => exact .inl (fun e => h.2 k e.symm hk)
  · exact R_other h.1.2.2 rfl hg (type_ne h.1.2.1 h.1.2.2 (by decide))
  · intro k hk hl
    rcases hat with e | ⟨b, e, hb⟩
    · exact h.2 k hk (e ▸ hl)
    · have := app_lt h.1.1 hk
      rw [e] at hl
      cases hl
      omega
theorem app_f {x : Int} (h : TR w B Ao co o Al cl l Af cf f) (hr : Kd.R (Kd.int .u64) 23 w' B (fun _ => True) v (f ++ [x])) (hg : w.grownBy w' (Value.slice Af f.length cf).ownBlock) :
    ∃ A c, v = .slice A (f ++ [x]).length c ∧ TR w' B Ao co o Al cl l A c (f ++ [x]) := by
  obtain ⟨A, c, e⟩ := Kd.R_slice hr
  subst e
  exact ⟨A, c, rfl, ⟨R_other h.1.1 rfl hg (type_ne h.1.2.2 h.1.1 (by decide)), R_other h.1.2.1 rfl hg (type_ne h.1.2.2 h.1.2.1 (by decide)), hr⟩, h.2⟩
/-- A row of one number, as it is read. -/
theorem one_C {k : IntKind} {e g base : Nat} {ok : Nat → Prop} {x : Int} (h : Kd.R (Kd.int k) e w base ok (.slice (some ⟨g, 0, none⟩) 1 1) [x]) : Kd.C (Kd.int k) w (some ⟨g, 0, none⟩) 1 [x] := (Kd.R_reads' h).2.2
theorem one_ne {W : World} {k : IntKind} {e : Nat} {base : Nat} {ok : Nat → Prop} {u : Value} {xs : List Int} (h : Kd.R (Kd.int k) e W base ok u xs) : u.ownBlock ≠ some W.heap.size := fun e => by
  have := app_lt h e
  omega
theorem one_row {W W' : World} {g : Nat} {k : IntKind} {x : Int} {e base : Nat} {u : Value} (h : Kd.R (Kd.int k) e W base (fun _ => True) (.slice (some ⟨g, 0, none⟩) 1 1) [x]) (hn : u.ownBlock ≠ some g) (hg : W.grownBy W' u.ownBlock) : Kd.R (Kd.int k) e W' base (fun _ => True) (.slice (some ⟨g, 0, none⟩) 1 1) [x] :=
  R_other h rfl hg (.inl (by rw [own_is]; exact hn))
theorem one_type {α : Type} {d : Kd α} {W W' : World} {g : Nat} {k : IntKind} {x : Int} {e e' base base' : Nat} {ok' : Nat → Prop} {u : Value} {xs : List α} (h : Kd.R (Kd.int k) e W base (fun _ => True) (.slice (some ⟨g, 0, none⟩) 1 1) [x]) (hu : d.R e' W base' ok' u xs) (he : e' ≠ e) (hg : W.grownBy W' u.ownBlock) : Kd.R (Kd.int k) e W' base (fun _ => True) (.slice (some ⟨g, 0, none⟩) 1 1) [x] :=
  R_other h rfl hg (type_ne hu h he)
theorem keeps_row {α : Type} {d : Kd α} {W0 W W' : World} {e base : Nat} {ok : Nat → Prop} {u : Value} {xs : List α} (hk : KeepsOthers W0 W) (hu : d.R e W base ok u xs) (hg : W.grownBy W' u.ownBlock) : KeepsOthers W0 W' :=
  hk.trans (KeepsOthers.of_grownBy hg (R_cells hu))
theorem run_loadVar_one {P : Program} (w : World) (a : Addr) (t : TypeId) (v : Value) (hagg : (isAgg t).run P w = .ok false w) (hc : w.cell? a = some v) : (loadVar t a).run P w = .ok v w := by
  unfold loadVar
  rw [Sem.run_bind, hagg]
  simp [hc]
theorem results_cs {P : Program} {fn : Func} {p p' : Tmp} {ty ty' : TypeId} (h : fn.results = #[.cell p ty, .cell p' ty']) (tmps : Array Value) (w : World) (g g' : Nat) (t : TypeId) (cs : Array Value) (fr : Nat × Nat) (d : TypeDesc) (v : Value)
    (hp : tmps.getD p undef = .pointer (some ⟨g, 0, none⟩)) (hg : w.heap[g]? = some (.cells cs t fr))
    (hu : P.underlying ty = some d) (hd : (match d with | .struct _ | .array _ _ => true | _ => false) = true) (hi : (P.info? ty).map (·.size) = some cs.size)
    (hp' : tmps.getD p' undef = .pointer (some ⟨g', 0, none⟩)) (hagg : ∀ w, (isAgg ty').run P w = .ok false w) (hc : w.cell? ⟨g', 0, none⟩ = some v) :
    (results fn tmps).run P w = .ok (.tuple #[.agg cs, v]) w := by
  have h1 : tmps[p]?.getD undef = .pointer (some ⟨g, 0, none⟩) := by simpa using hp
  have h2 : tmps[p']?.getD undef = .pointer (some ⟨g', 0, none⟩) := by simpa using hp'
  simp [results, h, h1, h2, asAddr, run_loadVar_row w g t ty cs fr d hg hu hd hi, run_loadVar_one w _ ty' v (hagg w) hc]
theorem keeps_def {W W6 : World} {D : Nat} (h : KeepsOthers W W6) (hK : W.heap[D]? = some (.deferred (some []))) : W6.heap[D]? = some (.deferred (some [])) := h.same D _ hK rfl
theorem def_row {W : World} {D : Nat} (hK : W.heap[D]? = some (.deferred (some []))) : ∀ r, some D = some r → ∃ o : Obj, W.heap[r]? = some o ∧ o.isCells = false := fun r e => by
  cases e
  exact ⟨_, hK, rfl⟩
section
variable {W W0 : World} {g : Nat} {v0 v1 v2 v3 v4 : Value}
theorem keeps5 (hW : W = ((((w.setCell ⟨g, 0, none⟩ v0).setCell ⟨g, 1, none⟩ v1).setCell ⟨g, 2, none⟩ v2).setCell ⟨g, 3, none⟩ v3).setCell ⟨g, 4, none⟩ v4) (h : KeepsOthers W0 w) : KeepsOthers W0 W := by
  rw [hW]
  exact ((((h.trans (KeepsOthers.setCell _ _ _)).trans (KeepsOthers.setCell _ _ _)).trans (KeepsOthers.setCell _ _ _)).trans (KeepsOthers.setCell _ _ _)).trans (KeepsOthers.setCell _ _ _)
end
end Go.Proofs.Ytbefoehjlgdcgaa.H
