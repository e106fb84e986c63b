/-
slices.AppendSeq and slices.Collect over a table's free segments; table.Free.
-/
import Derived.Test.YtbefoehjlgdcgaaIt
namespace Go.Proofs.Ytbefoehjlgdcgaa.H
open Go.RowKit Go.Shelf Go.Proofs.YtbefoehjlgdcgaaW.PrintWords Go.Proofs.YtbefoehjlgdcgaaW.PrintLast Go.Proofs.YtbefoehjlgdcgaaW.PrintMore Go.Proofs.Ytbefoehjlgdcgaa.Rf
attribute [local go_sem] Oper.semAt_some
set_option linter.unusedVariables false
set_option linter.unusedSimpArgs false
theorem blk_own {W W' : World} {row : Option Nat} {g t : Nat} {cs : Array Value} (h : W.heap[g]? = some (.cells cs t (0, 0))) (hg : W.grownBy W' row) (hr : ∀ r, row = some r → ∃ o : Obj, W.heap[r]? = some o ∧ o.isCells = false) : W'.heap[g]? = some (.cells cs t (0, 0)) :=
  (grownBy_keeps_cells hg hr h rfl).trans h
theorem R_own' {α : Type} {d : Kd α} {e base : Nat} {W W' : World} {row : Option Nat} {v : Value} {xs : List α} (h : d.R e W base (fun _ => True) v xs) (hg : W.grownBy W' row) (hr : ∀ r, row = some r → ∃ o : Obj, W.heap[r]? = some o ∧ o.isCells = false) : d.R e W' base (fun _ => True) v xs :=
  Kd.R_mono (Kd.R_step (Kd.R_bound h) (fun k hk _ => by
    obtain ⟨_, _, _, q, _, cs, hc⟩ := hk
    exact grownBy_keeps_cells hg hr hc rfl)) (fun _ _ => trivial)
theorem R_cells {α : Type} {d : Kd α} {e base : Nat} {W : World} {ok : Nat → Prop} {v : Value} {xs : List α} (h : d.R e W base ok v xs) : ∀ (j : Nat) (o : Obj), v.ownBlock = some j → W.heap[j]? = some o → o.isCells = true := fun j o hj ho => by
  obtain ⟨cs, hc⟩ := Kd.R_typed h j hj
  rw [hc] at ho
  cases ho
  rfl
theorem region_inQ {P : Program} {l0 nn id : Nat} {os : List Oper} {a : Act} {w : World} {Q : Exit → Act → World → Prop} (hd : os.all noDefer = true) (h : wpList P os.toArray (QN (fun a w => Q .normal a w)) os a w) : (Code.region id os.toArray false).wpIn (Fence.wide.inRound l0) nn P Q a w :=
  wpIn_mono (region_in (Q := fun _ _ _ => False) hd h) (fun e a w q => by cases e <;> first | exact q | exact False.elim q)
set_option maxRecDepth 100000 in
set_option maxHeartbeats 4000000 in
theorem appendSeq_in (w : World) (Bt : Nat) (g s : Int) (Ao : Option Addr) (co : Nat) (o : List Int) (v3 v4 : Value) (hbx : w.heap[Bt]? = some (.cells #[.int .i64 g, .int .i64 s, .slice Ao o.length co, v3, v4] 28 (0, 0)))
    (hC : Kd.C (Kd.int .i64) w Ao o.length o) (hc : o.length ≤ co) (hg0 : 0 ≤ g) (hg16 : g ≤ 16) (ho : o.length ≤ 20) :
    Calls Try.prog 47 #[.slice none 0 0, .func (.func 48) #[] #[.pointer (some ⟨Bt, 0, none⟩)]] w fun e w' => ∃ v : Value, e = .returned v ∧ Kd.R (Kd.int .i64) 3 w' w.heap.size (fun _ => True) v (frk g.toNat o) ∧ Below w.heap.size w w' := by
  have hseq := free_stops (5 - 1) w Bt g s Ao co o v3 v4 hbx hC hc hg0 hg16 ho
  have HSEQ := Aside0.mk hseq
  have HG : Aside0 (g.toNat ≤ 16) := ⟨by omega⟩
  clear hbx hC hc hg0 hg16 ho hseq
  refine (callsIn_wide (n := 5)).1 ?_
  refine callsIn_of_wp_marks Try.func47 rfl trivial ?_ rfl
  simp only [Try.ntmps47, List.size_toArray, List.length_cons, List.length_nil, Nat.reduceAdd, Nat.reduceSub, Array.replicate_succ, Array.replicate_zero, List.push_toArray, List.append_toArray, List.nil_append, List.cons_append]
  gi_wp2
  obtain ⟨W1, hW1⟩ : ∃ W1, W1 = w.alloc (.cells #[.slice none 0 0] 25) := ⟨_, rfl⟩
  rw [← hW1]
  obtain ⟨Bs, hBs⟩ : ∃ b, b = w.heap.size := ⟨_, rfl⟩
  rw [← hBs]
  have HX : Aside0 (W1.heap[Bs]? = some (.cells #[.slice none 0 0] 25 (0, 0))) := ⟨by rw [hW1, hBs]; exact blk_new _ _⟩
  have HB : Aside0 (Below w.heap.size w W1) := ⟨by rw [hW1]; exact below_alloc (Below.refl _ _) _⟩
  have HBS : Aside0 (w.heap.size ≤ Bs) := ⟨Nat.le_of_eq hBs.symm⟩
  clear hW1 hBs
  refine wpIn_rangeFunc_ownF rfl (by decide) (gf := 48) (lb := #[.pointer (some ⟨Bt, 0, none⟩)]) rfl trivial (enters_of Try.func48 (by kernel_rfl) rfl) HSEQ.out belowK_t (belowK_b (below_size HB.out)) HB.out (fun _ => rfl)
    (fun pre W => (∃ v, W.heap[Bs]? = some (.cells #[v] 25 (0, 0)) ∧ Kd.R (Kd.int .i64) 3 W w.heap.size (fun _ => True) v pre) ∧ Below w.heap.size w W)
    (fun _ _ _ => False)
    (OwnFrom.and (Own.from (fun s A B row hs hg hr => ?own) _) (ownFrom_below (Nat.le_refl _) (below_size HB.out)))
    (fun _ _ _ _ _ hs _ _ => hs)
    ⟨⟨_, HX.out, Kd.R_nil _ _ _ _ _⟩, HB.out⟩
    (fun x => { tmps := #[.slice none 0 0, .func (.func 48) #[] #[.pointer (some ⟨Bt, 0, none⟩)], .pointer (some ⟨Bs, 0, none⟩), undef, .slice none 0 0, .int .i64 x, .func (.func 48) #[] #[.pointer (some ⟨Bt, 0, none⟩)], .int .i64 x, undef, undef, undef, undef, undef], defers := [] }) ?assign ?body ?done ?stop
  case own =>
    obtain ⟨v, hv, hR⟩ := hs
    exact ⟨v, blk_own hv hg hr, R_own' hR hg hr⟩
  case assign =>
    intro l x W K hK
    gi_wp2
    exact hK
  case body =>
    rintro l pre x W ⟨⟨v, hv, hR⟩, hB⟩ hlen
    have HV := Aside0.mk hR
    have HXB := Aside0.mk hv
    have HBW := Aside0.mk hB
    have HLN := Aside0.mk hlen
    have z0 : W.cell? ⟨Bs, 0, none⟩ = some v := (blk_cell hv 0).trans rfl
    clear hR hB hlen hv HX HB
    refine wpIn_block ?_
    refine region_inQ (by kernel_rfl) ?_
    go_wp2_with ((with_reducible refine gate_builtin (b := .append) (xs := #[.tmp 8, .tmp 10]) rfl ?_); at_builtin; refine Kd.R_append (Kd.int .i64) (w0 := w) w.heap.size rfl (.tmp 8) (.tmp 10) 25 3 (.int .i64 0) 8 rfl Try.underlying25 info3 rfl (by decide) (by omega) v pre x [.int .i64 x] (fun _ => True) (fun _ => False) rfl (by first | (go_simp; done) | (go_simp; rfl)) ?aP (fun _ hk => hk.elim) ?aF ?aO ?aB ?aS ?aL ?_; (case aP => exact rfl); (case aB => exact HBW.out); (case aF => exact (fun _ _ => trivial)); (case aO => exact HV.out); (case aS => exact below_size HBW.out); (case aL => have := HLN.out; omega); intro v2 w2 ho hb hg hat; have q1 := Aside0.mk ho; have q2 := Aside0.mk (blk_grown HXB.out hg (Kd.R_ne HV.out HXB.out (by decide))); have q3 := Aside0.mk hb; have q4 : Aside0 (KeepsOthers W w2) := ⟨KeepsOthers.of_grownBy hg (R_cells HV.out)⟩; have q5 : Aside0 (Below w.heap.size W w2) := ⟨(Below.refl _ _).grown hg (below_size HBW.out) (fun k hk => Kd.R_base HV.out k hk)⟩; clear ho hb hg hat z0; obtain ⟨A2, c2, e2⟩ := Kd.R_slice q1.out; rw [List.length_append, List.length_singleton] at e2; subst e2; have z0 : w2.cell? ⟨Bs, 0, none⟩ = some v := (blk_cell q2.out 0).trans rfl; have zf := blk_frozen q2.out 0)
    exact ⟨KeepsOthers.trans q4.out (KeepsOthers.setCell _ _ _), q5.out.setCell HBS.out _, ⟨_, blk_set q2.out 0 _, Kd.R_set q1.out q2.out (by decide) 0 _⟩, below_set q3.out HBS.out⟩
  case done =>
    rintro D ys W hD rfl ⟨⟨v, hv, hR⟩, hB⟩ hK
    have z0 : W.cell? ⟨Bs, 0, none⟩ = some v := (blk_cell hv 0).trans rfl
    have HV := Aside0.mk hR
    have HBW := Aside0.mk hB
    have HK := Aside0.mk hK
    have HD := Aside0.mk hD
    clear hR hB hv hK hD
    gi_wp2
    refine ⟨by simp, .inl ⟨_, _, rfl, run_takeDeferred HK.out, ?_⟩⟩
    exact ⟨_, results_tmp rfl _ _ _, v, rfl, R_own' HV.out (grownBy_putObj' W D (.deferred none)) (fun r e => by cases e; exact ⟨_, HK.out, rfl⟩), HBW.out.trans (belowK_b (w := W1) (below_size HB.out) W D _ _ HD.out HK.out rfl rfl)⟩
  case stop =>
    rintro D c pre W _ _ h _
    exact h.elim
set_option maxHeartbeats 2000000 in
theorem collect_in (w : World) (Bt : Nat) (g s : Int) (Ao : Option Addr) (co : Nat) (o : List Int) (v3 v4 : Value) (hbx : w.heap[Bt]? = some (.cells #[.int .i64 g, .int .i64 s, .slice Ao o.length co, v3, v4] 28 (0, 0)))
    (hC : Kd.C (Kd.int .i64) w Ao o.length o) (hc : o.length ≤ co) (hg0 : 0 ≤ g) (hg16 : g ≤ 16) (ho : o.length ≤ 20) :
    Calls Try.prog 39 #[.func (.func 48) #[] #[.pointer (some ⟨Bt, 0, none⟩)]] w fun e w' => ∃ v : Value, e = .returned v ∧ Kd.R (Kd.int .i64) 3 w' w.heap.size (fun _ => True) v (frk g.toNat o) ∧ Below w.heap.size w w' := by
  have H := Aside0.mk (appendSeq_in w Bt g s Ao co o v3 v4 hbx hC hc hg0 hg16 ho)
  clear hbx hC hc hg0 hg16 ho
  go_enter Try.func39, Try.ntmps39
  go_wp2_with fail
  refine H.out.mono ?_
  rintro e w1 ⟨v, rfl, hR, hB⟩
  have HR := Aside0.mk hR
  have HB := Aside0.mk hB
  clear hR hB
  go_wp2
  go_ret
  exact ⟨v, rfl, HR.out, HB.out⟩
set_option maxHeartbeats 2000000 in
theorem Free_calls (g s : Int) (Ao : Option Addr) (co : Nat) (o : List Int) (v3 v4 : Value) (w : World) (hC : Kd.C (Kd.int .i64) w Ao o.length o) (hc : o.length ≤ co) (hg0 : 0 ≤ g) (hg16 : g ≤ 16) (ho : o.length ≤ 20) :
    Calls Try.prog 17 #[.agg #[.int .i64 g, .int .i64 s, .slice Ao o.length co, v3, v4]] w fun e w' => ∃ v : Value, e = .returned v ∧ Kd.R (Kd.int .i64) 3 w' w.heap.size (fun _ => True) v (frk g.toNat o) ∧ Below w.heap.size w w' := by
  have HC := Aside0.mk hC
  have Hc := Aside0.mk hc
  have HG := Aside0.mk (And.intro hg0 hg16)
  have HO := Aside0.mk ho
  clear hC hc hg0 hg16 ho
  go_enter Try.func17, Try.ntmps17
  go_wp2_with fail
  refine (free_calls g s (.slice Ao o.length co) v3 v4 _).mono ?_
  rintro e w2 ⟨rfl, hw2⟩
  obtain ⟨W1, hW1⟩ : ∃ W1, W1 = w.alloc (.cells #[.int .i64 g, .int .i64 s, .slice Ao o.length co, v3, v4] 28) := ⟨_, rfl⟩
  rw [← hW1] at hw2 ⊢
  have HB1 : Aside0 (Below w.heap.size w W1) := ⟨by rw [hW1]; exact below_alloc (Below.refl _ _) _⟩
  obtain ⟨Bt, hBt⟩ : ∃ b, b = W1.heap.size := ⟨_, rfl⟩
  rw [← hBt]
  have HX : Aside0 (w2.heap[Bt]? = some (.cells #[.int .i64 g, .int .i64 s, .slice Ao o.length co, v3, v4] 28 (0, 0))) := ⟨by rw [hw2, hBt]; exact blk_new _ _⟩
  have HB2 : Aside0 (Below w.heap.size w w2) := ⟨by rw [hw2]; exact below_alloc HB1.out _⟩
  clear hw2 hW1 hBt HB1
  go_wp2_with fail
  refine (collect_in w2 Bt g s Ao co o v3 v4 HX.out (Kd.C_below HC.out HB2.out) Hc.out HG.out.1 HG.out.2 HO.out).mono ?_
  rintro e w3 ⟨v, rfl, hR, hB⟩
  have HR := Aside0.mk (Kd.R_lower hR (below_size HB2.out))
  have HB := Aside0.mk (below_step HB2.out hB)
  clear hR hB
  go_wp2
  go_ret
  exact ⟨v, rfl, HR.out, HB.out⟩
end Go.Proofs.Ytbefoehjlgdcgaa.H
