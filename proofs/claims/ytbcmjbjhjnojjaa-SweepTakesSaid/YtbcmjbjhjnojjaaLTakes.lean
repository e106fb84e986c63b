/-
The walk of SweepTakes, and the plain laws behind it.
-/
import Derived.Test.YtbcmjbjhjnojjaaHx
import Derived.Test.YtbcmjbjhjnojjaaSw
namespace Go.Proofs.Ytbcmjbjhjnojjaa.H
open Go.RowKit Go.Proofs.YtbcmjbjhjnojjaaW.PrintWords Go.Proofs.YtbcmjbjhjnojjaaW.PrintLast Go.Proofs.YtbcmjbjhjnojjaaW.PrintMore
attribute [local go_sem] max2_int min2_int max_two min_two max_three min_three max_four min_four
set_option linter.unusedVariables false
set_option linter.unusedSimpArgs false
theorem filt_step (l : List Int) (seg x : Int) (h0 : 0 ≤ x) (h1 : x < l.length) : (l.take (x + 1).toNat).filter (· != seg) = if rd l x = seg then (l.take x.toNat).filter (· != seg) else (l.take x.toNat).filter (· != seg) ++ [rd l x] := by
  have e : (x + 1).toNat = x.toNat + 1 := by omega
  have e2 : rd l x = l[x.toNat]'(by omega) := by simp [rd, List.getD_eq_getElem?_getD, List.getElem?_eq_getElem (show x.toNat < l.length by omega)]
  rw [e, List.take_succ_eq_append_getElem (by omega), List.filter_append, ← e2]
  by_cases h : rd l x = seg
  · rw [if_pos h]
    simp [h]
  · rw [if_neg h]
    simp [h]
theorem filt_len (l : List Int) (seg : Int) (m : Nat) : ((l.take m).filter (· != seg)).length ≤ l.length := by
  have h1 := List.length_filter_le (· != seg) (l.take m)
  rw [List.length_take] at h1
  omega
theorem filt_same (l : List Int) (seg : Int) (h : ¬ seg ∈ l) : l.filter (· != seg) = l := List.filter_eq_self.2 fun z hz => by
  simp only [bne_iff_ne, ne_eq]
  exact fun e => h (e ▸ hz)
theorem filt_short (l : List Int) (seg : Int) (h : seg ∈ l) : (l.filter (· != seg)).length < l.length := by
  have h1 := List.length_filter_le (· != seg) l
  rcases Nat.lt_or_ge (l.filter (· != seg)).length l.length with h2 | h2
  · exact h2
  · have h3 := List.length_filter_eq_length_iff.1 (Nat.le_antisymm h1 h2)
    have := h3 seg h
    simp at this
theorem take_ok {l : List Int} {v s n seg nn : Int} (hr : rt l v s n = true) (h : v = -1 ∧ seg ∈ l ∧ 0 ≤ nn ∧ nn ≤ 30) : sweep_Take.f 61 l v s n seg nn = some (l.filter (· != seg), seg, 0, nn, 0) := by
  have h16 := rt_few hr
  obtain ⟨p, hp, hh⟩ := index_is l seg (by omega) 61 (by omega)
  rcases hh with ⟨_, hno⟩ | ⟨j, rfl, hj, e, _⟩
  · exact absurd h.2.1 hno
  · simp only [sweep_Take.f, hp, Option.bind_some]
    rw [if_pos ⟨h.1, by omega, h.2.2.1, h.2.2.2⟩, if_pos ⟨by omega, by omega⟩, Int.toNat_natCast, erase_filter (rt_nodup hr) hj, e]
theorem take_no {l : List Int} {v s n seg nn : Int} (h20 : l.length ≤ 20) (h : ¬ (v = -1 ∧ seg ∈ l ∧ 0 ≤ nn ∧ nn ≤ 30)) : sweep_Take.f 61 l v s n seg nn = some ([], 0, 0, 0, 1) := by
  obtain ⟨p, hp, hh⟩ := index_is l seg (by omega) 61 (by omega)
  simp only [sweep_Take.f, hp, Option.bind_some]
  rw [if_neg]
  rintro ⟨h1, h2, h3, h4⟩
  rcases hh with ⟨rfl, hno⟩ | ⟨j, rfl, hj, e, _⟩
  · omega
  · exact h ⟨h1, e ▸ getD_mem hj, h3, h4⟩
theorem seen_ok (r : List Int) (seg y nn : Int) (hs : 0 ≤ seg ∧ seg ≤ 15) (h0 : 0 ≤ y) (h1 : y < nn) (h2 : nn ≤ 30) (hr : r.length ≤ 20) : sweep_Seen.f 61 r seg y nn = some (r, seg, y + 1, nn, 0) := by
  have hw : wrap64 (y + 1) = y + 1 := by unfold wrap64; omega
  simp only [sweep_Seen.f, sweep_Next.f, sweep_Next.j0, sweep_own.f]
  rw [if_neg (by omega), if_pos (decide_eq_true h1)]
  simp only [Option.bind_some]
  rw [if_pos trivial, if_pos (by omega)]
  simp only [Option.bind_some, hw]
theorem given_ok (r : List Int) (seg y nn : Int) (hs : 0 ≤ seg ∧ seg ≤ 15) (h1 : ¬ y < nn) (hr : r.length ≤ 20) : sweep_Given.f 61 r seg y nn = some (r, -1, 0, 0, 0) := by
  simp only [sweep_Given.f, sweep_Next.f, sweep_Next.j0, sweep_own.f]
  rw [if_neg (by omega), decide_eq_false h1, if_neg (by decide), if_neg (by omega)]
  simp only [Option.bind_some]
  rw [if_pos trivial, if_pos (by omega)]
  rfl
theorem need_is (r : List Int) (seg y nn : Int) (hs : 0 ≤ seg ∧ seg ≤ 15) (h0 : 0 ≤ y) (h1 : y < nn) (h2 : nn ≤ 30) : sweep_Need.f r seg (y + 1) nn 30 = some (nn - y - 1) := by
  have hw : wrap64 (nn - (y + 1)) = nn - y - 1 := by unfold wrap64; omega
  simp only [sweep_Need.f]
  rw [if_neg (by omega), hw]
set_option maxHeartbeats 8000000 in
set_option maxRecDepth 100000 in
theorem SweepTakes_walk0 (A0 : Option Addr) (c0 : Nat) (l0 : List Int) (v s n seg nn : Int) (w : World) (hC : Kd.C (Kd.int .i64) w A0 l0.length l0) (hc : l0.length ≤ c0) :
    Calls Try.prog 7 #[.agg #[.slice A0 l0.length c0, .int .i64 v, .int .i64 s, .int .i64 n], .int .i64 seg, .int .i64 nn] w fun e w' => e = .returned (.bool true) ∧ Below w.heap.size w w' := by
  obtain ⟨l, hl⟩ : ∃ l, l = l0.take 20 := ⟨_, rfl⟩
  have hl20 : l.length ≤ 20 := by rw [hl, List.length_take]; omega
  have HCl : Aside0 (Kd.C (Kd.int .i64) w A0 l.length l) := ⟨by rw [hl, List.take_eq_take_min]; exact Kd.C_take hC (by omega)⟩
  have Hcl : Aside0 (l.length ≤ c0) := ⟨by rw [hl, List.length_take]; omega⟩
  have H20 := Aside0.mk hl20
  have HC0 := Aside0.mk hc
  have HLL := Aside0.mk hl
  clear hC hc hl20 hl
  go_enter Try.func7, Try.ntmps7
  go_upto_region 1 with fail
  obtain ⟨W1, hW1⟩ : ∃ W1, W1 = w.alloc (.cells #[.slice A0 l0.length c0, .int .i64 v, .int .i64 s, .int .i64 n] 25) := ⟨_, rfl⟩
  rw [← hW1]
  obtain ⟨gs, hgs⟩ : ∃ g, g = w.heap.size := ⟨_, rfl⟩
  have HXs : Aside0 (W1.heap[gs]? = some (.cells #[.slice A0 l0.length c0, .int .i64 v, .int .i64 s, .int .i64 n] 25 (0, 0))) := ⟨by rw [hW1, hgs]; exact blk_new _ _⟩
  have HB : Aside0 (Below w.heap.size w W1) := ⟨by rw [hW1]; exact below_alloc (Below.refl _ _) _⟩
  have HGS : Aside0 (w.heap.size ≤ gs) := ⟨Nat.le_of_eq hgs.symm⟩
  rw [← hgs]
  clear hW1 hgs
  have s_0 : W1.cell? ⟨gs, 0, none⟩ = some (.slice A0 l0.length c0) := (blk_cell HXs.out 0).trans rfl
  have s_1 : W1.cell? ⟨gs, 1, none⟩ = some (.int .i64 (v)) := (blk_cell HXs.out 1).trans rfl
  have s_2 : W1.cell? ⟨gs, 2, none⟩ = some (.int .i64 (s)) := (blk_cell HXs.out 2).trans rfl
  have s_3 : W1.cell? ⟨gs, 3, none⟩ = some (.int .i64 (n)) := (blk_cell HXs.out 3).trans rfl
  go_wp2_with fail
  clear s_0 s_1 s_2 s_3
  refine (lodgerlaw15_Cut.calls A0 c0 l0 v s n _ HC0.out).mono ?_
  rintro e w2 ⟨rfl, hb⟩
  rw [← HLL.out]
  have q_ := Aside0.mk (blk_below HXs.out hb)
  clear HXs
  have HXs := q_
  clear q_
  have q_ := Aside0.mk (below_step HB.out hb)
  clear HB
  have HB := q_
  clear q_
  clear hb
  have sf_0 := blk_frozen HXs.out 0
  have sf_1 := blk_frozen HXs.out 1
  have sf_2 := blk_frozen HXs.out 2
  have sf_3 := blk_frozen HXs.out 3
  have s_0 : w2.cell? ⟨gs, 0, none⟩ = some (.slice A0 l0.length c0) := (blk_cell HXs.out 0).trans rfl
  have s_1 : w2.cell? ⟨gs, 1, none⟩ = some (.int .i64 (v)) := (blk_cell HXs.out 1).trans rfl
  have s_2 : w2.cell? ⟨gs, 2, none⟩ = some (.int .i64 (s)) := (blk_cell HXs.out 2).trans rfl
  have s_3 : w2.cell? ⟨gs, 3, none⟩ = some (.int .i64 (n)) := (blk_cell HXs.out 3).trans rfl
  go_upto_region 2 with fail
  clear s_0 s_1 s_2 s_3 sf_0 sf_1 sf_2 sf_3
  obtain ⟨W3, hW⟩ : ∃ W_, W_ = ((((w2.setCell ⟨gs, 0, none⟩ (.slice A0 l.length c0)).setCell ⟨gs, 1, none⟩ (.int .i64 (v))).setCell ⟨gs, 2, none⟩ (.int .i64 (s))).setCell ⟨gs, 3, none⟩ (.int .i64 (n))) := ⟨_, rfl⟩
  rw [← hW]
  have q1 := (blk_set (blk_set (blk_set (blk_set HXs.out 0 (.slice A0 l.length c0)) 1 (.int .i64 (v))) 2 (.int .i64 (s))) 3 (.int .i64 (n)))
  simp only [List.setIfInBounds_toArray, List.set_cons_zero, List.set_cons_succ] at q1
  have q2 := (below_set (g := gs) (j := 3) (v := .int .i64 (n)) (below_set (g := gs) (j := 2) (v := .int .i64 (s)) (below_set (g := gs) (j := 1) (v := .int .i64 (v)) (below_set (g := gs) (j := 0) (v := .slice A0 l.length c0) HB.out HGS.out) HGS.out) HGS.out) HGS.out)
  rw [← hW] at q1 q2
  clear hW HXs HB
  have HXs := Aside0.mk q1
  have HB := Aside0.mk q2
  clear q1 q2
  have s_0 : W3.cell? ⟨gs, 0, none⟩ = some (.slice A0 l.length c0) := (blk_cell HXs.out 0).trans rfl
  have s_1 : W3.cell? ⟨gs, 1, none⟩ = some (.int .i64 (v)) := (blk_cell HXs.out 1).trans rfl
  have s_2 : W3.cell? ⟨gs, 2, none⟩ = some (.int .i64 (s)) := (blk_cell HXs.out 2).trans rfl
  have s_3 : W3.cell? ⟨gs, 3, none⟩ = some (.int .i64 (n)) := (blk_cell HXs.out 3).trans rfl
  go_wp2_with fail
  clear s_0 s_1 s_2 s_3
  refine (lodgerlaw15_Ref.calls A0 c0 l v s n _).mono ?_
  rintro e w4 ⟨rfl, hb⟩
  have q_ := Aside0.mk (blk_below HXs.out hb)
  clear HXs
  have HXs := q_
  clear q_
  have q_ := Aside0.mk (below_step HB.out hb)
  clear HB
  have HB := q_
  clear q_
  clear hb
  go_wp2_with fail
  obtain ⟨b, hb⟩ : ∃ b, rt l v s n = b := ⟨_, rfl⟩
  have HRT := Aside0.mk hb
  refine (lodgerref15_Right.calls 61 A0 c0 l v s n b _ (Kd.C_below HCl.out HB.out) Hcl.out ((ref_right_is l v s n H20.out 61 (by omega)).trans (congrArg some HRT.out))).mono ?_
  clear hb
  rintro e w5 ⟨rfl, hb⟩
  have q_ := Aside0.mk (blk_below HXs.out hb)
  clear HXs
  have HXs := q_
  clear q_
  have q_ := Aside0.mk (below_step HB.out hb)
  clear HB
  have HB := q_
  clear q_
  clear hb
  cases b
  · have s_0 : w5.cell? ⟨gs, 0, none⟩ = some (.slice A0 l.length c0) := (blk_cell HXs.out 0).trans rfl
    have s_1 : w5.cell? ⟨gs, 1, none⟩ = some (.int .i64 (v)) := (blk_cell HXs.out 1).trans rfl
    have s_2 : w5.cell? ⟨gs, 2, none⟩ = some (.int .i64 (s)) := (blk_cell HXs.out 2).trans rfl
    have s_3 : w5.cell? ⟨gs, 3, none⟩ = some (.int .i64 (n)) := (blk_cell HXs.out 3).trans rfl
    go_wp2_with fail
    clear s_0 s_1 s_2 s_3
    refine (sweep_Right.calls 61 A0 c0 l v s n false _ (Kd.C_below HCl.out HB.out) Hcl.out ((right_is l v s n H20.out 61 (by omega)).trans (congrArg some HRT.out))).mono ?_
    rintro e w6 ⟨rfl, hb⟩
    have q_ := Aside0.mk (below_step HB.out hb)
    clear HB
    have HB := q_
    clear q_
    clear hb
    go_wp2_with fail
    refine (lodgerlaw15_fixed.calls _).mono ?_
    rintro e wf ⟨rfl, hb⟩
    go_wp2
    go_ret
    exact ⟨rfl, below_step HB.out hb⟩
  · go_wp2_with ((with_reducible refine gate_dst (N := 28) rfl ?_); refine Kd.R_lit (Kd.int .i64) _ 3 ?hg (N := 28) ?hd (xs := ([] : List Int)) (inner := []) (ok := fun _ => True) (okp := fun _ => True) ?hr ?hp (fun _ hk => hk) trivial (Below.refl _ _) (Nat.le_refl _) (by simp) ?_; (case hd => rfl); (case hg => rfl); (case hr => first | (go_simp; done) | (go_simp; rfl)); (case hp => exact (Reps.none _ _)); intro vr w6 ho hb hg_ hnew_; clear hg_ hnew_; have HV : Aside0 (Kd.R (Kd.int .i64) 3 w6 w.heap.size (fun k => k ≠ gs) vr ((l.take (0 : Int).toNat).filter (· != seg))) := ⟨Kd.R_mono (Kd.R_far1 (Kd.R_lower ho (below_size HB.out)) rfl (g := gs) (by have h1 := Kd.R_base ho; have h2 := blk_lt HXs.out; intro e; have := h1 _ e.symm; omega)) (fun _ hk => hk.2)⟩; have q2 := Aside0.mk (blk_below HXs.out hb); have q3 := Aside0.mk (below_step HB.out hb); clear HB HXs ho hb; have HXs := q2; have HB := q3; clear q2 q3)
    go_loopw [7, 8] (fun v7 v8 w' => ∃ x : Int, Aside0 (0 ≤ x ∧ x ≤ l.length) ∧ v8 = .int .i64 x ∧ Aside0 (Kd.R (Kd.int .i64) 3 w' w.heap.size (fun k => k ≠ gs) v7 ((l.take x.toNat).filter (· != seg))) ∧ Aside0 (w'.heap[gs]? = some (.cells #[.slice A0 l.length c0, .int .i64 (v), .int .i64 (s), .int .i64 (n)] 25 (0, 0))) ∧ Aside0 (Below w.heap.size w w')) (fun _ v8 _ => l.length - (intOf v8).toNat)
    case atStart => exact ⟨0, ⟨by omega, by omega⟩, rfl, HV, HXs, HB⟩
    case round =>
      clear HV HXs HB
      obtain ⟨x, hx, rfl, HV, HXs, HB⟩ := hrel
      have hx64 : x + 1 ≤ 9223372036854775807 := by have := hx.out; have := H20.out; omega
      have hx0 := hx.out.1
      have s_0 : wr.cell? ⟨gs, 0, none⟩ = some (.slice A0 l.length c0) := (blk_cell HXs.out 0).trans rfl
      by_cases hxl : x < (l.length : Int)
      · have HLT := Aside0.mk hxl
        have hxl2 := decide_eq_true hxl
        obtain ⟨ad, e1, hz⟩ := Kd.at_int (Kd.C_below HCl.out HB.out) x hx0 hxl
        have hf1 := filt_step l seg x hx0 hxl
        obtain ⟨z, hzz⟩ : ∃ z, z = rd l x := ⟨_, rfl⟩
        rw [← hzz] at hz hf1
        clear hzz
        cases e1
        have hx0t := eq_true hx0
        have hxlt := eq_true hxl
        clear hxl
        by_cases hne : z = seg
        · have hq := beq_iff_eq.mpr hne
          have hq2 : (z != seg) = false := bne_eq_false_iff_eq.mpr hne
          rw [if_pos hne] at hf1
          have HF := Aside0.mk hf1
          clear hne hf1
          go_wp2_with fail
          clear hx0t hxlt
          go_roundw
          case rel => exact ⟨x + 1, ⟨by have := hx.out; have := HLT.out; omega⟩, rfl, ⟨by rw [HF.out]; exact HV.out⟩, HXs, HB⟩
          case measure => have := hx.out; have := HLT.out; simp [intOf]; omega
        · have hq2 : (z != seg) = true := bne_iff_ne.mpr hne
          rw [if_neg hne] at hf1
          have HF := Aside0.mk hf1
          clear hne hf1
          go_wp2_with ((with_reducible refine gate_builtin (b := .append) (xs := #[.tmp 43, .tmp 49]) rfl ?_); at_builtin; refine Kd.R_append (Kd.int .i64) (w0 := w) w.heap.size rfl (.tmp 43) (.tmp 49) 23 3 (.int .i64 0) 8 rfl Try.underlying23 info3 rfl (by decide) (by omega) u7 ((l.take x.toNat).filter (· != seg)) z [.int .i64 z] (fun k => k ≠ gs) (fun _ => False) rfl (by first | (go_simp; done) | (go_simp; rfl)) ?aP (fun _ hk => hk.elim) ?aF ?aO ?aB ?aS ?aL ?_; (case aP => exact rfl); (case aB => exact HB.out); (case aF => exact (fun k_ hk => Kd.freshB HXs.out k_ hk)); (case aO => exact HV.out); (case aS => exact below_size HB.out); (case aL => have := H20.out; have := filt_len l seg x.toNat; omega); intro v7b w7 ho hb hg hat; rw [← HF.out] at ho; have q1 := Aside0.mk ho; have q2 := Aside0.mk (blk_grown HXs.out hg (Kd.R_away HV.out (fun _ hk => hk))); have q3 := Aside0.mk hb; clear HV HXs HB ho hb hg hat; have HV := q1; have HXs := q2; have HB := q3; clear q1 q2 q3)
          clear hx0t hxlt
          go_roundw
          case rel => exact ⟨x + 1, ⟨by have := hx.out; have := HLT.out; omega⟩, rfl, HV, HXs, HB⟩
          case measure => have := hx.out; have := HLT.out; simp [intOf]; omega
      · rename World => wB
        have hxl2 := decide_eq_false hxl
        obtain ⟨r, hr⟩ : ∃ r, r = l.filter (· != seg) := ⟨_, rfl⟩
        have e7 : (l.take x.toNat).filter (· != seg) = r := by rw [hr, List.take_of_length_le (by omega)]
        rw [e7] at HV
        clear e7 hxl
        obtain ⟨Ar, cr, rfl, hcr, hCr⟩ := Kd.R_reads HV.out
        have HCr := Aside0.mk hCr
        have Hcr := Aside0.mk hcr
        have HR := Aside0.mk hr
        have HRL : Aside0 (r.length ≤ 20) := ⟨by rw [hr]; have := List.length_filter_le (· != seg) l; have := H20.out; omega⟩
        have HB0 := HB
        have HCw := Aside0.mk (Kd.C_below HCl.out HB.out)
        clear hCr hcr hr HV HB
        have HB : Aside0 (Below wB.heap.size wB wB) := ⟨Below.refl _ _⟩
        have t_0 : wB.cell? ⟨gs, 0, none⟩ = some (.slice A0 l.length c0) := (blk_cell HXs.out 0).trans rfl
        have t_1 : wB.cell? ⟨gs, 1, none⟩ = some (.int .i64 (v)) := (blk_cell HXs.out 1).trans rfl
        have t_2 : wB.cell? ⟨gs, 2, none⟩ = some (.int .i64 (s)) := (blk_cell HXs.out 2).trans rfl
        have t_3 : wB.cell? ⟨gs, 3, none⟩ = some (.int .i64 (n)) := (blk_cell HXs.out 3).trans rfl
        clear s_0
        go_wp2_with fail
        clear t_0 t_1 t_2 t_3
        by_cases hok : v = -1 ∧ seg ∈ l ∧ 0 ≤ nn ∧ nn ≤ 30
        · have HTK : Aside0 (sweep_Take.f 61 l v s n seg nn = some (r, seg, 0, nn, 0)) := ⟨by rw [HR.out]; exact take_ok HRT.out hok⟩
          have hseg := rt_seg HRT.out hok.2.1
          have hshort : r.length < l.length := by rw [HR.out]; exact filt_short l seg hok.2.1
          have HSEG := Aside0.mk hseg
          have HN := Aside0.mk hok.2.2
          obtain ⟨rfl, -, hn0, hn1⟩ := hok
          refine (sweep_Take.calls 61 A0 c0 l (-1) s n seg nn r seg 0 nn 0 _ (Kd.C_below HCw.out HB.out) Hcl.out HTK.out).mono ?_
          rintro e wa ⟨v0, rfl, hv, hb⟩
          obtain ⟨Agt, cgt, hv0, _, _⟩ := Kd.R_reads hv
          have hv1 : v0 = .slice Agt r.length cgt := hv0
          subst hv1
          clear hv0
          have HV := Aside0.mk (Kd.R_lower hv (below_size HB.out))
          have q_ := Aside0.mk (below_step HB.out hb)
          clear HB
          have HB := q_
          clear q_
          have q_ := Aside0.mk (blk_below HXs.out hb)
          clear HXs
          have HXs := q_
          clear q_
          clear hv hb
          go_upto_region 11 with ((with_reducible refine gate_dst (N := 9) rfl ?_); refine box_event ?hg (N := 9) ?hd (cs := #[.slice none 0 0, .int .i64 0, .int .i64 0, .int .i64 0]) (t := 25) ?hr ?_; (case hd => rfl); (case hg => rfl); (case hr => first | (go_simp; done) | (go_simp; rfl)); intro gt hgo wb hbox hbb; have HBO := Aside0.mk hbox; have HBB := Aside0.mk hbb; have HGO := Aside0.mk hgo; have y0 : wb.cell? ⟨gt, 0, none⟩ = some (.slice none 0 0) := (blk_cell hbox 0).trans rfl; have y1 : wb.cell? ⟨gt, 1, none⟩ = some (.int .i64 0) := (blk_cell hbox 1).trans rfl; have y2 : wb.cell? ⟨gt, 2, none⟩ = some (.int .i64 0) := (blk_cell hbox 2).trans rfl; have y3 : wb.cell? ⟨gt, 3, none⟩ = some (.int .i64 0) := (blk_cell hbox 3).trans rfl; have yf0 := blk_frozen hbox 0; have yf1 := blk_frozen hbox 1; have yf2 := blk_frozen hbox 2; have yf3 := blk_frozen hbox 3; clear hbox hbb hgo)
          clear y0 y1 y2 y3 yf0 yf1 yf2 yf3
          obtain ⟨W4, hW⟩ : ∃ W_, W_ = ((((wb.setCell ⟨gt, 0, none⟩ (.slice Agt r.length cgt)).setCell ⟨gt, 1, none⟩ (.int .i64 (seg))).setCell ⟨gt, 2, none⟩ (.int .i64 (0))).setCell ⟨gt, 3, none⟩ (.int .i64 (nn))) := ⟨_, rfl⟩
          rw [← hW]
          have q1 := (blk_set (blk_set (blk_set (blk_set HBO.out 0 (.slice Agt r.length cgt)) 1 (.int .i64 (seg))) 2 (.int .i64 (0))) 3 (.int .i64 (nn)))
          simp only [List.setIfInBounds_toArray, List.set_cons_zero, List.set_cons_succ] at q1
          have q2 := (Kd.R_set (Kd.R_set (Kd.R_set (Kd.R_set (Kd.R_below HV.out HBB.out) HBO.out (by decide) 0 (.slice Agt r.length cgt)) (blk_set HBO.out 0 (.slice Agt r.length cgt)) (by decide) 1 (.int .i64 (seg))) (blk_set (blk_set HBO.out 0 (.slice Agt r.length cgt)) 1 (.int .i64 (seg))) (by decide) 2 (.int .i64 (0))) (blk_set (blk_set (blk_set HBO.out 0 (.slice Agt r.length cgt)) 1 (.int .i64 (seg))) 2 (.int .i64 (0))) (by decide) 3 (.int .i64 (nn)))
          have q3 := (below_set (g := gt) (j := 3) (v := .int .i64 (nn)) (below_set (g := gt) (j := 2) (v := .int .i64 (0)) (below_set (g := gt) (j := 1) (v := .int .i64 (seg)) (below_set (g := gt) (j := 0) (v := .slice Agt r.length cgt) (below_step HB.out HBB.out) (by rw [HGO.out]; exact below_size HB.out)) (by rw [HGO.out]; exact below_size HB.out)) (by rw [HGO.out]; exact below_size HB.out)) (by rw [HGO.out]; exact below_size HB.out))
          have q4HXs := (blk_far (blk_far (blk_far (blk_far (blk_below HXs.out HBB.out) (p := ⟨gt, 0, none⟩) (by rw [HGO.out]; exact Nat.ne_of_lt (blk_lt HXs.out)) (.slice Agt r.length cgt)) (p := ⟨gt, 1, none⟩) (by rw [HGO.out]; exact Nat.ne_of_lt (blk_lt HXs.out)) (.int .i64 (seg))) (p := ⟨gt, 2, none⟩) (by rw [HGO.out]; exact Nat.ne_of_lt (blk_lt HXs.out)) (.int .i64 (0))) (p := ⟨gt, 3, none⟩) (by rw [HGO.out]; exact Nat.ne_of_lt (blk_lt HXs.out)) (.int .i64 (nn)))
          rw [← hW] at q1 q2 q3 q4HXs
          have HGE_gt : Aside0 (wB.heap.size ≤ gt) := ⟨by rw [HGO.out]; exact below_size HB.out⟩
          have HNE_s_gt : Aside0 (gs ≠ gt) := ⟨by rw [HGO.out]; exact Nat.ne_of_lt (blk_lt HXs.out)⟩
          clear hW HBO HBB HGO HV HB HXs
          have HXt := Aside0.mk q1
          have HV := Aside0.mk q2
          have HB := Aside0.mk q3
          have HXs := Aside0.mk q4HXs
          clear q1 q2 q3 q4HXs
          have s_0 : W4.cell? ⟨gs, 0, none⟩ = some (.slice A0 l.length c0) := (blk_cell HXs.out 0).trans rfl
          have s_1 : W4.cell? ⟨gs, 1, none⟩ = some (.int .i64 (-1)) := (blk_cell HXs.out 1).trans rfl
          have s_2 : W4.cell? ⟨gs, 2, none⟩ = some (.int .i64 (s)) := (blk_cell HXs.out 2).trans rfl
          have s_3 : W4.cell? ⟨gs, 3, none⟩ = some (.int .i64 (n)) := (blk_cell HXs.out 3).trans rfl
          have hd1 : decide ((r.length : Int) < (l.length : Int)) = true := decide_eq_true (by omega)
          have hd1b : decide (r.length < l.length) = true := decide_eq_true hshort
          have hd2 : decide (0 ≤ nn) = true := decide_eq_true hn0
          have hd3 : decide (nn ≤ 30) = true := decide_eq_true hn1
          clear hshort hn0 hn1 hseg
          have t_0 : W4.cell? ⟨gt, 0, none⟩ = some (.slice Agt r.length cgt) := (blk_cell HXt.out 0).trans rfl
          have t_1 : W4.cell? ⟨gt, 1, none⟩ = some (.int .i64 (seg)) := (blk_cell HXt.out 1).trans rfl
          have t_2 : W4.cell? ⟨gt, 2, none⟩ = some (.int .i64 (0)) := (blk_cell HXt.out 2).trans rfl
          have t_3 : W4.cell? ⟨gt, 3, none⟩ = some (.int .i64 (nn)) := (blk_cell HXt.out 3).trans rfl
          go_wp2_with fail
          clear s_0 s_1 s_2 s_3 t_0 t_1 t_2 t_3
          refine (lodgerref07_Ints.calls 61 Agt cgt r Ar cr r true _ (Kd.R_reads' HV.out).2.2 (Kd.R_reads' HV.out).2.1 (Kd.C_below HCr.out HB.out) Hcr.out (ints_is r HRL.out 61 (by omega))).mono ?_
          rintro e w8 ⟨rfl, hb0⟩
          have hb : Below W4.heap.size W4 w8 := by first | exact hb0 | exact hb0.below
          clear hb0
          have q_ := Aside0.mk (blk_below HXt.out hb)
          clear HXt
          have HXt := q_
          clear q_
          have q_ := Aside0.mk (Kd.R_below HV.out hb)
          clear HV
          have HV := q_
          clear q_
          have q_ := Aside0.mk (below_step HB.out hb)
          clear HB
          have HB := q_
          clear q_
          clear hb HXs
          have t_0 : w8.cell? ⟨gt, 0, none⟩ = some (.slice Agt r.length cgt) := (blk_cell HXt.out 0).trans rfl
          have t_1 : w8.cell? ⟨gt, 1, none⟩ = some (.int .i64 (seg)) := (blk_cell HXt.out 1).trans rfl
          have t_2 : w8.cell? ⟨gt, 2, none⟩ = some (.int .i64 (0)) := (blk_cell HXt.out 2).trans rfl
          have t_3 : w8.cell? ⟨gt, 3, none⟩ = some (.int .i64 (nn)) := (blk_cell HXt.out 3).trans rfl
          go_wp2_with fail
          clear t_0 t_1 t_2 t_3
          clear hd1 hd1b hd2 hd3
          go_loopw [11] (fun v11 w' => ∃ x : Int, Aside0 (0 ≤ x ∧ x ≤ nn) ∧ v11 = .int .i64 x ∧ ∃ At ct, Aside0 (Kd.R (Kd.int .i64) 3 w' wB.heap.size (fun _ => True) (.slice At r.length ct) r) ∧ Aside0 (w'.heap[gt]? = some (.cells #[.slice At r.length ct, .int .i64 (seg), .int .i64 (x), .int .i64 (nn)] 25 (0, 0))) ∧ Aside0 (Below wB.heap.size wB w')) (fun v11 _ => nn.toNat - (intOf v11).toNat)
          case atStart => exact ⟨0, ⟨by have := HN.out; omega⟩, rfl, Agt, cgt, HV, HXt, HB⟩
          case round =>
            clear HV HXt HB
            obtain ⟨y, hy, rfl, At, ct, HV, HXt, HB⟩ := hrel
            have hy64 : y + 1 ≤ 9223372036854775807 := by have := hy.out; have := HN.out; omega
            have hy0 := hy.out.1
            have t_0 : wr.cell? ⟨gt, 0, none⟩ = some (.slice At r.length ct) := (blk_cell HXt.out 0).trans rfl
            have t_1 : wr.cell? ⟨gt, 1, none⟩ = some (.int .i64 (seg)) := (blk_cell HXt.out 1).trans rfl
            have t_2 : wr.cell? ⟨gt, 2, none⟩ = some (.int .i64 (y)) := (blk_cell HXt.out 2).trans rfl
            have t_3 : wr.cell? ⟨gt, 3, none⟩ = some (.int .i64 (nn)) := (blk_cell HXt.out 3).trans rfl
            by_cases hyn : y < nn
            · have HLT := Aside0.mk hyn
              have hyn2 := decide_eq_true hyn
              clear hyn
              go_wp2_with fail
              clear t_0 t_1 t_2 t_3
              refine (sweep_Seen.calls 61 At ct r seg y nn r seg (y + 1) nn 0 _ (Kd.R_reads' HV.out).2.2 (Kd.R_reads' HV.out).2.1 (seen_ok r seg y nn HSEG.out hy.out.1 HLT.out HN.out.2 HRL.out)).mono ?_
              rintro e wc ⟨v0, rfl, hv, hb⟩
              obtain ⟨Agu, cgu, hv0, _, _⟩ := Kd.R_reads hv
              have hv1 : v0 = .slice Agu r.length cgu := hv0
              subst hv1
              clear hv0
              have hv9 := Aside0.mk (Kd.R_lower hv (below_size HB.out))
              clear HV
              have HV := hv9
              clear hv9
              have q_ := Aside0.mk (blk_below HXt.out hb)
              clear HXt
              have HXt := q_
              clear q_
              have q_ := Aside0.mk (below_step HB.out hb)
              clear HB
              have HB := q_
              clear q_
              clear hv hb
              go_upto_region 21 with ((with_reducible refine gate_dst (N := 12) rfl ?_); refine box_event ?hg (N := 12) ?hd (cs := #[.slice none 0 0, .int .i64 0, .int .i64 0, .int .i64 0]) (t := 25) ?hr ?_; (case hd => rfl); (case hg => rfl); (case hr => first | (go_simp; done) | (go_simp; rfl)); intro gu hgo wd hbox hbb; have HBO := Aside0.mk hbox; have HBB := Aside0.mk hbb; have HGO := Aside0.mk hgo; have y0 : wd.cell? ⟨gu, 0, none⟩ = some (.slice none 0 0) := (blk_cell hbox 0).trans rfl; have y1 : wd.cell? ⟨gu, 1, none⟩ = some (.int .i64 0) := (blk_cell hbox 1).trans rfl; have y2 : wd.cell? ⟨gu, 2, none⟩ = some (.int .i64 0) := (blk_cell hbox 2).trans rfl; have y3 : wd.cell? ⟨gu, 3, none⟩ = some (.int .i64 0) := (blk_cell hbox 3).trans rfl; have yf0 := blk_frozen hbox 0; have yf1 := blk_frozen hbox 1; have yf2 := blk_frozen hbox 2; have yf3 := blk_frozen hbox 3; clear hbox hbb hgo)
              clear y0 y1 y2 y3 yf0 yf1 yf2 yf3
              obtain ⟨W5, hW⟩ : ∃ W_, W_ = ((((wd.setCell ⟨gu, 0, none⟩ (.slice Agu r.length cgu)).setCell ⟨gu, 1, none⟩ (.int .i64 (seg))).setCell ⟨gu, 2, none⟩ (.int .i64 (y + 1))).setCell ⟨gu, 3, none⟩ (.int .i64 (nn))) := ⟨_, rfl⟩
              rw [← hW]
              have q1 := (blk_set (blk_set (blk_set (blk_set HBO.out 0 (.slice Agu r.length cgu)) 1 (.int .i64 (seg))) 2 (.int .i64 (y + 1))) 3 (.int .i64 (nn)))
              simp only [List.setIfInBounds_toArray, List.set_cons_zero, List.set_cons_succ] at q1
              have q2 := (Kd.R_set (Kd.R_set (Kd.R_set (Kd.R_set (Kd.R_below HV.out HBB.out) HBO.out (by decide) 0 (.slice Agu r.length cgu)) (blk_set HBO.out 0 (.slice Agu r.length cgu)) (by decide) 1 (.int .i64 (seg))) (blk_set (blk_set HBO.out 0 (.slice Agu r.length cgu)) 1 (.int .i64 (seg))) (by decide) 2 (.int .i64 (y + 1))) (blk_set (blk_set (blk_set HBO.out 0 (.slice Agu r.length cgu)) 1 (.int .i64 (seg))) 2 (.int .i64 (y + 1))) (by decide) 3 (.int .i64 (nn)))
              have q3 := (below_set (g := gu) (j := 3) (v := .int .i64 (nn)) (below_set (g := gu) (j := 2) (v := .int .i64 (y + 1)) (below_set (g := gu) (j := 1) (v := .int .i64 (seg)) (below_set (g := gu) (j := 0) (v := .slice Agu r.length cgu) (below_step HB.out HBB.out) (by rw [HGO.out]; exact below_size HB.out)) (by rw [HGO.out]; exact below_size HB.out)) (by rw [HGO.out]; exact below_size HB.out)) (by rw [HGO.out]; exact below_size HB.out))
              have q4HXt := (blk_far (blk_far (blk_far (blk_far (blk_below HXt.out HBB.out) (p := ⟨gu, 0, none⟩) (by rw [HGO.out]; exact Nat.ne_of_lt (blk_lt HXt.out)) (.slice Agu r.length cgu)) (p := ⟨gu, 1, none⟩) (by rw [HGO.out]; exact Nat.ne_of_lt (blk_lt HXt.out)) (.int .i64 (seg))) (p := ⟨gu, 2, none⟩) (by rw [HGO.out]; exact Nat.ne_of_lt (blk_lt HXt.out)) (.int .i64 (y + 1))) (p := ⟨gu, 3, none⟩) (by rw [HGO.out]; exact Nat.ne_of_lt (blk_lt HXt.out)) (.int .i64 (nn)))
              rw [← hW] at q1 q2 q3 q4HXt
              have HGE_gu : Aside0 (wB.heap.size ≤ gu) := ⟨by rw [HGO.out]; exact below_size HB.out⟩
              have HNE_t_gu : Aside0 (gt ≠ gu) := ⟨by rw [HGO.out]; exact Nat.ne_of_lt (blk_lt HXt.out)⟩
              clear hW HBO HBB HGO HV HB HXt
              have HXu := Aside0.mk q1
              have HV := Aside0.mk q2
              have HB := Aside0.mk q3
              have HXt := Aside0.mk q4HXt
              clear q1 q2 q3 q4HXt
              have u_0 : W5.cell? ⟨gu, 0, none⟩ = some (.slice Agu r.length cgu) := (blk_cell HXu.out 0).trans rfl
              have u_1 : W5.cell? ⟨gu, 1, none⟩ = some (.int .i64 (seg)) := (blk_cell HXu.out 1).trans rfl
              have u_2 : W5.cell? ⟨gu, 2, none⟩ = some (.int .i64 (y + 1)) := (blk_cell HXu.out 2).trans rfl
              have u_3 : W5.cell? ⟨gu, 3, none⟩ = some (.int .i64 (nn)) := (blk_cell HXu.out 3).trans rfl
              have hw1 : wrap64 (nn - y) = nn - y := by have := hy.out; have := HN.out; have := HLT.out; unfold wrap64; omega
              have hw2 : wrap64 (nn - y - 1) = nn - y - 1 := by have := hy.out; have := HN.out; have := HLT.out; unfold wrap64; omega
              go_wp2_with fail
              clear u_0 u_1 u_2 u_3
              refine (sweep_Need.calls Agu cgu r seg (y + 1) nn 30 (nn - y - 1) _ (Kd.R_reads' HV.out).2.2 (Kd.R_reads' HV.out).2.1 (need_is r seg y nn HSEG.out hy.out.1 HLT.out HN.out.2)).mono ?_
              rintro e w9 ⟨rfl, hb⟩
              have q_ := Aside0.mk (blk_below HXt.out hb)
              clear HXt
              have HXt := q_
              clear q_
              have q_ := Aside0.mk (blk_below HXu.out hb)
              clear HXu
              have HXu := q_
              clear q_
              have q_ := Aside0.mk (Kd.R_below HV.out hb)
              clear HV
              have HV := q_
              clear q_
              have q_ := Aside0.mk (below_step HB.out hb)
              clear HB
              have HB := q_
              clear q_
              clear hb
              have u_0 : w9.cell? ⟨gu, 0, none⟩ = some (.slice Agu r.length cgu) := (blk_cell HXu.out 0).trans rfl
              have u_1 : w9.cell? ⟨gu, 1, none⟩ = some (.int .i64 (seg)) := (blk_cell HXu.out 1).trans rfl
              have u_2 : w9.cell? ⟨gu, 2, none⟩ = some (.int .i64 (y + 1)) := (blk_cell HXu.out 2).trans rfl
              have u_3 : w9.cell? ⟨gu, 3, none⟩ = some (.int .i64 (nn)) := (blk_cell HXu.out 3).trans rfl
              have t_0 : w9.cell? ⟨gt, 0, none⟩ = some (.slice At r.length ct) := (blk_cell HXt.out 0).trans rfl
              have t_1 : w9.cell? ⟨gt, 1, none⟩ = some (.int .i64 (seg)) := (blk_cell HXt.out 1).trans rfl
              have t_2 : w9.cell? ⟨gt, 2, none⟩ = some (.int .i64 (y)) := (blk_cell HXt.out 2).trans rfl
              have t_3 : w9.cell? ⟨gt, 3, none⟩ = some (.int .i64 (nn)) := (blk_cell HXt.out 3).trans rfl
              have tf_0 := blk_frozen HXt.out 0
              have tf_1 := blk_frozen HXt.out 1
              have tf_2 := blk_frozen HXt.out 2
              have tf_3 := blk_frozen HXt.out 3
              go_upto_region 19 with fail
              clear u_0 u_1 u_2 u_3 t_0 t_1 t_2 t_3 tf_0 tf_1 tf_2 tf_3
              obtain ⟨W6, hW⟩ : ∃ W_, W_ = ((((w9.setCell ⟨gt, 0, none⟩ (.slice Agu r.length cgu)).setCell ⟨gt, 1, none⟩ (.int .i64 (seg))).setCell ⟨gt, 2, none⟩ (.int .i64 (y + 1))).setCell ⟨gt, 3, none⟩ (.int .i64 (nn))) := ⟨_, rfl⟩
              rw [← hW]
              have q1 := (blk_set (blk_set (blk_set (blk_set HXt.out 0 (.slice Agu r.length cgu)) 1 (.int .i64 (seg))) 2 (.int .i64 (y + 1))) 3 (.int .i64 (nn)))
              simp only [List.setIfInBounds_toArray, List.set_cons_zero, List.set_cons_succ] at q1
              have q2 := (Kd.R_set (Kd.R_set (Kd.R_set (Kd.R_set HV.out HXt.out (by decide) 0 (.slice Agu r.length cgu)) (blk_set HXt.out 0 (.slice Agu r.length cgu)) (by decide) 1 (.int .i64 (seg))) (blk_set (blk_set HXt.out 0 (.slice Agu r.length cgu)) 1 (.int .i64 (seg))) (by decide) 2 (.int .i64 (y + 1))) (blk_set (blk_set (blk_set HXt.out 0 (.slice Agu r.length cgu)) 1 (.int .i64 (seg))) 2 (.int .i64 (y + 1))) (by decide) 3 (.int .i64 (nn)))
              have q3 := (below_set (g := gt) (j := 3) (v := .int .i64 (nn)) (below_set (g := gt) (j := 2) (v := .int .i64 (y + 1)) (below_set (g := gt) (j := 1) (v := .int .i64 (seg)) (below_set (g := gt) (j := 0) (v := .slice Agu r.length cgu) HB.out HGE_gt.out) HGE_gt.out) HGE_gt.out) HGE_gt.out)
              rw [← hW] at q1 q2 q3
              clear hW HXt HV HB HXu
              have HXt := Aside0.mk q1
              have HV := Aside0.mk q2
              have HB := Aside0.mk q3
              clear q1 q2 q3 hw1 hw2
              go_wp2
              go_roundw
              case rel => exact ⟨y + 1, ⟨by have := hy.out; have := HLT.out; omega⟩, rfl, Agu, cgu, HV, HXt, HB⟩
              case measure => have := hy.out; have := HLT.out; simp [intOf]; omega
            · have HGEQ := Aside0.mk hyn
              have hyn2 := decide_eq_false hyn
              clear hyn
              go_wp2_with fail
              clear t_0 t_1 t_2 t_3
              refine (sweep_Given.calls 61 At ct r seg y nn r (-1) 0 0 0 _ (Kd.R_reads' HV.out).2.2 (Kd.R_reads' HV.out).2.1 (given_ok r seg y nn HSEG.out (by have := HGEQ.out; omega) HRL.out)).mono ?_
              rintro e wc ⟨v0, rfl, hv, hb⟩
              obtain ⟨Agk, cgk, hv0, _, _⟩ := Kd.R_reads hv
              have hv1 : v0 = .slice Agk r.length cgk := hv0
              subst hv1
              clear hv0
              have hv9 := Aside0.mk (Kd.R_lower hv (below_size HB.out))
              clear HV HXt
              have HV := hv9
              clear hv9
              have q_ := Aside0.mk (below_step HB.out hb)
              clear HB
              have HB := q_
              clear q_
              clear hv hb
              go_upto_region 25 with ((with_reducible refine gate_dst (N := 14) rfl ?_); refine box_event ?hg (N := 14) ?hd (cs := #[.slice none 0 0, .int .i64 0, .int .i64 0, .int .i64 0]) (t := 25) ?hr ?_; (case hd => rfl); (case hg => rfl); (case hr => first | (go_simp; done) | (go_simp; rfl)); intro gk hgo wd hbox hbb; have HBO := Aside0.mk hbox; have HBB := Aside0.mk hbb; have HGO := Aside0.mk hgo; have y0 : wd.cell? ⟨gk, 0, none⟩ = some (.slice none 0 0) := (blk_cell hbox 0).trans rfl; have y1 : wd.cell? ⟨gk, 1, none⟩ = some (.int .i64 0) := (blk_cell hbox 1).trans rfl; have y2 : wd.cell? ⟨gk, 2, none⟩ = some (.int .i64 0) := (blk_cell hbox 2).trans rfl; have y3 : wd.cell? ⟨gk, 3, none⟩ = some (.int .i64 0) := (blk_cell hbox 3).trans rfl; have yf0 := blk_frozen hbox 0; have yf1 := blk_frozen hbox 1; have yf2 := blk_frozen hbox 2; have yf3 := blk_frozen hbox 3; clear hbox hbb hgo)
              clear y0 y1 y2 y3 yf0 yf1 yf2 yf3
              obtain ⟨W5, hW⟩ : ∃ W_, W_ = ((((wd.setCell ⟨gk, 0, none⟩ (.slice Agk r.length cgk)).setCell ⟨gk, 1, none⟩ (.int .i64 (-1))).setCell ⟨gk, 2, none⟩ (.int .i64 (0))).setCell ⟨gk, 3, none⟩ (.int .i64 (0))) := ⟨_, rfl⟩
              rw [← hW]
              have q1 := (blk_set (blk_set (blk_set (blk_set HBO.out 0 (.slice Agk r.length cgk)) 1 (.int .i64 (-1))) 2 (.int .i64 (0))) 3 (.int .i64 (0)))
              simp only [List.setIfInBounds_toArray, List.set_cons_zero, List.set_cons_succ] at q1
              have q2 := (Kd.R_set (Kd.R_set (Kd.R_set (Kd.R_set (Kd.R_below HV.out HBB.out) HBO.out (by decide) 0 (.slice Agk r.length cgk)) (blk_set HBO.out 0 (.slice Agk r.length cgk)) (by decide) 1 (.int .i64 (-1))) (blk_set (blk_set HBO.out 0 (.slice Agk r.length cgk)) 1 (.int .i64 (-1))) (by decide) 2 (.int .i64 (0))) (blk_set (blk_set (blk_set HBO.out 0 (.slice Agk r.length cgk)) 1 (.int .i64 (-1))) 2 (.int .i64 (0))) (by decide) 3 (.int .i64 (0)))
              have q3 := (below_set (g := gk) (j := 3) (v := .int .i64 (0)) (below_set (g := gk) (j := 2) (v := .int .i64 (0)) (below_set (g := gk) (j := 1) (v := .int .i64 (-1)) (below_set (g := gk) (j := 0) (v := .slice Agk r.length cgk) (below_step HB.out HBB.out) (by rw [HGO.out]; exact below_size HB.out)) (by rw [HGO.out]; exact below_size HB.out)) (by rw [HGO.out]; exact below_size HB.out)) (by rw [HGO.out]; exact below_size HB.out))
              rw [← hW] at q1 q2 q3 
              have HGE_gk : Aside0 (wB.heap.size ≤ gk) := ⟨by rw [HGO.out]; exact below_size HB.out⟩
              clear hW HBO HBB HGO HV HB 
              have HXk := Aside0.mk q1
              have HV := Aside0.mk q2
              have HB := Aside0.mk q3
              clear q1 q2 q3 
              have u_0 : W5.cell? ⟨gk, 0, none⟩ = some (.slice Agk r.length cgk) := (blk_cell HXk.out 0).trans rfl
              have u_1 : W5.cell? ⟨gk, 1, none⟩ = some (.int .i64 (-1)) := (blk_cell HXk.out 1).trans rfl
              have u_2 : W5.cell? ⟨gk, 2, none⟩ = some (.int .i64 (0)) := (blk_cell HXk.out 2).trans rfl
              have u_3 : W5.cell? ⟨gk, 3, none⟩ = some (.int .i64 (0)) := (blk_cell HXk.out 3).trans rfl
              go_wp2_with fail
              clear u_0 u_1 u_2 u_3
              refine (lodgerlaw15_Ref.calls Agk cgk r (-1) 0 0 _).mono ?_
              rintro e w9 ⟨rfl, hb⟩
              have q_ := Aside0.mk (Kd.R_below HV.out hb)
              clear HV
              have HV := q_
              clear q_
              have q_ := Aside0.mk (below_step HB.out hb)
              clear HB
              have HB := q_
              clear q_
              clear hb
              go_wp2_with fail
              refine (lodgerref15_Same.calls 61 Agk cgk r (-1) 0 0 Ar cr r (-1) 0 0 true _ (Kd.R_reads' HV.out).2.2 (Kd.R_reads' HV.out).2.1 (Kd.C_below HCr.out HB.out) Hcr.out (same_is r (-1) 0 0 HRL.out 61 (by omega))).mono ?_
              rintro e wg ⟨rfl, hb⟩
              have q_ := Aside0.mk (below_step HB.out hb)
              clear HB
              have HB := q_
              clear q_
              clear hb
              go_wp2_with fail
              refine (lodgerlaw15_fixed.calls _).mono ?_
              rintro e wf ⟨rfl, hb⟩
              go_wp2
              go_ret
              exact ⟨rfl, below_step HB0.out (below_step HB.out hb)⟩
        · have HTK : Aside0 (sweep_Take.f 61 l v s n seg nn = some ([], 0, 0, 0, 1)) := ⟨take_no H20.out hok⟩
          refine (sweep_Take.calls 61 A0 c0 l v s n seg nn [] 0 0 0 1 _ (Kd.C_below HCw.out HB.out) Hcl.out HTK.out).mono ?_
          rintro e wa ⟨v0, rfl, hv, hb⟩
          obtain ⟨Agt, cgt, hv0, _, _⟩ := Kd.R_reads hv
          have hv1 : v0 = .slice Agt 0 cgt := hv0
          subst hv1
          clear hv0
          have HV := Aside0.mk (Kd.R_lower hv (below_size HB.out))
          have q_ := Aside0.mk (below_step HB.out hb)
          clear HB
          have HB := q_
          clear q_
          have q_ := Aside0.mk (blk_below HXs.out hb)
          clear HXs
          have HXs := q_
          clear q_
          clear hv hb
          go_upto_region 11 with ((with_reducible refine gate_dst (N := 9) rfl ?_); refine box_event ?hg (N := 9) ?hd (cs := #[.slice none 0 0, .int .i64 0, .int .i64 0, .int .i64 0]) (t := 25) ?hr ?_; (case hd => rfl); (case hg => rfl); (case hr => first | (go_simp; done) | (go_simp; rfl)); intro gt hgo wb hbox hbb; have HBO := Aside0.mk hbox; have HBB := Aside0.mk hbb; have HGO := Aside0.mk hgo; have y0 : wb.cell? ⟨gt, 0, none⟩ = some (.slice none 0 0) := (blk_cell hbox 0).trans rfl; have y1 : wb.cell? ⟨gt, 1, none⟩ = some (.int .i64 0) := (blk_cell hbox 1).trans rfl; have y2 : wb.cell? ⟨gt, 2, none⟩ = some (.int .i64 0) := (blk_cell hbox 2).trans rfl; have y3 : wb.cell? ⟨gt, 3, none⟩ = some (.int .i64 0) := (blk_cell hbox 3).trans rfl; have yf0 := blk_frozen hbox 0; have yf1 := blk_frozen hbox 1; have yf2 := blk_frozen hbox 2; have yf3 := blk_frozen hbox 3; clear hbox hbb hgo)
          clear y0 y1 y2 y3 yf0 yf1 yf2 yf3
          obtain ⟨W4, hW⟩ : ∃ W_, W_ = ((((wb.setCell ⟨gt, 0, none⟩ (.slice Agt 0 cgt)).setCell ⟨gt, 1, none⟩ (.int .i64 (0))).setCell ⟨gt, 2, none⟩ (.int .i64 (0))).setCell ⟨gt, 3, none⟩ (.int .i64 (0))) := ⟨_, rfl⟩
          rw [← hW]
          have q1 := (blk_set (blk_set (blk_set (blk_set HBO.out 0 (.slice Agt 0 cgt)) 1 (.int .i64 (0))) 2 (.int .i64 (0))) 3 (.int .i64 (0)))
          simp only [List.setIfInBounds_toArray, List.set_cons_zero, List.set_cons_succ] at q1
          have q2 := (Kd.R_set (Kd.R_set (Kd.R_set (Kd.R_set (Kd.R_below HV.out HBB.out) HBO.out (by decide) 0 (.slice Agt 0 cgt)) (blk_set HBO.out 0 (.slice Agt 0 cgt)) (by decide) 1 (.int .i64 (0))) (blk_set (blk_set HBO.out 0 (.slice Agt 0 cgt)) 1 (.int .i64 (0))) (by decide) 2 (.int .i64 (0))) (blk_set (blk_set (blk_set HBO.out 0 (.slice Agt 0 cgt)) 1 (.int .i64 (0))) 2 (.int .i64 (0))) (by decide) 3 (.int .i64 (0)))
          have q3 := (below_set (g := gt) (j := 3) (v := .int .i64 (0)) (below_set (g := gt) (j := 2) (v := .int .i64 (0)) (below_set (g := gt) (j := 1) (v := .int .i64 (0)) (below_set (g := gt) (j := 0) (v := .slice Agt 0 cgt) (below_step HB.out HBB.out) (by rw [HGO.out]; exact below_size HB.out)) (by rw [HGO.out]; exact below_size HB.out)) (by rw [HGO.out]; exact below_size HB.out)) (by rw [HGO.out]; exact below_size HB.out))
          have q4HXs := (blk_far (blk_far (blk_far (blk_far (blk_below HXs.out HBB.out) (p := ⟨gt, 0, none⟩) (by rw [HGO.out]; exact Nat.ne_of_lt (blk_lt HXs.out)) (.slice Agt 0 cgt)) (p := ⟨gt, 1, none⟩) (by rw [HGO.out]; exact Nat.ne_of_lt (blk_lt HXs.out)) (.int .i64 (0))) (p := ⟨gt, 2, none⟩) (by rw [HGO.out]; exact Nat.ne_of_lt (blk_lt HXs.out)) (.int .i64 (0))) (p := ⟨gt, 3, none⟩) (by rw [HGO.out]; exact Nat.ne_of_lt (blk_lt HXs.out)) (.int .i64 (0)))
          rw [← hW] at q1 q2 q3 q4HXs
          have HGE_gt : Aside0 (wB.heap.size ≤ gt) := ⟨by rw [HGO.out]; exact below_size HB.out⟩
          have HNE_s_gt : Aside0 (gs ≠ gt) := ⟨by rw [HGO.out]; exact Nat.ne_of_lt (blk_lt HXs.out)⟩
          clear hW HBO HBB HGO HV HB HXs
          have HXt := Aside0.mk q1
          have HV := Aside0.mk q2
          have HB := Aside0.mk q3
          have HXs := Aside0.mk q4HXs
          clear q1 q2 q3 q4HXs
          have s_0 : W4.cell? ⟨gs, 0, none⟩ = some (.slice A0 l.length c0) := (blk_cell HXs.out 0).trans rfl
          have s_1 : W4.cell? ⟨gs, 1, none⟩ = some (.int .i64 (v)) := (blk_cell HXs.out 1).trans rfl
          have s_2 : W4.cell? ⟨gs, 2, none⟩ = some (.int .i64 (s)) := (blk_cell HXs.out 2).trans rfl
          have s_3 : W4.cell? ⟨gs, 3, none⟩ = some (.int .i64 (n)) := (blk_cell HXs.out 3).trans rfl
          by_cases h1 : v = -1
          · subst h1
            by_cases h2 : seg ∈ l
            · have hshort : r.length < l.length := by rw [HR.out]; exact filt_short l seg h2
              have hd1 : decide ((r.length : Int) < (l.length : Int)) = true := decide_eq_true (by omega)
              have hd1b : decide (r.length < l.length) = true := decide_eq_true hshort
              by_cases h3 : 0 ≤ nn
              · have hd2 : decide (0 ≤ nn) = true := decide_eq_true h3
                have hd3 : decide (nn ≤ 30) = false := decide_eq_false (fun h4 => hok ⟨rfl, h2, h3, h4⟩)
                clear hok h2 h3 hshort
                go_wp2_with fail
                refine (lodgerlaw15_fixed.calls _).mono ?_
                rintro e wf ⟨rfl, hb⟩
                go_wp2
                go_ret
                exact ⟨rfl, below_step HB0.out (below_step HB.out hb)⟩
              · have hd2 : decide (0 ≤ nn) = false := decide_eq_false h3
                clear hok h2 h3 hshort
                go_wp2_with fail
                refine (lodgerlaw15_fixed.calls _).mono ?_
                rintro e wf ⟨rfl, hb⟩
                go_wp2
                go_ret
                exact ⟨rfl, below_step HB0.out (below_step HB.out hb)⟩
            · have hsame : r = l := by rw [HR.out]; exact filt_same l seg h2
              have hd1 : decide ((r.length : Int) < (l.length : Int)) = false := decide_eq_false (by rw [hsame]; omega)
              have hd1b : decide (r.length < l.length) = false := decide_eq_false (by rw [hsame]; omega)
              clear hok h2 hsame
              go_wp2_with fail
              refine (lodgerlaw15_fixed.calls _).mono ?_
              rintro e wf ⟨rfl, hb⟩
              go_wp2
              go_ret
              exact ⟨rfl, below_step HB0.out (below_step HB.out hb)⟩
          · have hd0 : (v == -1) = false := beq_eq_false_iff_ne.mpr h1
            clear hok h1
            go_wp2_with fail
            refine (lodgerlaw15_fixed.calls _).mono ?_
            rintro e wf ⟨rfl, hb⟩
            go_wp2
            go_ret
            exact ⟨rfl, below_step HB0.out (below_step HB.out hb)⟩
end Go.Proofs.Ytbcmjbjhjnojjaa.H
