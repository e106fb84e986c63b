-- PRINTED by print.py (a twelfth state) out of the translation. Not trusted: Lean checks it.
import Derived.Test.YtbcmjbjhjnojjaaHx0
namespace Go.Proofs.Ytbcmjbjhjnojjaa.H
open Go.RowKit Go.Proofs.YtbcmjbjhjnojjaaW.PrintWords Go.Proofs.YtbcmjbjhjnojjaaW.PrintLast Go.Proofs.YtbcmjbjhjnojjaaW.PrintMore
attribute [local go_sem] max2_int min2_int max_two min_two max_three min_three max_four min_four   -- for this text's walks alone
set_option linter.unusedVariables false
set_option linter.unusedSimpArgs false

/-! ### lodgerlaw15_SweepDoes: function 3 -/


/-! ### lodgerlaw15_Cut: function 19 -/
def lodgerlaw15_Cut.f (l0_0 : List Int) (a0_1 : Int) (a0_2 : Int) (a0_3 : Int) : Option (List Int × Int × Int × Int) := some (l0_0.take 20, a0_1, a0_2, a0_3)
set_option maxHeartbeats 8000000 in
set_option maxRecDepth 100000 in
theorem lodgerlaw15_Cut.calls (A0_0 : Option Addr) (c0_0 : Nat) (l0_0 : List Int) (a0_1 : Int) (a0_2 : Int) (a0_3 : Int) (w : World) (hc0_0 : l0_0.length ≤ c0_0) :
    Calls Try.prog 19 #[.agg #[.slice A0_0 l0_0.length c0_0, .int .i64 a0_1, .int .i64 a0_2, .int .i64 a0_3]] w fun e w' => e = .returned (.agg #[.slice A0_0 (l0_0.take 20).length c0_0, .int .i64 a0_1, .int .i64 a0_2, .int .i64 a0_3]) ∧ Below w.heap.size w w' := by
  obtain ⟨m, hm⟩ : ∃ m : Int, m = if (20 : Int) < (l0_0.length : Int) then 20 else (l0_0.length : Int) := ⟨_, rfl⟩
  have hm2 : 0 ≤ m ∧ m ≤ (l0_0.length : Int) ∧ m.toNat = min 20 l0_0.length := by rw [hm]; split <;> omega
  have hm_ := hm.symm
  obtain ⟨l, hl⟩ : ∃ l, l = l0_0.take 20 := ⟨_, rfl⟩
  have hln : l.length = m.toNat := by rw [hl, List.length_take, hm2.2.2]
  rw [← hl]
  obtain ⟨i0, hi, _⟩ := info_parts info3
  have hcut := cut_to (P := Try.prog) 23 3 .i64 Try.underlying23 hi A0_0 l0_0.length c0_0 m hm2.1 hm2.2.1 hc0_0
  rw [← hln] at hcut
  clear hm hm2 hl hln hi hc0_0
  go_enter Try.func19, Try.ntmps19
  go_upto_region 1 with fail
  obtain ⟨W1, hW1⟩ : ∃ W1, W1 = (w.alloc (.cells #[.slice A0_0 l0_0.length c0_0, .int .i64 a0_1, .int .i64 a0_2, .int .i64 a0_3] 25)).alloc (.cells #[.slice none 0 0, .int .i64 0, .int .i64 0, .int .i64 0] 25) := ⟨_, rfl⟩
  rw [← hW1]
  obtain ⟨gr, hgr⟩ : ∃ g, g = w.heap.size + 1 := ⟨_, rfl⟩
  obtain ⟨gs, hgs⟩ : ∃ g, g = w.heap.size := ⟨_, rfl⟩
  have HXs : Aside0 (W1.heap[gs]? = some (.cells #[.slice A0_0 l0_0.length c0_0, .int .i64 a0_1, .int .i64 a0_2, .int .i64 a0_3] 25 (0, 0))) := ⟨by rw [hW1, hgs]; exact blk_alloc (blk_new _ _) _⟩
  have HXr : Aside0 (W1.heap[gr]? = some (.cells #[.slice none 0 0, .int .i64 0, .int .i64 0, .int .i64 0] 25 (0, 0))) := ⟨by rw [hW1, hgr]; have := blk_new (w.alloc (.cells #[.slice A0_0 l0_0.length c0_0, .int .i64 a0_1, .int .i64 a0_2, .int .i64 a0_3] 25)) (.cells #[.slice none 0 0, .int .i64 0, .int .i64 0, .int .i64 0] 25); simpa using this⟩
  have HB : Aside0 (Below w.heap.size w W1) := ⟨by rw [hW1]; exact below_alloc (below_alloc (Below.refl _ _) _) _⟩
  have HGR : Aside0 (w.heap.size ≤ gr) := ⟨by omega⟩
  have HGS : Aside0 (w.heap.size ≤ gs) := ⟨by omega⟩
  have HNE : Aside0 (gr ≠ gs) := ⟨by omega⟩
  rw [← hgr, ← hgs]
  clear hW1 hgr hgs
  have s0 : W1.cell? ⟨gs, 0, none⟩ = some (.slice A0_0 l0_0.length c0_0) := (blk_cell HXs.out 0).trans rfl
  have s1 : W1.cell? ⟨gs, 1, none⟩ = some (.int .i64 a0_1) := (blk_cell HXs.out 1).trans rfl
  have s2 : W1.cell? ⟨gs, 2, none⟩ = some (.int .i64 a0_2) := (blk_cell HXs.out 2).trans rfl
  have s3 : W1.cell? ⟨gs, 3, none⟩ = some (.int .i64 a0_3) := (blk_cell HXs.out 3).trans rfl
  have sf0 := blk_frozen HXs.out 0
  go_upto_region 2 with fail
  clear s0 s1 s2 s3 sf0 hcut hm_
  obtain ⟨W2, hW2⟩ : ∃ W_, W_ = W1.setCell ⟨gs, 0, none⟩ (.slice A0_0 l.length c0_0) := ⟨_, rfl⟩
  rw [← hW2]
  have q0 := blk_set HXs.out 0 (.slice A0_0 l.length c0_0)
  simp only [List.setIfInBounds_toArray, List.set_cons_zero, List.set_cons_succ] at q0
  have q1 := blk_far HXr.out (p := ⟨gs, 0, none⟩) HNE.out (.slice A0_0 l.length c0_0)
  have q2 := below_set (g := gs) (j := 0) (v := .slice A0_0 l.length c0_0) HB.out HGS.out
  rw [← hW2] at q0 q1 q2
  clear hW2 HXs HXr HB
  have HXs := Aside0.mk q0
  have HXr := Aside0.mk q1
  have HB := Aside0.mk q2
  clear q0 q1 q2
  have s0 : W2.cell? ⟨gs, 0, none⟩ = some (.slice A0_0 l.length c0_0) := (blk_cell HXs.out 0).trans rfl
  have s1 : W2.cell? ⟨gs, 1, none⟩ = some (.int .i64 a0_1) := (blk_cell HXs.out 1).trans rfl
  have s2 : W2.cell? ⟨gs, 2, none⟩ = some (.int .i64 a0_2) := (blk_cell HXs.out 2).trans rfl
  have s3 : W2.cell? ⟨gs, 3, none⟩ = some (.int .i64 a0_3) := (blk_cell HXs.out 3).trans rfl
  have x0 : W2.cell? ⟨gr, 0, none⟩ = some (.slice none 0 0) := (blk_cell HXr.out 0).trans rfl
  have x1 : W2.cell? ⟨gr, 1, none⟩ = some (.int .i64 0) := (blk_cell HXr.out 1).trans rfl
  have x2 : W2.cell? ⟨gr, 2, none⟩ = some (.int .i64 0) := (blk_cell HXr.out 2).trans rfl
  have x3 : W2.cell? ⟨gr, 3, none⟩ = some (.int .i64 0) := (blk_cell HXr.out 3).trans rfl
  have xf0 := blk_frozen HXr.out 0
  have xf1 := blk_frozen HXr.out 1
  have xf2 := blk_frozen HXr.out 2
  have xf3 := blk_frozen HXr.out 3
  go_wp2_with fail
  have b := (blk_set (blk_set (blk_set (blk_set HXr.out 0 (.slice A0_0 l.length c0_0)) 1 (.int .i64 a0_1)) 2 (.int .i64 a0_2)) 3 (.int .i64 a0_3))
  simp only [List.setIfInBounds_toArray, List.set_cons_zero, List.set_cons_succ] at b
  refine bodyPost_ret (results_cell_row rfl _ _ gr 25 _ (0, 0) _ rfl b Try.underlying25 rfl (by kernel_rfl)) rfl ?_
  exact ⟨rfl, (below_set (g := gr) (j := 3) (v := .int .i64 a0_3) (below_set (g := gr) (j := 2) (v := .int .i64 a0_2) (below_set (g := gr) (j := 1) (v := .int .i64 a0_1) (below_set (g := gr) (j := 0) (v := .slice A0_0 l.length c0_0) HB.out HGR.out) HGR.out) HGR.out) HGR.out)⟩


/-! ### lodgerlaw15_SweepOnce: function 4 -/


/-! ### lodgerlaw15_SweepEnds: function 5 -/


/-! ### lodgerref07_Ints: function 27 -/
def lodgerref07_Ints.l0 : Nat → List Int → List Int → Int → Option (Bool)
  | 0, _, _, _ => none
  | k + 1, x0, x1, x5 => if x5 < (x0.length : Int) then (if 0 ≤ x5 then (if x5 < (x1.length : Int) then (if (rd x0 x5) = (rd x1 x5) then (lodgerref07_Ints.l0 k x0 x1 (wrap64 (x5 + 1))) else (some false)) else (none)) else (none)) else (some true)
def lodgerref07_Ints.f (k : Nat) (l0 : List Int) (l1 : List Int) : Option (Bool) := if (l0.length : Int) = (l1.length : Int) then (lodgerref07_Ints.l0 k l0 l1 0) else (some false)
theorem lodgerref07_Ints.mono_l : ∀ k, (∀ y0 y1 y2, LeO (lodgerref07_Ints.l0 k y0 y1 y2) (lodgerref07_Ints.l0 (k + 1) y0 y1 y2))
  | 0 => fun _ _ _ r h => by simp [lodgerref07_Ints.l0] at h
  | k + 1 => by
    have ih0 := lodgerref07_Ints.mono_l k
    · intro y0 y1 y2
      unfold lodgerref07_Ints.l0
      repeat' first
      | (with_reducible exact ih0 _ _ _)
      | (with_reducible exact LeO.refl _)
      | (with_reducible exact LeO.none _)
      | (with_reducible refine LeO.ite ?_ ?_)
      | (with_reducible refine LeO.bind ?_ (fun _ => ?_))
      | exact ih0 _ _ _
      | exact LeO.none _
      | refine LeO.ite ?_ ?_
      | refine LeO.bind ?_ (fun _ => ?_)
theorem lodgerref07_Ints.mono : ∀ a0 a1 k, LeO (lodgerref07_Ints.f k a0 a1) (lodgerref07_Ints.f (k + 1) a0 a1) := by
  intro a0 a1 k
  have ih0 := lodgerref07_Ints.mono_l k
  unfold lodgerref07_Ints.f
  repeat' first
      | (with_reducible exact ih0 _ _ _)
      | (with_reducible exact LeO.refl _)
      | (with_reducible exact LeO.none _)
      | (with_reducible refine LeO.ite ?_ ?_)
      | (with_reducible refine LeO.bind ?_ (fun _ => ?_))
      | exact ih0 _ _ _
      | exact LeO.none _
      | refine LeO.ite ?_ ?_
      | refine LeO.bind ?_ (fun _ => ?_)
set_option maxHeartbeats 8000000 in
set_option maxRecDepth 100000 in
theorem lodgerref07_Ints.calls (k : Nat) (A0 : Option Addr) (c0 : Nat) (l0 : List Int) (A1 : Option Addr) (c1 : Nat) (l1 : List Int) (r : Bool) (w : World) (hr0 : Kd.C (Kd.int .i64) w A0 l0.length l0) (hc0 : l0.length ≤ c0) (hr1 : Kd.C (Kd.int .i64) w A1 l1.length l1) (hc1 : l1.length ≤ c1) (h : lodgerref07_Ints.f k l0 l1 = some r) :
    Calls Try.prog 27 #[.slice A0 l0.length c0, .slice A1 l1.length c1] w fun e w' => e = .returned (.bool r) ∧ Drawn0 w w' := by
  have HR0 := Aside0.mk hr0
  have HC0 := Aside0.mk hc0
  clear hr0 hc0
  have HR1 := Aside0.mk hr1
  have HC1 := Aside0.mk hc1
  clear hr1 hc1
  have H : (if (l0.length : Int) = (l1.length : Int) then (lodgerref07_Ints.l0 k l0 l1 0) else (some false)) = some r := h
  clear h
  by_cases c3 : (l0.length : Int) = (l1.length : Int)
  · rw [if_pos c3] at H
    have c3b0 : ((l0.length : Int) == (l1.length : Int)) = true := beq_iff_eq.mpr c3
    have c3b1 : ((l0.length : Int) != (l1.length : Int)) = false := bne_eq_false_iff_eq.mpr c3
    have c3b2 : (l0.length == l1.length) = true := by first | simpa using c3 | (simp at c3 ⊢; omega)
    clear c3
    have H' := Aside0.mk H
    clear H
    go_enter Try.func27, Try.ntmps27
    go_wp2
    repeat (go_quiet (fail); try go_wp2)
    go_loopg [5] k (fun kq v5 w' => ∃ (x5_1 : Int), v5 = .int .i64 x5_1 ∧ Aside0 (lodgerref07_Ints.l0 kq l0 l1 x5_1 = some r) ∧ Aside0 (kq ≤ k) ∧ Drawn0 w w')
    case atStart => exact ⟨(0), (by first | rfl | (simp; done) | (simp [*]; done)), H', ⟨Nat.le_refl _⟩, by repeat (first | exact Drawn0.refl _ | apply Drawn0.step)⟩
    case round =>
      clear H'
      try clear c1
      try clear c2
      try clear p2
      try clear c3
      try clear c3b0
      try clear c3b1
      try clear c3b2
      obtain ⟨x5_1, rfl, HA, HK1, ⟨m1, rfl⟩⟩ := hrel
      cases gk with
      | zero => exact absurd HA.out (by simp [lodgerref07_Ints.l0])
      | succ k1 =>
        have H := HA.out
        clear HA
        simp only [lodgerref07_Ints.l0] at H
        by_cases c4 : x5_1 < (l0.length : Int)
        · rw [if_pos c4] at H
          have c4b0 : decide (x5_1 < (l0.length : Int)) = true := decide_eq_true c4
          clear c4
          by_cases c5 : 0 ≤ x5_1
          · rw [if_pos c5] at H
            have c5b0 : decide (0 ≤ x5_1) = true := decide_eq_true c5
            clear c5
            by_cases c6 : x5_1 < (l1.length : Int)
            · rw [if_pos c6] at H
              have c6b0 : decide (x5_1 < (l1.length : Int)) = true := decide_eq_true c6
              clear c6
              by_cases c7 : (rd l0 x5_1) = (rd l1 x5_1)
              · rw [if_pos c7] at H
                have c7b0 : ((rd l0 x5_1) == (rd l1 x5_1)) = true := beq_iff_eq.mpr c7
                have c7b1 : ((rd l0 x5_1) != (rd l1 x5_1)) = false := bne_eq_false_iff_eq.mpr c7
                clear c7
                have H' := Aside0.mk H
                clear H
                have p185 : 0 ≤ (x5_1 : Int) := of_decide_eq_true (by first | (with_reducible assumption) | assumption)
                have q185 : x5_1 < (l0.length : Int) := of_decide_eq_true (by first | (with_reducible assumption) | assumption)
                obtain ⟨ad185, e185, hx185_0⟩ := Kd.at_int HR0.out x5_1 p185 q185
                cases e185
                replace p185 := eq_true p185
                replace q185 := eq_true q185
                have p186 : 0 ≤ (x5_1 : Int) := of_decide_eq_true (by first | (with_reducible assumption) | assumption)
                have q186 : x5_1 < (l1.length : Int) := of_decide_eq_true (by first | (with_reducible assumption) | assumption)
                obtain ⟨ad186, e186, hx186_0⟩ := Kd.at_int HR1.out x5_1 p186 q186
                cases e186
                replace p186 := eq_true p186
                replace q186 := eq_true q186
                go_wp2
                repeat (go_quiet (fail); try go_wp2)
                go_roundg k1
                case measure => have := HK1.out; omega
                case rel => exact ⟨(wrap64 (x5_1 + 1)), (by first | rfl | (simp; done) | (simp [*]; done)), H', ⟨by have := HK1.out; omega⟩, by repeat (first | exact Drawn0.refl _ | apply Drawn0.step)⟩
              · rw [if_neg c7] at H
                have c7b0 : ((rd l0 x5_1) == (rd l1 x5_1)) = false := beq_eq_false_iff_ne.mpr c7
                have c7b1 : ((rd l0 x5_1) != (rd l1 x5_1)) = true := bne_iff_ne.mpr c7
                obtain rfl := Option.some.inj H
                have p185 : 0 ≤ (x5_1 : Int) := of_decide_eq_true (by first | (with_reducible assumption) | assumption)
                have q185 : x5_1 < (l0.length : Int) := of_decide_eq_true (by first | (with_reducible assumption) | assumption)
                obtain ⟨ad185, e185, hx185_0⟩ := Kd.at_int HR0.out x5_1 p185 q185
                cases e185
                replace p185 := eq_true p185
                replace q185 := eq_true q185
                have p186 : 0 ≤ (x5_1 : Int) := of_decide_eq_true (by first | (with_reducible assumption) | assumption)
                have q186 : x5_1 < (l1.length : Int) := of_decide_eq_true (by first | (with_reducible assumption) | assumption)
                obtain ⟨ad186, e186, hx186_0⟩ := Kd.at_int HR1.out x5_1 p186 q186
                cases e186
                replace p186 := eq_true p186
                replace q186 := eq_true q186
                go_wp2
                repeat (go_quiet (fail); try go_wp2)
                go_ret
                exact ⟨by first | rfl | (simp; done) | (simp [*]; done), by repeat (first | exact Drawn0.refl _ | apply Drawn0.step)⟩
            · rw [if_neg c6] at H
              exact absurd H (by simp)
          · rw [if_neg c5] at H
            exact absurd H (by simp)
        · rw [if_neg c4] at H
          have c4b0 : decide (x5_1 < (l0.length : Int)) = false := decide_eq_false c4
          clear c4
          obtain rfl := Option.some.inj H
          go_wp2
          repeat (go_quiet (fail); try go_wp2)
          go_ret
          exact ⟨by first | rfl | (simp; done) | (simp [*]; done), by repeat (first | exact Drawn0.refl _ | apply Drawn0.step)⟩
  · rw [if_neg c3] at H
    have c3b0 : ((l0.length : Int) == (l1.length : Int)) = false := beq_eq_false_iff_ne.mpr c3
    have c3b1 : ((l0.length : Int) != (l1.length : Int)) = true := bne_iff_ne.mpr c3
    have c3b2 : (l0.length == l1.length) = false := by first | simpa using c3 | (simp at c3 ⊢; omega)
    obtain rfl := Option.some.inj H
    go_enter Try.func27, Try.ntmps27
    go_wp2
    repeat (go_quiet (fail); try go_wp2)
    go_ret
    exact ⟨by first | rfl | (simp; done) | (simp [*]; done), by repeat (first | exact Drawn0.refl _ | apply Drawn0.step)⟩

/-! ### lodgerlaw15_SweepOwn: function 6 -/


/-! ### lodgerlaw15_SweepTakes: function 7 -/


end Go.Proofs.Ytbcmjbjhjnojjaa.H
