-- PRINTED by print.py (a twelfth state) out of the translation. Not trusted: Lean checks it.
import Derived.Test.YtbcjdendpdnknaaHx0
import Derived.Test.YtbcjdendpdnknaaHx1
import Derived.Test.YtbcjdendpdnknaaHx2
import Derived.Test.YtbcjdendpdnknaaHx4
namespace Go.Proofs.Ytbcjdendpdnknaa.H
open Go.RowKit Go.Proofs.YtbcjdendpdnknaaW.PrintWords Go.Proofs.YtbcjdendpdnknaaW.PrintLast Go.Proofs.YtbcjdendpdnknaaW.PrintMore
attribute [local go_sem] max2_int min2_int max_two min_two max_three min_three max_four min_four   -- for this text's walks alone
set_option linter.unusedVariables false
set_option linter.unusedSimpArgs false

/-! ### lodgerref14_Order: function 18 -/
mutual
def lodgerref14_Order.l0 : Nat → List (S28) → List Bool → List Int → Int → Option (List Int)
  | 0, _, _, _, _ => none
  | k + 1, x0, x3, x4, x5 => if x5 < (x0.length : Int) then (if x3.length < 140737488355328 then (lodgerref14_Order.l0 k x0 (x3 ++ [true]) x4 (wrap64 (x5 + 1))) else (none)) else (lodgerref14_Order.l1 k x0 x3 x4 0)
def lodgerref14_Order.l1 : Nat → List (S28) → List Bool → List Int → Int → Option (List Int)
  | 0, _, _, _, _ => none
  | k + 1, x0, x3, x4, x6 => if x6 < (x0.length : Int) then ((lodgerref14_among.f k x0 x3).bind fun t163 => (if x4.length < 17592186044416 then (if 0 ≤ t163 then (if t163 < (x3.length : Int) then (lodgerref14_Order.l1 k x0 (x3.set (t163 : Int).toNat false) (x4 ++ [t163]) (wrap64 (x6 + 1))) else (none)) else (none)) else (none))) else (some x4)
end
def lodgerref14_Order.f (k : Nat) (l0 : List (S28)) : Option (List Int) := lodgerref14_Order.l0 k l0 (([] : List Bool)) (([] : List Int)) 0
theorem lodgerref14_Order.mono_l : ∀ k, (∀ y0 y1 y2 y3, LeO (lodgerref14_Order.l0 k y0 y1 y2 y3) (lodgerref14_Order.l0 (k + 1) y0 y1 y2 y3)) ∧ (∀ y0 y1 y2 y3, LeO (lodgerref14_Order.l1 k y0 y1 y2 y3) (lodgerref14_Order.l1 (k + 1) y0 y1 y2 y3))
  | 0 => ⟨fun _ _ _ _ r h => by simp [lodgerref14_Order.l0] at h, fun _ _ _ _ r h => by simp [lodgerref14_Order.l1] at h⟩
  | k + 1 => by
    obtain ⟨ih0, ih1⟩ := lodgerref14_Order.mono_l k
    refine ⟨?_, ?_⟩
    · intro y0 y1 y2 y3
      unfold lodgerref14_Order.l0
      repeat' first
      | (with_reducible exact ih0 _ _ _ _)
      | (with_reducible exact ih1 _ _ _ _)
      | (with_reducible exact lodgerref14_among.mono _ _ _)
      | (with_reducible exact LeO.refl _)
      | (with_reducible exact LeO.none _)
      | (with_reducible refine LeO.ite ?_ ?_)
      | (with_reducible refine LeO.bind ?_ (fun _ => ?_))
      | exact ih0 _ _ _ _
      | exact ih1 _ _ _ _
      | exact lodgerref14_among.mono _ _ _
      | exact LeO.none _
      | refine LeO.ite ?_ ?_
      | refine LeO.bind ?_ (fun _ => ?_)
    · intro y0 y1 y2 y3
      unfold lodgerref14_Order.l1
      repeat' first
      | (with_reducible exact ih0 _ _ _ _)
      | (with_reducible exact ih1 _ _ _ _)
      | (with_reducible exact lodgerref14_among.mono _ _ _)
      | (with_reducible exact LeO.refl _)
      | (with_reducible exact LeO.none _)
      | (with_reducible refine LeO.ite ?_ ?_)
      | (with_reducible refine LeO.bind ?_ (fun _ => ?_))
      | exact ih0 _ _ _ _
      | exact ih1 _ _ _ _
      | exact lodgerref14_among.mono _ _ _
      | exact LeO.none _
      | refine LeO.ite ?_ ?_
      | refine LeO.bind ?_ (fun _ => ?_)
theorem lodgerref14_Order.mono : ∀ a0 k, LeO (lodgerref14_Order.f k a0) (lodgerref14_Order.f (k + 1) a0) := by
  intro a0 k
  obtain ⟨ih0, ih1⟩ := lodgerref14_Order.mono_l k
  unfold lodgerref14_Order.f
  repeat' first
      | (with_reducible exact ih0 _ _ _ _)
      | (with_reducible exact ih1 _ _ _ _)
      | (with_reducible exact lodgerref14_among.mono _ _ _)
      | (with_reducible exact LeO.refl _)
      | (with_reducible exact LeO.none _)
      | (with_reducible refine LeO.ite ?_ ?_)
      | (with_reducible refine LeO.bind ?_ (fun _ => ?_))
      | exact ih0 _ _ _ _
      | exact ih1 _ _ _ _
      | exact lodgerref14_among.mono _ _ _
      | exact LeO.none _
      | refine LeO.ite ?_ ?_
      | refine LeO.bind ?_ (fun _ => ?_)
set_option maxHeartbeats 8000000 in
set_option maxRecDepth 100000 in
theorem lodgerref14_Order.calls (k : Nat) (A0 : Option Addr) (c0 : Nat) (l0 : List (S28)) (r : List Int) (w : World) (hr0 : Kd.C k28 w A0 l0.length l0) (hc0 : l0.length ≤ c0) (h : lodgerref14_Order.f k l0 = some r) :
    Calls Try.prog 18 #[.slice A0 l0.length c0] w fun e w' => ∃ v0_ : Value, e = .returned (v0_) ∧ Kd.R (Kd.int .i64) 3 w' w.heap.size (fun _ => True) v0_ r ∧ Below w.heap.size w w' := by
  have HR0 := Aside0.mk hr0
  have HC0 := Aside0.mk hc0
  clear hr0 hc0
  have HB := Aside0.mk (Below.refl w.heap.size w)
  have H : (lodgerref14_Order.l0 k l0 (([] : List Bool)) (([] : List Int)) 0) = some r := h
  clear h
  obtain ⟨y154, hy154⟩ : ∃ y_ : List Bool, y_ = (([] : List Bool)) := ⟨_, rfl⟩
  replace H : (lodgerref14_Order.l0 k l0 y154 (([] : List Int)) 0) = some r := by first | (rw [hy154]; with_reducible exact H) | (have H2_ := (Option.bind_some _ _).symm.trans H; rw [hy154]; with_reducible exact H2_) | (have H2_ := (Option.bind_some _ _).symm.trans H; with_reducible exact H2_) | with_reducible exact H | (rw [hy154]; exact H) | exact H
  have Ny154 := Aside0.mk hy154
  clear hy154
  obtain ⟨y157, hy157⟩ : ∃ y_ : List Int, y_ = (([] : List Int)) := ⟨_, rfl⟩
  replace H : (lodgerref14_Order.l0 k l0 y154 y157 0) = some r := by first | (rw [hy157]; with_reducible exact H) | (have H2_ := (Option.bind_some _ _).symm.trans H; rw [hy157]; with_reducible exact H2_) | (have H2_ := (Option.bind_some _ _).symm.trans H; with_reducible exact H2_) | with_reducible exact H | (rw [hy157]; exact H) | exact H
  have Ny157 := Aside0.mk hy157
  clear hy157
  have H' := Aside0.mk H
  clear H
  go_enter Try.func18, Try.ntmps18
  go_wp2_with (first | ((with_reducible refine gate_dst (N := 8) rfl ?_); refine Kd.R_lit Kd.bool _ 4 ?hg (N := 8) ?hd (xs := ([] : List Bool)) (inner := []) (ok := fun _ => True) (okp := fun _ => True) ?hr ?hp (fun _ hk => hk) trivial (Below.refl _ _) (Nat.le_refl _) (by simp) ?_; (case hd => rfl); (case hg => rfl); (case hr => first | (go_simp; done) | (go_simp; rfl)); (case hp => exact (Reps.none _ _)); intro v155 w2 ho3 hb hg_ hnew_; clear hg_ hnew_; (first | rw [← Ny154.out] at ho3 | (simp only [Int.reduceToNat] at ho3; rw [← Ny154.out] at ho3)); have n0_ := Aside0.mk (Kd.R_lower ho3 (below_size (by repeat (first | (with_reducible first | exact HB.out | apply below_alloc | apply pw_below_drewN | apply below_drew1) | exact HB.out)))); have n1_ := Aside0.mk (below_step (by repeat (first | (with_reducible first | exact HB.out | apply below_alloc | apply pw_below_drewN | apply below_drew1) | exact HB.out)) hb); clear HB; have HO156 := n0_; have HB := n1_; clear n0_ n1_; clear hb ho3) | ((with_reducible refine gate_dst (N := 9) rfl ?_); refine Kd.R_lit (Kd.int .i64) _ 3 ?hg (N := 9) ?hd (xs := ([] : List Int)) (inner := []) (ok := fun _ => True) (okp := fun _ => True) ?hr ?hp (fun _ hk => hk) trivial (Below.refl _ _) (Nat.le_refl _) (by simp) ?_; (case hd => rfl); (case hg => rfl); (case hr => first | (go_simp; done) | (go_simp; rfl)); (case hp => exact (Reps.none _ _)); intro v158 w4 ho5 hb hg_ hnew_; clear hg_ hnew_; (first | rw [← Ny157.out] at ho5 | (simp only [Int.reduceToNat] at ho5; rw [← Ny157.out] at ho5)); have n0_ := Aside0.mk (Kd.R_below (by (with_reducible repeat (first | apply Kd.R_alloc | apply Kd.R_drewN | apply Kd.R_drew)); exact HO156.out) hb); have n1_ := Aside0.mk (Kd.R_lower ho5 (below_size (by repeat (first | (with_reducible first | exact HB.out | apply below_alloc | apply pw_below_drewN | apply below_drew1) | exact HB.out)))); have n2_ := Aside0.mk (below_step (by repeat (first | (with_reducible first | exact HB.out | apply below_alloc | apply pw_below_drewN | apply below_drew1) | exact HB.out)) hb); clear HO156; clear HB; have HO156 := n0_; have HO159 := n1_; have HB := n2_; clear n0_ n1_ n2_; clear hb ho5))
  go_loopg [3, 5] k (fun kq v3 v5 w' => ∃ (x3_1 : List Bool) (x5_1 : Int), v5 = .int .i64 x5_1 ∧ Aside0 (lodgerref14_Order.l0 kq l0 x3_1 y157 x5_1 = some r) ∧ Aside0 (kq ≤ k) ∧ Aside0 (Kd.R Kd.bool 4 w' w.heap.size (fun _ => True) v3 x3_1) ∧ Aside0 (Kd.R (Kd.int .i64) 3 w' w.heap.size (fun _ => True) v158 y157) ∧ Aside0 (Below w.heap.size w w'))
  case atStart => exact ⟨(y154), (0), (by first | rfl | (simp; done) | (simp [*]; done)), H', ⟨Nat.le_refl _⟩, ⟨by (with_reducible repeat (first | apply Kd.R_alloc | apply Kd.R_drewN | apply Kd.R_drew)); exact HO156.out⟩, ⟨by (with_reducible repeat (first | apply Kd.R_alloc | apply Kd.R_drewN | apply Kd.R_drew)); exact HO159.out⟩, ⟨by repeat (first | (with_reducible first | exact HB.out | apply below_alloc | apply pw_below_drewN | apply below_drew1) | exact HB.out)⟩⟩
  case round =>
    clear H'
    try clear c1
    try clear p2
    obtain ⟨x3_1, x5_1, rfl, HA, HK1, HO_3, HO_4, HB⟩ := hrel
    cases gk with
    | zero => exact absurd HA.out (by simp [lodgerref14_Order.l0])
    | succ k1 =>
      have H := HA.out
      clear HA
      simp only [lodgerref14_Order.l0] at H
      by_cases c6 : x5_1 < (l0.length : Int)
      · rw [if_pos c6] at H
        have c6b0 : decide (x5_1 < (l0.length : Int)) = true := decide_eq_true c6
        clear c6
        by_cases c7 : x3_1.length < 140737488355328
        · rw [if_pos c7] at H
          have LMc7 := Aside0.mk c7
          clear c7
          obtain ⟨y160, hy160⟩ : ∃ y_ : List Bool, y_ = (x3_1 ++ [true]) := ⟨_, rfl⟩
          replace H : (lodgerref14_Order.l0 k1 l0 y160 y157 (wrap64 (x5_1 + 1))) = some r := by first | (rw [hy160]; with_reducible exact H) | (have H2_ := (Option.bind_some _ _).symm.trans H; rw [hy160]; with_reducible exact H2_) | (have H2_ := (Option.bind_some _ _).symm.trans H; with_reducible exact H2_) | with_reducible exact H | (rw [hy160]; exact H) | exact H
          have Ny160 := Aside0.mk hy160
          clear hy160
          have H' := Aside0.mk H
          clear H
          go_wp2_with (first | ((with_reducible refine gate_builtin (b := .append) (xs := #[.tmp 16, .tmp 17]) rfl ?_); at_builtin; refine Kd.R_append Kd.bool (w0 := w) w.heap.size rfl (.tmp 16) (.tmp 17) 53 4 (.bool false) 1 rfl Try.underlying53 info4 rfl (by decide) (by omega) u3 x3_1 true [.bool true] (fun _ => True) (fun _ => False) rfl rfl ?aP (fun _ hk => hk.elim) ?aF ?aO ?aB ?aS ?aL ?_; (case aP => exact rfl); (case aB => exact (by repeat (first | (with_reducible first | exact HB.out | apply below_alloc | apply pw_below_drewN | apply below_drew1) | exact HB.out))); (case aF => exact (fun _ _ => trivial)); (case aO => exact (by (with_reducible repeat (first | apply Kd.R_alloc | apply Kd.R_drewN | apply Kd.R_drew)); exact HO_3.out)); (case aS => exact (below_size (by repeat (first | (with_reducible first | exact HB.out | apply below_alloc | apply pw_below_drewN | apply below_drew1) | exact HB.out)))); (case aL => have := LMc7.out; omega); intro v161 w8 ho hb hg hat; rw [← Ny160.out] at ho; have n0_ := Aside0.mk (Kd.R_over' (by (with_reducible repeat (first | apply Kd.R_alloc | apply Kd.R_drewN | apply Kd.R_drew)); exact HO_4.out) (Kd.R_typed (by (with_reducible repeat (first | apply Kd.R_alloc | apply Kd.R_drewN | apply Kd.R_drew)); exact HO_3.out)) (by decide) hg); have n1_ := Aside0.mk (hb); have n2_ := Aside0.mk (ho); clear HO_4; clear HB; clear HO_3; have HO_4 := n0_; have HB := n1_; have HO162 := n2_; clear n0_ n1_ n2_; clear ho hb hg hat))
          go_roundg k1
          case measure => have := HK1.out; omega
          case rel => exact ⟨(y160), (wrap64 (x5_1 + 1)), (by first | rfl | (simp; done) | (simp [*]; done)), H', ⟨by have := HK1.out; omega⟩, ⟨by (with_reducible repeat (first | apply Kd.R_alloc | apply Kd.R_drewN | apply Kd.R_drew)); exact HO162.out⟩, ⟨by (with_reducible repeat (first | apply Kd.R_alloc | apply Kd.R_drewN | apply Kd.R_drew)); exact HO_4.out⟩, ⟨by repeat (first | (with_reducible first | exact HB.out | apply below_alloc | apply pw_below_drewN | apply below_drew1) | exact HB.out)⟩⟩
        · rw [if_neg c7] at H
          exact absurd H (by simp)
      · rw [if_neg c6] at H
        have c6b0 : decide (x5_1 < (l0.length : Int)) = false := decide_eq_false c6
        clear c6
        have H' := Aside0.mk H
        clear H
        go_wp2
        go_loopg [4, 6] k1 (fun kq v4 v6 w' => ∃ (x3_2 : List Bool) (x4_2 : List Int) (x6_2 : Int), v6 = .int .i64 x6_2 ∧ Aside0 (lodgerref14_Order.l1 kq l0 x3_2 x4_2 x6_2 = some r) ∧ Aside0 (kq ≤ k1) ∧ Aside0 (Kd.R Kd.bool 4 w' w.heap.size (fun _ => True) u3 x3_2) ∧ Aside0 (Kd.R (Kd.int .i64) 3 w' w.heap.size (fun _ => True) v4 x4_2) ∧ Aside0 (Below w.heap.size w w'))
        case atStart => exact ⟨(x3_1), (y157), (0), (by first | rfl | (simp; done) | (simp [*]; done)), H', ⟨Nat.le_refl _⟩, ⟨by (with_reducible repeat (first | apply Kd.R_alloc | apply Kd.R_drewN | apply Kd.R_drew)); exact HO_3.out⟩, ⟨by (with_reducible repeat (first | apply Kd.R_alloc | apply Kd.R_drewN | apply Kd.R_drew)); exact HO_4.out⟩, ⟨by repeat (first | (with_reducible first | exact HB.out | apply below_alloc | apply pw_below_drewN | apply below_drew1) | exact HB.out)⟩⟩
        case round =>
          clear H'
          try clear c1
          try clear p2
          try clear c6
          try clear c6b0
          try clear p6
          try clear c7
          try clear p2
          obtain ⟨x3_2, x4_2, x6_2, rfl, HA, HK2, HO_3, HO_4, HB⟩ := hrel
          cases gk with
          | zero => exact absurd HA.out (by simp [lodgerref14_Order.l1])
          | succ k2 =>
            have H := HA.out
            clear HA
            simp only [lodgerref14_Order.l1] at H
            by_cases c9 : x6_2 < (l0.length : Int)
            · rw [if_pos c9] at H
              have c9b0 : decide (x6_2 < (l0.length : Int)) = true := decide_eq_true c9
              clear c9
              replace H := Option.bind_eq_some_iff.mp H
              obtain ⟨t163, A100, H⟩ := H
              replace H : (if x4_2.length < 17592186044416 then (if 0 ≤ t163 then (if t163 < (x3_2.length : Int) then (lodgerref14_Order.l1 k2 l0 (x3_2.set (t163 : Int).toNat false) (x4_2 ++ [t163]) (wrap64 (x6_2 + 1))) else (none)) else (none)) else (none)) = some r := H
              have A10 := Aside0.mk A100
              clear A100
              by_cases c11 : x4_2.length < 17592186044416
              · rw [if_pos c11] at H
                have LMc11 := Aside0.mk c11
                clear c11
                obtain ⟨y164, hy164⟩ : ∃ y_ : List Int, y_ = (x4_2 ++ [t163]) := ⟨_, rfl⟩
                replace H : (if 0 ≤ t163 then (if t163 < (x3_2.length : Int) then (lodgerref14_Order.l1 k2 l0 (x3_2.set (t163 : Int).toNat false) y164 (wrap64 (x6_2 + 1))) else (none)) else (none)) = some r := by first | (rw [hy164]; with_reducible exact H) | (have H2_ := (Option.bind_some _ _).symm.trans H; rw [hy164]; with_reducible exact H2_) | (have H2_ := (Option.bind_some _ _).symm.trans H; with_reducible exact H2_) | with_reducible exact H | (rw [hy164]; exact H) | exact H
                have Ny164 := Aside0.mk hy164
                clear hy164
                by_cases c12 : 0 ≤ t163
                · rw [if_pos c12] at H
                  have c12b0 : decide (0 ≤ t163) = true := decide_eq_true c12
                  clear c12
                  by_cases c13 : t163 < (x3_2.length : Int)
                  · rw [if_pos c13] at H
                    have c13b0 : decide (t163 < (x3_2.length : Int)) = true := decide_eq_true c13
                    clear c13
                    obtain ⟨y167, hy167⟩ : ∃ y_ : List Bool, y_ = (x3_2.set (t163 : Int).toNat false) := ⟨_, rfl⟩
                    replace H : (lodgerref14_Order.l1 k2 l0 y167 y164 (wrap64 (x6_2 + 1))) = some r := by first | (rw [hy167]; with_reducible exact H) | (have H2_ := (Option.bind_some _ _).symm.trans H; rw [hy167]; with_reducible exact H2_) | (have H2_ := (Option.bind_some _ _).symm.trans H; with_reducible exact H2_) | with_reducible exact H | (rw [hy167]; exact H) | exact H
                    have Ny167 := Aside0.mk hy167
                    clear hy167
                    have H' := Aside0.mk H
                    clear H
                    obtain ⟨Ao15, co15, eo15⟩ := Kd.R_slice HO_3.out
                    subst eo15
                    go_wp2_with (first | ((with_reducible refine gate_callee (f := 25) rfl ?_); refine goesL_ (some 27) rfl rfl Try.func25 (by kernel_rfl) rfl #[.slice A0 l0.length c0, .slice Ao15 x3_2.length co15] rfl (by (try simp only [List.map_toArray, List.map_cons, List.map_nil]); first | done | rfl | (simp only [List.length_drop, List.length_take]; rfl)) ?_; (with_reducible refine (lodgerref14_among.calls k2 _ _ l0 _ _ x3_2 t163 _ ?side1 ?side2 ?side3 ?side4 A10.out).mono ?_); (case side1 => repeat (first | exact (Kd.C_below HR0.out HB.out) | (with_reducible refine Kd.C_alloc ?_ _) | (with_reducible refine Kd.C_drewN ?_ _) | (with_reducible refine Kd.C_drew ?_))); (case side2 => exact HC0.out); (case side3 => repeat (first | exact (Kd.R_reads' HO_3.out).2.2 | (with_reducible refine Kd.C_alloc ?_ _) | (with_reducible refine Kd.C_drewN ?_ _) | (with_reducible refine Kd.C_drew ?_))); (case side4 => exact (Kd.R_reads' HO_3.out).2.1); rintro e w16 ⟨rfl, hb⟩; refine ⟨_, rfl, ?_⟩; have n0_ := Aside0.mk (Kd.R_below (by (with_reducible repeat (first | apply Kd.R_alloc | apply Kd.R_drewN | apply Kd.R_drew)); exact HO_3.out) hb); have n1_ := Aside0.mk (Kd.R_below (by (with_reducible repeat (first | apply Kd.R_alloc | apply Kd.R_drewN | apply Kd.R_drew)); exact HO_4.out) hb); have n2_ := Aside0.mk (below_step (by repeat (first | (with_reducible first | exact HB.out | apply below_alloc | apply pw_below_drewN | apply below_drew1) | exact HB.out)) hb); clear HO_3; clear HO_4; clear HB; have HO_3 := n0_; have HO_4 := n1_; have HB := n2_; clear n0_ n1_ n2_; (try clear hb); (try clear hb2); (try clear hk); (try clear hi)) | ((with_reducible refine gate_builtin (b := .append) (xs := #[.tmp 28, .tmp 30]) rfl ?_); at_builtin; refine Kd.R_append (Kd.int .i64) (w0 := w) w.heap.size rfl (.tmp 28) (.tmp 30) 35 3 (.int .i64 0) 8 rfl Try.underlying35 info3 rfl (by decide) (by omega) u4 x4_2 t163 [.int .i64 t163] (fun _ => True) (fun _ => False) rfl rfl ?aP (fun _ hk => hk.elim) ?aF ?aO ?aB ?aS ?aL ?_; (case aP => exact rfl); (case aB => exact (by repeat (first | (with_reducible first | exact HB.out | apply below_alloc | apply pw_below_drewN | apply below_drew1) | exact HB.out))); (case aF => exact (fun _ _ => trivial)); (case aO => exact (by (with_reducible repeat (first | apply Kd.R_alloc | apply Kd.R_drewN | apply Kd.R_drew)); exact HO_4.out)); (case aS => exact (below_size (by repeat (first | (with_reducible first | exact HB.out | apply below_alloc | apply pw_below_drewN | apply below_drew1) | exact HB.out)))); (case aL => have := LMc11.out; omega); intro v165 w17 ho hb hg hat; rw [← Ny164.out] at ho; have n0_ := Aside0.mk (Kd.R_over' (by (with_reducible repeat (first | apply Kd.R_alloc | apply Kd.R_drewN | apply Kd.R_drew)); exact HO_3.out) (Kd.R_typed (by (with_reducible repeat (first | apply Kd.R_alloc | apply Kd.R_drewN | apply Kd.R_drew)); exact HO_4.out)) (by decide) hg); have n1_ := Aside0.mk (hb); have n2_ := Aside0.mk (ho); clear HO_3; clear HB; clear HO_4; have HO_3 := n0_; have HB := n1_; have HO166 := n2_; clear n0_ n1_ n2_; clear ho hb hg hat; have p14 : 0 ≤ (t163 : Int) := of_decide_eq_true (by first | (with_reducible assumption) | assumption); have q14 : (t163 : Int) < ((x3_2.length : Int) : Int) := of_decide_eq_true (by first | (with_reducible assumption) | assumption); obtain ⟨go14, co14, eo14, gb14, gl14, cl14, HG14⟩ := Kd.R_form HO_3.out (by omega); (first | cases eo14 | (injection eo14 with ea_ en_ ec_; (first | subst ea_ | (injection ea_ with ea_; subst ea_)); subst ec_; clear en_)); have GB14 := Aside0.mk gb14; have GG14 := Aside0.mk HG14; clear gb14 gl14 HG14; obtain ⟨hx14_0, hf14_0⟩ := Kd.R_celln false HO_3.out (t163 : Int) p14 q14; replace p14 := eq_true p14; replace q14 := eq_true q14; obtain ⟨hy18_, hz18_⟩ := Kd.R_celln false HO_3.out (t163 : Int) (of_decide_eq_true (by first | (with_reducible assumption) | assumption)) (of_decide_eq_true (by first | (with_reducible assumption) | assumption)); have HP18 := Kd.R_putg HO_3.out (t163 : Int) false) | ((with_reducible refine gate_store (t := 4) (p := 34) rfl ?_); refine store_event (t := 4) (p := 34) (v := ?vo_w19) (w1 := (w17.setCell ⟨go14, (t163 : Int).toNat, none⟩ (.bool false))) ?hg ?ho ?hn ?hr ?_; (case ho => rfl); (case hg => rfl); (case hn => rfl); (case hr => first | (go_simp; done) | (go_simp; rfl)); intro w19 hw; have hg : w17.grownBy w19 (some go14) := (by rw [hw]; exact HP18.2); have hp_ : Kd.R Kd.bool 4 w19 w.heap.size (fun _ => True) (.slice (some ⟨go14, 0, none⟩) x3_2.length co15) y167 := (by rw [hw, Ny167.out]; exact HP18.1); clear HP18; have n0_ := Aside0.mk (hp_); have n1_ := Aside0.mk (Kd.R_over' (v := (.slice (some ⟨go14, 0, none⟩) x3_2.length co15)) (by (with_reducible repeat (first | apply Kd.R_alloc | apply Kd.R_drewN | apply Kd.R_drew)); exact HO166.out) (Kd.R_typed HO_3.out) (by decide) hg); have n2_ := Aside0.mk ((by rw [hw]; exact below_set (HB.out) GB14.out : Below w.heap.size w w19)); clear HO_3; clear HO166; clear HB; have HO_3 := n0_; have HO166 := n1_; have HB := n2_; clear n0_ n1_ n2_; clear hg hw hp_))
                    go_roundg k2
                    case measure => have := HK1.out; have := HK2.out; omega
                    case rel => exact ⟨(y167), (y164), (wrap64 (x6_2 + 1)), (by first | rfl | (simp; done) | (simp [*]; done)), H', ⟨by have := HK1.out; have := HK2.out; omega⟩, ⟨by (with_reducible repeat (first | apply Kd.R_alloc | apply Kd.R_drewN | apply Kd.R_drew)); exact HO_3.out⟩, ⟨by (with_reducible repeat (first | apply Kd.R_alloc | apply Kd.R_drewN | apply Kd.R_drew)); exact HO166.out⟩, ⟨by repeat (first | (with_reducible first | exact HB.out | apply below_alloc | apply pw_below_drewN | apply below_drew1) | exact HB.out)⟩⟩
                  · rw [if_neg c13] at H
                    exact absurd H (by simp)
                · rw [if_neg c12] at H
                  exact absurd H (by simp)
              · rw [if_neg c11] at H
                exact absurd H (by simp)
            · rw [if_neg c9] at H
              have c9b0 : decide (x6_2 < (l0.length : Int)) = false := decide_eq_false c9
              clear c9
              obtain rfl := Option.some.inj H
              go_wp2
              go_ret
              exact ⟨_, by first | rfl | (simp [errW_none, errW_some] <;> rfl) | (simp [*, errW_none, errW_some] <;> rfl), by (with_reducible repeat (first | apply Kd.R_alloc | apply Kd.R_drewN | apply Kd.R_drew)); exact HO_4.out, by repeat (first | (with_reducible first | exact HB.out | apply below_alloc | apply pw_below_drewN | apply below_drew1) | exact HB.out)⟩

/-! ### lodgerlaw14_fixed: function 19 -/
theorem blk_at {w : World} {o : Obj} {n : Nat} (h : n = w.heap.size) : (w.alloc o).heap[n]? = some o := by rw [h]; exact blk_new w o
theorem C25_block {w : World} {g t : Nat} {cs : Array Value} {xs : List S25} (hb : w.heap[g]? = some (.cells cs t (0, 0))) (hl : xs.length ≤ 9223372036854775807)
    (h : ∀ j p, xs[j]? = some p → cs[j * 5]? = some (.int .i64 p.f0) ∧ cs[j * 5 + 1]? = some (.int .i64 p.f1) ∧ cs[j * 5 + 2]? = some (.int .i64 p.f2) ∧ cs[j * 5 + 3]? = some (.int .i64 p.f3) ∧ cs[j * 5 + 4]? = some (.int .u64 p.f4)) :
    Kd.C k25 w (some ⟨g, 0, none⟩) xs.length xs := by
  refine ⟨rfl, hl, fun _ => ⟨_, rfl, fun j p hj => ⟨_, rfl, k25_mk w p, fun i u hu => ?_⟩⟩⟩
  obtain ⟨h0, h1, h2, h3, h4⟩ := h j p hj
  rw [add_plain, blk_cell hb]
  match i, hu with
  | 0, hu => simp at hu; subst hu; exact h0
  | 1, hu => simp at hu; subst hu; exact h1
  | 2, hu => simp at hu; subst hu; exact h2
  | 3, hu => simp at hu; subst hu; exact h3
  | 4, hu => simp at hu; subst hu; exact h4
theorem Cint_block {w : World} {g t : Nat} {cs : Array Value} {xs : List Int} (hb : w.heap[g]? = some (.cells cs t (0, 0))) (hl : xs.length ≤ 9223372036854775807) (h : cs = (xs.map fun x => Value.int .i64 x).toArray) :
    Kd.C (Kd.int .i64) w (some ⟨g, 0, none⟩) xs.length xs := by
  refine ⟨rfl, hl, fun _ => ⟨_, rfl, fun j p hj => ⟨[.int .i64 p], rfl, rfl, fun i u hu => ?_⟩⟩⟩
  rw [add_plain, blk_cell hb]
  match i, hu with
  | 0, hu =>
    simp at hu
    subst hu
    subst h
    show (xs.map fun x => Value.int .i64 x).toArray[j * 1 + 0]? = _
    simp [hj]
def fxl : List S25 := [⟨0, 10, 5, 0, 5⟩, ⟨0, 10, 2, 0, 5⟩, ⟨0, 4, 0, 3, 5⟩, ⟨0, 10, 2, 0, 5⟩]
theorem fxl_cells : ∀ j p, fxl[j]? = some p → (#[.int .i64 0, .int .i64 10, .int .i64 5, .int .i64 0, .int .u64 5, .int .i64 0, .int .i64 10, .int .i64 2, .int .i64 0, .int .u64 5, .int .i64 0, .int .i64 4, .int .i64 0, .int .i64 3, .int .u64 5, .int .i64 0, .int .i64 10, .int .i64 2, .int .i64 0, .int .u64 5] : Array Value)[j * 5]? = some (.int .i64 p.f0) ∧
    (#[.int .i64 0, .int .i64 10, .int .i64 5, .int .i64 0, .int .u64 5, .int .i64 0, .int .i64 10, .int .i64 2, .int .i64 0, .int .u64 5, .int .i64 0, .int .i64 4, .int .i64 0, .int .i64 3, .int .u64 5, .int .i64 0, .int .i64 10, .int .i64 2, .int .i64 0, .int .u64 5] : Array Value)[j * 5 + 1]? = some (.int .i64 p.f1) ∧
    (#[.int .i64 0, .int .i64 10, .int .i64 5, .int .i64 0, .int .u64 5, .int .i64 0, .int .i64 10, .int .i64 2, .int .i64 0, .int .u64 5, .int .i64 0, .int .i64 4, .int .i64 0, .int .i64 3, .int .u64 5, .int .i64 0, .int .i64 10, .int .i64 2, .int .i64 0, .int .u64 5] : Array Value)[j * 5 + 2]? = some (.int .i64 p.f2) ∧
    (#[.int .i64 0, .int .i64 10, .int .i64 5, .int .i64 0, .int .u64 5, .int .i64 0, .int .i64 10, .int .i64 2, .int .i64 0, .int .u64 5, .int .i64 0, .int .i64 4, .int .i64 0, .int .i64 3, .int .u64 5, .int .i64 0, .int .i64 10, .int .i64 2, .int .i64 0, .int .u64 5] : Array Value)[j * 5 + 3]? = some (.int .i64 p.f3) ∧
    (#[.int .i64 0, .int .i64 10, .int .i64 5, .int .i64 0, .int .u64 5, .int .i64 0, .int .i64 10, .int .i64 2, .int .i64 0, .int .u64 5, .int .i64 0, .int .i64 4, .int .i64 0, .int .i64 3, .int .u64 5, .int .i64 0, .int .i64 10, .int .i64 2, .int .i64 0, .int .u64 5] : Array Value)[j * 5 + 4]? = some (.int .u64 p.f4)
  | 0, p, h => by obtain rfl := Option.some.inj h; exact ⟨rfl, rfl, rfl, rfl, rfl⟩
  | 1, p, h => by obtain rfl := Option.some.inj h; exact ⟨rfl, rfl, rfl, rfl, rfl⟩
  | 2, p, h => by obtain rfl := Option.some.inj h; exact ⟨rfl, rfl, rfl, rfl, rfl⟩
  | 3, p, h => by obtain rfl := Option.some.inj h; exact ⟨rfl, rfl, rfl, rfl, rfl⟩
  | _ + 4, p, h => by cases h
def lodgerlaw14_fixed.f : Option Bool := some true
set_option maxHeartbeats 4000000 in
set_option maxRecDepth 100000 in
theorem lodgerlaw14_fixed.calls (r : Bool) (w : World) (h : lodgerlaw14_fixed.f = some r) :
    Calls Try.prog 19 #[] w fun e w' => e = .returned (.bool r) ∧ Below w.heap.size w w' := by
  obtain rfl := Option.some.inj h
  clear h
  go_enter Try.func19, Try.ntmps19
  go_wp2_with fail
  refine (victim_Better.calls 0 10 2 0 5 0 10 5 0 5 true _ (by kernel_rfl)).mono ?_
  rintro e w1 ⟨rfl, hb⟩
  have HB := Aside0.mk (below_step (below_alloc (below_alloc (below_alloc (below_alloc (Below.refl w.heap.size w) _) _) _) _) hb)
  obtain ⟨gl, hgl⟩ : ∃ g, g = w.heap.size + 1 + 1 + 1 := ⟨_, rfl⟩
  obtain ⟨gc, hgc⟩ : ∃ g, g = w.heap.size + 1 + 1 := ⟨_, rfl⟩
  obtain ⟨gb, hgb⟩ : ∃ g, g = w.heap.size + 1 := ⟨_, rfl⟩
  obtain ⟨ga, hga⟩ : ∃ g, g = w.heap.size := ⟨_, rfl⟩
  have HXA : Aside0 (w1.heap[ga]? = some (.cells #[.int .i64 0, .int .i64 10, .int .i64 2, .int .i64 0, .int .u64 5] 25 (0, 0))) := ⟨by rw [hga]; exact blk_below (blk_alloc (blk_alloc (blk_alloc (blk_at rfl) _) _) _) hb⟩
  have HXB : Aside0 (w1.heap[gb]? = some (.cells #[.int .i64 0, .int .i64 10, .int .i64 5, .int .i64 0, .int .u64 5] 25 (0, 0))) := ⟨by rw [hgb]; exact blk_below (blk_alloc (blk_alloc (blk_at (by simp)) _) _) hb⟩
  have HXC : Aside0 (w1.heap[gc]? = some (.cells #[.int .i64 0, .int .i64 4, .int .i64 0, .int .i64 3, .int .u64 5] 25 (0, 0))) := ⟨by rw [hgc]; exact blk_below (blk_alloc (blk_at (by simp)) _) hb⟩
  have HL : Aside0 (Kd.C k25 w1 (some ⟨gl, 0, none⟩) fxl.length fxl) := ⟨by rw [hgl]; exact Kd.C_below (C25_block (blk_at (by simp)) (by decide) fxl_cells) hb⟩
  clear hb
  rw [← hgl, ← hgc, ← hgb, ← hga]
  clear hgl hgc hgb hga
  have za0 : w1.cell? ⟨ga, 0, none⟩ = some (.int .i64 0) := (blk_cell HXA.out 0).trans rfl
  have za1 : w1.cell? ⟨ga, 1, none⟩ = some (.int .i64 10) := (blk_cell HXA.out 1).trans rfl
  have za2 : w1.cell? ⟨ga, 2, none⟩ = some (.int .i64 2) := (blk_cell HXA.out 2).trans rfl
  have za3 : w1.cell? ⟨ga, 3, none⟩ = some (.int .i64 0) := (blk_cell HXA.out 3).trans rfl
  have za4 : w1.cell? ⟨ga, 4, none⟩ = some (.int .u64 5) := (blk_cell HXA.out 4).trans rfl
  have zb0 : w1.cell? ⟨gb, 0, none⟩ = some (.int .i64 0) := (blk_cell HXB.out 0).trans rfl
  have zb1 : w1.cell? ⟨gb, 1, none⟩ = some (.int .i64 10) := (blk_cell HXB.out 1).trans rfl
  have zb2 : w1.cell? ⟨gb, 2, none⟩ = some (.int .i64 5) := (blk_cell HXB.out 2).trans rfl
  have zb3 : w1.cell? ⟨gb, 3, none⟩ = some (.int .i64 0) := (blk_cell HXB.out 3).trans rfl
  have zb4 : w1.cell? ⟨gb, 4, none⟩ = some (.int .u64 5) := (blk_cell HXB.out 4).trans rfl
  have zc0 : w1.cell? ⟨gc, 0, none⟩ = some (.int .i64 0) := (blk_cell HXC.out 0).trans rfl
  have zc1 : w1.cell? ⟨gc, 1, none⟩ = some (.int .i64 4) := (blk_cell HXC.out 1).trans rfl
  have zc2 : w1.cell? ⟨gc, 2, none⟩ = some (.int .i64 0) := (blk_cell HXC.out 2).trans rfl
  have zc3 : w1.cell? ⟨gc, 3, none⟩ = some (.int .i64 3) := (blk_cell HXC.out 3).trans rfl
  have zc4 : w1.cell? ⟨gc, 4, none⟩ = some (.int .u64 5) := (blk_cell HXC.out 4).trans rfl
  go_wp2_with fail
  clear za0 za1 za2 za3 za4 zb0 zb1 zb2 zb3 zb4 zc0 zc1 zc2 zc3 zc4
  refine (victim_Better.calls 0 10 5 0 5 0 10 2 0 5 false _ (by kernel_rfl)).mono ?_
  rintro e w2 ⟨rfl, hb⟩
  have HB_ := Aside0.mk (below_step HB.out hb)
  clear HB
  have HB := HB_
  clear HB_
  have HXA_ := Aside0.mk (blk_below HXA.out hb)
  clear HXA
  have HXA := HXA_
  clear HXA_
  have HXB_ := Aside0.mk (blk_below HXB.out hb)
  clear HXB
  have HXB := HXB_
  clear HXB_
  have HXC_ := Aside0.mk (blk_below HXC.out hb)
  clear HXC
  have HXC := HXC_
  clear HXC_
  have HL_ := Aside0.mk (Kd.C_below HL.out hb)
  clear HL
  have HL := HL_
  clear HL_ hb
  have za0 : w2.cell? ⟨ga, 0, none⟩ = some (.int .i64 0) := (blk_cell HXA.out 0).trans rfl
  have za1 : w2.cell? ⟨ga, 1, none⟩ = some (.int .i64 10) := (blk_cell HXA.out 1).trans rfl
  have za2 : w2.cell? ⟨ga, 2, none⟩ = some (.int .i64 2) := (blk_cell HXA.out 2).trans rfl
  have za3 : w2.cell? ⟨ga, 3, none⟩ = some (.int .i64 0) := (blk_cell HXA.out 3).trans rfl
  have za4 : w2.cell? ⟨ga, 4, none⟩ = some (.int .u64 5) := (blk_cell HXA.out 4).trans rfl
  have zb0 : w2.cell? ⟨gb, 0, none⟩ = some (.int .i64 0) := (blk_cell HXB.out 0).trans rfl
  have zb1 : w2.cell? ⟨gb, 1, none⟩ = some (.int .i64 10) := (blk_cell HXB.out 1).trans rfl
  have zb2 : w2.cell? ⟨gb, 2, none⟩ = some (.int .i64 5) := (blk_cell HXB.out 2).trans rfl
  have zb3 : w2.cell? ⟨gb, 3, none⟩ = some (.int .i64 0) := (blk_cell HXB.out 3).trans rfl
  have zb4 : w2.cell? ⟨gb, 4, none⟩ = some (.int .u64 5) := (blk_cell HXB.out 4).trans rfl
  have zc0 : w2.cell? ⟨gc, 0, none⟩ = some (.int .i64 0) := (blk_cell HXC.out 0).trans rfl
  have zc1 : w2.cell? ⟨gc, 1, none⟩ = some (.int .i64 4) := (blk_cell HXC.out 1).trans rfl
  have zc2 : w2.cell? ⟨gc, 2, none⟩ = some (.int .i64 0) := (blk_cell HXC.out 2).trans rfl
  have zc3 : w2.cell? ⟨gc, 3, none⟩ = some (.int .i64 3) := (blk_cell HXC.out 3).trans rfl
  have zc4 : w2.cell? ⟨gc, 4, none⟩ = some (.int .u64 5) := (blk_cell HXC.out 4).trans rfl
  go_wp2_with fail
  clear za0 za1 za2 za3 za4 zb0 zb1 zb2 zb3 zb4 zc0 zc1 zc2 zc3 zc4
  refine (victim_Better.calls 0 10 2 0 5 0 4 0 3 5 false _ (by kernel_rfl)).mono ?_
  rintro e w3 ⟨rfl, hb⟩
  have HB_ := Aside0.mk (below_step HB.out hb)
  clear HB
  have HB := HB_
  clear HB_
  have HXA_ := Aside0.mk (blk_below HXA.out hb)
  clear HXA
  have HXA := HXA_
  clear HXA_
  have HXB_ := Aside0.mk (blk_below HXB.out hb)
  clear HXB
  have HXB := HXB_
  clear HXB_
  have HXC_ := Aside0.mk (blk_below HXC.out hb)
  clear HXC
  have HXC := HXC_
  clear HXC_
  have HL_ := Aside0.mk (Kd.C_below HL.out hb)
  clear HL
  have HL := HL_
  clear HL_ hb
  have za0 : w3.cell? ⟨ga, 0, none⟩ = some (.int .i64 0) := (blk_cell HXA.out 0).trans rfl
  have za1 : w3.cell? ⟨ga, 1, none⟩ = some (.int .i64 10) := (blk_cell HXA.out 1).trans rfl
  have za2 : w3.cell? ⟨ga, 2, none⟩ = some (.int .i64 2) := (blk_cell HXA.out 2).trans rfl
  have za3 : w3.cell? ⟨ga, 3, none⟩ = some (.int .i64 0) := (blk_cell HXA.out 3).trans rfl
  have za4 : w3.cell? ⟨ga, 4, none⟩ = some (.int .u64 5) := (blk_cell HXA.out 4).trans rfl
  have zb0 : w3.cell? ⟨gb, 0, none⟩ = some (.int .i64 0) := (blk_cell HXB.out 0).trans rfl
  have zb1 : w3.cell? ⟨gb, 1, none⟩ = some (.int .i64 10) := (blk_cell HXB.out 1).trans rfl
  have zb2 : w3.cell? ⟨gb, 2, none⟩ = some (.int .i64 5) := (blk_cell HXB.out 2).trans rfl
  have zb3 : w3.cell? ⟨gb, 3, none⟩ = some (.int .i64 0) := (blk_cell HXB.out 3).trans rfl
  have zb4 : w3.cell? ⟨gb, 4, none⟩ = some (.int .u64 5) := (blk_cell HXB.out 4).trans rfl
  have zc0 : w3.cell? ⟨gc, 0, none⟩ = some (.int .i64 0) := (blk_cell HXC.out 0).trans rfl
  have zc1 : w3.cell? ⟨gc, 1, none⟩ = some (.int .i64 4) := (blk_cell HXC.out 1).trans rfl
  have zc2 : w3.cell? ⟨gc, 2, none⟩ = some (.int .i64 0) := (blk_cell HXC.out 2).trans rfl
  have zc3 : w3.cell? ⟨gc, 3, none⟩ = some (.int .i64 3) := (blk_cell HXC.out 3).trans rfl
  have zc4 : w3.cell? ⟨gc, 4, none⟩ = some (.int .u64 5) := (blk_cell HXC.out 4).trans rfl
  go_wp2_with fail
  clear za0 za1 za2 za3 za4 zb0 zb1 zb2 zb3 zb4 zc0 zc1 zc2 zc3 zc4
  refine (victim_Better.calls 0 4 0 3 5 0 10 2 0 5 true _ (by kernel_rfl)).mono ?_
  rintro e w4 ⟨rfl, hb⟩
  have HB_ := Aside0.mk (below_step HB.out hb)
  clear HB
  have HB := HB_
  clear HB_
  have HXA_ := Aside0.mk (blk_below HXA.out hb)
  clear HXA
  have HXA := HXA_
  clear HXA_
  have HXB_ := Aside0.mk (blk_below HXB.out hb)
  clear HXB
  have HXB := HXB_
  clear HXB_
  have HXC_ := Aside0.mk (blk_below HXC.out hb)
  clear HXC
  have HXC := HXC_
  clear HXC_
  have HL_ := Aside0.mk (Kd.C_below HL.out hb)
  clear HL
  have HL := HL_
  clear HL_ hb
  have za0 : w4.cell? ⟨ga, 0, none⟩ = some (.int .i64 0) := (blk_cell HXA.out 0).trans rfl
  have za1 : w4.cell? ⟨ga, 1, none⟩ = some (.int .i64 10) := (blk_cell HXA.out 1).trans rfl
  have za2 : w4.cell? ⟨ga, 2, none⟩ = some (.int .i64 2) := (blk_cell HXA.out 2).trans rfl
  have za3 : w4.cell? ⟨ga, 3, none⟩ = some (.int .i64 0) := (blk_cell HXA.out 3).trans rfl
  have za4 : w4.cell? ⟨ga, 4, none⟩ = some (.int .u64 5) := (blk_cell HXA.out 4).trans rfl
  have zb0 : w4.cell? ⟨gb, 0, none⟩ = some (.int .i64 0) := (blk_cell HXB.out 0).trans rfl
  have zb1 : w4.cell? ⟨gb, 1, none⟩ = some (.int .i64 10) := (blk_cell HXB.out 1).trans rfl
  have zb2 : w4.cell? ⟨gb, 2, none⟩ = some (.int .i64 5) := (blk_cell HXB.out 2).trans rfl
  have zb3 : w4.cell? ⟨gb, 3, none⟩ = some (.int .i64 0) := (blk_cell HXB.out 3).trans rfl
  have zb4 : w4.cell? ⟨gb, 4, none⟩ = some (.int .u64 5) := (blk_cell HXB.out 4).trans rfl
  have zc0 : w4.cell? ⟨gc, 0, none⟩ = some (.int .i64 0) := (blk_cell HXC.out 0).trans rfl
  have zc1 : w4.cell? ⟨gc, 1, none⟩ = some (.int .i64 4) := (blk_cell HXC.out 1).trans rfl
  have zc2 : w4.cell? ⟨gc, 2, none⟩ = some (.int .i64 0) := (blk_cell HXC.out 2).trans rfl
  have zc3 : w4.cell? ⟨gc, 3, none⟩ = some (.int .i64 3) := (blk_cell HXC.out 3).trans rfl
  have zc4 : w4.cell? ⟨gc, 4, none⟩ = some (.int .u64 5) := (blk_cell HXC.out 4).trans rfl
  go_wp2_with fail
  clear za0 za1 za2 za3 za4 zb0 zb1 zb2 zb3 zb4 zc0 zc1 zc2 zc3 zc4
  refine (victim_Better.calls 0 10 2 0 5 0 10 2 0 5 false _ (by kernel_rfl)).mono ?_
  rintro e w5 ⟨rfl, hb⟩
  have HB_ := Aside0.mk (below_step HB.out hb)
  clear HB
  have HB := HB_
  clear HB_
  have HXA_ := Aside0.mk (blk_below HXA.out hb)
  clear HXA
  have HXA := HXA_
  clear HXA_
  have HXB_ := Aside0.mk (blk_below HXB.out hb)
  clear HXB
  have HXB := HXB_
  clear HXB_
  have HXC_ := Aside0.mk (blk_below HXC.out hb)
  clear HXC
  have HXC := HXC_
  clear HXC_
  have HL_ := Aside0.mk (Kd.C_below HL.out hb)
  clear HL
  have HL := HL_
  clear HL_ hb
  have za0 : w5.cell? ⟨ga, 0, none⟩ = some (.int .i64 0) := (blk_cell HXA.out 0).trans rfl
  have za1 : w5.cell? ⟨ga, 1, none⟩ = some (.int .i64 10) := (blk_cell HXA.out 1).trans rfl
  have za2 : w5.cell? ⟨ga, 2, none⟩ = some (.int .i64 2) := (blk_cell HXA.out 2).trans rfl
  have za3 : w5.cell? ⟨ga, 3, none⟩ = some (.int .i64 0) := (blk_cell HXA.out 3).trans rfl
  have za4 : w5.cell? ⟨ga, 4, none⟩ = some (.int .u64 5) := (blk_cell HXA.out 4).trans rfl
  have zb0 : w5.cell? ⟨gb, 0, none⟩ = some (.int .i64 0) := (blk_cell HXB.out 0).trans rfl
  have zb1 : w5.cell? ⟨gb, 1, none⟩ = some (.int .i64 10) := (blk_cell HXB.out 1).trans rfl
  have zb2 : w5.cell? ⟨gb, 2, none⟩ = some (.int .i64 5) := (blk_cell HXB.out 2).trans rfl
  have zb3 : w5.cell? ⟨gb, 3, none⟩ = some (.int .i64 0) := (blk_cell HXB.out 3).trans rfl
  have zb4 : w5.cell? ⟨gb, 4, none⟩ = some (.int .u64 5) := (blk_cell HXB.out 4).trans rfl
  have zc0 : w5.cell? ⟨gc, 0, none⟩ = some (.int .i64 0) := (blk_cell HXC.out 0).trans rfl
  have zc1 : w5.cell? ⟨gc, 1, none⟩ = some (.int .i64 4) := (blk_cell HXC.out 1).trans rfl
  have zc2 : w5.cell? ⟨gc, 2, none⟩ = some (.int .i64 0) := (blk_cell HXC.out 2).trans rfl
  have zc3 : w5.cell? ⟨gc, 3, none⟩ = some (.int .i64 3) := (blk_cell HXC.out 3).trans rfl
  have zc4 : w5.cell? ⟨gc, 4, none⟩ = some (.int .u64 5) := (blk_cell HXC.out 4).trans rfl
  go_wp2_with fail
  clear za0 za1 za2 za3 za4 zb0 zb1 zb2 zb3 zb4 zc0 zc1 zc2 zc3 zc4
  refine (victim_Pick.calls (some ⟨gl, 0, none⟩) 4 fxl 3 2 _ HL.out (by decide) (by kernel_rfl)).mono ?_
  rintro e w6 ⟨rfl, hb⟩
  have HB_ := Aside0.mk (below_step HB.out hb)
  clear HB
  have HB := HB_
  clear HB_
  have HXA_ := Aside0.mk (blk_below HXA.out hb)
  clear HXA
  have HXA := HXA_
  clear HXA_
  have HXB_ := Aside0.mk (blk_below HXB.out hb)
  clear HXB
  have HXB := HXB_
  clear HXB_
  have HXC_ := Aside0.mk (blk_below HXC.out hb)
  clear HXC
  have HXC := HXC_
  clear HXC_
  have HL_ := Aside0.mk (Kd.C_below HL.out hb)
  clear HL
  have HL := HL_
  clear HL_ hb
  go_wp2_with fail
  refine (victim_Pick.calls (some ⟨gl, 0, none⟩) 4 fxl 2 1 _ HL.out (by decide) (by kernel_rfl)).mono ?_
  rintro e w7 ⟨rfl, hb⟩
  have HB_ := Aside0.mk (below_step HB.out hb)
  clear HB
  have HB := HB_
  clear HB_
  have HXA_ := Aside0.mk (blk_below HXA.out hb)
  clear HXA
  have HXA := HXA_
  clear HXA_
  have HXB_ := Aside0.mk (blk_below HXB.out hb)
  clear HXB
  have HXB := HXB_
  clear HXB_
  have HXC_ := Aside0.mk (blk_below HXC.out hb)
  clear HXC
  have HXC := HXC_
  clear HXC_
  have HL_ := Aside0.mk (Kd.C_below HL.out hb)
  clear HL
  have HL := HL_
  clear HL_ hb
  go_wp2_with fail
  refine (victim_Pick.calls (some ⟨gl, 0, none⟩) 4 fxl (-1) (-1) _ HL.out (by decide) (by kernel_rfl)).mono ?_
  rintro e w8 ⟨rfl, hb⟩
  have HB_ := Aside0.mk (below_step HB.out hb)
  clear HB
  have HB := HB_
  clear HB_
  have HXA_ := Aside0.mk (blk_below HXA.out hb)
  clear HXA
  have HXA := HXA_
  clear HXA_
  have HXB_ := Aside0.mk (blk_below HXB.out hb)
  clear HXB
  have HXB := HXB_
  clear HXB_
  have HXC_ := Aside0.mk (blk_below HXC.out hb)
  clear HXC
  have HXC := HXC_
  clear HXC_
  have HL_ := Aside0.mk (Kd.C_below HL.out hb)
  clear HL
  have HL := HL_
  clear HL_ hb
  go_wp2_with fail
  refine (victim_Pick.calls none 0 [] 5 (-1) _ (Kd.C_nil _ _) (by decide) (by kernel_rfl)).mono ?_
  rintro e w9 ⟨rfl, hb⟩
  have HB_ := Aside0.mk (below_step HB.out hb)
  clear HB
  have HB := HB_
  clear HB_
  have HXA_ := Aside0.mk (blk_below HXA.out hb)
  clear HXA
  have HXA := HXA_
  clear HXA_
  have HXB_ := Aside0.mk (blk_below HXB.out hb)
  clear HXB
  have HXB := HXB_
  clear HXB_
  have HXC_ := Aside0.mk (blk_below HXC.out hb)
  clear HXC
  have HXC := HXC_
  clear HXC_
  have HL_ := Aside0.mk (Kd.C_below HL.out hb)
  clear HL
  have HL := HL_
  clear HL_ hb
  go_wp2_with fail
  refine (victim_Order.calls (some ⟨gl, 0, none⟩) 4 fxl [2, 1, 3, 0] _ HL.out (by decide) (by kernel_rfl)).mono ?_
  rintro e w10 ⟨v0, rfl, hv, hb⟩
  have HV := Aside0.mk hv
  clear hv
  obtain ⟨A0, c0, rfl, hc0, hC0⟩ := Kd.R_reads HV.out
  have HC0 := Aside0.mk hc0
  have HCC := Aside0.mk hC0
  clear hc0 hC0 HV
  have HB_ := Aside0.mk (below_step HB.out hb)
  clear HB
  have HB := HB_
  clear HB_
  have HXA_ := Aside0.mk (blk_below HXA.out hb)
  clear HXA
  have HXA := HXA_
  clear HXA_
  have HXB_ := Aside0.mk (blk_below HXB.out hb)
  clear HXB
  have HXB := HXB_
  clear HXB_
  have HXC_ := Aside0.mk (blk_below HXC.out hb)
  clear HXC
  have HXC := HXC_
  clear HXC_
  have HL_ := Aside0.mk (Kd.C_below HL.out hb)
  clear HL
  have HL := HL_
  clear HL_ hb
  go_wp2_with fail
  refine (lodgerref07_Ints.calls 6 A0 c0 [2, 1, 3, 0] (some ⟨w10.heap.size, 0, none⟩) 4 [2, 1, 3, 0] true _ (Kd.C_alloc HCC.out _) HC0.out (Cint_block (blk_new _ _) (by decide) rfl) (by decide) (by kernel_rfl)).mono ?_
  rintro e w11 ⟨rfl, hb⟩
  have HB_ := Aside0.mk (below_step (below_alloc HB.out _) hb.below)
  clear HB hb
  have HB := HB_
  clear HB_
  go_wp2_with fail
  go_ret
  exact ⟨rfl, HB.out⟩


/-! ### lodgerlaw14_VictimPicks: function 3 -/


/-! ### lodgerlaw14_VictimOrder: function 4 -/


/-! ### lodgerlaw14_VictimOlder: function 5 -/


/-! ### lodgerlaw14_VictimBest: function 6 -/


/-! ### lodgerlaw14_VictimAll: function 7 -/


/-! ### lodgerlaw14_VictimScale: function 8 -/


/-! ### lodgerlaw14_VictimRest: function 9 -/


end Go.Proofs.Ytbcjdendpdnknaa.H
