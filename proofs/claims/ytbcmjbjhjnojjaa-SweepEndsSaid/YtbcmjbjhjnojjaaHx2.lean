-- PRINTED by print.py (a twelfth state) out of the translation. Not trusted: Lean checks it.
import Derived.Test.YtbcmjbjhjnojjaaHx0
import Derived.Test.YtbcmjbjhjnojjaaHx1
namespace Go.Proofs.Ytbcmjbjhjnojjaa.H
open Go.RowKit Go.Proofs.YtbcmjbjhjnojjaaW.PrintWords Go.Proofs.YtbcmjbjhjnojjaaW.PrintLast Go.Proofs.YtbcmjbjhjnojjaaW.PrintMore
attribute [local go_sem] max2_int min2_int max_two min_two max_three min_three max_four min_four
set_option linter.unusedVariables false
set_option linter.unusedSimpArgs false
/-! ### sweep_Take: function 23 -/
def sweep_Take.f (k : Nat) (l0_0 : List Int) (a0_1 : Int) (a0_2 : Int) (a0_3 : Int) (a1 : Int) (a2 : Int) : Option (List Int × Int × Int × Int × Int) :=
 (slices_Index_int_int.f k l0_0 a1).bind fun i => if a0_1 = -1 ∧ 0 ≤ i ∧ 0 ≤ a2 ∧ a2 ≤ 30 then (if i < (l0_0.length : Int) ∧ l0_0.length ≤ 17592186044416 then some (l0_0.eraseIdx i.toNat,a1,0,a2,0) else none) else some (([] : List Int),0,0,0,1)
theorem sweep_Take.mono : ∀ a0 a1 a2 a3 a4 a5 k,LeO (sweep_Take.f k a0 a1 a2 a3 a4 a5) (sweep_Take.f (k + 1) a0 a1 a2 a3 a4 a5) := by
 intro a0 a1 a2 a3 a4 a5 k
 unfold sweep_Take.f
 exact LeO.bind (slices_Index_int_int.mono _ _ k) (fun _ => LeO.refl _)
set_option maxHeartbeats 8000000 in
set_option maxRecDepth 100000 in
theorem sweep_Take.fails (k : Nat) (A0_0 : Option Addr) (c0_0 : Nat) (l0_0 : List Int) (a0_1 : Int) (a0_2 : Int) (a0_3 : Int) (a1 : Int) (a2 : Int) (w : World) (hr0_0 : Kd.C (Kd.int .i64) w A0_0 l0_0.length l0_0) (hc0_0 : l0_0.length ≤ c0_0) (i : Int) (HI : Aside0 (slices_Index_int_int.f k l0_0 a1 = some i)) (hno : ¬ (a0_1 = -1 ∧ 0 ≤ i ∧ 0 ≤ a2 ∧ a2 ≤ 30)) :
  Calls Try.prog 23 #[.agg #[.slice A0_0 l0_0.length c0_0,.int .i64 a0_1,.int .i64 a0_2,.int .i64 a0_3],.int .i64 a1,.int .i64 a2] w fun e w' => ∃ v0_ : Value,e = .returned (.tuple #[.agg #[v0_,.int .i64 0,.int .i64 0,.int .i64 0],.int .i64 1]) ∧ Kd.R (Kd.int .i64) 3 w' w.heap.size (fun _ => True) v0_ [] ∧ Below w.heap.size w w' := by
 have HR0 := Aside0.mk hr0_0
 have HC0 := Aside0.mk hc0_0
 clear hr0_0 hc0_0
 go_enter Try.func23,Try.ntmps23
 go_upto_region 1 with fail
 obtain ⟨W1,hW1⟩ : ∃ W1,W1 = (w.alloc (.cells #[.slice A0_0 l0_0.length c0_0,.int .i64 a0_1,.int .i64 a0_2,.int .i64 a0_3] 25)).alloc (.cells #[.slice none 0 0,.int .i64 0,.int .i64 0,.int .i64 0] 25) := ⟨_,rfl⟩
 rw [← hW1]
 obtain ⟨gr,hgr⟩ : ∃ g,g = w.heap.size + 1 := ⟨_,rfl⟩
 obtain ⟨gs,hgs⟩ : ∃ g,g = w.heap.size := ⟨_,rfl⟩
 have HXs : Aside0 (W1.heap[gs]? = some (.cells #[.slice A0_0 l0_0.length c0_0,.int .i64 a0_1,.int .i64 a0_2,.int .i64 a0_3] 25 (0,0))) := ⟨by rw [hW1,hgs]; exact blk_alloc (blk_new _ _) _⟩
 have HXr : Aside0 (W1.heap[gr]? = some (.cells #[.slice none 0 0,.int .i64 0,.int .i64 0,.int .i64 0] 25 (0,0))) := ⟨by rw [hW1,hgr]; have := blk_new (w.alloc (.cells #[.slice A0_0 l0_0.length c0_0,.int .i64 a0_1,.int .i64 a0_2,.int .i64 a0_3] 25)) (.cells #[.slice none 0 0,.int .i64 0,.int .i64 0,.int .i64 0] 25); simpa using this⟩
 have HB : Aside0 (Below w.heap.size w W1) := ⟨by rw [hW1]; exact below_alloc (below_alloc (Below.refl _ _) _) _⟩
 have HGR : Aside0 (w.heap.size ≤ gr) := ⟨by omega⟩
 rw [← hgr,← hgs]
 clear hW1 hgr hgs
 have HR1 := Aside0.mk (Kd.C_below HR0.out HB.out)
 have hz0 : W1.cell? ⟨gs,0,none⟩ = some (.slice A0_0 l0_0.length c0_0) := (blk_cell HXs.out 0).trans rfl
 go_wp2_with fail
 clear hz0
 refine (slices_Index_int_int.calls k _ _ l0_0 a1 i _ HR1.out HC0.out HI.out).mono ?_
 rintro e w2 ⟨rfl,hb0⟩
 have hb : Below W1.heap.size W1 w2 := by first | exact hb0 | exact hb0.below
 clear hb0
 have q1 := Aside0.mk (blk_below HXs.out hb)
 have q2 := Aside0.mk (blk_below HXr.out hb)
 have q3 := Aside0.mk (below_step HB.out hb)
 have q4 := Aside0.mk (Kd.C_below HR1.out hb)
 clear hb HXs HXr HB HR1 HI
 have HXs := q1
 have HXr := q2
 have HB := q3
 have HR1 := q4
 clear q1 q2 q3 q4
 have x0 : w2.cell? ⟨gr,0,none⟩ = some (.slice none 0 0) := (blk_cell HXr.out 0).trans rfl
 have x1 : w2.cell? ⟨gr,1,none⟩ = some (.int .i64 0) := (blk_cell HXr.out 1).trans rfl
 have x2 : w2.cell? ⟨gr,2,none⟩ = some (.int .i64 0) := (blk_cell HXr.out 2).trans rfl
 have x3 : w2.cell? ⟨gr,3,none⟩ = some (.int .i64 0) := (blk_cell HXr.out 3).trans rfl
 have xf0 := blk_frozen HXr.out 0
 have xf1 := blk_frozen HXr.out 1
 have xf2 := blk_frozen HXr.out 2
 have xf3 := blk_frozen HXr.out 3
 have s1 : w2.cell? ⟨gs,1,none⟩ = some (.int .i64 a0_1) := (blk_cell HXs.out 1).trans rfl
 by_cases h1 : a0_1 = -1
 ·subst h1
  by_cases h2 : 0 ≤ i
  ·have e2 : decide (i < 0) = false := decide_eq_false (by omega)
   by_cases h3 : 0 ≤ a2
   ·have e3 : decide (a2 < 0) = false := decide_eq_false (by omega)
    have e4 : decide (30 < a2) = true := decide_eq_true (by omega)
    clear hno h2 h3
    go_wp2_with fail
    have b := (blk_set (blk_set (blk_set (blk_set HXr.out 0 (.slice none 0 0)) 1 (.int .i64 0)) 2 (.int .i64 0)) 3 (.int .i64 0))
    simp only [zqI,zqs0,zqs1] at b
    refine bodyPost_ret (results_ct rfl _ _ gr 25 #[.slice none 0 0,.int .i64 0,.int .i64 0,.int .i64 0] (0,0) _ rfl b Try.underlying25 rfl (by kernel_rfl)) rfl ?_
    exact ⟨_,rfl,Kd.R_nil _ _ _ _ _,(below_set (g := gr) (j := 3) (v := .int .i64 0) (below_set (g := gr) (j := 2) (v := .int .i64 0) (below_set (g := gr) (j := 1) (v := .int .i64 0) (below_set (g := gr) (j := 0) (v := .slice none 0 0) HB.out HGR.out) HGR.out) HGR.out) HGR.out)⟩
   ·have e3 : decide (a2 < 0) = true := decide_eq_true (by omega)
    clear hno h2 h3
    go_wp2_with fail
    have b := (blk_set (blk_set (blk_set (blk_set HXr.out 0 (.slice none 0 0)) 1 (.int .i64 0)) 2 (.int .i64 0)) 3 (.int .i64 0))
    simp only [zqI,zqs0,zqs1] at b
    refine bodyPost_ret (results_ct rfl _ _ gr 25 #[.slice none 0 0,.int .i64 0,.int .i64 0,.int .i64 0] (0,0) _ rfl b Try.underlying25 rfl (by kernel_rfl)) rfl ?_
    exact ⟨_,rfl,Kd.R_nil _ _ _ _ _,(below_set (g := gr) (j := 3) (v := .int .i64 0) (below_set (g := gr) (j := 2) (v := .int .i64 0) (below_set (g := gr) (j := 1) (v := .int .i64 0) (below_set (g := gr) (j := 0) (v := .slice none 0 0) HB.out HGR.out) HGR.out) HGR.out) HGR.out)⟩
  ·have e2 : decide (i < 0) = true := decide_eq_true (by omega)
   clear hno h2
   go_wp2_with fail
   have b := (blk_set (blk_set (blk_set (blk_set HXr.out 0 (.slice none 0 0)) 1 (.int .i64 0)) 2 (.int .i64 0)) 3 (.int .i64 0))
   simp only [zqI,zqs0,zqs1] at b
   refine bodyPost_ret (results_ct rfl _ _ gr 25 #[.slice none 0 0,.int .i64 0,.int .i64 0,.int .i64 0] (0,0) _ rfl b Try.underlying25 rfl (by kernel_rfl)) rfl ?_
   exact ⟨_,rfl,Kd.R_nil _ _ _ _ _,(below_set (g := gr) (j := 3) (v := .int .i64 0) (below_set (g := gr) (j := 2) (v := .int .i64 0) (below_set (g := gr) (j := 1) (v := .int .i64 0) (below_set (g := gr) (j := 0) (v := .slice none 0 0) HB.out HGR.out) HGR.out) HGR.out) HGR.out)⟩
 ·have e1 : (a0_1 != -1) = true := bne_iff_ne.mpr h1
  clear hno h1
  go_wp2_with fail
  have b := (blk_set (blk_set (blk_set (blk_set HXr.out 0 (.slice none 0 0)) 1 (.int .i64 0)) 2 (.int .i64 0)) 3 (.int .i64 0))
  simp only [zqI,zqs0,zqs1] at b
  refine bodyPost_ret (results_ct rfl _ _ gr 25 #[.slice none 0 0,.int .i64 0,.int .i64 0,.int .i64 0] (0,0) _ rfl b Try.underlying25 rfl (by kernel_rfl)) rfl ?_
  exact ⟨_,rfl,Kd.R_nil _ _ _ _ _,(below_set (g := gr) (j := 3) (v := .int .i64 0) (below_set (g := gr) (j := 2) (v := .int .i64 0) (below_set (g := gr) (j := 1) (v := .int .i64 0) (below_set (g := gr) (j := 0) (v := .slice none 0 0) HB.out HGR.out) HGR.out) HGR.out) HGR.out)⟩
set_option maxHeartbeats 8000000 in
set_option maxRecDepth 100000 in
theorem sweep_Take.takes (k : Nat) (A0_0 : Option Addr) (c0_0 : Nat) (l0_0 : List Int) (a0_1 : Int) (a0_2 : Int) (a0_3 : Int) (a1 : Int) (a2 : Int) (w : World) (hr0_0 : Kd.C (Kd.int .i64) w A0_0 l0_0.length l0_0) (hc0_0 : l0_0.length ≤ c0_0) (i : Int) (HI : Aside0 (slices_Index_int_int.f k l0_0 a1 = some i)) (hv : a0_1 = -1) (hi0 : 0 ≤ i) (hi1 : i < (l0_0.length : Int)) (hn0 : 0 ≤ a2) (hn1 : a2 ≤ 30) (hlen : l0_0.length ≤ 17592186044416) :
  Calls Try.prog 23 #[.agg #[.slice A0_0 l0_0.length c0_0,.int .i64 a0_1,.int .i64 a0_2,.int .i64 a0_3],.int .i64 a1,.int .i64 a2] w fun e w' => ∃ v0_ : Value,e = .returned (.tuple #[.agg #[v0_,.int .i64 a1,.int .i64 0,.int .i64 a2],.int .i64 0]) ∧ Kd.R (Kd.int .i64) 3 w' w.heap.size (fun _ => True) v0_ (l0_0.eraseIdx i.toNat) ∧ Below w.heap.size w w' := by
 subst hv
 have HI0 := Aside0.mk hi0
 have HI1 := Aside0.mk hi1
 have HLE := Aside0.mk hlen
 have e2 : decide (i < 0) = false := decide_eq_false (by omega)
 have e3 : decide (a2 < 0) = false := decide_eq_false (by omega)
 have e4 : decide (30 < a2) = false := decide_eq_false (by omega)
 clear hi0 hi1 hn0 hn1 hlen
 have HR0 := Aside0.mk hr0_0
 have HC0 := Aside0.mk hc0_0
 clear hr0_0 hc0_0
 go_enter Try.func23,Try.ntmps23
 go_upto_region 1 with fail
 obtain ⟨W1,hW1⟩ : ∃ W1,W1 = (w.alloc (.cells #[.slice A0_0 l0_0.length c0_0,.int .i64 (-1),.int .i64 a0_2,.int .i64 a0_3] 25)).alloc (.cells #[.slice none 0 0,.int .i64 0,.int .i64 0,.int .i64 0] 25) := ⟨_,rfl⟩
 rw [← hW1]
 obtain ⟨gr,hgr⟩ : ∃ g,g = w.heap.size + 1 := ⟨_,rfl⟩
 obtain ⟨gs,hgs⟩ : ∃ g,g = w.heap.size := ⟨_,rfl⟩
 have HXs : Aside0 (W1.heap[gs]? = some (.cells #[.slice A0_0 l0_0.length c0_0,.int .i64 (-1),.int .i64 a0_2,.int .i64 a0_3] 25 (0,0))) := ⟨by rw [hW1,hgs]; exact blk_alloc (blk_new _ _) _⟩
 have HXr : Aside0 (W1.heap[gr]? = some (.cells #[.slice none 0 0,.int .i64 0,.int .i64 0,.int .i64 0] 25 (0,0))) := ⟨by rw [hW1,hgr]; have := blk_new (w.alloc (.cells #[.slice A0_0 l0_0.length c0_0,.int .i64 (-1),.int .i64 a0_2,.int .i64 a0_3] 25)) (.cells #[.slice none 0 0,.int .i64 0,.int .i64 0,.int .i64 0] 25); simpa using this⟩
 have HB : Aside0 (Below w.heap.size w W1) := ⟨by rw [hW1]; exact below_alloc (below_alloc (Below.refl _ _) _) _⟩
 have HGR : Aside0 (w.heap.size ≤ gr) := ⟨by omega⟩
 rw [← hgr,← hgs]
 clear hW1 hgr hgs
 have HR1 := Aside0.mk (Kd.C_below HR0.out HB.out)
 have hz0 : W1.cell? ⟨gs,0,none⟩ = some (.slice A0_0 l0_0.length c0_0) := (blk_cell HXs.out 0).trans rfl
 go_wp2_with fail
 clear hz0
 refine (slices_Index_int_int.calls k _ _ l0_0 a1 i _ HR1.out HC0.out HI.out).mono ?_
 rintro e w2 ⟨rfl,hb0⟩
 have hb : Below W1.heap.size W1 w2 := by first | exact hb0 | exact hb0.below
 clear hb0
 have q1 := Aside0.mk (blk_below HXs.out hb)
 have q2 := Aside0.mk (blk_below HXr.out hb)
 have q3 := Aside0.mk (below_step HB.out hb)
 have q4 := Aside0.mk (Kd.C_below HR1.out hb)
 clear hb HXs HXr HB HR1 HI
 have HXs := q1
 have HXr := q2
 have HB := q3
 have HR1 := q4
 clear q1 q2 q3 q4
 have s0 : w2.cell? ⟨gs,0,none⟩ = some (.slice A0_0 l0_0.length c0_0) := (blk_cell HXs.out 0).trans rfl
 have s1 : w2.cell? ⟨gs,1,none⟩ = some (.int .i64 (-1)) := (blk_cell HXs.out 1).trans rfl
 have s2 : w2.cell? ⟨gs,2,none⟩ = some (.int .i64 a0_2) := (blk_cell HXs.out 2).trans rfl
 have s3 : w2.cell? ⟨gs,3,none⟩ = some (.int .i64 a0_3) := (blk_cell HXs.out 3).trans rfl
 go_wp2_with fail
 clear s0 s1 s2 s3 e2 e3 e4
 refine (sweep_own.calls _ _ l0_0 (-1) a0_2 a0_3 l0_0 (-1) a0_2 a0_3 _ HR1.out HC0.out (by unfold sweep_own.f; rw [if_pos HLE.out])).mono ?_
 rintro e w3 ⟨v0,rfl,hv0,hb⟩
 obtain ⟨g,cap,rfl,hg1,hg2,hg3⟩ := Kd.R_form hv0 (by have := HI1.out; have := HI0.out; omega)
 have q2 := Aside0.mk (blk_below HXr.out hb)
 have HNG : Aside0 (gr ≠ g) := ⟨by have := blk_lt HXr.out; omega⟩
 have HGG : Aside0 (w.heap.size ≤ g) := ⟨by have := below_size HB.out; omega⟩
 have HV := Aside0.mk (Kd.R_lower hv0 (below_size HB.out))
 have q3 := Aside0.mk (below_step HB.out hb)
 clear hb hv0 hg1 hg2 hg3 HXr HB HXs HR1
 have HXr := q2
 have HB := q3
 clear q2 q3
 go_upto_region 5 with ((with_reducible refine gate_dst (N := 9) rfl ?_); refine box_event ?hg (N := 9) ?hd (cs := #[.slice none 0 0,.int .i64 0,.int .i64 0,.int .i64 0]) (t := 25) ?hr ?_; (case hd => rfl); (case hg => rfl); (case hr => first | (go_simp; done) | (go_simp; rfl)); intro go hgo w4 hbox hb; have q1 := Aside0.mk (Kd.R_below HV.out hb); have q2 := Aside0.mk (blk_below HXr.out hb); have HXo := Aside0.mk hbox; have HNE : Aside0 (gr ≠ go) := ⟨by rw [hgo]; exact Nat.ne_of_lt (blk_lt HXr.out)⟩; have HGO : Aside0 (w.heap.size ≤ go) := ⟨by rw [hgo]; exact below_size HB.out⟩; have q3 := Aside0.mk (below_step HB.out hb); clear hb hbox hgo HV HXr HB; have HV := q1; have HXr := q2; have HB := q3; clear q1 q2 q3; have y0 : w4.cell? ⟨go,0,none⟩ = some (.slice none 0 0) := (blk_cell HXo.out 0).trans rfl; have y1 : w4.cell? ⟨go,1,none⟩ = some (.int .i64 0) := (blk_cell HXo.out 1).trans rfl; have y2 : w4.cell? ⟨go,2,none⟩ = some (.int .i64 0) := (blk_cell HXo.out 2).trans rfl; have y3 : w4.cell? ⟨go,3,none⟩ = some (.int .i64 0) := (blk_cell HXo.out 3).trans rfl; have yf0 := blk_frozen HXo.out 0; have yf1 := blk_frozen HXo.out 1; have yf2 := blk_frozen HXo.out 2; have yf3 := blk_frozen HXo.out 3)
 clear y0 y1 y2 y3 yf0 yf1 yf2 yf3
 obtain ⟨W5,hW5⟩ : ∃ W_,W_ = ((((w4.setCell ⟨go,0,none⟩ (.slice (some ⟨g,0,none⟩) l0_0.length cap)).setCell ⟨go,1,none⟩ (.int .i64 (-1))).setCell ⟨go,2,none⟩ (.int .i64 a0_2)).setCell ⟨go,3,none⟩ (.int .i64 a0_3)) := ⟨_,rfl⟩
 rw [← hW5]
 have p1 := (blk_set (blk_set (blk_set (blk_set HXo.out 0 (.slice (some ⟨g,0,none⟩) l0_0.length cap)) 1 (.int .i64 (-1))) 2 (.int .i64 a0_2)) 3 (.int .i64 a0_3))
 simp only [zqI,zqs0,zqs1] at p1
 have p2 := (blk_far (blk_far (blk_far (blk_far HXr.out (p := ⟨go,0,none⟩) HNE.out (.slice (some ⟨g,0,none⟩) l0_0.length cap)) (p := ⟨go,1,none⟩) HNE.out (.int .i64 (-1))) (p := ⟨go,2,none⟩) HNE.out (.int .i64 a0_2)) (p := ⟨go,3,none⟩) HNE.out (.int .i64 a0_3))
 have p3 := (Kd.R_set (Kd.R_set (Kd.R_set (Kd.R_set HV.out HXo.out (by decide) 0 (.slice (some ⟨g,0,none⟩) l0_0.length cap)) (blk_set HXo.out 0 (.slice (some ⟨g,0,none⟩) l0_0.length cap)) (by decide) 1 (.int .i64 (-1))) (blk_set (blk_set HXo.out 0 (.slice (some ⟨g,0,none⟩) l0_0.length cap)) 1 (.int .i64 (-1))) (by decide) 2 (.int .i64 a0_2)) (blk_set (blk_set (blk_set HXo.out 0 (.slice (some ⟨g,0,none⟩) l0_0.length cap)) 1 (.int .i64 (-1))) 2 (.int .i64 a0_2)) (by decide) 3 (.int .i64 a0_3))
 have p4 := (below_set (g := go) (j := 3) (v := .int .i64 a0_3) (below_set (g := go) (j := 2) (v := .int .i64 a0_2) (below_set (g := go) (j := 1) (v := .int .i64 (-1)) (below_set (g := go) (j := 0) (v := .slice (some ⟨g,0,none⟩) l0_0.length cap) HB.out HGO.out) HGO.out) HGO.out) HGO.out)
 rw [← hW5] at p1 p2 p3 p4
 clear hW5 HXo HXr HV HB
 have HXo := Aside0.mk p1
 have HXr := Aside0.mk p2
 have HV := Aside0.mk p3
 have HB := Aside0.mk p4
 clear p1 p2 p3 p4
 have y0 : W5.cell? ⟨go,0,none⟩ = some (.slice (some ⟨g,0,none⟩) l0_0.length cap) := (blk_cell HXo.out 0).trans rfl
 have hi0 := HI0.out
 have hi64 : i + 1 ≤ 9223372036854775807 := by have := HI1.out; have := HLE.out; omega
 go_wp2_with fail
 clear y0 hi0 hi64
 refine (Del.delete_one HV.out i HI0.out HI1.out).mono ?_
 rintro e w6 ⟨rfl,hR,hbel,hfar⟩
 have HV6 := Aside0.mk hR
 have HB6 := Aside0.mk (hbel HB.out HGG.out)
 have HXr6 := Aside0.mk ((hfar gr HNG.out).trans HXr.out)
 clear hR hbel hfar HV HB HXr HXo
 have x0 : w6.cell? ⟨gr,0,none⟩ = some (.slice none 0 0) := (blk_cell HXr6.out 0).trans rfl
 have x1 : w6.cell? ⟨gr,1,none⟩ = some (.int .i64 0) := (blk_cell HXr6.out 1).trans rfl
 have x2 : w6.cell? ⟨gr,2,none⟩ = some (.int .i64 0) := (blk_cell HXr6.out 2).trans rfl
 have x3 : w6.cell? ⟨gr,3,none⟩ = some (.int .i64 0) := (blk_cell HXr6.out 3).trans rfl
 have xf0 := blk_frozen HXr6.out 0
 have xf1 := blk_frozen HXr6.out 1
 have xf2 := blk_frozen HXr6.out 2
 have xf3 := blk_frozen HXr6.out 3
 go_wp2_with fail
 have b := (blk_set (blk_set (blk_set (blk_set HXr6.out 0 (.slice (some ⟨g,0,none⟩) (l0_0.length - 1) cap)) 1 (.int .i64 a1)) 2 (.int .i64 0)) 3 (.int .i64 a2))
 simp only [zqI,zqs0,zqs1] at b
 refine bodyPost_ret (results_ct rfl _ _ gr 25 #[.slice (some ⟨g,0,none⟩) (l0_0.length - 1) cap,.int .i64 a1,.int .i64 0,.int .i64 a2] (0,0) _ rfl b Try.underlying25 rfl (by kernel_rfl)) rfl ?_
 exact ⟨_,rfl,(Kd.R_set (Kd.R_set (Kd.R_set (Kd.R_set HV6.out HXr6.out (by decide) 0 (.slice (some ⟨g,0,none⟩) (l0_0.length - 1) cap)) (blk_set HXr6.out 0 (.slice (some ⟨g,0,none⟩) (l0_0.length - 1) cap)) (by decide) 1 (.int .i64 a1)) (blk_set (blk_set HXr6.out 0 (.slice (some ⟨g,0,none⟩) (l0_0.length - 1) cap)) 1 (.int .i64 a1)) (by decide) 2 (.int .i64 0)) (blk_set (blk_set (blk_set HXr6.out 0 (.slice (some ⟨g,0,none⟩) (l0_0.length - 1) cap)) 1 (.int .i64 a1)) 2 (.int .i64 0)) (by decide) 3 (.int .i64 a2)),(below_set (g := gr) (j := 3) (v := .int .i64 a2) (below_set (g := gr) (j := 2) (v := .int .i64 0) (below_set (g := gr) (j := 1) (v := .int .i64 a1) (below_set (g := gr) (j := 0) (v := .slice (some ⟨g,0,none⟩) (l0_0.length - 1) cap) HB6.out HGR.out) HGR.out) HGR.out) HGR.out)⟩
theorem sweep_Take.calls (k : Nat) (A0_0 : Option Addr) (c0_0 : Nat) (l0_0 : List Int) (a0_1 : Int) (a0_2 : Int) (a0_3 : Int) (a1 : Int) (a2 : Int) (r1 : List Int) (r2 : Int) (r3 : Int) (r4 : Int) (r5 : Int) (w : World) (hr0_0 : Kd.C (Kd.int .i64) w A0_0 l0_0.length l0_0) (hc0_0 : l0_0.length ≤ c0_0) (h : sweep_Take.f k l0_0 a0_1 a0_2 a0_3 a1 a2 = some (r1,r2,r3,r4,r5)) :
  Calls Try.prog 23 #[.agg #[.slice A0_0 l0_0.length c0_0,.int .i64 a0_1,.int .i64 a0_2,.int .i64 a0_3],.int .i64 a1,.int .i64 a2] w fun e w' => ∃ v0_ : Value,e = .returned (.tuple #[.agg #[v0_,.int .i64 r2,.int .i64 r3,.int .i64 r4],.int .i64 r5]) ∧ Kd.R (Kd.int .i64) 3 w' w.heap.size (fun _ => True) v0_ r1 ∧ Below w.heap.size w w' := by
 obtain ⟨i,hI,h⟩ := Option.bind_eq_some_iff.mp h
 by_cases hc : a0_1 = -1 ∧ 0 ≤ i ∧ 0 ≤ a2 ∧ a2 ≤ 30
 ·rw [if_pos hc] at h
  by_cases hd : i < (l0_0.length : Int) ∧ l0_0.length ≤ 17592186044416
  ·rw [if_pos hd] at h
   simp only [Option.some.injEq,Prod.mk.injEq] at h
   obtain ⟨rfl,rfl,rfl,rfl,rfl⟩ := h
   exact sweep_Take.takes k A0_0 c0_0 l0_0 a0_1 a0_2 a0_3 a1 a2 w hr0_0 hc0_0 i ⟨hI⟩ hc.1 hc.2.1 hd.1 hc.2.2.1 hc.2.2.2 hd.2
  ·rw [if_neg hd] at h
   cases h
 ·rw [if_neg hc] at h
  simp only [Option.some.injEq,Prod.mk.injEq] at h
  obtain ⟨rfl,rfl,rfl,rfl,rfl⟩ := h
  exact sweep_Take.fails k A0_0 c0_0 l0_0 a0_1 a0_2 a0_3 a1 a2 w hr0_0 hc0_0 i ⟨hI⟩ hc
/-! ### sweep_Next: function 16 -/
def sweep_Next.j0 : Nat → Bool → Int → Bool → List Int → Int → Int → Int → Option (Int)
 | 0,_,_,_,_,_,_,_ => none
 | k + 1,x1,x5,x6,x122000,x122001,x122002,x122003 => if x6 = true then (some 3) else (if x122001 = (-1) then (if (x122000.length : Int) > 0 then (some (wrap64 ((wrap64 (x5 + 1)) + 1))) else (if x1 = true then (some (wrap64 (x5 + 1))) else (some x5))) else (some 4))
def sweep_Next.f (k : Nat) (l0_0 : List Int) (a0_1 : Int) (a0_2 : Int) (a0_3 : Int) (a1 : Bool) : Option (Int) := if a0_1 = (-1) then (sweep_Next.j0 k a1 0 false l0_0 a0_1 a0_2 a0_3) else (sweep_Next.j0 k a1 0 (decide (a0_2 < a0_3)) l0_0 a0_1 a0_2 a0_3)
theorem sweep_Next.mono_l : ∀ k,(∀ y0 y1 y2 y3 y4 y5 y6,LeO (sweep_Next.j0 k y0 y1 y2 y3 y4 y5 y6) (sweep_Next.j0 (k + 1) y0 y1 y2 y3 y4 y5 y6))
 | 0 => fun _ _ _ _ _ _ _ r h => by simp [sweep_Next.j0] at h
 | k + 1 => by
  have ih0 := sweep_Next.mono_l k
  ·intro y0 y1 y2 y3 y4 y5 y6
   unfold sweep_Next.j0
   repeat' first
   | (with_reducible exact ih0 _ _ _ _ _ _ _)
   | (with_reducible exact LeO.refl _)
   | (with_reducible exact LeO.none _)
   | (with_reducible refine LeO.ite ?_ ?_)
   | (with_reducible refine LeO.bind ?_ (fun _ => ?_))
   | exact ih0 _ _ _ _ _ _ _
   | exact LeO.none _
   | refine LeO.ite ?_ ?_
   | refine LeO.bind ?_ (fun _ => ?_)
theorem sweep_Next.mono : ∀ a0 a1 a2 a3 a4 k,LeO (sweep_Next.f k a0 a1 a2 a3 a4) (sweep_Next.f (k + 1) a0 a1 a2 a3 a4) := by
 intro a0 a1 a2 a3 a4 k
 have ih0 := sweep_Next.mono_l k
 unfold sweep_Next.f
 repeat' first
   | (with_reducible exact ih0 _ _ _ _ _ _ _)
   | (with_reducible exact LeO.refl _)
   | (with_reducible exact LeO.none _)
   | (with_reducible refine LeO.ite ?_ ?_)
   | (with_reducible refine LeO.bind ?_ (fun _ => ?_))
   | exact ih0 _ _ _ _ _ _ _
   | exact LeO.none _
   | refine LeO.ite ?_ ?_
   | refine LeO.bind ?_ (fun _ => ?_)
set_option maxHeartbeats 8000000 in
set_option maxRecDepth 100000 in
theorem sweep_Next.calls (k : Nat) (A0_0 : Option Addr) (c0_0 : Nat) (l0_0 : List Int) (a0_1 : Int) (a0_2 : Int) (a0_3 : Int) (a1 : Bool) (r : Int) (w : World) (hr0_0 : Kd.C (Kd.int .i64) w A0_0 l0_0.length l0_0) (hc0_0 : l0_0.length ≤ c0_0) (h : sweep_Next.f k l0_0 a0_1 a0_2 a0_3 a1 = some r) :
  Calls Try.prog 16 #[.agg #[.slice A0_0 l0_0.length c0_0,.int .i64 a0_1,.int .i64 a0_2,.int .i64 a0_3],.bool a1] w fun e w' => e = .returned (.int .i64 r) ∧ Below w.heap.size w w' := by
 have hu25 := Try.underlying25
 have HR0_0 := Aside0.mk hr0_0
 have HC0_0 := Aside0.mk hc0_0
 clear hr0_0 hc0_0
 have HB := Aside0.mk (Below.refl w.heap.size w)
 have H : (if a0_1 = (-1) then (sweep_Next.j0 k a1 0 false l0_0 a0_1 a0_2 a0_3) else (sweep_Next.j0 k a1 0 (decide (a0_2 < a0_3)) l0_0 a0_1 a0_2 a0_3)) = some r := h
 clear h
 have HC3 := Aside0.mk H
 clear H
 go_enter Try.func16,Try.ntmps16
 go_upto_region 2 with (first | ((with_reducible refine gate_dst (N := 2) rfl ?_); refine box_event ?hg (N := 2) ?hd (cs := #[.slice A0_0 l0_0.length c0_0,.int .i64 a0_1,.int .i64 a0_2,.int .i64 a0_3]) (t := 25) ?hr ?_; (case hd => rfl); (case hg => rfl); (case hr => first | (go_simp; done) | (go_simp; rfl)); intro gb121 hg w4 hbox hb; have n0_ := Aside0.mk (below_step (by repeat (first | (with_reducible first | exact HB.out | apply below_alloc | apply pw_below_drewN | apply below_drew1) | exact HB.out)) hb); have n1_ := Aside0.mk (hbox); have n2_ := Aside0.mk ((by rw [hg]; exact (below_size (by repeat (first | (with_reducible first | exact HB.out | apply below_alloc | apply pw_below_drewN | apply below_drew1) | exact HB.out))) : w.heap.size ≤ gb121)); have n3_ := Aside0.mk ((by rw [hg]; exact (below_size (by repeat (first | (with_reducible first | exact HB.out | apply below_alloc | apply pw_below_drewN | apply below_drew1) | exact HB.out))) : w.heap.size ≤ gb121)); clear HB; have HB := n0_; have BK121 := n1_; have GW121 := n2_; have GE121 := n3_; clear n0_ n1_ n2_ n3_; clear hb hbox hg))
 (try simp only [Act.put,zqI,zqs0,zqs1])
 go_cut [6] (fun v6 wc => ∃ (kq : Nat) (x6_2 : Bool),v6 = .bool x6_2 ∧ Aside0 (sweep_Next.j0 kq a1 0 x6_2 l0_0 a0_1 a0_2 a0_3 = some r) ∧ Aside0 (kq ≤ k) ∧ Aside0 (wc.heap[gb121]? = some (.cells #[(.slice A0_0 l0_0.length c0_0),.int .i64 a0_1,.int .i64 a0_2,.int .i64 a0_3] 25 (0,0))) ∧ Aside0 (Below w.heap.size w wc))
 case first =>
  have H := HC3.out
  clear HC3
  by_cases c5 : a0_1 = (-1)
  ·rw [if_pos c5] at H
   have c5b0 : (a0_1 == (-1)) = true := beq_iff_eq.mpr c5
   have c5b1 : (a0_1 != (-1)) = false := bne_eq_false_iff_eq.mpr c5
   clear c5
   (first | rw [c5b0] | (simp only [i64_w,i32_w]; rw [c5b0]) | skip)
   have H' := Aside0.mk H
   clear H
   have hcz6_0 : w4.cell? ⟨gb121,0,none⟩ = some (.slice A0_0 l0_0.length c0_0) := (blk_cell BK121.out 0).trans rfl
   have hcz6_1 : w4.cell? ⟨gb121,1,none⟩ = some (.int .i64 a0_1) := (blk_cell BK121.out 1).trans rfl
   have hcz6_2 : w4.cell? ⟨gb121,2,none⟩ = some (.int .i64 a0_2) := (blk_cell BK121.out 2).trans rfl
   have hcz6_3 : w4.cell? ⟨gb121,3,none⟩ = some (.int .i64 a0_3) := (blk_cell BK121.out 3).trans rfl
   have hfz6_0 := blk_frozen BK121.out 0
   have hfz6_1 := blk_frozen BK121.out 1
   have hfz6_2 := blk_frozen BK121.out 2
   have hfz6_3 := blk_frozen BK121.out 3
   go_wp2
   go_meet
   case rel => exact ⟨_,(false),(by first | rfl | (simp; done) | (simp [*]; done)),H',⟨by first | omega | exact Nat.le_refl _⟩,⟨by (with_reducible repeat (first | refine blk_drewN ?_ _ | refine blk_drew ?_ | refine blk_alloc ?_ _)); exact BK121.out⟩,⟨by repeat (first | (with_reducible first | exact HB.out | apply below_alloc | apply pw_below_drewN | apply below_drew1 | refine below_set ?_ GE121.out) | exact HB.out)⟩⟩
  ·rw [if_neg c5] at H
   have c5b0 : (a0_1 == (-1)) = false := beq_eq_false_iff_ne.mpr c5
   have c5b1 : (a0_1 != (-1)) = true := bne_iff_ne.mpr c5
   (first | rw [c5b0] | (simp only [i64_w,i32_w]; rw [c5b0]) | skip)
   have H' := Aside0.mk H
   clear H
   have hcz7_0 : w4.cell? ⟨gb121,0,none⟩ = some (.slice A0_0 l0_0.length c0_0) := (blk_cell BK121.out 0).trans rfl
   have hcz7_1 : w4.cell? ⟨gb121,1,none⟩ = some (.int .i64 a0_1) := (blk_cell BK121.out 1).trans rfl
   have hcz7_2 : w4.cell? ⟨gb121,2,none⟩ = some (.int .i64 a0_2) := (blk_cell BK121.out 2).trans rfl
   have hcz7_3 : w4.cell? ⟨gb121,3,none⟩ = some (.int .i64 a0_3) := (blk_cell BK121.out 3).trans rfl
   have hfz7_0 := blk_frozen BK121.out 0
   have hfz7_1 := blk_frozen BK121.out 1
   have hfz7_2 := blk_frozen BK121.out 2
   have hfz7_3 := blk_frozen BK121.out 3
   go_wp2
   go_meet
   case rel => exact ⟨_,(decide (a0_2 < a0_3)),(by first | rfl | (simp; done) | (simp [*]; done)),H',⟨by first | omega | exact Nat.le_refl _⟩,⟨by (with_reducible repeat (first | refine blk_drewN ?_ _ | refine blk_drew ?_ | refine blk_alloc ?_ _)); exact BK121.out⟩,⟨by repeat (first | (with_reducible first | exact HB.out | apply below_alloc | apply pw_below_drewN | apply below_drew1 | refine below_set ?_ GE121.out) | exact HB.out)⟩⟩
 case rest =>
  clear HC3
  try clear c1
  try clear p2
  try clear c5
  try clear c5b0
  try clear c5b1
  try clear hcz6_0
  try clear hcz6_1
  try clear hcz6_2
  try clear hcz6_3
  try clear hcz7_0
  try clear hcz7_1
  try clear hcz7_2
  try clear hcz7_3
  try clear hfz6_0
  try clear hfz6_1
  try clear hfz6_2
  try clear hfz6_3
  try clear hfz7_0
  try clear hfz7_1
  try clear hfz7_2
  try clear hfz7_3
  obtain ⟨kq,x6_2,rfl,HA,HJ2,BK121,HB⟩ := hcut
  cases kq with
  | zero => exact absurd HA.out (by simp [sweep_Next.j0])
  | succ kj2 =>
   have H := HA.out
   clear HA
   simp only [sweep_Next.j0] at H
   by_cases c8 : x6_2 = true
   ·subst c8
    have H1 : (some 3) = some r := by rw [if_pos rfl] at H; exact H
    clear H
    have H := H1
    clear H1
    obtain rfl := Option.some.inj H
    go_wp2
    go_ret
    exact ⟨by first | rfl | (exact congrArg (fun x => Ending.returned (.int .i64 x)) (by unfold wrap64; omega)) | (simp [errW_none,errW_some] <;> rfl) | (simp [*,errW_none,errW_some] <;> rfl),by repeat (first | (with_reducible first | exact HB.out | apply below_alloc | apply pw_below_drewN | apply below_drew1 | refine below_set ?_ GE121.out) | exact HB.out)⟩
   ·replace c8 := Bool.eq_false_iff.mpr c8
    subst c8
    have H1 : (if a0_1 = (-1) then (if (l0_0.length : Int) > 0 then (some (wrap64 ((wrap64 (0 + 1)) + 1))) else (if a1 = true then (some (wrap64 (0 + 1))) else (some 0))) else (some 4)) = some r := by rw [if_neg (show ¬ (false = true) by decide)] at H; exact H
    clear H
    have H := H1
    clear H1
    by_cases c9 : a0_1 = (-1)
    ·rw [if_pos c9] at H
     have c9b0 : (a0_1 == (-1)) = true := beq_iff_eq.mpr c9
     have c9b1 : (a0_1 != (-1)) = false := bne_eq_false_iff_eq.mpr c9
     clear c9
     by_cases c10 : (l0_0.length : Int) > 0
     ·rw [if_pos c10] at H
      have c10b0 : decide (0 < (l0_0.length : Int)) = true := decide_eq_true c10
      have c10b1 : decide (0 < l0_0.length) = true := decide_eq_true (by omega)
      clear c10
      obtain rfl := Option.some.inj H
      have hcz11_0 : wc.cell? ⟨gb121,0,none⟩ = some (.slice A0_0 l0_0.length c0_0) := (blk_cell BK121.out 0).trans rfl
      have hcz11_1 : wc.cell? ⟨gb121,1,none⟩ = some (.int .i64 a0_1) := (blk_cell BK121.out 1).trans rfl
      have hcz11_2 : wc.cell? ⟨gb121,2,none⟩ = some (.int .i64 a0_2) := (blk_cell BK121.out 2).trans rfl
      have hcz11_3 : wc.cell? ⟨gb121,3,none⟩ = some (.int .i64 a0_3) := (blk_cell BK121.out 3).trans rfl
      have hfz11_0 := blk_frozen BK121.out 0
      have hfz11_1 := blk_frozen BK121.out 1
      have hfz11_2 := blk_frozen BK121.out 2
      have hfz11_3 := blk_frozen BK121.out 3
      go_wp2
      go_ret
      exact ⟨by first | rfl | (exact congrArg (fun x => Ending.returned (.int .i64 x)) (by unfold wrap64; omega)) | (simp [errW_none,errW_some] <;> rfl) | (simp [*,errW_none,errW_some] <;> rfl),by repeat (first | (with_reducible first | exact HB.out | apply below_alloc | apply pw_below_drewN | apply below_drew1 | refine below_set ?_ GE121.out) | exact HB.out)⟩
     ·rw [if_neg c10] at H
      have c10b0 : decide (0 < (l0_0.length : Int)) = false := decide_eq_false c10
      have c10b1 : decide (0 < l0_0.length) = false := decide_eq_false (by omega)
      clear c10
      by_cases c12 : a1 = true
      ·subst c12
       have H1 : (some (wrap64 (0 + 1))) = some r := by rw [if_pos rfl] at H; exact H
       clear H
       have H := H1
       clear H1
       obtain rfl := Option.some.inj H
       have hcz13_0 : wc.cell? ⟨gb121,0,none⟩ = some (.slice A0_0 l0_0.length c0_0) := (blk_cell BK121.out 0).trans rfl
       have hcz13_1 : wc.cell? ⟨gb121,1,none⟩ = some (.int .i64 a0_1) := (blk_cell BK121.out 1).trans rfl
       have hcz13_2 : wc.cell? ⟨gb121,2,none⟩ = some (.int .i64 a0_2) := (blk_cell BK121.out 2).trans rfl
       have hcz13_3 : wc.cell? ⟨gb121,3,none⟩ = some (.int .i64 a0_3) := (blk_cell BK121.out 3).trans rfl
       have hfz13_0 := blk_frozen BK121.out 0
       have hfz13_1 := blk_frozen BK121.out 1
       have hfz13_2 := blk_frozen BK121.out 2
       have hfz13_3 := blk_frozen BK121.out 3
       go_wp2
       go_ret
       exact ⟨by first | rfl | (exact congrArg (fun x => Ending.returned (.int .i64 x)) (by unfold wrap64; omega)) | (simp [errW_none,errW_some] <;> rfl) | (simp [*,errW_none,errW_some] <;> rfl),by repeat (first | (with_reducible first | exact HB.out | apply below_alloc | apply pw_below_drewN | apply below_drew1 | refine below_set ?_ GE121.out) | exact HB.out)⟩
      ·replace c12 := Bool.eq_false_iff.mpr c12
       subst c12
       have H1 : (some 0) = some r := by rw [if_neg (show ¬ (false = true) by decide)] at H; exact H
       clear H
       have H := H1
       clear H1
       obtain rfl := Option.some.inj H
       have hcz14_0 : wc.cell? ⟨gb121,0,none⟩ = some (.slice A0_0 l0_0.length c0_0) := (blk_cell BK121.out 0).trans rfl
       have hcz14_1 : wc.cell? ⟨gb121,1,none⟩ = some (.int .i64 a0_1) := (blk_cell BK121.out 1).trans rfl
       have hcz14_2 : wc.cell? ⟨gb121,2,none⟩ = some (.int .i64 a0_2) := (blk_cell BK121.out 2).trans rfl
       have hcz14_3 : wc.cell? ⟨gb121,3,none⟩ = some (.int .i64 a0_3) := (blk_cell BK121.out 3).trans rfl
       have hfz14_0 := blk_frozen BK121.out 0
       have hfz14_1 := blk_frozen BK121.out 1
       have hfz14_2 := blk_frozen BK121.out 2
       have hfz14_3 := blk_frozen BK121.out 3
       go_wp2
       go_ret
       exact ⟨by first | rfl | (exact congrArg (fun x => Ending.returned (.int .i64 x)) (by unfold wrap64; omega)) | (simp [errW_none,errW_some] <;> rfl) | (simp [*,errW_none,errW_some] <;> rfl),by repeat (first | (with_reducible first | exact HB.out | apply below_alloc | apply pw_below_drewN | apply below_drew1 | refine below_set ?_ GE121.out) | exact HB.out)⟩
    ·rw [if_neg c9] at H
     have c9b0 : (a0_1 == (-1)) = false := beq_eq_false_iff_ne.mpr c9
     have c9b1 : (a0_1 != (-1)) = true := bne_iff_ne.mpr c9
     obtain rfl := Option.some.inj H
     have hcz15_0 : wc.cell? ⟨gb121,0,none⟩ = some (.slice A0_0 l0_0.length c0_0) := (blk_cell BK121.out 0).trans rfl
     have hcz15_1 : wc.cell? ⟨gb121,1,none⟩ = some (.int .i64 a0_1) := (blk_cell BK121.out 1).trans rfl
     have hcz15_2 : wc.cell? ⟨gb121,2,none⟩ = some (.int .i64 a0_2) := (blk_cell BK121.out 2).trans rfl
     have hcz15_3 : wc.cell? ⟨gb121,3,none⟩ = some (.int .i64 a0_3) := (blk_cell BK121.out 3).trans rfl
     have hfz15_0 := blk_frozen BK121.out 0
     have hfz15_1 := blk_frozen BK121.out 1
     have hfz15_2 := blk_frozen BK121.out 2
     have hfz15_3 := blk_frozen BK121.out 3
     go_wp2
     go_ret
     exact ⟨by first | rfl | (exact congrArg (fun x => Ending.returned (.int .i64 x)) (by unfold wrap64; omega)) | (simp [errW_none,errW_some] <;> rfl) | (simp [*,errW_none,errW_some] <;> rfl),by repeat (first | (with_reducible first | exact HB.out | apply below_alloc | apply pw_below_drewN | apply below_drew1 | refine below_set ?_ GE121.out) | exact HB.out)⟩
/-! ### sweep_Seen: function 24 -/
def sweep_Seen.f (k : Nat) (l0_0 : List Int) (a0_1 : Int) (a0_2 : Int) (a0_3 : Int) : Option (List Int × Int × Int × Int × Int) := (sweep_Next.f k l0_0 a0_1 a0_2 a0_3 false).bind fun t136 => (if t136 = 3 then ((sweep_own.f l0_0 a0_1 a0_2 a0_3).bind fun bt137 => (some (bt137.1,bt137.2.1,wrap64 (bt137.2.2.1 + 1),bt137.2.2.2,0))) else (some (([] : List Int),0,0,0,1)))
theorem sweep_Seen.mono : ∀ a0 a1 a2 a3 k,LeO (sweep_Seen.f k a0 a1 a2 a3) (sweep_Seen.f (k + 1) a0 a1 a2 a3) := by
 intro a0 a1 a2 a3 k
 unfold sweep_Seen.f
 repeat' first
   | (with_reducible exact sweep_Next.mono _ _ _ _ _ _)
   | (with_reducible exact LeO.refl _)
   | (with_reducible exact LeO.none _)
   | (with_reducible refine LeO.ite ?_ ?_)
   | (with_reducible refine LeO.bind ?_ (fun _ => ?_))
   | exact sweep_Next.mono _ _ _ _ _ _
   | exact LeO.none _
   | refine LeO.ite ?_ ?_
   | refine LeO.bind ?_ (fun _ => ?_)
set_option maxHeartbeats 8000000 in
set_option maxRecDepth 100000 in
theorem sweep_Seen.calls (k : Nat) (A0_0 : Option Addr) (c0_0 : Nat) (l0_0 : List Int) (a0_1 : Int) (a0_2 : Int) (a0_3 : Int) (r1 : List Int) (r2 : Int) (r3 : Int) (r4 : Int) (r5 : Int) (w : World) (hr0_0 : Kd.C (Kd.int .i64) w A0_0 l0_0.length l0_0) (hc0_0 : l0_0.length ≤ c0_0) (h : sweep_Seen.f k l0_0 a0_1 a0_2 a0_3 = some (r1,r2,r3,r4,r5)) :
  Calls Try.prog 24 #[.agg #[.slice A0_0 l0_0.length c0_0,.int .i64 a0_1,.int .i64 a0_2,.int .i64 a0_3]] w fun e w' => ∃ v0_ : Value,e = .returned (.tuple #[.agg #[v0_,.int .i64 r2,.int .i64 r3,.int .i64 r4],.int .i64 r5]) ∧ Kd.R (Kd.int .i64) 3 w' w.heap.size (fun _ => True) v0_ r1 ∧ Below w.heap.size w w' := by
 have hu25 := Try.underlying25
 have HR0_0 := Aside0.mk hr0_0
 have HC0_0 := Aside0.mk hc0_0
 clear hr0_0 hc0_0
 have HB := Aside0.mk (Below.refl w.heap.size w)
 have H : ((sweep_Next.f k l0_0 a0_1 a0_2 a0_3 false).bind fun t136 => (if t136 = 3 then ((sweep_own.f l0_0 a0_1 a0_2 a0_3).bind fun bt137 => (some (bt137.1,bt137.2.1,wrap64 (bt137.2.2.1 + 1),bt137.2.2.2,0))) else (some (([] : List Int),0,0,0,1)))) = some (r1,r2,r3,r4,r5) := h
 clear h
 replace H := Option.bind_eq_some_iff.mp H
 obtain ⟨t136,A20,H⟩ := H
 replace H : (if t136 = 3 then ((sweep_own.f l0_0 a0_1 a0_2 a0_3).bind fun bt137 => (some (bt137.1,bt137.2.1,wrap64 (bt137.2.2.1 + 1),bt137.2.2.2,0))) else (some (([] : List Int),0,0,0,1))) = some (r1,r2,r3,r4,r5) := H
 have A2 := Aside0.mk A20
 clear A20
 by_cases c3 : t136 = 3
 ·rw [if_pos c3] at H
  have c3b0 : (t136 == 3) = true := beq_iff_eq.mpr c3
  have c3b1 : (t136 != 3) = false := bne_eq_false_iff_eq.mpr c3
  clear c3
  replace H := Option.bind_eq_some_iff.mp H
  obtain ⟨⟨t137,t140,t141,t142⟩,A40,H⟩ := H
  replace H : (some (t137,t140,wrap64 (t141 + 1),t142,0)) = some (r1,r2,r3,r4,r5) := H
  have A4 := Aside0.mk A40
  clear A40
  simp only [Option.some.injEq,Prod.mk.injEq] at H
  obtain ⟨rfl,rfl,rfl,rfl,rfl⟩ := H
  go_enter Try.func24,Try.ntmps24
  go_upto_region 4 with (first | ((with_reducible refine gate_dst (N := 1) rfl ?_); refine box_event ?hg (N := 1) ?hd (cs := #[.slice A0_0 l0_0.length c0_0,.int .i64 a0_1,.int .i64 a0_2,.int .i64 a0_3]) (t := 25) ?hr ?_; (case hd => rfl); (case hg => rfl); (case hr => first | (go_simp; done) | (go_simp; rfl)); intro gb134 hg w5 hbox hb; have n0_ := Aside0.mk (below_step (by repeat (first | (with_reducible first | exact HB.out | apply below_alloc | apply pw_below_drewN | apply below_drew1) | exact HB.out)) hb); have n1_ := Aside0.mk (hbox); have n2_ := Aside0.mk ((by rw [hg]; exact (below_size (by repeat (first | (with_reducible first | exact HB.out | apply below_alloc | apply pw_below_drewN | apply below_drew1) | exact HB.out))) : w.heap.size ≤ gb134)); have n3_ := Aside0.mk ((by rw [hg]; exact (below_size (by repeat (first | (with_reducible first | exact HB.out | apply below_alloc | apply pw_below_drewN | apply below_drew1) | exact HB.out))) : w.heap.size ≤ gb134)); clear HB; have HB := n0_; have BK134 := n1_; have GW134 := n2_; have GE134 := n3_; clear n0_ n1_ n2_ n3_; clear hb hbox hg) | ((with_reducible refine gate_dst (N := 2) rfl ?_); refine box_event ?hg (N := 2) ?hd (cs := #[.slice none 0 0,.int .i64 0,.int .i64 0,.int .i64 0]) (t := 25) ?hr ?_; (case hd => rfl); (case hg => rfl); (case hr => first | (go_simp; done) | (go_simp; rfl)); intro gb135 hg w6 hbox hb; have n0_ := Aside0.mk (blk_below (g := gb134) (o := .cells #[.slice A0_0 l0_0.length c0_0,.int .i64 a0_1,.int .i64 a0_2,.int .i64 a0_3] 25 (0,0)) (by (with_reducible repeat (first | refine blk_drewN ?_ _ | refine blk_drew ?_ | refine blk_alloc ?_ _)); exact BK134.out) hb); have n1_ := Aside0.mk (below_step (by repeat (first | (with_reducible first | exact HB.out | apply below_alloc | apply pw_below_drewN | apply below_drew1 | refine below_set ?_ GE134.out) | exact HB.out)) hb); have n2_ := Aside0.mk (hbox); have n3_ := Aside0.mk ((by rw [hg]; exact (below_size (by repeat (first | (with_reducible first | exact HB.out | apply below_alloc | apply pw_below_drewN | apply below_drew1 | refine below_set ?_ GE134.out) | exact HB.out))) : w.heap.size ≤ gb135)); have n4_ := Aside0.mk ((by rw [hg]; exact (below_size (by repeat (first | (with_reducible first | exact HB.out | apply below_alloc | apply pw_below_drewN | apply below_drew1 | refine below_set ?_ GE134.out) | exact HB.out))) : w.heap.size ≤ gb135)); have n5_ := Aside0.mk ((by rw [hg]; exact Nat.ne_of_lt (blk_lt (g := gb134) (o := .cells #[.slice A0_0 l0_0.length c0_0,.int .i64 a0_1,.int .i64 a0_2,.int .i64 a0_3] 25 (0,0)) (by (with_reducible repeat (first | refine blk_drewN ?_ _ | refine blk_drew ?_ | refine blk_alloc ?_ _)); exact BK134.out)) : gb134 ≠ gb135)); have n6_ := Aside0.mk ((by rw [hg]; exact Nat.ne_of_gt (blk_lt (g := gb134) (o := .cells #[.slice A0_0 l0_0.length c0_0,.int .i64 a0_1,.int .i64 a0_2,.int .i64 a0_3] 25 (0,0)) (by (with_reducible repeat (first | refine blk_drewN ?_ _ | refine blk_drew ?_ | refine blk_alloc ?_ _)); exact BK134.out)) : gb135 ≠ gb134)); clear BK134; clear HB; have BK134 := n0_; have HB := n1_; have BK135 := n2_; have GW135 := n3_; have GE135 := n4_; have NB134_135 := n5_; have NB135_134 := n6_; clear n0_ n1_ n2_ n3_ n4_ n5_ n6_; clear hb hbox hg; have hnb7 := NB134_135.out; have hnc7 := NB135_134.out; have hcz8_0 : w6.cell? ⟨gb134,0,none⟩ = some (.slice A0_0 l0_0.length c0_0) := (blk_cell BK134.out 0).trans rfl; have hcz8_1 : w6.cell? ⟨gb134,1,none⟩ = some (.int .i64 a0_1) := (blk_cell BK134.out 1).trans rfl; have hcz8_2 : w6.cell? ⟨gb134,2,none⟩ = some (.int .i64 a0_2) := (blk_cell BK134.out 2).trans rfl; have hcz8_3 : w6.cell? ⟨gb134,3,none⟩ = some (.int .i64 a0_3) := (blk_cell BK134.out 3).trans rfl; have hfz8_0 := blk_frozen BK134.out 0; have hfz8_1 := blk_frozen BK134.out 1; have hfz8_2 := blk_frozen BK134.out 2; have hfz8_3 := blk_frozen BK134.out 3) | ((with_reducible refine gate_callee (f := 16) rfl ?_); refine goesL_ (some 6) rfl rfl Try.func16 (by kernel_rfl) rfl #[.agg #[.slice A0_0 l0_0.length c0_0,.int .i64 a0_1,.int .i64 a0_2,.int .i64 a0_3],.bool false] rfl (by (try simp only [List.map_toArray,List.map_cons,List.map_nil]); first | done | rfl | (simp only [List.length_drop,List.length_take]; rfl)) ?_; (with_reducible refine (sweep_Next.calls k _ _ l0_0 a0_1 a0_2 a0_3 false t136 _ ?side1 ?side2 A2.out).mono ?_); (case side1 => repeat (first | exact (Kd.C_below HR0_0.out HB.out) | (with_reducible refine Kd.C_alloc ?_ _) | (with_reducible refine Kd.C_drewN ?_ _) | (with_reducible refine Kd.C_drew ?_))); (case side2 => exact HC0_0.out); rintro e w9 ⟨rfl,hb⟩; refine ⟨_,rfl,?_⟩; have n0_ := Aside0.mk (blk_below (g := gb134) (o := .cells #[.slice A0_0 l0_0.length c0_0,.int .i64 a0_1,.int .i64 a0_2,.int .i64 a0_3] 25 (0,0)) (by (with_reducible repeat (first | refine blk_drewN ?_ _ | refine blk_drew ?_ | refine blk_alloc ?_ _)); exact BK134.out) hb); have n1_ := Aside0.mk (blk_below (g := gb135) (o := .cells #[.slice none 0 0,.int .i64 0,.int .i64 0,.int .i64 0] 25 (0,0)) (by (with_reducible repeat (first | refine blk_drewN ?_ _ | refine blk_drew ?_ | refine blk_alloc ?_ _)); exact BK135.out) hb); have n2_ := Aside0.mk (below_step (by repeat (first | (with_reducible first | exact HB.out | apply below_alloc | apply pw_below_drewN | apply below_drew1 | refine below_set ?_ GE134.out | refine below_set ?_ GE135.out) | exact HB.out)) hb); clear BK134; clear BK135; clear HB; have BK134 := n0_; have BK135 := n1_; have HB := n2_; clear n0_ n1_ n2_; (try clear hb); (try clear hb2); (try clear hk); (try clear hi); have hcz10_0 : w9.cell? ⟨gb134,0,none⟩ = some (.slice A0_0 l0_0.length c0_0) := (blk_cell BK134.out 0).trans rfl; have hcz10_1 : w9.cell? ⟨gb134,1,none⟩ = some (.int .i64 a0_1) := (blk_cell BK134.out 1).trans rfl; have hcz10_2 : w9.cell? ⟨gb134,2,none⟩ = some (.int .i64 a0_2) := (blk_cell BK134.out 2).trans rfl; have hcz10_3 : w9.cell? ⟨gb134,3,none⟩ = some (.int .i64 a0_3) := (blk_cell BK134.out 3).trans rfl; have hfz10_0 := blk_frozen BK134.out 0; have hfz10_1 := blk_frozen BK134.out 1; have hfz10_2 := blk_frozen BK134.out 2; have hfz10_3 := blk_frozen BK134.out 3) | ((with_reducible refine gate_callee (f := 35) rfl ?_); refine goesL_ (some 10) rfl rfl Try.func35 (by kernel_rfl) rfl #[.agg #[.slice A0_0 l0_0.length c0_0,.int .i64 a0_1,.int .i64 a0_2,.int .i64 a0_3]] rfl (by (try simp only [List.map_toArray,List.map_cons,List.map_nil]); first | done | rfl | (simp only [List.length_drop,List.length_take]; rfl)) ?_; (with_reducible refine (sweep_own.calls _ _ l0_0 a0_1 a0_2 a0_3 t137 t140 t141 t142 _ ?side1 ?side2 A4.out).mono ?_); (case side1 => repeat (first | exact (Kd.C_below HR0_0.out HB.out) | (with_reducible refine Kd.C_alloc ?_ _) | (with_reducible refine Kd.C_drewN ?_ _) | (with_reducible refine Kd.C_drew ?_))); (case side2 => exact HC0_0.out); rintro e w11 ⟨v138,rfl,ho0,hb⟩; refine ⟨_,rfl,?_⟩; have n0_ := Aside0.mk (Kd.R_lower ho0 (below_size (by repeat (first | (with_reducible first | exact HB.out | apply below_alloc | apply pw_below_drewN | apply below_drew1 | refine below_set ?_ GE134.out | refine below_set ?_ GE135.out) | exact HB.out)))); have n1_ := Aside0.mk (blk_below (g := gb134) (o := .cells #[.slice A0_0 l0_0.length c0_0,.int .i64 a0_1,.int .i64 a0_2,.int .i64 a0_3] 25 (0,0)) (by (with_reducible repeat (first | refine blk_drewN ?_ _ | refine blk_drew ?_ | refine blk_alloc ?_ _)); exact BK134.out) hb); have n2_ := Aside0.mk (blk_below (g := gb135) (o := .cells #[.slice none 0 0,.int .i64 0,.int .i64 0,.int .i64 0] 25 (0,0)) (by (with_reducible repeat (first | refine blk_drewN ?_ _ | refine blk_drew ?_ | refine blk_alloc ?_ _)); exact BK135.out) hb); have n3_ := Aside0.mk (below_step (by repeat (first | (with_reducible first | exact HB.out | apply below_alloc | apply pw_below_drewN | apply below_drew1 | refine below_set ?_ GE134.out | refine below_set ?_ GE135.out) | exact HB.out)) hb); clear BK134; clear BK135; clear HB; have HO139 := n0_; have BK134 := n1_; have BK135 := n2_; have HB := n3_; clear n0_ n1_ n2_ n3_; (try clear hb); (try clear hb2); (try clear hk); (try clear hi); (try clear ho0)) | ((with_reducible refine gate_dst (N := 4) rfl ?_); refine box_event ?hg (N := 4) ?hd (cs := #[.slice none 0 0,.int .i64 0,.int .i64 0,.int .i64 0]) (t := 25) ?hr ?_; (case hd => rfl); (case hg => rfl); (case hr => first | (go_simp; done) | (go_simp; rfl)); intro gb143 hg w12 hbox hb; have n0_ := Aside0.mk (Kd.R_below (by (with_reducible repeat (first | apply Kd.R_alloc | apply Kd.R_drewN | apply Kd.R_drew)); exact HO139.out) hb); have n1_ := Aside0.mk (blk_below (g := gb134) (o := .cells #[.slice A0_0 l0_0.length c0_0,.int .i64 a0_1,.int .i64 a0_2,.int .i64 a0_3] 25 (0,0)) (by (with_reducible repeat (first | refine blk_drewN ?_ _ | refine blk_drew ?_ | refine blk_alloc ?_ _)); exact BK134.out) hb); have n2_ := Aside0.mk (blk_below (g := gb135) (o := .cells #[.slice none 0 0,.int .i64 0,.int .i64 0,.int .i64 0] 25 (0,0)) (by (with_reducible repeat (first | refine blk_drewN ?_ _ | refine blk_drew ?_ | refine blk_alloc ?_ _)); exact BK135.out) hb); have n3_ := Aside0.mk (below_step (by repeat (first | (with_reducible first | exact HB.out | apply below_alloc | apply pw_below_drewN | apply below_drew1 | refine below_set ?_ GE134.out | refine below_set ?_ GE135.out) | exact HB.out)) hb); have n4_ := Aside0.mk (hbox); have n5_ := Aside0.mk ((by rw [hg]; exact (below_size (by repeat (first | (with_reducible first | exact HB.out | apply below_alloc | apply pw_below_drewN | apply below_drew1 | refine below_set ?_ GE134.out | refine below_set ?_ GE135.out) | exact HB.out))) : w.heap.size ≤ gb143)); have n6_ := Aside0.mk ((by rw [hg]; exact (below_size (by repeat (first | (with_reducible first | exact HB.out | apply below_alloc | apply pw_below_drewN | apply below_drew1 | refine below_set ?_ GE134.out | refine below_set ?_ GE135.out) | exact HB.out))) : w.heap.size ≤ gb143)); have n7_ := Aside0.mk ((by rw [hg]; exact Nat.ne_of_lt (blk_lt (g := gb134) (o := .cells #[.slice A0_0 l0_0.length c0_0,.int .i64 a0_1,.int .i64 a0_2,.int .i64 a0_3] 25 (0,0)) (by (with_reducible repeat (first | refine blk_drewN ?_ _ | refine blk_drew ?_ | refine blk_alloc ?_ _)); exact BK134.out)) : gb134 ≠ gb143)); have n8_ := Aside0.mk ((by rw [hg]; exact Nat.ne_of_gt (blk_lt (g := gb134) (o := .cells #[.slice A0_0 l0_0.length c0_0,.int .i64 a0_1,.int .i64 a0_2,.int .i64 a0_3] 25 (0,0)) (by (with_reducible repeat (first | refine blk_drewN ?_ _ | refine blk_drew ?_ | refine blk_alloc ?_ _)); exact BK134.out)) : gb143 ≠ gb134)); have n9_ := Aside0.mk ((by rw [hg]; exact Nat.ne_of_lt (blk_lt (g := gb135) (o := .cells #[.slice none 0 0,.int .i64 0,.int .i64 0,.int .i64 0] 25 (0,0)) (by (with_reducible repeat (first | refine blk_drewN ?_ _ | refine blk_drew ?_ | refine blk_alloc ?_ _)); exact BK135.out)) : gb135 ≠ gb143)); have n10_ := Aside0.mk ((by rw [hg]; exact Nat.ne_of_gt (blk_lt (g := gb135) (o := .cells #[.slice none 0 0,.int .i64 0,.int .i64 0,.int .i64 0] 25 (0,0)) (by (with_reducible repeat (first | refine blk_drewN ?_ _ | refine blk_drew ?_ | refine blk_alloc ?_ _)); exact BK135.out)) : gb143 ≠ gb135)); clear HO139; clear BK134; clear BK135; clear HB; have HO139 := n0_; have BK134 := n1_; have BK135 := n2_; have HB := n3_; have BK143 := n4_; have GW143 := n5_; have GE143 := n6_; have NB134_143 := n7_; have NB143_134 := n8_; have NB135_143 := n9_; have NB143_135 := n10_; clear n0_ n1_ n2_ n3_ n4_ n5_ n6_ n7_ n8_ n9_ n10_; clear hb hbox hg; obtain ⟨Ao13,co13,eo13⟩ := Kd.R_slice HO139.out; subst eo13; have hnb14 := NB143_134.out; have hnc14 := NB134_143.out; have hnb15 := NB143_135.out; have hnc15 := NB135_143.out; have hcz16_0 : w12.cell? ⟨gb143,0,none⟩ = some (.slice none 0 0) := (blk_cell BK143.out 0).trans rfl; have hcz16_1 : w12.cell? ⟨gb143,1,none⟩ = some (.int .i64 0) := (blk_cell BK143.out 1).trans rfl; have hcz16_2 : w12.cell? ⟨gb143,2,none⟩ = some (.int .i64 0) := (blk_cell BK143.out 2).trans rfl; have hcz16_3 : w12.cell? ⟨gb143,3,none⟩ = some (.int .i64 0) := (blk_cell BK143.out 3).trans rfl; have hfz16_0 := blk_frozen BK143.out 0; have hfz16_1 := blk_frozen BK143.out 1; have hfz16_2 := blk_frozen BK143.out 2; have hfz16_3 := blk_frozen BK143.out 3; have hcz17_0 : w12.cell? ⟨gb135,0,none⟩ = some (.slice none 0 0) := (blk_cell BK135.out 0).trans rfl; have hcz17_1 : w12.cell? ⟨gb135,1,none⟩ = some (.int .i64 0) := (blk_cell BK135.out 1).trans rfl; have hcz17_2 : w12.cell? ⟨gb135,2,none⟩ = some (.int .i64 0) := (blk_cell BK135.out 2).trans rfl; have hcz17_3 : w12.cell? ⟨gb135,3,none⟩ = some (.int .i64 0) := (blk_cell BK135.out 3).trans rfl; have hfz17_0 := blk_frozen BK135.out 0; have hfz17_1 := blk_frozen BK135.out 1; have hfz17_2 := blk_frozen BK135.out 2; have hfz17_3 := blk_frozen BK135.out 3))
  (try clear hcz10_0)
  (try clear hcz10_1)
  (try clear hcz10_2)
  (try clear hcz10_3)
  (try clear hcz16_0)
  (try clear hcz16_1)
  (try clear hcz16_2)
  (try clear hcz16_3)
  (try clear hcz17_0)
  (try clear hcz17_1)
  (try clear hcz17_2)
  (try clear hcz17_3)
  (try clear hcz8_0)
  (try clear hcz8_1)
  (try clear hcz8_2)
  (try clear hcz8_3)
  (try clear hfz10_0)
  (try clear hfz10_1)
  (try clear hfz10_2)
  (try clear hfz10_3)
  (try clear hfz16_0)
  (try clear hfz16_1)
  (try clear hfz16_2)
  (try clear hfz16_3)
  (try clear hfz17_0)
  (try clear hfz17_1)
  (try clear hfz17_2)
  (try clear hfz17_3)
  (try clear hfz8_0)
  (try clear hfz8_1)
  (try clear hfz8_2)
  (try clear hfz8_3)
  (try clear hnb14)
  (try clear hnb15)
  (try clear hnb7)
  (try clear hnc14)
  (try clear hnc15)
  (try clear hnc7)
  have HO139_ := Aside0.mk (Kd.R_types (Kd.R_types HO139.out BK143.out (by decide)) BK135.out (by decide))
  clear HO139
  have HO139 := HO139_
  clear HO139_
  obtain ⟨W1,hW1⟩ : ∃ W_,W_ = ((((w12.setCell ⟨gb143,0,none⟩ (.slice Ao13 t137.length co13)).setCell ⟨gb143,1,none⟩ (.int .i64 t140)).setCell ⟨gb143,2,none⟩ (.int .i64 t141)).setCell ⟨gb143,3,none⟩ (.int .i64 t142)) := ⟨_,rfl⟩
  rw [← hW1]
  have q0_ := (blk_set (blk_set (blk_set (blk_set BK143.out 0 (.slice Ao13 t137.length co13)) 1 (.int .i64 t140)) 2 (.int .i64 t141)) 3 (.int .i64 t142))
  simp only [zqI,zqs0,zqs1] at q0_
  have q1_ := (blk_far (blk_far (blk_far (blk_far BK135.out (p := ⟨gb143,0,none⟩) NB135_143.out (.slice Ao13 t137.length co13)) (p := ⟨gb143,1,none⟩) NB135_143.out (.int .i64 t140)) (p := ⟨gb143,2,none⟩) NB135_143.out (.int .i64 t141)) (p := ⟨gb143,3,none⟩) NB135_143.out (.int .i64 t142))
  have q2_ := (Kd.R_far (p := ⟨gb143,3,none⟩) (Kd.R_far (p := ⟨gb143,2,none⟩) (Kd.R_far (p := ⟨gb143,1,none⟩) (Kd.R_far (p := ⟨gb143,0,none⟩) HO139.out (fun _ hk => hk.1.2) (.slice Ao13 t137.length co13)) (fun _ hk => hk.1.2) (.int .i64 t140)) (fun _ hk => hk.1.2) (.int .i64 t141)) (fun _ hk => hk.1.2) (.int .i64 t142))
  have q3_ := (below_set (g := gb143) (j := 3) (v := .int .i64 t142) (below_set (g := gb143) (j := 2) (v := .int .i64 t141) (below_set (g := gb143) (j := 1) (v := .int .i64 t140) (below_set (g := gb143) (j := 0) (v := .slice Ao13 t137.length co13) HB.out GE143.out) GE143.out) GE143.out) GE143.out)
  rw [← hW1] at q0_ q1_ q2_ q3_
  clear hW1 BK143 BK135 HO139 HB
  have BK143 := Aside0.mk q0_
  have BK135 := Aside0.mk q1_
  have HO139 := Aside0.mk q2_
  have HB := Aside0.mk q3_
  clear q0_ q1_ q2_ q3_
  have z2 : W1.cell? ⟨gb143,2,none⟩ = some (.int .i64 t141) := (blk_cell BK143.out 2).trans rfl
  have zf2 := blk_frozen BK143.out 2
  go_upto_region 5 with fail
  clear z2 zf2
  obtain ⟨W2,hW2⟩ : ∃ W_,W_ = (W1.setCell ⟨gb143,2,none⟩ (.int .i64 (wrap64 (t141 + 1)))) := ⟨_,rfl⟩
  rw [← hW2]
  have q0_ := (blk_set BK143.out 2 (.int .i64 (wrap64 (t141 + 1))))
  simp only [zqI,zqs0,zqs1] at q0_
  have q1_ := (blk_far BK135.out (p := ⟨gb143,2,none⟩) NB135_143.out (.int .i64 (wrap64 (t141 + 1))))
  have q2_ := (Kd.R_far (p := ⟨gb143,2,none⟩) HO139.out (fun _ hk => hk.1.2) (.int .i64 (wrap64 (t141 + 1))))
  have q3_ := (below_set (g := gb143) (j := 2) (v := .int .i64 (wrap64 (t141 + 1))) HB.out GE143.out)
  rw [← hW2] at q0_ q1_ q2_ q3_
  clear hW2 BK143 BK135 HO139 HB
  have BK143 := Aside0.mk q0_
  have BK135 := Aside0.mk q1_
  have HO139 := Aside0.mk q2_
  have HB := Aside0.mk q3_
  clear q0_ q1_ q2_ q3_
  have y0 : W2.cell? ⟨gb143,0,none⟩ = some (.slice Ao13 t137.length co13) := (blk_cell BK143.out 0).trans rfl
  have y1 : W2.cell? ⟨gb143,1,none⟩ = some (.int .i64 t140) := (blk_cell BK143.out 1).trans rfl
  have y2 : W2.cell? ⟨gb143,2,none⟩ = some (.int .i64 (wrap64 (t141 + 1))) := (blk_cell BK143.out 2).trans rfl
  have y3 : W2.cell? ⟨gb143,3,none⟩ = some (.int .i64 t142) := (blk_cell BK143.out 3).trans rfl
  have x0 : W2.cell? ⟨gb135,0,none⟩ = some (.slice none 0 0) := (blk_cell BK135.out 0).trans rfl
  have x1 : W2.cell? ⟨gb135,1,none⟩ = some (.int .i64 0) := (blk_cell BK135.out 1).trans rfl
  have x2 : W2.cell? ⟨gb135,2,none⟩ = some (.int .i64 0) := (blk_cell BK135.out 2).trans rfl
  have x3 : W2.cell? ⟨gb135,3,none⟩ = some (.int .i64 0) := (blk_cell BK135.out 3).trans rfl
  have xf0 := blk_frozen BK135.out 0
  have xf1 := blk_frozen BK135.out 1
  have xf2 := blk_frozen BK135.out 2
  have xf3 := blk_frozen BK135.out 3
  go_wp2_with fail
  clear y0 x0 xf0 y1 x1 xf1 y2 x2 xf2 y3 x3 xf3
  obtain ⟨W3,hW3⟩ : ∃ W_,W_ = ((((W2.setCell ⟨gb135,0,none⟩ (.slice Ao13 t137.length co13)).setCell ⟨gb135,1,none⟩ (.int .i64 t140)).setCell ⟨gb135,2,none⟩ (.int .i64 (wrap64 (t141 + 1)))).setCell ⟨gb135,3,none⟩ (.int .i64 t142)) := ⟨_,rfl⟩
  rw [← hW3]
  have q0_ := (blk_set (blk_set (blk_set (blk_set BK135.out 0 (.slice Ao13 t137.length co13)) 1 (.int .i64 t140)) 2 (.int .i64 (wrap64 (t141 + 1)))) 3 (.int .i64 t142))
  simp only [zqI,zqs0,zqs1] at q0_
  have q2_ := (Kd.R_far (p := ⟨gb135,3,none⟩) (Kd.R_far (p := ⟨gb135,2,none⟩) (Kd.R_far (p := ⟨gb135,1,none⟩) (Kd.R_far (p := ⟨gb135,0,none⟩) HO139.out (fun _ hk => hk.2) (.slice Ao13 t137.length co13)) (fun _ hk => hk.2) (.int .i64 t140)) (fun _ hk => hk.2) (.int .i64 (wrap64 (t141 + 1)))) (fun _ hk => hk.2) (.int .i64 t142))
  have q3_ := (below_set (g := gb135) (j := 3) (v := .int .i64 t142) (below_set (g := gb135) (j := 2) (v := .int .i64 (wrap64 (t141 + 1))) (below_set (g := gb135) (j := 1) (v := .int .i64 t140) (below_set (g := gb135) (j := 0) (v := .slice Ao13 t137.length co13) HB.out GE135.out) GE135.out) GE135.out) GE135.out)
  rw [← hW3] at q0_ q2_ q3_
  clear hW3
  refine bodyPost_ret (results_ct rfl _ _ gb135 25 #[.slice Ao13 t137.length co13,.int .i64 t140,.int .i64 (wrap64 (t141 + 1)),.int .i64 t142] (0,0) _ rfl q0_ Try.underlying25 rfl (by kernel_rfl)) rfl ?_
  exact ⟨_,by first | rfl | (simp; done),Kd.R_mono q2_ (fun _ _ => trivial),q3_⟩
 ·rw [if_neg c3] at H
  have c3b0 : (t136 == 3) = false := beq_eq_false_iff_ne.mpr c3
  have c3b1 : (t136 != 3) = true := bne_iff_ne.mpr c3
  simp only [Option.some.injEq,Prod.mk.injEq] at H
  obtain ⟨rfl,rfl,rfl,rfl,rfl⟩ := H
  go_enter Try.func24,Try.ntmps24
  go_wp2_with (first | ((with_reducible refine gate_dst (N := 1) rfl ?_); refine box_event ?hg (N := 1) ?hd (cs := #[.slice A0_0 l0_0.length c0_0,.int .i64 a0_1,.int .i64 a0_2,.int .i64 a0_3]) (t := 25) ?hr ?_; (case hd => rfl); (case hg => rfl); (case hr => first | (go_simp; done) | (go_simp; rfl)); intro gb134 hg w18 hbox hb; have n0_ := Aside0.mk (below_step (by repeat (first | (with_reducible first | exact HB.out | apply below_alloc | apply pw_below_drewN | apply below_drew1) | exact HB.out)) hb); have n1_ := Aside0.mk (hbox); have n2_ := Aside0.mk ((by rw [hg]; exact (below_size (by repeat (first | (with_reducible first | exact HB.out | apply below_alloc | apply pw_below_drewN | apply below_drew1) | exact HB.out))) : w.heap.size ≤ gb134)); have n3_ := Aside0.mk ((by rw [hg]; exact (below_size (by repeat (first | (with_reducible first | exact HB.out | apply below_alloc | apply pw_below_drewN | apply below_drew1) | exact HB.out))) : w.heap.size ≤ gb134)); clear HB; have HB := n0_; have BK134 := n1_; have GW134 := n2_; have GE134 := n3_; clear n0_ n1_ n2_ n3_; clear hb hbox hg) | ((with_reducible refine gate_dst (N := 2) rfl ?_); refine box_event ?hg (N := 2) ?hd (cs := #[.slice none 0 0,.int .i64 0,.int .i64 0,.int .i64 0]) (t := 25) ?hr ?_; (case hd => rfl); (case hg => rfl); (case hr => first | (go_simp; done) | (go_simp; rfl)); intro gb135 hg w19 hbox hb; have n0_ := Aside0.mk (blk_below (g := gb134) (o := .cells #[.slice A0_0 l0_0.length c0_0,.int .i64 a0_1,.int .i64 a0_2,.int .i64 a0_3] 25 (0,0)) (by (with_reducible repeat (first | refine blk_drewN ?_ _ | refine blk_drew ?_ | refine blk_alloc ?_ _)); exact BK134.out) hb); have n1_ := Aside0.mk (below_step (by repeat (first | (with_reducible first | exact HB.out | apply below_alloc | apply pw_below_drewN | apply below_drew1 | refine below_set ?_ GE134.out) | exact HB.out)) hb); have n2_ := Aside0.mk (hbox); have n3_ := Aside0.mk ((by rw [hg]; exact (below_size (by repeat (first | (with_reducible first | exact HB.out | apply below_alloc | apply pw_below_drewN | apply below_drew1 | refine below_set ?_ GE134.out) | exact HB.out))) : w.heap.size ≤ gb135)); have n4_ := Aside0.mk ((by rw [hg]; exact (below_size (by repeat (first | (with_reducible first | exact HB.out | apply below_alloc | apply pw_below_drewN | apply below_drew1 | refine below_set ?_ GE134.out) | exact HB.out))) : w.heap.size ≤ gb135)); have n5_ := Aside0.mk ((by rw [hg]; exact Nat.ne_of_lt (blk_lt (g := gb134) (o := .cells #[.slice A0_0 l0_0.length c0_0,.int .i64 a0_1,.int .i64 a0_2,.int .i64 a0_3] 25 (0,0)) (by (with_reducible repeat (first | refine blk_drewN ?_ _ | refine blk_drew ?_ | refine blk_alloc ?_ _)); exact BK134.out)) : gb134 ≠ gb135)); have n6_ := Aside0.mk ((by rw [hg]; exact Nat.ne_of_gt (blk_lt (g := gb134) (o := .cells #[.slice A0_0 l0_0.length c0_0,.int .i64 a0_1,.int .i64 a0_2,.int .i64 a0_3] 25 (0,0)) (by (with_reducible repeat (first | refine blk_drewN ?_ _ | refine blk_drew ?_ | refine blk_alloc ?_ _)); exact BK134.out)) : gb135 ≠ gb134)); clear BK134; clear HB; have BK134 := n0_; have HB := n1_; have BK135 := n2_; have GW135 := n3_; have GE135 := n4_; have NB134_135 := n5_; have NB135_134 := n6_; clear n0_ n1_ n2_ n3_ n4_ n5_ n6_; clear hb hbox hg; have hnb20 := NB134_135.out; have hnc20 := NB135_134.out; have hcz21_0 : w19.cell? ⟨gb134,0,none⟩ = some (.slice A0_0 l0_0.length c0_0) := (blk_cell BK134.out 0).trans rfl; have hcz21_1 : w19.cell? ⟨gb134,1,none⟩ = some (.int .i64 a0_1) := (blk_cell BK134.out 1).trans rfl; have hcz21_2 : w19.cell? ⟨gb134,2,none⟩ = some (.int .i64 a0_2) := (blk_cell BK134.out 2).trans rfl; have hcz21_3 : w19.cell? ⟨gb134,3,none⟩ = some (.int .i64 a0_3) := (blk_cell BK134.out 3).trans rfl; have hfz21_0 := blk_frozen BK134.out 0; have hfz21_1 := blk_frozen BK134.out 1; have hfz21_2 := blk_frozen BK134.out 2; have hfz21_3 := blk_frozen BK134.out 3) | ((with_reducible refine gate_callee (f := 16) rfl ?_); refine goesL_ (some 6) rfl rfl Try.func16 (by kernel_rfl) rfl #[.agg #[.slice A0_0 l0_0.length c0_0,.int .i64 a0_1,.int .i64 a0_2,.int .i64 a0_3],.bool false] rfl (by (try simp only [List.map_toArray,List.map_cons,List.map_nil]); first | done | rfl | (simp only [List.length_drop,List.length_take]; rfl)) ?_; (with_reducible refine (sweep_Next.calls k _ _ l0_0 a0_1 a0_2 a0_3 false t136 _ ?side1 ?side2 A2.out).mono ?_); (case side1 => repeat (first | exact (Kd.C_below HR0_0.out HB.out) | (with_reducible refine Kd.C_alloc ?_ _) | (with_reducible refine Kd.C_drewN ?_ _) | (with_reducible refine Kd.C_drew ?_))); (case side2 => exact HC0_0.out); rintro e w22 ⟨rfl,hb⟩; refine ⟨_,rfl,?_⟩; have n0_ := Aside0.mk (blk_below (g := gb134) (o := .cells #[.slice A0_0 l0_0.length c0_0,.int .i64 a0_1,.int .i64 a0_2,.int .i64 a0_3] 25 (0,0)) (by (with_reducible repeat (first | refine blk_drewN ?_ _ | refine blk_drew ?_ | refine blk_alloc ?_ _)); exact BK134.out) hb); have n1_ := Aside0.mk (blk_below (g := gb135) (o := .cells #[.slice none 0 0,.int .i64 0,.int .i64 0,.int .i64 0] 25 (0,0)) (by (with_reducible repeat (first | refine blk_drewN ?_ _ | refine blk_drew ?_ | refine blk_alloc ?_ _)); exact BK135.out) hb); have n2_ := Aside0.mk (below_step (by repeat (first | (with_reducible first | exact HB.out | apply below_alloc | apply pw_below_drewN | apply below_drew1 | refine below_set ?_ GE134.out | refine below_set ?_ GE135.out) | exact HB.out)) hb); clear BK134; clear BK135; clear HB; have BK134 := n0_; have BK135 := n1_; have HB := n2_; clear n0_ n1_ n2_; (try clear hb); (try clear hb2); (try clear hk); (try clear hi); have hcz23_0 : w22.cell? ⟨gb135,0,none⟩ = some (.slice none 0 0) := (blk_cell BK135.out 0).trans rfl; have hcz23_1 : w22.cell? ⟨gb135,1,none⟩ = some (.int .i64 0) := (blk_cell BK135.out 1).trans rfl; have hcz23_2 : w22.cell? ⟨gb135,2,none⟩ = some (.int .i64 0) := (blk_cell BK135.out 2).trans rfl; have hcz23_3 : w22.cell? ⟨gb135,3,none⟩ = some (.int .i64 0) := (blk_cell BK135.out 3).trans rfl; have hfz23_0 := blk_frozen BK135.out 0; have hfz23_1 := blk_frozen BK135.out 1; have hfz23_2 := blk_frozen BK135.out 2; have hfz23_3 := blk_frozen BK135.out 3))
  refine bodyPost_ret (results_ct rfl _ _ gb135 25 #[.slice none 0 0,.int .i64 0,.int .i64 0,.int .i64 0] (0,0) _ rfl (by (with_reducible repeat (first | refine blk_drewN ?_ _ | refine blk_drew ?_ | refine blk_alloc ?_ _)); refine blk_put (cs := #[.slice none 0 0,.int .i64 0,.int .i64 0,.int .i64 0]) ?_ 3 _ rfl; (with_reducible repeat (first | refine blk_drewN ?_ _ | refine blk_drew ?_ | refine blk_alloc ?_ _)); refine blk_put (cs := #[.slice none 0 0,.int .i64 0,.int .i64 0,.int .i64 0]) ?_ 2 _ rfl; (with_reducible repeat (first | refine blk_drewN ?_ _ | refine blk_drew ?_ | refine blk_alloc ?_ _)); refine blk_put (cs := #[.slice none 0 0,.int .i64 0,.int .i64 0,.int .i64 0]) ?_ 1 _ rfl; (with_reducible repeat (first | refine blk_drewN ?_ _ | refine blk_drew ?_ | refine blk_alloc ?_ _)); refine blk_put (cs := #[.slice none 0 0,.int .i64 0,.int .i64 0,.int .i64 0]) ?_ 0 _ rfl; (with_reducible repeat (first | refine blk_drewN ?_ _ | refine blk_drew ?_ | refine blk_alloc ?_ _)); exact BK135.out) Try.underlying25 rfl (by kernel_rfl)) rfl ?_
  exact ⟨_,by first | rfl | (simp [errW_none,errW_some] <;> rfl) | (simp [*,errW_none,errW_some] <;> rfl),by first | exact Kd.R_nil _ _ _ _ _ | exact Kd.N_nil _ _ _ _ _ | exact Kd.V_nil _ _ _ _ _ | exact Kd.Q_nil _ _ _ _ _ | exact Kd.S_nil _ _ _ _ _,by repeat (first | (with_reducible first | exact HB.out | apply below_alloc | apply pw_below_drewN | apply below_drew1 | refine below_set ?_ GE134.out | refine below_set ?_ GE135.out) | exact HB.out)⟩
/-! ### sweep_Given: function 25 -/
def sweep_Given.f (k : Nat) (l0_0 : List Int) (a0_1 : Int) (a0_2 : Int) (a0_3 : Int) : Option (List Int × Int × Int × Int × Int) := (sweep_Next.f k l0_0 a0_1 a0_2 a0_3 false).bind fun t124 => (if t124 = 4 then ((sweep_own.f l0_0 (-1) 0 0).bind fun bt125 => (some (bt125.1,bt125.2.1,bt125.2.2.1,bt125.2.2.2,0))) else (some (([] : List Int),0,0,0,1)))
theorem sweep_Given.mono : ∀ a0 a1 a2 a3 k,LeO (sweep_Given.f k a0 a1 a2 a3) (sweep_Given.f (k + 1) a0 a1 a2 a3) := by
 intro a0 a1 a2 a3 k
 unfold sweep_Given.f
 repeat' first
   | (with_reducible exact sweep_Next.mono _ _ _ _ _ _)
   | (with_reducible exact LeO.refl _)
   | (with_reducible exact LeO.none _)
   | (with_reducible refine LeO.ite ?_ ?_)
   | (with_reducible refine LeO.bind ?_ (fun _ => ?_))
   | exact sweep_Next.mono _ _ _ _ _ _
   | exact LeO.none _
   | refine LeO.ite ?_ ?_
   | refine LeO.bind ?_ (fun _ => ?_)
set_option maxHeartbeats 8000000 in
set_option maxRecDepth 100000 in
theorem sweep_Given.calls (k : Nat) (A0_0 : Option Addr) (c0_0 : Nat) (l0_0 : List Int) (a0_1 : Int) (a0_2 : Int) (a0_3 : Int) (r1 : List Int) (r2 : Int) (r3 : Int) (r4 : Int) (r5 : Int) (w : World) (hr0_0 : Kd.C (Kd.int .i64) w A0_0 l0_0.length l0_0) (hc0_0 : l0_0.length ≤ c0_0) (h : sweep_Given.f k l0_0 a0_1 a0_2 a0_3 = some (r1,r2,r3,r4,r5)) :
  Calls Try.prog 25 #[.agg #[.slice A0_0 l0_0.length c0_0,.int .i64 a0_1,.int .i64 a0_2,.int .i64 a0_3]] w fun e w' => ∃ v0_ : Value,e = .returned (.tuple #[.agg #[v0_,.int .i64 r2,.int .i64 r3,.int .i64 r4],.int .i64 r5]) ∧ Kd.R (Kd.int .i64) 3 w' w.heap.size (fun _ => True) v0_ r1 ∧ Below w.heap.size w w' := by
 have hu25 := Try.underlying25
 have HR0_0 := Aside0.mk hr0_0
 have HC0_0 := Aside0.mk hc0_0
 clear hr0_0 hc0_0
 have HB := Aside0.mk (Below.refl w.heap.size w)
 have H : ((sweep_Next.f k l0_0 a0_1 a0_2 a0_3 false).bind fun t124 => (if t124 = 4 then ((sweep_own.f l0_0 (-1) 0 0).bind fun bt125 => (some (bt125.1,bt125.2.1,bt125.2.2.1,bt125.2.2.2,0))) else (some (([] : List Int),0,0,0,1)))) = some (r1,r2,r3,r4,r5) := h
 clear h
 replace H := Option.bind_eq_some_iff.mp H
 obtain ⟨t124,A20,H⟩ := H
 replace H : (if t124 = 4 then ((sweep_own.f l0_0 (-1) 0 0).bind fun bt125 => (some (bt125.1,bt125.2.1,bt125.2.2.1,bt125.2.2.2,0))) else (some (([] : List Int),0,0,0,1))) = some (r1,r2,r3,r4,r5) := H
 have A2 := Aside0.mk A20
 clear A20
 by_cases c3 : t124 = 4
 ·rw [if_pos c3] at H
  have c3b0 : (t124 == 4) = true := beq_iff_eq.mpr c3
  have c3b1 : (t124 != 4) = false := bne_eq_false_iff_eq.mpr c3
  clear c3
  replace H := Option.bind_eq_some_iff.mp H
  obtain ⟨⟨t125,t128,t129,t130⟩,A40,H⟩ := H
  replace H : (some (t125,t128,t129,t130,0)) = some (r1,r2,r3,r4,r5) := H
  have A4 := Aside0.mk A40
  clear A40
  simp only [Option.some.injEq,Prod.mk.injEq] at H
  obtain ⟨rfl,rfl,rfl,rfl,rfl⟩ := H
  go_enter Try.func25,Try.ntmps25
  go_wp2_with (first | ((with_reducible refine gate_dst (N := 1) rfl ?_); refine box_event ?hg (N := 1) ?hd (cs := #[.slice A0_0 l0_0.length c0_0,.int .i64 a0_1,.int .i64 a0_2,.int .i64 a0_3]) (t := 25) ?hr ?_; (case hd => rfl); (case hg => rfl); (case hr => first | (go_simp; done) | (go_simp; rfl)); intro gb122 hg w5 hbox hb; have n0_ := Aside0.mk (below_step (by repeat (first | (with_reducible first | exact HB.out | apply below_alloc | apply pw_below_drewN | apply below_drew1) | exact HB.out)) hb); have n1_ := Aside0.mk (hbox); have n2_ := Aside0.mk ((by rw [hg]; exact (below_size (by repeat (first | (with_reducible first | exact HB.out | apply below_alloc | apply pw_below_drewN | apply below_drew1) | exact HB.out))) : w.heap.size ≤ gb122)); have n3_ := Aside0.mk ((by rw [hg]; exact (below_size (by repeat (first | (with_reducible first | exact HB.out | apply below_alloc | apply pw_below_drewN | apply below_drew1) | exact HB.out))) : w.heap.size ≤ gb122)); clear HB; have HB := n0_; have BK122 := n1_; have GW122 := n2_; have GE122 := n3_; clear n0_ n1_ n2_ n3_; clear hb hbox hg) | ((with_reducible refine gate_dst (N := 2) rfl ?_); refine box_event ?hg (N := 2) ?hd (cs := #[.slice none 0 0,.int .i64 0,.int .i64 0,.int .i64 0]) (t := 25) ?hr ?_; (case hd => rfl); (case hg => rfl); (case hr => first | (go_simp; done) | (go_simp; rfl)); intro gb123 hg w6 hbox hb; have n0_ := Aside0.mk (blk_below (g := gb122) (o := .cells #[.slice A0_0 l0_0.length c0_0,.int .i64 a0_1,.int .i64 a0_2,.int .i64 a0_3] 25 (0,0)) (by (with_reducible repeat (first | refine blk_drewN ?_ _ | refine blk_drew ?_ | refine blk_alloc ?_ _)); exact BK122.out) hb); have n1_ := Aside0.mk (below_step (by repeat (first | (with_reducible first | exact HB.out | apply below_alloc | apply pw_below_drewN | apply below_drew1 | refine below_set ?_ GE122.out) | exact HB.out)) hb); have n2_ := Aside0.mk (hbox); have n3_ := Aside0.mk ((by rw [hg]; exact (below_size (by repeat (first | (with_reducible first | exact HB.out | apply below_alloc | apply pw_below_drewN | apply below_drew1 | refine below_set ?_ GE122.out) | exact HB.out))) : w.heap.size ≤ gb123)); have n4_ := Aside0.mk ((by rw [hg]; exact (below_size (by repeat (first | (with_reducible first | exact HB.out | apply below_alloc | apply pw_below_drewN | apply below_drew1 | refine below_set ?_ GE122.out) | exact HB.out))) : w.heap.size ≤ gb123)); have n5_ := Aside0.mk ((by rw [hg]; exact Nat.ne_of_lt (blk_lt (g := gb122) (o := .cells #[.slice A0_0 l0_0.length c0_0,.int .i64 a0_1,.int .i64 a0_2,.int .i64 a0_3] 25 (0,0)) (by (with_reducible repeat (first | refine blk_drewN ?_ _ | refine blk_drew ?_ | refine blk_alloc ?_ _)); exact BK122.out)) : gb122 ≠ gb123)); have n6_ := Aside0.mk ((by rw [hg]; exact Nat.ne_of_gt (blk_lt (g := gb122) (o := .cells #[.slice A0_0 l0_0.length c0_0,.int .i64 a0_1,.int .i64 a0_2,.int .i64 a0_3] 25 (0,0)) (by (with_reducible repeat (first | refine blk_drewN ?_ _ | refine blk_drew ?_ | refine blk_alloc ?_ _)); exact BK122.out)) : gb123 ≠ gb122)); clear BK122; clear HB; have BK122 := n0_; have HB := n1_; have BK123 := n2_; have GW123 := n3_; have GE123 := n4_; have NB122_123 := n5_; have NB123_122 := n6_; clear n0_ n1_ n2_ n3_ n4_ n5_ n6_; clear hb hbox hg; have hnb7 := NB122_123.out; have hnc7 := NB123_122.out; have hcz8_0 : w6.cell? ⟨gb122,0,none⟩ = some (.slice A0_0 l0_0.length c0_0) := (blk_cell BK122.out 0).trans rfl; have hcz8_1 : w6.cell? ⟨gb122,1,none⟩ = some (.int .i64 a0_1) := (blk_cell BK122.out 1).trans rfl; have hcz8_2 : w6.cell? ⟨gb122,2,none⟩ = some (.int .i64 a0_2) := (blk_cell BK122.out 2).trans rfl; have hcz8_3 : w6.cell? ⟨gb122,3,none⟩ = some (.int .i64 a0_3) := (blk_cell BK122.out 3).trans rfl; have hfz8_0 := blk_frozen BK122.out 0; have hfz8_1 := blk_frozen BK122.out 1; have hfz8_2 := blk_frozen BK122.out 2; have hfz8_3 := blk_frozen BK122.out 3) | ((with_reducible refine gate_callee (f := 16) rfl ?_); refine goesL_ (some 5) rfl rfl Try.func16 (by kernel_rfl) rfl #[.agg #[.slice A0_0 l0_0.length c0_0,.int .i64 a0_1,.int .i64 a0_2,.int .i64 a0_3],.bool false] rfl (by (try simp only [List.map_toArray,List.map_cons,List.map_nil]); first | done | rfl | (simp only [List.length_drop,List.length_take]; rfl)) ?_; (with_reducible refine (sweep_Next.calls k _ _ l0_0 a0_1 a0_2 a0_3 false t124 _ ?side1 ?side2 A2.out).mono ?_); (case side1 => repeat (first | exact (Kd.C_below HR0_0.out HB.out) | (with_reducible refine Kd.C_alloc ?_ _) | (with_reducible refine Kd.C_drewN ?_ _) | (with_reducible refine Kd.C_drew ?_))); (case side2 => exact HC0_0.out); rintro e w9 ⟨rfl,hb⟩; refine ⟨_,rfl,?_⟩; have n0_ := Aside0.mk (blk_below (g := gb122) (o := .cells #[.slice A0_0 l0_0.length c0_0,.int .i64 a0_1,.int .i64 a0_2,.int .i64 a0_3] 25 (0,0)) (by (with_reducible repeat (first | refine blk_drewN ?_ _ | refine blk_drew ?_ | refine blk_alloc ?_ _)); exact BK122.out) hb); have n1_ := Aside0.mk (blk_below (g := gb123) (o := .cells #[.slice none 0 0,.int .i64 0,.int .i64 0,.int .i64 0] 25 (0,0)) (by (with_reducible repeat (first | refine blk_drewN ?_ _ | refine blk_drew ?_ | refine blk_alloc ?_ _)); exact BK123.out) hb); have n2_ := Aside0.mk (below_step (by repeat (first | (with_reducible first | exact HB.out | apply below_alloc | apply pw_below_drewN | apply below_drew1 | refine below_set ?_ GE122.out | refine below_set ?_ GE123.out) | exact HB.out)) hb); clear BK122; clear BK123; clear HB; have BK122 := n0_; have BK123 := n1_; have HB := n2_; clear n0_ n1_ n2_; (try clear hb); (try clear hb2); (try clear hk); (try clear hi); have hcz10_0 : w9.cell? ⟨gb122,0,none⟩ = some (.slice A0_0 l0_0.length c0_0) := (blk_cell BK122.out 0).trans rfl; have hcz10_1 : w9.cell? ⟨gb122,1,none⟩ = some (.int .i64 a0_1) := (blk_cell BK122.out 1).trans rfl; have hcz10_2 : w9.cell? ⟨gb122,2,none⟩ = some (.int .i64 a0_2) := (blk_cell BK122.out 2).trans rfl; have hcz10_3 : w9.cell? ⟨gb122,3,none⟩ = some (.int .i64 a0_3) := (blk_cell BK122.out 3).trans rfl; have hfz10_0 := blk_frozen BK122.out 0; have hfz10_1 := blk_frozen BK122.out 1; have hfz10_2 := blk_frozen BK122.out 2; have hfz10_3 := blk_frozen BK122.out 3) | ((with_reducible refine gate_callee (f := 35) rfl ?_); refine goesL_ (some 11) rfl rfl Try.func35 (by kernel_rfl) rfl #[.agg #[.slice A0_0 l0_0.length c0_0,.int .i64 (-1),.int .i64 0,.int .i64 0]] rfl (by (try simp only [List.map_toArray,List.map_cons,List.map_nil]); first | done | rfl | (simp only [List.length_drop,List.length_take]; rfl)) ?_; (with_reducible refine (sweep_own.calls _ _ l0_0 (-1) 0 0 t125 t128 t129 t130 _ ?side1 ?side2 A4.out).mono ?_); (case side1 => repeat (first | exact (Kd.C_below HR0_0.out HB.out) | (with_reducible refine Kd.C_alloc ?_ _) | (with_reducible refine Kd.C_drewN ?_ _) | (with_reducible refine Kd.C_drew ?_))); (case side2 => exact HC0_0.out); rintro e w11 ⟨v126,rfl,ho0,hb⟩; refine ⟨_,rfl,?_⟩; have n0_ := Aside0.mk (Kd.R_lower ho0 (below_size (by repeat (first | (with_reducible first | exact HB.out | apply below_alloc | apply pw_below_drewN | apply below_drew1 | refine below_set ?_ GE122.out | refine below_set ?_ GE123.out) | exact HB.out)))); have n1_ := Aside0.mk (blk_below (g := gb122) (o := .cells #[.slice A0_0 l0_0.length c0_0,.int .i64 a0_1,.int .i64 a0_2,.int .i64 a0_3] 25 (0,0)) (by (with_reducible repeat (first | refine blk_drewN ?_ _ | refine blk_drew ?_ | refine blk_alloc ?_ _)); exact BK122.out) hb); have n2_ := Aside0.mk (blk_below (g := gb123) (o := .cells #[.slice none 0 0,.int .i64 0,.int .i64 0,.int .i64 0] 25 (0,0)) (by (with_reducible repeat (first | refine blk_drewN ?_ _ | refine blk_drew ?_ | refine blk_alloc ?_ _)); exact BK123.out) hb); have n3_ := Aside0.mk (below_step (by repeat (first | (with_reducible first | exact HB.out | apply below_alloc | apply pw_below_drewN | apply below_drew1 | refine below_set ?_ GE122.out | refine below_set ?_ GE123.out) | exact HB.out)) hb); clear BK122; clear BK123; clear HB; have HO127 := n0_; have BK122 := n1_; have BK123 := n2_; have HB := n3_; clear n0_ n1_ n2_ n3_; (try clear hb); (try clear hb2); (try clear hk); (try clear hi); (try clear ho0); obtain ⟨Ao12,co12,eo12⟩ := Kd.R_slice HO127.out; subst eo12; have hcz13_0 : w11.cell? ⟨gb123,0,none⟩ = some (.slice none 0 0) := (blk_cell BK123.out 0).trans rfl; have hcz13_1 : w11.cell? ⟨gb123,1,none⟩ = some (.int .i64 0) := (blk_cell BK123.out 1).trans rfl; have hcz13_2 : w11.cell? ⟨gb123,2,none⟩ = some (.int .i64 0) := (blk_cell BK123.out 2).trans rfl; have hcz13_3 : w11.cell? ⟨gb123,3,none⟩ = some (.int .i64 0) := (blk_cell BK123.out 3).trans rfl; have hfz13_0 := blk_frozen BK123.out 0; have hfz13_1 := blk_frozen BK123.out 1; have hfz13_2 := blk_frozen BK123.out 2; have hfz13_3 := blk_frozen BK123.out 3))
  refine bodyPost_ret (results_ct rfl _ _ gb123 25 #[.slice Ao12 t125.length co12,.int .i64 t128,.int .i64 t129,.int .i64 t130] (0,0) _ rfl (by (with_reducible repeat (first | refine blk_drewN ?_ _ | refine blk_drew ?_ | refine blk_alloc ?_ _)); refine blk_put (cs := #[.slice Ao12 t125.length co12,.int .i64 t128,.int .i64 t129,.int .i64 0]) ?_ 3 _ rfl; (with_reducible repeat (first | refine blk_drewN ?_ _ | refine blk_drew ?_ | refine blk_alloc ?_ _)); refine blk_put (cs := #[.slice Ao12 t125.length co12,.int .i64 t128,.int .i64 0,.int .i64 0]) ?_ 2 _ rfl; (with_reducible repeat (first | refine blk_drewN ?_ _ | refine blk_drew ?_ | refine blk_alloc ?_ _)); refine blk_put (cs := #[.slice Ao12 t125.length co12,.int .i64 0,.int .i64 0,.int .i64 0]) ?_ 1 _ rfl; (with_reducible repeat (first | refine blk_drewN ?_ _ | refine blk_drew ?_ | refine blk_alloc ?_ _)); refine blk_put (cs := #[.slice none 0 0,.int .i64 0,.int .i64 0,.int .i64 0]) ?_ 0 _ rfl; (with_reducible repeat (first | refine blk_drewN ?_ _ | refine blk_drew ?_ | refine blk_alloc ?_ _)); exact BK123.out) Try.underlying25 rfl (by kernel_rfl)) rfl ?_
  exact ⟨_,by first | rfl | (simp [errW_none,errW_some] <;> rfl) | (simp [*,errW_none,errW_some] <;> rfl),by (with_reducible repeat (first | apply Kd.R_alloc | apply Kd.R_drewN | apply Kd.R_drew)); exact Kd.R_mono (Kd.R_far (p := ⟨gb123,3,none⟩) (Kd.R_far (p := ⟨gb123,2,none⟩) (Kd.R_far (p := ⟨gb123,1,none⟩) (Kd.R_far (p := ⟨gb123,0,none⟩) (Kd.R_types HO127.out BK123.out (by decide)) (fun _ hk => hk.2) (.slice Ao12 t125.length co12)) (fun _ hk => hk.2) (.int .i64 t128)) (fun _ hk => hk.2) (.int .i64 t129)) (fun _ hk => hk.2) (.int .i64 t130)) (fun _ hk => trivial),by repeat (first | (with_reducible first | exact HB.out | apply below_alloc | apply pw_below_drewN | apply below_drew1 | refine below_set ?_ GE122.out | refine below_set ?_ GE123.out) | exact HB.out)⟩
 ·rw [if_neg c3] at H
  have c3b0 : (t124 == 4) = false := beq_eq_false_iff_ne.mpr c3
  have c3b1 : (t124 != 4) = true := bne_iff_ne.mpr c3
  simp only [Option.some.injEq,Prod.mk.injEq] at H
  obtain ⟨rfl,rfl,rfl,rfl,rfl⟩ := H
  go_enter Try.func25,Try.ntmps25
  go_wp2_with (first | ((with_reducible refine gate_dst (N := 1) rfl ?_); refine box_event ?hg (N := 1) ?hd (cs := #[.slice A0_0 l0_0.length c0_0,.int .i64 a0_1,.int .i64 a0_2,.int .i64 a0_3]) (t := 25) ?hr ?_; (case hd => rfl); (case hg => rfl); (case hr => first | (go_simp; done) | (go_simp; rfl)); intro gb122 hg w14 hbox hb; have n0_ := Aside0.mk (below_step (by repeat (first | (with_reducible first | exact HB.out | apply below_alloc | apply pw_below_drewN | apply below_drew1) | exact HB.out)) hb); have n1_ := Aside0.mk (hbox); have n2_ := Aside0.mk ((by rw [hg]; exact (below_size (by repeat (first | (with_reducible first | exact HB.out | apply below_alloc | apply pw_below_drewN | apply below_drew1) | exact HB.out))) : w.heap.size ≤ gb122)); have n3_ := Aside0.mk ((by rw [hg]; exact (below_size (by repeat (first | (with_reducible first | exact HB.out | apply below_alloc | apply pw_below_drewN | apply below_drew1) | exact HB.out))) : w.heap.size ≤ gb122)); clear HB; have HB := n0_; have BK122 := n1_; have GW122 := n2_; have GE122 := n3_; clear n0_ n1_ n2_ n3_; clear hb hbox hg) | ((with_reducible refine gate_dst (N := 2) rfl ?_); refine box_event ?hg (N := 2) ?hd (cs := #[.slice none 0 0,.int .i64 0,.int .i64 0,.int .i64 0]) (t := 25) ?hr ?_; (case hd => rfl); (case hg => rfl); (case hr => first | (go_simp; done) | (go_simp; rfl)); intro gb123 hg w15 hbox hb; have n0_ := Aside0.mk (blk_below (g := gb122) (o := .cells #[.slice A0_0 l0_0.length c0_0,.int .i64 a0_1,.int .i64 a0_2,.int .i64 a0_3] 25 (0,0)) (by (with_reducible repeat (first | refine blk_drewN ?_ _ | refine blk_drew ?_ | refine blk_alloc ?_ _)); exact BK122.out) hb); have n1_ := Aside0.mk (below_step (by repeat (first | (with_reducible first | exact HB.out | apply below_alloc | apply pw_below_drewN | apply below_drew1 | refine below_set ?_ GE122.out) | exact HB.out)) hb); have n2_ := Aside0.mk (hbox); have n3_ := Aside0.mk ((by rw [hg]; exact (below_size (by repeat (first | (with_reducible first | exact HB.out | apply below_alloc | apply pw_below_drewN | apply below_drew1 | refine below_set ?_ GE122.out) | exact HB.out))) : w.heap.size ≤ gb123)); have n4_ := Aside0.mk ((by rw [hg]; exact (below_size (by repeat (first | (with_reducible first | exact HB.out | apply below_alloc | apply pw_below_drewN | apply below_drew1 | refine below_set ?_ GE122.out) | exact HB.out))) : w.heap.size ≤ gb123)); have n5_ := Aside0.mk ((by rw [hg]; exact Nat.ne_of_lt (blk_lt (g := gb122) (o := .cells #[.slice A0_0 l0_0.length c0_0,.int .i64 a0_1,.int .i64 a0_2,.int .i64 a0_3] 25 (0,0)) (by (with_reducible repeat (first | refine blk_drewN ?_ _ | refine blk_drew ?_ | refine blk_alloc ?_ _)); exact BK122.out)) : gb122 ≠ gb123)); have n6_ := Aside0.mk ((by rw [hg]; exact Nat.ne_of_gt (blk_lt (g := gb122) (o := .cells #[.slice A0_0 l0_0.length c0_0,.int .i64 a0_1,.int .i64 a0_2,.int .i64 a0_3] 25 (0,0)) (by (with_reducible repeat (first | refine blk_drewN ?_ _ | refine blk_drew ?_ | refine blk_alloc ?_ _)); exact BK122.out)) : gb123 ≠ gb122)); clear BK122; clear HB; have BK122 := n0_; have HB := n1_; have BK123 := n2_; have GW123 := n3_; have GE123 := n4_; have NB122_123 := n5_; have NB123_122 := n6_; clear n0_ n1_ n2_ n3_ n4_ n5_ n6_; clear hb hbox hg; have hnb16 := NB122_123.out; have hnc16 := NB123_122.out; have hcz17_0 : w15.cell? ⟨gb122,0,none⟩ = some (.slice A0_0 l0_0.length c0_0) := (blk_cell BK122.out 0).trans rfl; have hcz17_1 : w15.cell? ⟨gb122,1,none⟩ = some (.int .i64 a0_1) := (blk_cell BK122.out 1).trans rfl; have hcz17_2 : w15.cell? ⟨gb122,2,none⟩ = some (.int .i64 a0_2) := (blk_cell BK122.out 2).trans rfl; have hcz17_3 : w15.cell? ⟨gb122,3,none⟩ = some (.int .i64 a0_3) := (blk_cell BK122.out 3).trans rfl; have hfz17_0 := blk_frozen BK122.out 0; have hfz17_1 := blk_frozen BK122.out 1; have hfz17_2 := blk_frozen BK122.out 2; have hfz17_3 := blk_frozen BK122.out 3) | ((with_reducible refine gate_callee (f := 16) rfl ?_); refine goesL_ (some 5) rfl rfl Try.func16 (by kernel_rfl) rfl #[.agg #[.slice A0_0 l0_0.length c0_0,.int .i64 a0_1,.int .i64 a0_2,.int .i64 a0_3],.bool false] rfl (by (try simp only [List.map_toArray,List.map_cons,List.map_nil]); first | done | rfl | (simp only [List.length_drop,List.length_take]; rfl)) ?_; (with_reducible refine (sweep_Next.calls k _ _ l0_0 a0_1 a0_2 a0_3 false t124 _ ?side1 ?side2 A2.out).mono ?_); (case side1 => repeat (first | exact (Kd.C_below HR0_0.out HB.out) | (with_reducible refine Kd.C_alloc ?_ _) | (with_reducible refine Kd.C_drewN ?_ _) | (with_reducible refine Kd.C_drew ?_))); (case side2 => exact HC0_0.out); rintro e w18 ⟨rfl,hb⟩; refine ⟨_,rfl,?_⟩; have n0_ := Aside0.mk (blk_below (g := gb122) (o := .cells #[.slice A0_0 l0_0.length c0_0,.int .i64 a0_1,.int .i64 a0_2,.int .i64 a0_3] 25 (0,0)) (by (with_reducible repeat (first | refine blk_drewN ?_ _ | refine blk_drew ?_ | refine blk_alloc ?_ _)); exact BK122.out) hb); have n1_ := Aside0.mk (blk_below (g := gb123) (o := .cells #[.slice none 0 0,.int .i64 0,.int .i64 0,.int .i64 0] 25 (0,0)) (by (with_reducible repeat (first | refine blk_drewN ?_ _ | refine blk_drew ?_ | refine blk_alloc ?_ _)); exact BK123.out) hb); have n2_ := Aside0.mk (below_step (by repeat (first | (with_reducible first | exact HB.out | apply below_alloc | apply pw_below_drewN | apply below_drew1 | refine below_set ?_ GE122.out | refine below_set ?_ GE123.out) | exact HB.out)) hb); clear BK122; clear BK123; clear HB; have BK122 := n0_; have BK123 := n1_; have HB := n2_; clear n0_ n1_ n2_; (try clear hb); (try clear hb2); (try clear hk); (try clear hi); have hcz19_0 : w18.cell? ⟨gb123,0,none⟩ = some (.slice none 0 0) := (blk_cell BK123.out 0).trans rfl; have hcz19_1 : w18.cell? ⟨gb123,1,none⟩ = some (.int .i64 0) := (blk_cell BK123.out 1).trans rfl; have hcz19_2 : w18.cell? ⟨gb123,2,none⟩ = some (.int .i64 0) := (blk_cell BK123.out 2).trans rfl; have hcz19_3 : w18.cell? ⟨gb123,3,none⟩ = some (.int .i64 0) := (blk_cell BK123.out 3).trans rfl; have hfz19_0 := blk_frozen BK123.out 0; have hfz19_1 := blk_frozen BK123.out 1; have hfz19_2 := blk_frozen BK123.out 2; have hfz19_3 := blk_frozen BK123.out 3))
  refine bodyPost_ret (results_ct rfl _ _ gb123 25 #[.slice none 0 0,.int .i64 0,.int .i64 0,.int .i64 0] (0,0) _ rfl (by (with_reducible repeat (first | refine blk_drewN ?_ _ | refine blk_drew ?_ | refine blk_alloc ?_ _)); refine blk_put (cs := #[.slice none 0 0,.int .i64 0,.int .i64 0,.int .i64 0]) ?_ 3 _ rfl; (with_reducible repeat (first | refine blk_drewN ?_ _ | refine blk_drew ?_ | refine blk_alloc ?_ _)); refine blk_put (cs := #[.slice none 0 0,.int .i64 0,.int .i64 0,.int .i64 0]) ?_ 2 _ rfl; (with_reducible repeat (first | refine blk_drewN ?_ _ | refine blk_drew ?_ | refine blk_alloc ?_ _)); refine blk_put (cs := #[.slice none 0 0,.int .i64 0,.int .i64 0,.int .i64 0]) ?_ 1 _ rfl; (with_reducible repeat (first | refine blk_drewN ?_ _ | refine blk_drew ?_ | refine blk_alloc ?_ _)); refine blk_put (cs := #[.slice none 0 0,.int .i64 0,.int .i64 0,.int .i64 0]) ?_ 0 _ rfl; (with_reducible repeat (first | refine blk_drewN ?_ _ | refine blk_drew ?_ | refine blk_alloc ?_ _)); exact BK123.out) Try.underlying25 rfl (by kernel_rfl)) rfl ?_
  exact ⟨_,by first | rfl | (simp [errW_none,errW_some] <;> rfl) | (simp [*,errW_none,errW_some] <;> rfl),by first | exact Kd.R_nil _ _ _ _ _ | exact Kd.N_nil _ _ _ _ _ | exact Kd.V_nil _ _ _ _ _ | exact Kd.Q_nil _ _ _ _ _ | exact Kd.S_nil _ _ _ _ _,by repeat (first | (with_reducible first | exact HB.out | apply below_alloc | apply pw_below_drewN | apply below_drew1 | refine below_set ?_ GE122.out | refine below_set ?_ GE123.out) | exact HB.out)⟩
end Go.Proofs.Ytbcmjbjhjnojjaa.H
