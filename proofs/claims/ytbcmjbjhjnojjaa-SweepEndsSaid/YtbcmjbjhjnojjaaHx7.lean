-- PRINTED by print.py (a twelfth state) out of the translation. Not trusted: Lean checks it.
import Derived.Test.YtbcmjbjhjnojjaaHx0
import Derived.Test.YtbcmjbjhjnojjaaHx1
import Derived.Test.YtbcmjbjhjnojjaaHx2
import Derived.Test.YtbcmjbjhjnojjaaHx3
import Derived.Test.YtbcmjbjhjnojjaaHx6
namespace Go.Proofs.Ytbcmjbjhjnojjaa.H
open Go.RowKit Go.Proofs.YtbcmjbjhjnojjaaW.PrintWords Go.Proofs.YtbcmjbjhjnojjaaW.PrintLast Go.Proofs.YtbcmjbjhjnojjaaW.PrintMore
attribute [local go_sem] max2_int min2_int max_two min_two max_three min_three max_four min_four
set_option linter.unusedVariables false
set_option linter.unusedSimpArgs false
/-! ### lodgerref15_Left: function 15 -/
def lodgerref15_Left.f (l0_0 : List Int) (a0_1 : Int) (a0_2 : Int) (a0_3 : Int) (a1 : Int) : Option (Int) := if a0_1 ≥ 0 then (some (wrap64 ((wrap64 ((wrap64 ((wrap64 ((l0_0.length : Int) * (wrap64 (a1 + 2)))) + a0_3)) - a0_2)) + 1))) else (some (wrap64 ((l0_0.length : Int) * (wrap64 (a1 + 2)))))
set_option maxHeartbeats 8000000 in
set_option maxRecDepth 100000 in
theorem lodgerref15_Left.calls (A0_0 : Option Addr) (c0_0 : Nat) (l0_0 : List Int) (a0_1 : Int) (a0_2 : Int) (a0_3 : Int) (a1 : Int) (r : Int) (w : World) (hr0_0 : Kd.C (Kd.int .i64) w A0_0 l0_0.length l0_0) (hc0_0 : l0_0.length ≤ c0_0) (h : lodgerref15_Left.f l0_0 a0_1 a0_2 a0_3 a1 = some r) :
  Calls Try.prog 15 #[.agg #[.slice A0_0 l0_0.length c0_0,.int .i64 a0_1,.int .i64 a0_2,.int .i64 a0_3],.int .i64 a1] w fun e w' => e = .returned (.int .i64 r) ∧ Below w.heap.size w w' := by
 have hu27 := Try.underlying27
 have HR0_0 := Aside0.mk hr0_0
 have HC0_0 := Aside0.mk hc0_0
 clear hr0_0 hc0_0
 have HB := Aside0.mk (Below.refl w.heap.size w)
 have H : (if a0_1 ≥ 0 then (some (wrap64 ((wrap64 ((wrap64 ((wrap64 ((l0_0.length : Int) * (wrap64 (a1 + 2)))) + a0_3)) - a0_2)) + 1))) else (some (wrap64 ((l0_0.length : Int) * (wrap64 (a1 + 2)))))) = some r := h
 clear h
 by_cases c3 : a0_1 ≥ 0
 ·rw [if_pos c3] at H
  have c3b0 : decide (0 ≤ a0_1) = true := decide_eq_true c3
  clear c3
  obtain rfl := Option.some.inj H
  go_enter Try.func15,Try.ntmps15
  go_wp2_with (first | ((with_reducible refine gate_dst (N := 2) rfl ?_); refine box_event ?hg (N := 2) ?hd (cs := #[.slice A0_0 l0_0.length c0_0,.int .i64 a0_1,.int .i64 a0_2,.int .i64 a0_3]) (t := 27) ?hr ?_; (case hd => rfl); (case hg => rfl); (case hr => first | (go_simp; done) | (go_simp; rfl)); intro gb184 hg w4 hbox hb; have n0_ := Aside0.mk (below_step (by repeat (first | (with_reducible first | exact HB.out | apply below_alloc | apply pw_below_drewN | apply below_drew1) | exact HB.out)) hb); have n1_ := Aside0.mk (hbox); have n2_ := Aside0.mk ((by rw [hg]; exact (below_size (by repeat (first | (with_reducible first | exact HB.out | apply below_alloc | apply pw_below_drewN | apply below_drew1) | exact HB.out))) : w.heap.size ≤ gb184)); have n3_ := Aside0.mk ((by rw [hg]; exact (below_size (by repeat (first | (with_reducible first | exact HB.out | apply below_alloc | apply pw_below_drewN | apply below_drew1) | exact HB.out))) : w.heap.size ≤ gb184)); clear HB; have HB := n0_; have BK184 := n1_; have GW184 := n2_; have GE184 := n3_; clear n0_ n1_ n2_ n3_; clear hb hbox hg; have hcz5_0 : w4.cell? ⟨gb184,0,none⟩ = some (.slice A0_0 l0_0.length c0_0) := (blk_cell BK184.out 0).trans rfl; have hcz5_1 : w4.cell? ⟨gb184,1,none⟩ = some (.int .i64 a0_1) := (blk_cell BK184.out 1).trans rfl; have hcz5_2 : w4.cell? ⟨gb184,2,none⟩ = some (.int .i64 a0_2) := (blk_cell BK184.out 2).trans rfl; have hcz5_3 : w4.cell? ⟨gb184,3,none⟩ = some (.int .i64 a0_3) := (blk_cell BK184.out 3).trans rfl; have hfz5_0 := blk_frozen BK184.out 0; have hfz5_1 := blk_frozen BK184.out 1; have hfz5_2 := blk_frozen BK184.out 2; have hfz5_3 := blk_frozen BK184.out 3))
  go_ret
  exact ⟨by first | rfl | (simp [errW_none,errW_some] <;> rfl) | (simp [*,errW_none,errW_some] <;> rfl),by repeat (first | (with_reducible first | exact HB.out | apply below_alloc | apply pw_below_drewN | apply below_drew1 | refine below_set ?_ GE184.out) | exact HB.out)⟩
 ·rw [if_neg c3] at H
  have c3b0 : decide (0 ≤ a0_1) = false := decide_eq_false c3
  clear c3
  obtain rfl := Option.some.inj H
  go_enter Try.func15,Try.ntmps15
  go_wp2_with (first | ((with_reducible refine gate_dst (N := 2) rfl ?_); refine box_event ?hg (N := 2) ?hd (cs := #[.slice A0_0 l0_0.length c0_0,.int .i64 a0_1,.int .i64 a0_2,.int .i64 a0_3]) (t := 27) ?hr ?_; (case hd => rfl); (case hg => rfl); (case hr => first | (go_simp; done) | (go_simp; rfl)); intro gb184 hg w6 hbox hb; have n0_ := Aside0.mk (below_step (by repeat (first | (with_reducible first | exact HB.out | apply below_alloc | apply pw_below_drewN | apply below_drew1) | exact HB.out)) hb); have n1_ := Aside0.mk (hbox); have n2_ := Aside0.mk ((by rw [hg]; exact (below_size (by repeat (first | (with_reducible first | exact HB.out | apply below_alloc | apply pw_below_drewN | apply below_drew1) | exact HB.out))) : w.heap.size ≤ gb184)); have n3_ := Aside0.mk ((by rw [hg]; exact (below_size (by repeat (first | (with_reducible first | exact HB.out | apply below_alloc | apply pw_below_drewN | apply below_drew1) | exact HB.out))) : w.heap.size ≤ gb184)); clear HB; have HB := n0_; have BK184 := n1_; have GW184 := n2_; have GE184 := n3_; clear n0_ n1_ n2_ n3_; clear hb hbox hg; have hcz7_0 : w6.cell? ⟨gb184,0,none⟩ = some (.slice A0_0 l0_0.length c0_0) := (blk_cell BK184.out 0).trans rfl; have hcz7_1 : w6.cell? ⟨gb184,1,none⟩ = some (.int .i64 a0_1) := (blk_cell BK184.out 1).trans rfl; have hcz7_2 : w6.cell? ⟨gb184,2,none⟩ = some (.int .i64 a0_2) := (blk_cell BK184.out 2).trans rfl; have hcz7_3 : w6.cell? ⟨gb184,3,none⟩ = some (.int .i64 a0_3) := (blk_cell BK184.out 3).trans rfl; have hfz7_0 := blk_frozen BK184.out 0; have hfz7_1 := blk_frozen BK184.out 1; have hfz7_2 := blk_frozen BK184.out 2; have hfz7_3 := blk_frozen BK184.out 3))
  go_ret
  exact ⟨by first | rfl | (simp [errW_none,errW_some] <;> rfl) | (simp [*,errW_none,errW_some] <;> rfl),by repeat (first | (with_reducible first | exact HB.out | apply below_alloc | apply pw_below_drewN | apply below_drew1 | refine below_set ?_ GE184.out) | exact HB.out)⟩
/-! ### lodgerlaw15_fixed: function 18 -/
theorem Cint_block {w : World} {g t : Nat} {cs : Array Value} {xs : List Int} (hb : w.heap[g]? = some (.cells cs t (0,0))) (hl : xs.length ≤ 9223372036854775807) (h : cs = (xs.map fun x => Value.int .i64 x).toArray) :
  Kd.C (Kd.int .i64) w (some ⟨g,0,none⟩) xs.length xs := by
 refine ⟨rfl,hl,fun _ => ⟨_,rfl,fun j p hj => ⟨[.int .i64 p],rfl,rfl,fun i u hu => ?_⟩⟩⟩
 rw [add_plain,blk_cell hb]
 match i,hu with
 | 0,hu =>
  simp at hu
  subst hu
  subst h
  show (xs.map fun x => Value.int .i64 x).toArray[j * 1 + 0]? = _
  simp [hj]
def lodgerlaw15_fixed.f : Option Bool := some true
set_option maxHeartbeats 8000000 in
set_option maxRecDepth 100000 in
theorem lodgerlaw15_fixed.calls (w : World) : Calls Try.prog 18 #[] w fun e w' => e = .returned (.bool true) ∧ Below w.heap.size w w' := by
 go_enter Try.func18,Try.ntmps18
 have HB := Aside0.mk (Below.refl w.heap.size w)
 go_wp2_with fail
 refine (sweep_Idle.calls [] (-1) 0 0 _ (by kernel_rfl)).mono ?_
 rintro e w1 ⟨v0,rfl,hv,hb0⟩
 have hb : Below w.heap.size w w1 := hb0
 clear hb0
 obtain ⟨Aa,ca,hv0,hca,hCa⟩ := Kd.R_reads hv
 have hv1 : v0 = .slice Aa 0 ca := hv0
 subst hv1
 clear hv0 hv
 replace HB := Aside0.mk (below_step HB.out hb)
 clear hb
 go_upto_region 2 with ((with_reducible refine gate_dst (N := 1) rfl ?_); refine box_event ?hg (N := 1) ?hd (cs := #[.slice none 0 0,.int .i64 0,.int .i64 0,.int .i64 0]) (t := 25) ?hr ?_; (case hd => rfl); (case hg => rfl); (case hr => first | (go_simp; done) | (go_simp; rfl)); intro ga hgo w2 hbox hbb; have HBO := Aside0.mk hbox; have HBB := Aside0.mk hbb; have HGO := Aside0.mk hgo; have y0 : w2.cell? ⟨ga,0,none⟩ = some (.slice none 0 0) := (blk_cell hbox 0).trans rfl; have y1 : w2.cell? ⟨ga,1,none⟩ = some (.int .i64 0) := (blk_cell hbox 1).trans rfl; have y2 : w2.cell? ⟨ga,2,none⟩ = some (.int .i64 0) := (blk_cell hbox 2).trans rfl; have y3 : w2.cell? ⟨ga,3,none⟩ = some (.int .i64 0) := (blk_cell hbox 3).trans rfl; have yf0 := blk_frozen hbox 0; have yf1 := blk_frozen hbox 1; have yf2 := blk_frozen hbox 2; have yf3 := blk_frozen hbox 3; clear hbox hbb hgo)
 clear y0 y1 y2 y3 yf0 yf1 yf2 yf3
 obtain ⟨w3,hW_⟩ : ∃ W_,W_ = ((((w2.setCell ⟨ga,0,none⟩ (.slice Aa 0 ca)).setCell ⟨ga,1,none⟩ (.int .i64 (-1))).setCell ⟨ga,2,none⟩ (.int .i64 0)).setCell ⟨ga,3,none⟩ (.int .i64 0)) := ⟨_,rfl⟩
 rw [← hW_]
 have b_ := (blk_set (blk_set (blk_set (blk_set HBO.out 0 (.slice Aa 0 ca)) 1 (.int .i64 (-1))) 2 (.int .i64 0)) 3 (.int .i64 0))
 simp only [zqI,zqs0,zqs1] at b_
 have h_ := (below_set (g := ga) (j := 3) (v := .int .i64 0) (below_set (g := ga) (j := 2) (v := .int .i64 0) (below_set (g := ga) (j := 1) (v := .int .i64 (-1)) (below_set (g := ga) (j := 0) (v := .slice Aa 0 ca) HBB.out (Nat.le_of_eq HGO.out.symm)) (Nat.le_of_eq HGO.out.symm)) (Nat.le_of_eq HGO.out.symm)) (Nat.le_of_eq HGO.out.symm))
 rw [← hW_] at b_ h_
 clear hW_ HBO HBB HGO
 replace HB := Aside0.mk (below_step HB.out h_)
 have HXa := Aside0.mk b_
 have HCa : Aside0 (Kd.C (Kd.int .i64) w3 Aa 0 []) := ⟨Kd.C_below hCa h_⟩
 have Hca : Aside0 (0 ≤ ca) := ⟨hca⟩
 clear b_ h_ hCa hca
 have a0 : w3.cell? ⟨ga,0,none⟩ = some (.slice Aa 0 ca) := (blk_cell HXa.out 0).trans rfl
 have a1 : w3.cell? ⟨ga,1,none⟩ = some (.int .i64 (-1)) := (blk_cell HXa.out 1).trans rfl
 have a2 : w3.cell? ⟨ga,2,none⟩ = some (.int .i64 0) := (blk_cell HXa.out 2).trans rfl
 have a3 : w3.cell? ⟨ga,3,none⟩ = some (.int .i64 0) := (blk_cell HXa.out 3).trans rfl
 go_wp2_with fail
 clear a0 a1 a2 a3
 refine (sweep_Begin.calls 12 Aa ca [] (-1) 0 0 (some ⟨w3.heap.size,0,none⟩) 2 [2,5] [2,5] (-1) 0 0 0 _ (Kd.C_alloc HCa.out _) Hca.out (Cint_block (blk_new _ _) (by decide) rfl) (by decide) (by kernel_rfl)).mono ?_
 rintro e w4 ⟨v0,rfl,hv,hb0⟩
 have hb : Below w3.heap.size w3 w4 := below_step (below_alloc (Below.refl _ _) _) hb0
 clear hb0
 obtain ⟨Ab,cb,hv0,hcb,hCb⟩ := Kd.R_reads hv
 have hv1 : v0 = .slice Ab 2 cb := hv0
 subst hv1
 clear hv0 hv
 replace HXa := Aside0.mk (blk_below HXa.out hb)
 replace HCa := Aside0.mk (Kd.C_below HCa.out hb)
 replace HB := Aside0.mk (below_step HB.out hb)
 clear hb
 go_upto_region 3 with ((with_reducible refine gate_dst (N := 2) rfl ?_); refine box_event ?hg (N := 2) ?hd (cs := #[.slice none 0 0,.int .i64 0,.int .i64 0,.int .i64 0]) (t := 25) ?hr ?_; (case hd => rfl); (case hg => rfl); (case hr => first | (go_simp; done) | (go_simp; rfl)); intro gb hgo w5 hbox hbb; have HBO := Aside0.mk hbox; have HBB := Aside0.mk hbb; have HGO := Aside0.mk hgo; have y0 : w5.cell? ⟨gb,0,none⟩ = some (.slice none 0 0) := (blk_cell hbox 0).trans rfl; have y1 : w5.cell? ⟨gb,1,none⟩ = some (.int .i64 0) := (blk_cell hbox 1).trans rfl; have y2 : w5.cell? ⟨gb,2,none⟩ = some (.int .i64 0) := (blk_cell hbox 2).trans rfl; have y3 : w5.cell? ⟨gb,3,none⟩ = some (.int .i64 0) := (blk_cell hbox 3).trans rfl; have yf0 := blk_frozen hbox 0; have yf1 := blk_frozen hbox 1; have yf2 := blk_frozen hbox 2; have yf3 := blk_frozen hbox 3; clear hbox hbb hgo)
 clear y0 y1 y2 y3 yf0 yf1 yf2 yf3
 obtain ⟨w6,hW_⟩ : ∃ W_,W_ = ((((w5.setCell ⟨gb,0,none⟩ (.slice Ab 2 cb)).setCell ⟨gb,1,none⟩ (.int .i64 (-1))).setCell ⟨gb,2,none⟩ (.int .i64 0)).setCell ⟨gb,3,none⟩ (.int .i64 0)) := ⟨_,rfl⟩
 rw [← hW_]
 have b_ := (blk_set (blk_set (blk_set (blk_set HBO.out 0 (.slice Ab 2 cb)) 1 (.int .i64 (-1))) 2 (.int .i64 0)) 3 (.int .i64 0))
 simp only [zqI,zqs0,zqs1] at b_
 have h_ := (below_set (g := gb) (j := 3) (v := .int .i64 0) (below_set (g := gb) (j := 2) (v := .int .i64 0) (below_set (g := gb) (j := 1) (v := .int .i64 (-1)) (below_set (g := gb) (j := 0) (v := .slice Ab 2 cb) HBB.out (Nat.le_of_eq HGO.out.symm)) (Nat.le_of_eq HGO.out.symm)) (Nat.le_of_eq HGO.out.symm)) (Nat.le_of_eq HGO.out.symm))
 rw [← hW_] at b_ h_
 clear hW_ HBO HBB HGO
 replace HXa := Aside0.mk (blk_below HXa.out h_)
 replace HCa := Aside0.mk (Kd.C_below HCa.out h_)
 replace HB := Aside0.mk (below_step HB.out h_)
 have HXb := Aside0.mk b_
 have HCb : Aside0 (Kd.C (Kd.int .i64) w6 Ab 2 [2,5]) := ⟨Kd.C_below hCb h_⟩
 have Hcb : Aside0 (2 ≤ cb) := ⟨hcb⟩
 clear b_ h_ hCb hcb
 have b0 : w6.cell? ⟨gb,0,none⟩ = some (.slice Ab 2 cb) := (blk_cell HXb.out 0).trans rfl
 have b1 : w6.cell? ⟨gb,1,none⟩ = some (.int .i64 (-1)) := (blk_cell HXb.out 1).trans rfl
 have b2 : w6.cell? ⟨gb,2,none⟩ = some (.int .i64 0) := (blk_cell HXb.out 2).trans rfl
 have b3 : w6.cell? ⟨gb,3,none⟩ = some (.int .i64 0) := (blk_cell HXb.out 3).trans rfl
 go_wp2_with fail
 clear b0 b1 b2 b3
 refine (sweep_Take.calls 12 Ab cb [2,5] (-1) 0 0 5 1 [2] 5 0 1 0 _ HCb.out Hcb.out (by kernel_rfl)).mono ?_
 rintro e w7 ⟨v0,rfl,hv,hb0⟩
 have hb : Below w6.heap.size w6 w7 := hb0
 clear hb0
 obtain ⟨Ac,cc,hv0,hcc,hCc⟩ := Kd.R_reads hv
 have hv1 : v0 = .slice Ac 1 cc := hv0
 subst hv1
 clear hv0 hv
 replace HXa := Aside0.mk (blk_below HXa.out hb)
 replace HCa := Aside0.mk (Kd.C_below HCa.out hb)
 replace HXb := Aside0.mk (blk_below HXb.out hb)
 replace HCb := Aside0.mk (Kd.C_below HCb.out hb)
 replace HB := Aside0.mk (below_step HB.out hb)
 clear hb
 go_upto_region 4 with ((with_reducible refine gate_dst (N := 4) rfl ?_); refine box_event ?hg (N := 4) ?hd (cs := #[.slice none 0 0,.int .i64 0,.int .i64 0,.int .i64 0]) (t := 25) ?hr ?_; (case hd => rfl); (case hg => rfl); (case hr => first | (go_simp; done) | (go_simp; rfl)); intro gc hgo w8 hbox hbb; have HBO := Aside0.mk hbox; have HBB := Aside0.mk hbb; have HGO := Aside0.mk hgo; have y0 : w8.cell? ⟨gc,0,none⟩ = some (.slice none 0 0) := (blk_cell hbox 0).trans rfl; have y1 : w8.cell? ⟨gc,1,none⟩ = some (.int .i64 0) := (blk_cell hbox 1).trans rfl; have y2 : w8.cell? ⟨gc,2,none⟩ = some (.int .i64 0) := (blk_cell hbox 2).trans rfl; have y3 : w8.cell? ⟨gc,3,none⟩ = some (.int .i64 0) := (blk_cell hbox 3).trans rfl; have yf0 := blk_frozen hbox 0; have yf1 := blk_frozen hbox 1; have yf2 := blk_frozen hbox 2; have yf3 := blk_frozen hbox 3; clear hbox hbb hgo)
 clear y0 y1 y2 y3 yf0 yf1 yf2 yf3
 obtain ⟨w9,hW_⟩ : ∃ W_,W_ = ((((w8.setCell ⟨gc,0,none⟩ (.slice Ac 1 cc)).setCell ⟨gc,1,none⟩ (.int .i64 5)).setCell ⟨gc,2,none⟩ (.int .i64 0)).setCell ⟨gc,3,none⟩ (.int .i64 1)) := ⟨_,rfl⟩
 rw [← hW_]
 have b_ := (blk_set (blk_set (blk_set (blk_set HBO.out 0 (.slice Ac 1 cc)) 1 (.int .i64 5)) 2 (.int .i64 0)) 3 (.int .i64 1))
 simp only [zqI,zqs0,zqs1] at b_
 have h_ := (below_set (g := gc) (j := 3) (v := .int .i64 1) (below_set (g := gc) (j := 2) (v := .int .i64 0) (below_set (g := gc) (j := 1) (v := .int .i64 5) (below_set (g := gc) (j := 0) (v := .slice Ac 1 cc) HBB.out (Nat.le_of_eq HGO.out.symm)) (Nat.le_of_eq HGO.out.symm)) (Nat.le_of_eq HGO.out.symm)) (Nat.le_of_eq HGO.out.symm))
 rw [← hW_] at b_ h_
 clear hW_ HBO HBB HGO
 replace HXa := Aside0.mk (blk_below HXa.out h_)
 replace HCa := Aside0.mk (Kd.C_below HCa.out h_)
 replace HXb := Aside0.mk (blk_below HXb.out h_)
 replace HCb := Aside0.mk (Kd.C_below HCb.out h_)
 replace HB := Aside0.mk (below_step HB.out h_)
 have HXc := Aside0.mk b_
 have HCc : Aside0 (Kd.C (Kd.int .i64) w9 Ac 1 [2]) := ⟨Kd.C_below hCc h_⟩
 have Hcc : Aside0 (1 ≤ cc) := ⟨hcc⟩
 clear b_ h_ hCc hcc
 have b0 : w9.cell? ⟨gb,0,none⟩ = some (.slice Ab 2 cb) := (blk_cell HXb.out 0).trans rfl
 have b1 : w9.cell? ⟨gb,1,none⟩ = some (.int .i64 (-1)) := (blk_cell HXb.out 1).trans rfl
 have b2 : w9.cell? ⟨gb,2,none⟩ = some (.int .i64 0) := (blk_cell HXb.out 2).trans rfl
 have b3 : w9.cell? ⟨gb,3,none⟩ = some (.int .i64 0) := (blk_cell HXb.out 3).trans rfl
 go_wp2_with fail
 clear b0 b1 b2 b3
 refine (sweep_Take.calls 12 Ab cb [2,5] (-1) 0 0 3 1 [] 0 0 0 1 _ HCb.out Hcb.out (by kernel_rfl)).mono ?_
 rintro e w10 ⟨v0,rfl,hv,hb0⟩
 have hb : Below w9.heap.size w9 w10 := hb0
 clear hb0
 obtain ⟨Az10,cz10,hv0,hcz10,hCz10⟩ := Kd.R_reads hv
 have hv1 : v0 = .slice Az10 0 cz10 := hv0
 subst hv1
 clear hv0 hv
 replace HXa := Aside0.mk (blk_below HXa.out hb)
 replace HCa := Aside0.mk (Kd.C_below HCa.out hb)
 replace HXb := Aside0.mk (blk_below HXb.out hb)
 replace HCb := Aside0.mk (Kd.C_below HCb.out hb)
 replace HXc := Aside0.mk (blk_below HXc.out hb)
 replace HCc := Aside0.mk (Kd.C_below HCc.out hb)
 replace HB := Aside0.mk (below_step HB.out hb)
 clear hb
 go_upto_region 5 with ((with_reducible refine gate_dst (N := 6) rfl ?_); refine box_event ?hg (N := 6) ?hd (cs := #[.slice none 0 0,.int .i64 0,.int .i64 0,.int .i64 0]) (t := 25) ?hr ?_; (case hd => rfl); (case hg => rfl); (case hr => first | (go_simp; done) | (go_simp; rfl)); intro gz10 hgo w11 hbox hbb; have HBO := Aside0.mk hbox; have HBB := Aside0.mk hbb; have HGO := Aside0.mk hgo; have y0 : w11.cell? ⟨gz10,0,none⟩ = some (.slice none 0 0) := (blk_cell hbox 0).trans rfl; have y1 : w11.cell? ⟨gz10,1,none⟩ = some (.int .i64 0) := (blk_cell hbox 1).trans rfl; have y2 : w11.cell? ⟨gz10,2,none⟩ = some (.int .i64 0) := (blk_cell hbox 2).trans rfl; have y3 : w11.cell? ⟨gz10,3,none⟩ = some (.int .i64 0) := (blk_cell hbox 3).trans rfl; have yf0 := blk_frozen hbox 0; have yf1 := blk_frozen hbox 1; have yf2 := blk_frozen hbox 2; have yf3 := blk_frozen hbox 3; clear hbox hbb hgo)
 clear y0 y1 y2 y3 yf0 yf1 yf2 yf3
 obtain ⟨w12,hW_⟩ : ∃ W_,W_ = ((((w11.setCell ⟨gz10,0,none⟩ (.slice Az10 0 cz10)).setCell ⟨gz10,1,none⟩ (.int .i64 0)).setCell ⟨gz10,2,none⟩ (.int .i64 0)).setCell ⟨gz10,3,none⟩ (.int .i64 0)) := ⟨_,rfl⟩
 rw [← hW_]
 have b_ := (blk_set (blk_set (blk_set (blk_set HBO.out 0 (.slice Az10 0 cz10)) 1 (.int .i64 0)) 2 (.int .i64 0)) 3 (.int .i64 0))
 simp only [zqI,zqs0,zqs1] at b_
 have h_ := (below_set (g := gz10) (j := 3) (v := .int .i64 0) (below_set (g := gz10) (j := 2) (v := .int .i64 0) (below_set (g := gz10) (j := 1) (v := .int .i64 0) (below_set (g := gz10) (j := 0) (v := .slice Az10 0 cz10) HBB.out (Nat.le_of_eq HGO.out.symm)) (Nat.le_of_eq HGO.out.symm)) (Nat.le_of_eq HGO.out.symm)) (Nat.le_of_eq HGO.out.symm))
 rw [← hW_] at b_ h_
 clear hW_ HBO HBB HGO
 replace HXa := Aside0.mk (blk_below HXa.out h_)
 replace HCa := Aside0.mk (Kd.C_below HCa.out h_)
 replace HXb := Aside0.mk (blk_below HXb.out h_)
 replace HCb := Aside0.mk (Kd.C_below HCb.out h_)
 replace HXc := Aside0.mk (blk_below HXc.out h_)
 replace HCc := Aside0.mk (Kd.C_below HCc.out h_)
 replace HB := Aside0.mk (below_step HB.out h_)
 clear b_ h_ hCz10 hcz10
 have b0 : w12.cell? ⟨gb,0,none⟩ = some (.slice Ab 2 cb) := (blk_cell HXb.out 0).trans rfl
 have b1 : w12.cell? ⟨gb,1,none⟩ = some (.int .i64 (-1)) := (blk_cell HXb.out 1).trans rfl
 have b2 : w12.cell? ⟨gb,2,none⟩ = some (.int .i64 0) := (blk_cell HXb.out 2).trans rfl
 have b3 : w12.cell? ⟨gb,3,none⟩ = some (.int .i64 0) := (blk_cell HXb.out 3).trans rfl
 go_wp2_with fail
 clear b0 b1 b2 b3
 refine (sweep_Begin.calls 12 Ab cb [2,5] (-1) 0 0 (some ⟨w12.heap.size,0,none⟩) 1 [1] [] 0 0 0 1 _ (Kd.C_alloc HCb.out _) Hcb.out (Cint_block (blk_new _ _) (by decide) rfl) (by decide) (by kernel_rfl)).mono ?_
 rintro e w13 ⟨v0,rfl,hv,hb0⟩
 have hb : Below w12.heap.size w12 w13 := below_step (below_alloc (Below.refl _ _) _) hb0
 clear hb0
 obtain ⟨Az13,cz13,hv0,hcz13,hCz13⟩ := Kd.R_reads hv
 have hv1 : v0 = .slice Az13 0 cz13 := hv0
 subst hv1
 clear hv0 hv
 replace HXa := Aside0.mk (blk_below HXa.out hb)
 replace HCa := Aside0.mk (Kd.C_below HCa.out hb)
 replace HXb := Aside0.mk (blk_below HXb.out hb)
 replace HCb := Aside0.mk (Kd.C_below HCb.out hb)
 replace HXc := Aside0.mk (blk_below HXc.out hb)
 replace HCc := Aside0.mk (Kd.C_below HCc.out hb)
 replace HB := Aside0.mk (below_step HB.out hb)
 clear hb
 go_upto_region 6 with ((with_reducible refine gate_dst (N := 8) rfl ?_); refine box_event ?hg (N := 8) ?hd (cs := #[.slice none 0 0,.int .i64 0,.int .i64 0,.int .i64 0]) (t := 25) ?hr ?_; (case hd => rfl); (case hg => rfl); (case hr => first | (go_simp; done) | (go_simp; rfl)); intro gz13 hgo w14 hbox hbb; have HBO := Aside0.mk hbox; have HBB := Aside0.mk hbb; have HGO := Aside0.mk hgo; have y0 : w14.cell? ⟨gz13,0,none⟩ = some (.slice none 0 0) := (blk_cell hbox 0).trans rfl; have y1 : w14.cell? ⟨gz13,1,none⟩ = some (.int .i64 0) := (blk_cell hbox 1).trans rfl; have y2 : w14.cell? ⟨gz13,2,none⟩ = some (.int .i64 0) := (blk_cell hbox 2).trans rfl; have y3 : w14.cell? ⟨gz13,3,none⟩ = some (.int .i64 0) := (blk_cell hbox 3).trans rfl; have yf0 := blk_frozen hbox 0; have yf1 := blk_frozen hbox 1; have yf2 := blk_frozen hbox 2; have yf3 := blk_frozen hbox 3; clear hbox hbb hgo)
 clear y0 y1 y2 y3 yf0 yf1 yf2 yf3
 obtain ⟨w15,hW_⟩ : ∃ W_,W_ = ((((w14.setCell ⟨gz13,0,none⟩ (.slice Az13 0 cz13)).setCell ⟨gz13,1,none⟩ (.int .i64 0)).setCell ⟨gz13,2,none⟩ (.int .i64 0)).setCell ⟨gz13,3,none⟩ (.int .i64 0)) := ⟨_,rfl⟩
 rw [← hW_]
 have b_ := (blk_set (blk_set (blk_set (blk_set HBO.out 0 (.slice Az13 0 cz13)) 1 (.int .i64 0)) 2 (.int .i64 0)) 3 (.int .i64 0))
 simp only [zqI,zqs0,zqs1] at b_
 have h_ := (below_set (g := gz13) (j := 3) (v := .int .i64 0) (below_set (g := gz13) (j := 2) (v := .int .i64 0) (below_set (g := gz13) (j := 1) (v := .int .i64 0) (below_set (g := gz13) (j := 0) (v := .slice Az13 0 cz13) HBB.out (Nat.le_of_eq HGO.out.symm)) (Nat.le_of_eq HGO.out.symm)) (Nat.le_of_eq HGO.out.symm)) (Nat.le_of_eq HGO.out.symm))
 rw [← hW_] at b_ h_
 clear hW_ HBO HBB HGO
 replace HXa := Aside0.mk (blk_below HXa.out h_)
 replace HCa := Aside0.mk (Kd.C_below HCa.out h_)
 replace HXb := Aside0.mk (blk_below HXb.out h_)
 replace HCb := Aside0.mk (Kd.C_below HCb.out h_)
 replace HXc := Aside0.mk (blk_below HXc.out h_)
 replace HCc := Aside0.mk (Kd.C_below HCc.out h_)
 replace HB := Aside0.mk (below_step HB.out h_)
 clear b_ h_ hCz13 hcz13
 have c0 : w15.cell? ⟨gc,0,none⟩ = some (.slice Ac 1 cc) := (blk_cell HXc.out 0).trans rfl
 have c1 : w15.cell? ⟨gc,1,none⟩ = some (.int .i64 5) := (blk_cell HXc.out 1).trans rfl
 have c2 : w15.cell? ⟨gc,2,none⟩ = some (.int .i64 0) := (blk_cell HXc.out 2).trans rfl
 have c3 : w15.cell? ⟨gc,3,none⟩ = some (.int .i64 1) := (blk_cell HXc.out 3).trans rfl
 go_wp2_with fail
 clear c0 c1 c2 c3
 refine (sweep_Seen.calls 12 Ac cc [2] 5 0 1  [2] 5 1 1 0 _ HCc.out Hcc.out (by kernel_rfl)).mono ?_
 rintro e w16 ⟨v0,rfl,hv,hb0⟩
 have hb : Below w15.heap.size w15 w16 := hb0
 clear hb0
 obtain ⟨Ad,cd,hv0,hcd,hCd⟩ := Kd.R_reads hv
 have hv1 : v0 = .slice Ad 1 cd := hv0
 subst hv1
 clear hv0 hv
 replace HXa := Aside0.mk (blk_below HXa.out hb)
 replace HCa := Aside0.mk (Kd.C_below HCa.out hb)
 replace HXb := Aside0.mk (blk_below HXb.out hb)
 replace HCb := Aside0.mk (Kd.C_below HCb.out hb)
 replace HXc := Aside0.mk (blk_below HXc.out hb)
 replace HCc := Aside0.mk (Kd.C_below HCc.out hb)
 replace HB := Aside0.mk (below_step HB.out hb)
 clear hb
 go_upto_region 7 with ((with_reducible refine gate_dst (N := 10) rfl ?_); refine box_event ?hg (N := 10) ?hd (cs := #[.slice none 0 0,.int .i64 0,.int .i64 0,.int .i64 0]) (t := 25) ?hr ?_; (case hd => rfl); (case hg => rfl); (case hr => first | (go_simp; done) | (go_simp; rfl)); intro gd hgo w17 hbox hbb; have HBO := Aside0.mk hbox; have HBB := Aside0.mk hbb; have HGO := Aside0.mk hgo; have y0 : w17.cell? ⟨gd,0,none⟩ = some (.slice none 0 0) := (blk_cell hbox 0).trans rfl; have y1 : w17.cell? ⟨gd,1,none⟩ = some (.int .i64 0) := (blk_cell hbox 1).trans rfl; have y2 : w17.cell? ⟨gd,2,none⟩ = some (.int .i64 0) := (blk_cell hbox 2).trans rfl; have y3 : w17.cell? ⟨gd,3,none⟩ = some (.int .i64 0) := (blk_cell hbox 3).trans rfl; have yf0 := blk_frozen hbox 0; have yf1 := blk_frozen hbox 1; have yf2 := blk_frozen hbox 2; have yf3 := blk_frozen hbox 3; clear hbox hbb hgo)
 clear y0 y1 y2 y3 yf0 yf1 yf2 yf3
 obtain ⟨w18,hW_⟩ : ∃ W_,W_ = ((((w17.setCell ⟨gd,0,none⟩ (.slice Ad 1 cd)).setCell ⟨gd,1,none⟩ (.int .i64 5)).setCell ⟨gd,2,none⟩ (.int .i64 1)).setCell ⟨gd,3,none⟩ (.int .i64 1)) := ⟨_,rfl⟩
 rw [← hW_]
 have b_ := (blk_set (blk_set (blk_set (blk_set HBO.out 0 (.slice Ad 1 cd)) 1 (.int .i64 5)) 2 (.int .i64 1)) 3 (.int .i64 1))
 simp only [zqI,zqs0,zqs1] at b_
 have h_ := (below_set (g := gd) (j := 3) (v := .int .i64 1) (below_set (g := gd) (j := 2) (v := .int .i64 1) (below_set (g := gd) (j := 1) (v := .int .i64 5) (below_set (g := gd) (j := 0) (v := .slice Ad 1 cd) HBB.out (Nat.le_of_eq HGO.out.symm)) (Nat.le_of_eq HGO.out.symm)) (Nat.le_of_eq HGO.out.symm)) (Nat.le_of_eq HGO.out.symm))
 rw [← hW_] at b_ h_
 clear hW_ HBO HBB HGO
 replace HXa := Aside0.mk (blk_below HXa.out h_)
 replace HCa := Aside0.mk (Kd.C_below HCa.out h_)
 replace HXb := Aside0.mk (blk_below HXb.out h_)
 replace HCb := Aside0.mk (Kd.C_below HCb.out h_)
 replace HXc := Aside0.mk (blk_below HXc.out h_)
 replace HCc := Aside0.mk (Kd.C_below HCc.out h_)
 replace HB := Aside0.mk (below_step HB.out h_)
 have HXd := Aside0.mk b_
 have HCd : Aside0 (Kd.C (Kd.int .i64) w18 Ad 1 [2]) := ⟨Kd.C_below hCd h_⟩
 have Hcd : Aside0 (1 ≤ cd) := ⟨hcd⟩
 clear b_ h_ hCd hcd
 have c0 : w18.cell? ⟨gc,0,none⟩ = some (.slice Ac 1 cc) := (blk_cell HXc.out 0).trans rfl
 have c1 : w18.cell? ⟨gc,1,none⟩ = some (.int .i64 5) := (blk_cell HXc.out 1).trans rfl
 have c2 : w18.cell? ⟨gc,2,none⟩ = some (.int .i64 0) := (blk_cell HXc.out 2).trans rfl
 have c3 : w18.cell? ⟨gc,3,none⟩ = some (.int .i64 1) := (blk_cell HXc.out 3).trans rfl
 go_wp2_with fail
 clear c0 c1 c2 c3
 refine (sweep_Given.calls 12 Ac cc [2] 5 0 1  [] 0 0 0 1 _ HCc.out Hcc.out (by kernel_rfl)).mono ?_
 rintro e w19 ⟨v0,rfl,hv,hb0⟩
 have hb : Below w18.heap.size w18 w19 := hb0
 clear hb0
 obtain ⟨Az19,cz19,hv0,hcz19,hCz19⟩ := Kd.R_reads hv
 have hv1 : v0 = .slice Az19 0 cz19 := hv0
 subst hv1
 clear hv0 hv
 replace HXa := Aside0.mk (blk_below HXa.out hb)
 replace HCa := Aside0.mk (Kd.C_below HCa.out hb)
 replace HXb := Aside0.mk (blk_below HXb.out hb)
 replace HCb := Aside0.mk (Kd.C_below HCb.out hb)
 replace HXc := Aside0.mk (blk_below HXc.out hb)
 replace HCc := Aside0.mk (Kd.C_below HCc.out hb)
 replace HXd := Aside0.mk (blk_below HXd.out hb)
 replace HCd := Aside0.mk (Kd.C_below HCd.out hb)
 replace HB := Aside0.mk (below_step HB.out hb)
 clear hb
 go_upto_region 8 with ((with_reducible refine gate_dst (N := 12) rfl ?_); refine box_event ?hg (N := 12) ?hd (cs := #[.slice none 0 0,.int .i64 0,.int .i64 0,.int .i64 0]) (t := 25) ?hr ?_; (case hd => rfl); (case hg => rfl); (case hr => first | (go_simp; done) | (go_simp; rfl)); intro gz19 hgo w20 hbox hbb; have HBO := Aside0.mk hbox; have HBB := Aside0.mk hbb; have HGO := Aside0.mk hgo; have y0 : w20.cell? ⟨gz19,0,none⟩ = some (.slice none 0 0) := (blk_cell hbox 0).trans rfl; have y1 : w20.cell? ⟨gz19,1,none⟩ = some (.int .i64 0) := (blk_cell hbox 1).trans rfl; have y2 : w20.cell? ⟨gz19,2,none⟩ = some (.int .i64 0) := (blk_cell hbox 2).trans rfl; have y3 : w20.cell? ⟨gz19,3,none⟩ = some (.int .i64 0) := (blk_cell hbox 3).trans rfl; have yf0 := blk_frozen hbox 0; have yf1 := blk_frozen hbox 1; have yf2 := blk_frozen hbox 2; have yf3 := blk_frozen hbox 3; clear hbox hbb hgo)
 clear y0 y1 y2 y3 yf0 yf1 yf2 yf3
 obtain ⟨w21,hW_⟩ : ∃ W_,W_ = ((((w20.setCell ⟨gz19,0,none⟩ (.slice Az19 0 cz19)).setCell ⟨gz19,1,none⟩ (.int .i64 0)).setCell ⟨gz19,2,none⟩ (.int .i64 0)).setCell ⟨gz19,3,none⟩ (.int .i64 0)) := ⟨_,rfl⟩
 rw [← hW_]
 have b_ := (blk_set (blk_set (blk_set (blk_set HBO.out 0 (.slice Az19 0 cz19)) 1 (.int .i64 0)) 2 (.int .i64 0)) 3 (.int .i64 0))
 simp only [zqI,zqs0,zqs1] at b_
 have h_ := (below_set (g := gz19) (j := 3) (v := .int .i64 0) (below_set (g := gz19) (j := 2) (v := .int .i64 0) (below_set (g := gz19) (j := 1) (v := .int .i64 0) (below_set (g := gz19) (j := 0) (v := .slice Az19 0 cz19) HBB.out (Nat.le_of_eq HGO.out.symm)) (Nat.le_of_eq HGO.out.symm)) (Nat.le_of_eq HGO.out.symm)) (Nat.le_of_eq HGO.out.symm))
 rw [← hW_] at b_ h_
 clear hW_ HBO HBB HGO
 replace HXa := Aside0.mk (blk_below HXa.out h_)
 replace HCa := Aside0.mk (Kd.C_below HCa.out h_)
 replace HXb := Aside0.mk (blk_below HXb.out h_)
 replace HCb := Aside0.mk (Kd.C_below HCb.out h_)
 replace HXc := Aside0.mk (blk_below HXc.out h_)
 replace HCc := Aside0.mk (Kd.C_below HCc.out h_)
 replace HXd := Aside0.mk (blk_below HXd.out h_)
 replace HCd := Aside0.mk (Kd.C_below HCd.out h_)
 replace HB := Aside0.mk (below_step HB.out h_)
 clear b_ h_ hCz19 hcz19
 have d0 : w21.cell? ⟨gd,0,none⟩ = some (.slice Ad 1 cd) := (blk_cell HXd.out 0).trans rfl
 have d1 : w21.cell? ⟨gd,1,none⟩ = some (.int .i64 5) := (blk_cell HXd.out 1).trans rfl
 have d2 : w21.cell? ⟨gd,2,none⟩ = some (.int .i64 1) := (blk_cell HXd.out 2).trans rfl
 have d3 : w21.cell? ⟨gd,3,none⟩ = some (.int .i64 1) := (blk_cell HXd.out 3).trans rfl
 go_wp2_with fail
 clear d0 d1 d2 d3
 refine (sweep_Given.calls 12 Ad cd [2] 5 1 1  [2] (-1) 0 0 0 _ HCd.out Hcd.out (by kernel_rfl)).mono ?_
 rintro e w22 ⟨v0,rfl,hv,hb0⟩
 have hb : Below w21.heap.size w21 w22 := hb0
 clear hb0
 obtain ⟨Ak,ck,hv0,hck,hCk⟩ := Kd.R_reads hv
 have hv1 : v0 = .slice Ak 1 ck := hv0
 subst hv1
 clear hv0 hv
 replace HXa := Aside0.mk (blk_below HXa.out hb)
 replace HCa := Aside0.mk (Kd.C_below HCa.out hb)
 replace HXb := Aside0.mk (blk_below HXb.out hb)
 replace HCb := Aside0.mk (Kd.C_below HCb.out hb)
 replace HXc := Aside0.mk (blk_below HXc.out hb)
 replace HCc := Aside0.mk (Kd.C_below HCc.out hb)
 replace HXd := Aside0.mk (blk_below HXd.out hb)
 replace HCd := Aside0.mk (Kd.C_below HCd.out hb)
 replace HB := Aside0.mk (below_step HB.out hb)
 clear hb
 go_upto_region 9 with ((with_reducible refine gate_dst (N := 14) rfl ?_); refine box_event ?hg (N := 14) ?hd (cs := #[.slice none 0 0,.int .i64 0,.int .i64 0,.int .i64 0]) (t := 25) ?hr ?_; (case hd => rfl); (case hg => rfl); (case hr => first | (go_simp; done) | (go_simp; rfl)); intro gk hgo w23 hbox hbb; have HBO := Aside0.mk hbox; have HBB := Aside0.mk hbb; have HGO := Aside0.mk hgo; have y0 : w23.cell? ⟨gk,0,none⟩ = some (.slice none 0 0) := (blk_cell hbox 0).trans rfl; have y1 : w23.cell? ⟨gk,1,none⟩ = some (.int .i64 0) := (blk_cell hbox 1).trans rfl; have y2 : w23.cell? ⟨gk,2,none⟩ = some (.int .i64 0) := (blk_cell hbox 2).trans rfl; have y3 : w23.cell? ⟨gk,3,none⟩ = some (.int .i64 0) := (blk_cell hbox 3).trans rfl; have yf0 := blk_frozen hbox 0; have yf1 := blk_frozen hbox 1; have yf2 := blk_frozen hbox 2; have yf3 := blk_frozen hbox 3; clear hbox hbb hgo)
 clear y0 y1 y2 y3 yf0 yf1 yf2 yf3
 obtain ⟨w24,hW_⟩ : ∃ W_,W_ = ((((w23.setCell ⟨gk,0,none⟩ (.slice Ak 1 ck)).setCell ⟨gk,1,none⟩ (.int .i64 (-1))).setCell ⟨gk,2,none⟩ (.int .i64 0)).setCell ⟨gk,3,none⟩ (.int .i64 0)) := ⟨_,rfl⟩
 rw [← hW_]
 have b_ := (blk_set (blk_set (blk_set (blk_set HBO.out 0 (.slice Ak 1 ck)) 1 (.int .i64 (-1))) 2 (.int .i64 0)) 3 (.int .i64 0))
 simp only [zqI,zqs0,zqs1] at b_
 have h_ := (below_set (g := gk) (j := 3) (v := .int .i64 0) (below_set (g := gk) (j := 2) (v := .int .i64 0) (below_set (g := gk) (j := 1) (v := .int .i64 (-1)) (below_set (g := gk) (j := 0) (v := .slice Ak 1 ck) HBB.out (Nat.le_of_eq HGO.out.symm)) (Nat.le_of_eq HGO.out.symm)) (Nat.le_of_eq HGO.out.symm)) (Nat.le_of_eq HGO.out.symm))
 rw [← hW_] at b_ h_
 clear hW_ HBO HBB HGO
 replace HXa := Aside0.mk (blk_below HXa.out h_)
 replace HCa := Aside0.mk (Kd.C_below HCa.out h_)
 replace HXb := Aside0.mk (blk_below HXb.out h_)
 replace HCb := Aside0.mk (Kd.C_below HCb.out h_)
 replace HXc := Aside0.mk (blk_below HXc.out h_)
 replace HCc := Aside0.mk (Kd.C_below HCc.out h_)
 replace HXd := Aside0.mk (blk_below HXd.out h_)
 replace HCd := Aside0.mk (Kd.C_below HCd.out h_)
 replace HB := Aside0.mk (below_step HB.out h_)
 have HXk := Aside0.mk b_
 have HCk : Aside0 (Kd.C (Kd.int .i64) w24 Ak 1 [2]) := ⟨Kd.C_below hCk h_⟩
 have Hck : Aside0 (1 ≤ ck) := ⟨hck⟩
 clear b_ h_ hCk hck
 have d0 : w24.cell? ⟨gd,0,none⟩ = some (.slice Ad 1 cd) := (blk_cell HXd.out 0).trans rfl
 have d1 : w24.cell? ⟨gd,1,none⟩ = some (.int .i64 5) := (blk_cell HXd.out 1).trans rfl
 have d2 : w24.cell? ⟨gd,2,none⟩ = some (.int .i64 1) := (blk_cell HXd.out 2).trans rfl
 have d3 : w24.cell? ⟨gd,3,none⟩ = some (.int .i64 1) := (blk_cell HXd.out 3).trans rfl
 go_wp2_with fail
 clear d0 d1 d2 d3
 refine (sweep_Seen.calls 12 Ad cd [2] 5 1 1  [] 0 0 0 1 _ HCd.out Hcd.out (by kernel_rfl)).mono ?_
 rintro e w25 ⟨v0,rfl,hv,hb0⟩
 have hb : Below w24.heap.size w24 w25 := hb0
 clear hb0
 obtain ⟨Az25,cz25,hv0,hcz25,hCz25⟩ := Kd.R_reads hv
 have hv1 : v0 = .slice Az25 0 cz25 := hv0
 subst hv1
 clear hv0 hv
 replace HXa := Aside0.mk (blk_below HXa.out hb)
 replace HCa := Aside0.mk (Kd.C_below HCa.out hb)
 replace HXb := Aside0.mk (blk_below HXb.out hb)
 replace HCb := Aside0.mk (Kd.C_below HCb.out hb)
 replace HXc := Aside0.mk (blk_below HXc.out hb)
 replace HCc := Aside0.mk (Kd.C_below HCc.out hb)
 replace HXd := Aside0.mk (blk_below HXd.out hb)
 replace HCd := Aside0.mk (Kd.C_below HCd.out hb)
 replace HXk := Aside0.mk (blk_below HXk.out hb)
 replace HCk := Aside0.mk (Kd.C_below HCk.out hb)
 replace HB := Aside0.mk (below_step HB.out hb)
 clear hb
 go_upto_region 10 with ((with_reducible refine gate_dst (N := 16) rfl ?_); refine box_event ?hg (N := 16) ?hd (cs := #[.slice none 0 0,.int .i64 0,.int .i64 0,.int .i64 0]) (t := 25) ?hr ?_; (case hd => rfl); (case hg => rfl); (case hr => first | (go_simp; done) | (go_simp; rfl)); intro gz25 hgo w26 hbox hbb; have HBO := Aside0.mk hbox; have HBB := Aside0.mk hbb; have HGO := Aside0.mk hgo; have y0 : w26.cell? ⟨gz25,0,none⟩ = some (.slice none 0 0) := (blk_cell hbox 0).trans rfl; have y1 : w26.cell? ⟨gz25,1,none⟩ = some (.int .i64 0) := (blk_cell hbox 1).trans rfl; have y2 : w26.cell? ⟨gz25,2,none⟩ = some (.int .i64 0) := (blk_cell hbox 2).trans rfl; have y3 : w26.cell? ⟨gz25,3,none⟩ = some (.int .i64 0) := (blk_cell hbox 3).trans rfl; have yf0 := blk_frozen hbox 0; have yf1 := blk_frozen hbox 1; have yf2 := blk_frozen hbox 2; have yf3 := blk_frozen hbox 3; clear hbox hbb hgo)
 clear y0 y1 y2 y3 yf0 yf1 yf2 yf3
 obtain ⟨w27,hW_⟩ : ∃ W_,W_ = ((((w26.setCell ⟨gz25,0,none⟩ (.slice Az25 0 cz25)).setCell ⟨gz25,1,none⟩ (.int .i64 0)).setCell ⟨gz25,2,none⟩ (.int .i64 0)).setCell ⟨gz25,3,none⟩ (.int .i64 0)) := ⟨_,rfl⟩
 rw [← hW_]
 have b_ := (blk_set (blk_set (blk_set (blk_set HBO.out 0 (.slice Az25 0 cz25)) 1 (.int .i64 0)) 2 (.int .i64 0)) 3 (.int .i64 0))
 simp only [zqI,zqs0,zqs1] at b_
 have h_ := (below_set (g := gz25) (j := 3) (v := .int .i64 0) (below_set (g := gz25) (j := 2) (v := .int .i64 0) (below_set (g := gz25) (j := 1) (v := .int .i64 0) (below_set (g := gz25) (j := 0) (v := .slice Az25 0 cz25) HBB.out (Nat.le_of_eq HGO.out.symm)) (Nat.le_of_eq HGO.out.symm)) (Nat.le_of_eq HGO.out.symm)) (Nat.le_of_eq HGO.out.symm))
 rw [← hW_] at b_ h_
 clear hW_ HBO HBB HGO
 replace HXa := Aside0.mk (blk_below HXa.out h_)
 replace HCa := Aside0.mk (Kd.C_below HCa.out h_)
 replace HXb := Aside0.mk (blk_below HXb.out h_)
 replace HCb := Aside0.mk (Kd.C_below HCb.out h_)
 replace HXc := Aside0.mk (blk_below HXc.out h_)
 replace HCc := Aside0.mk (Kd.C_below HCc.out h_)
 replace HXd := Aside0.mk (blk_below HXd.out h_)
 replace HCd := Aside0.mk (Kd.C_below HCd.out h_)
 replace HXk := Aside0.mk (blk_below HXk.out h_)
 replace HCk := Aside0.mk (Kd.C_below HCk.out h_)
 replace HB := Aside0.mk (below_step HB.out h_)
 clear b_ h_ hCz25 hcz25
 have a0 : w27.cell? ⟨ga,0,none⟩ = some (.slice Aa 0 ca) := (blk_cell HXa.out 0).trans rfl
 have a1 : w27.cell? ⟨ga,1,none⟩ = some (.int .i64 (-1)) := (blk_cell HXa.out 1).trans rfl
 have a2 : w27.cell? ⟨ga,2,none⟩ = some (.int .i64 0) := (blk_cell HXa.out 2).trans rfl
 have a3 : w27.cell? ⟨ga,3,none⟩ = some (.int .i64 0) := (blk_cell HXa.out 3).trans rfl
 go_wp2_with fail
 clear a0 a1 a2 a3
 refine (sweep_Begin.calls 12 Aa ca [] (-1) 0 0 (some ⟨w27.heap.size,0,none⟩) 2 [2,2] [] 0 0 0 1 _ (Kd.C_alloc HCa.out _) Hca.out (Cint_block (blk_new _ _) (by decide) rfl) (by decide) (by kernel_rfl)).mono ?_
 rintro e w28 ⟨v0,rfl,hv,hb0⟩
 have hb : Below w27.heap.size w27 w28 := below_step (below_alloc (Below.refl _ _) _) hb0
 clear hb0
 obtain ⟨Az28,cz28,hv0,hcz28,hCz28⟩ := Kd.R_reads hv
 have hv1 : v0 = .slice Az28 0 cz28 := hv0
 subst hv1
 clear hv0 hv
 replace HXa := Aside0.mk (blk_below HXa.out hb)
 replace HCa := Aside0.mk (Kd.C_below HCa.out hb)
 replace HXb := Aside0.mk (blk_below HXb.out hb)
 replace HCb := Aside0.mk (Kd.C_below HCb.out hb)
 replace HXc := Aside0.mk (blk_below HXc.out hb)
 replace HCc := Aside0.mk (Kd.C_below HCc.out hb)
 replace HXd := Aside0.mk (blk_below HXd.out hb)
 replace HCd := Aside0.mk (Kd.C_below HCd.out hb)
 replace HXk := Aside0.mk (blk_below HXk.out hb)
 replace HCk := Aside0.mk (Kd.C_below HCk.out hb)
 replace HB := Aside0.mk (below_step HB.out hb)
 clear hb
 go_upto_region 11 with ((with_reducible refine gate_dst (N := 18) rfl ?_); refine box_event ?hg (N := 18) ?hd (cs := #[.slice none 0 0,.int .i64 0,.int .i64 0,.int .i64 0]) (t := 25) ?hr ?_; (case hd => rfl); (case hg => rfl); (case hr => first | (go_simp; done) | (go_simp; rfl)); intro gz28 hgo w29 hbox hbb; have HBO := Aside0.mk hbox; have HBB := Aside0.mk hbb; have HGO := Aside0.mk hgo; have y0 : w29.cell? ⟨gz28,0,none⟩ = some (.slice none 0 0) := (blk_cell hbox 0).trans rfl; have y1 : w29.cell? ⟨gz28,1,none⟩ = some (.int .i64 0) := (blk_cell hbox 1).trans rfl; have y2 : w29.cell? ⟨gz28,2,none⟩ = some (.int .i64 0) := (blk_cell hbox 2).trans rfl; have y3 : w29.cell? ⟨gz28,3,none⟩ = some (.int .i64 0) := (blk_cell hbox 3).trans rfl; have yf0 := blk_frozen hbox 0; have yf1 := blk_frozen hbox 1; have yf2 := blk_frozen hbox 2; have yf3 := blk_frozen hbox 3; clear hbox hbb hgo)
 clear y0 y1 y2 y3 yf0 yf1 yf2 yf3
 obtain ⟨w30,hW_⟩ : ∃ W_,W_ = ((((w29.setCell ⟨gz28,0,none⟩ (.slice Az28 0 cz28)).setCell ⟨gz28,1,none⟩ (.int .i64 0)).setCell ⟨gz28,2,none⟩ (.int .i64 0)).setCell ⟨gz28,3,none⟩ (.int .i64 0)) := ⟨_,rfl⟩
 rw [← hW_]
 have b_ := (blk_set (blk_set (blk_set (blk_set HBO.out 0 (.slice Az28 0 cz28)) 1 (.int .i64 0)) 2 (.int .i64 0)) 3 (.int .i64 0))
 simp only [zqI,zqs0,zqs1] at b_
 have h_ := (below_set (g := gz28) (j := 3) (v := .int .i64 0) (below_set (g := gz28) (j := 2) (v := .int .i64 0) (below_set (g := gz28) (j := 1) (v := .int .i64 0) (below_set (g := gz28) (j := 0) (v := .slice Az28 0 cz28) HBB.out (Nat.le_of_eq HGO.out.symm)) (Nat.le_of_eq HGO.out.symm)) (Nat.le_of_eq HGO.out.symm)) (Nat.le_of_eq HGO.out.symm))
 rw [← hW_] at b_ h_
 clear hW_ HBO HBB HGO
 replace HXa := Aside0.mk (blk_below HXa.out h_)
 replace HCa := Aside0.mk (Kd.C_below HCa.out h_)
 replace HXb := Aside0.mk (blk_below HXb.out h_)
 replace HCb := Aside0.mk (Kd.C_below HCb.out h_)
 replace HXc := Aside0.mk (blk_below HXc.out h_)
 replace HCc := Aside0.mk (Kd.C_below HCc.out h_)
 replace HXd := Aside0.mk (blk_below HXd.out h_)
 replace HCd := Aside0.mk (Kd.C_below HCd.out h_)
 replace HXk := Aside0.mk (blk_below HXk.out h_)
 replace HCk := Aside0.mk (Kd.C_below HCk.out h_)
 replace HB := Aside0.mk (below_step HB.out h_)
 clear b_ h_ hCz28 hcz28
 have a0 : w30.cell? ⟨ga,0,none⟩ = some (.slice Aa 0 ca) := (blk_cell HXa.out 0).trans rfl
 have a1 : w30.cell? ⟨ga,1,none⟩ = some (.int .i64 (-1)) := (blk_cell HXa.out 1).trans rfl
 have a2 : w30.cell? ⟨ga,2,none⟩ = some (.int .i64 0) := (blk_cell HXa.out 2).trans rfl
 have a3 : w30.cell? ⟨ga,3,none⟩ = some (.int .i64 0) := (blk_cell HXa.out 3).trans rfl
 go_wp2_with fail
 clear a0 a1 a2 a3
 refine (sweep_Right.calls 12 Aa ca [] (-1) 0 0  true _ HCa.out Hca.out (by kernel_rfl)).mono ?_
 rintro e w31 ⟨rfl,hb0⟩
 have hb : Below w30.heap.size w30 w31 := hb0
 clear hb0
 replace HXa := Aside0.mk (blk_below HXa.out hb)
 replace HCa := Aside0.mk (Kd.C_below HCa.out hb)
 replace HXb := Aside0.mk (blk_below HXb.out hb)
 replace HCb := Aside0.mk (Kd.C_below HCb.out hb)
 replace HXc := Aside0.mk (blk_below HXc.out hb)
 replace HCc := Aside0.mk (Kd.C_below HCc.out hb)
 replace HXd := Aside0.mk (blk_below HXd.out hb)
 replace HCd := Aside0.mk (Kd.C_below HCd.out hb)
 replace HXk := Aside0.mk (blk_below HXk.out hb)
 replace HCk := Aside0.mk (Kd.C_below HCk.out hb)
 replace HB := Aside0.mk (below_step HB.out hb)
 clear hb
 have a0 : w31.cell? ⟨ga,0,none⟩ = some (.slice Aa 0 ca) := (blk_cell HXa.out 0).trans rfl
 have a1 : w31.cell? ⟨ga,1,none⟩ = some (.int .i64 (-1)) := (blk_cell HXa.out 1).trans rfl
 have a2 : w31.cell? ⟨ga,2,none⟩ = some (.int .i64 0) := (blk_cell HXa.out 2).trans rfl
 have a3 : w31.cell? ⟨ga,3,none⟩ = some (.int .i64 0) := (blk_cell HXa.out 3).trans rfl
 go_wp2_with fail
 clear a0 a1 a2 a3
 refine (sweep_Next.calls 12 Aa ca [] (-1) 0 0 false 0 _ HCa.out Hca.out (by kernel_rfl)).mono ?_
 rintro e w32 ⟨rfl,hb0⟩
 have hb : Below w31.heap.size w31 w32 := hb0
 clear hb0
 replace HXa := Aside0.mk (blk_below HXa.out hb)
 replace HCa := Aside0.mk (Kd.C_below HCa.out hb)
 replace HXb := Aside0.mk (blk_below HXb.out hb)
 replace HCb := Aside0.mk (Kd.C_below HCb.out hb)
 replace HXc := Aside0.mk (blk_below HXc.out hb)
 replace HCc := Aside0.mk (Kd.C_below HCc.out hb)
 replace HXd := Aside0.mk (blk_below HXd.out hb)
 replace HCd := Aside0.mk (Kd.C_below HCd.out hb)
 replace HXk := Aside0.mk (blk_below HXk.out hb)
 replace HCk := Aside0.mk (Kd.C_below HCk.out hb)
 replace HB := Aside0.mk (below_step HB.out hb)
 clear hb
 have a0 : w32.cell? ⟨ga,0,none⟩ = some (.slice Aa 0 ca) := (blk_cell HXa.out 0).trans rfl
 have a1 : w32.cell? ⟨ga,1,none⟩ = some (.int .i64 (-1)) := (blk_cell HXa.out 1).trans rfl
 have a2 : w32.cell? ⟨ga,2,none⟩ = some (.int .i64 0) := (blk_cell HXa.out 2).trans rfl
 have a3 : w32.cell? ⟨ga,3,none⟩ = some (.int .i64 0) := (blk_cell HXa.out 3).trans rfl
 go_wp2_with fail
 clear a0 a1 a2 a3
 refine (sweep_Next.calls 12 Aa ca [] (-1) 0 0 true 1 _ HCa.out Hca.out (by kernel_rfl)).mono ?_
 rintro e w33 ⟨rfl,hb0⟩
 have hb : Below w32.heap.size w32 w33 := hb0
 clear hb0
 replace HXa := Aside0.mk (blk_below HXa.out hb)
 replace HCa := Aside0.mk (Kd.C_below HCa.out hb)
 replace HXb := Aside0.mk (blk_below HXb.out hb)
 replace HCb := Aside0.mk (Kd.C_below HCb.out hb)
 replace HXc := Aside0.mk (blk_below HXc.out hb)
 replace HCc := Aside0.mk (Kd.C_below HCc.out hb)
 replace HXd := Aside0.mk (blk_below HXd.out hb)
 replace HCd := Aside0.mk (Kd.C_below HCd.out hb)
 replace HXk := Aside0.mk (blk_below HXk.out hb)
 replace HCk := Aside0.mk (Kd.C_below HCk.out hb)
 replace HB := Aside0.mk (below_step HB.out hb)
 clear hb
 have b0 : w33.cell? ⟨gb,0,none⟩ = some (.slice Ab 2 cb) := (blk_cell HXb.out 0).trans rfl
 have b1 : w33.cell? ⟨gb,1,none⟩ = some (.int .i64 (-1)) := (blk_cell HXb.out 1).trans rfl
 have b2 : w33.cell? ⟨gb,2,none⟩ = some (.int .i64 0) := (blk_cell HXb.out 2).trans rfl
 have b3 : w33.cell? ⟨gb,3,none⟩ = some (.int .i64 0) := (blk_cell HXb.out 3).trans rfl
 go_wp2_with fail
 clear b0 b1 b2 b3
 refine (sweep_Next.calls 12 Ab cb [2,5] (-1) 0 0 false 2 _ HCb.out Hcb.out (by kernel_rfl)).mono ?_
 rintro e w34 ⟨rfl,hb0⟩
 have hb : Below w33.heap.size w33 w34 := hb0
 clear hb0
 replace HXa := Aside0.mk (blk_below HXa.out hb)
 replace HCa := Aside0.mk (Kd.C_below HCa.out hb)
 replace HXb := Aside0.mk (blk_below HXb.out hb)
 replace HCb := Aside0.mk (Kd.C_below HCb.out hb)
 replace HXc := Aside0.mk (blk_below HXc.out hb)
 replace HCc := Aside0.mk (Kd.C_below HCc.out hb)
 replace HXd := Aside0.mk (blk_below HXd.out hb)
 replace HCd := Aside0.mk (Kd.C_below HCd.out hb)
 replace HXk := Aside0.mk (blk_below HXk.out hb)
 replace HCk := Aside0.mk (Kd.C_below HCk.out hb)
 replace HB := Aside0.mk (below_step HB.out hb)
 clear hb
 have c0 : w34.cell? ⟨gc,0,none⟩ = some (.slice Ac 1 cc) := (blk_cell HXc.out 0).trans rfl
 have c1 : w34.cell? ⟨gc,1,none⟩ = some (.int .i64 5) := (blk_cell HXc.out 1).trans rfl
 have c2 : w34.cell? ⟨gc,2,none⟩ = some (.int .i64 0) := (blk_cell HXc.out 2).trans rfl
 have c3 : w34.cell? ⟨gc,3,none⟩ = some (.int .i64 1) := (blk_cell HXc.out 3).trans rfl
 go_wp2_with fail
 clear c0 c1 c2 c3
 refine (lodgerlaw15_Ref.calls Ac cc [2] 5 0 1 _).mono ?_
 rintro e w35 ⟨rfl,hb0⟩
 have hb : Below w34.heap.size w34 w35 := hb0
 clear hb0
 replace HXa := Aside0.mk (blk_below HXa.out hb)
 replace HCa := Aside0.mk (Kd.C_below HCa.out hb)
 replace HXb := Aside0.mk (blk_below HXb.out hb)
 replace HCb := Aside0.mk (Kd.C_below HCb.out hb)
 replace HXc := Aside0.mk (blk_below HXc.out hb)
 replace HCc := Aside0.mk (Kd.C_below HCc.out hb)
 replace HXd := Aside0.mk (blk_below HXd.out hb)
 replace HCd := Aside0.mk (Kd.C_below HCd.out hb)
 replace HXk := Aside0.mk (blk_below HXk.out hb)
 replace HCk := Aside0.mk (Kd.C_below HCk.out hb)
 replace HB := Aside0.mk (below_step HB.out hb)
 clear hb
 go_wp2_with fail
 refine (lodgerref15_Same.calls 12 Ac cc [2] 5 0 1 (some ⟨w35.heap.size,0,none⟩) 1 [2] 5 0 1 true _ (Kd.C_alloc HCc.out _) Hcc.out (Cint_block (blk_new _ _) (by decide) rfl) (by decide) (by kernel_rfl)).mono ?_
 rintro e w36 ⟨rfl,hb0⟩
 have hb : Below w35.heap.size w35 w36 := below_step (below_alloc (Below.refl _ _) _) hb0
 clear hb0
 replace HXa := Aside0.mk (blk_below HXa.out hb)
 replace HCa := Aside0.mk (Kd.C_below HCa.out hb)
 replace HXb := Aside0.mk (blk_below HXb.out hb)
 replace HCb := Aside0.mk (Kd.C_below HCb.out hb)
 replace HXc := Aside0.mk (blk_below HXc.out hb)
 replace HCc := Aside0.mk (Kd.C_below HCc.out hb)
 replace HXd := Aside0.mk (blk_below HXd.out hb)
 replace HCd := Aside0.mk (Kd.C_below HCd.out hb)
 replace HXk := Aside0.mk (blk_below HXk.out hb)
 replace HCk := Aside0.mk (Kd.C_below HCk.out hb)
 replace HB := Aside0.mk (below_step HB.out hb)
 clear hb
 have c0 : w36.cell? ⟨gc,0,none⟩ = some (.slice Ac 1 cc) := (blk_cell HXc.out 0).trans rfl
 have c1 : w36.cell? ⟨gc,1,none⟩ = some (.int .i64 5) := (blk_cell HXc.out 1).trans rfl
 have c2 : w36.cell? ⟨gc,2,none⟩ = some (.int .i64 0) := (blk_cell HXc.out 2).trans rfl
 have c3 : w36.cell? ⟨gc,3,none⟩ = some (.int .i64 1) := (blk_cell HXc.out 3).trans rfl
 go_wp2_with fail
 clear c0 c1 c2 c3
 refine (sweep_Next.calls 12 Ac cc [2] 5 0 1 true 3 _ HCc.out Hcc.out (by kernel_rfl)).mono ?_
 rintro e w37 ⟨rfl,hb0⟩
 have hb : Below w36.heap.size w36 w37 := hb0
 clear hb0
 replace HXa := Aside0.mk (blk_below HXa.out hb)
 replace HCa := Aside0.mk (Kd.C_below HCa.out hb)
 replace HXb := Aside0.mk (blk_below HXb.out hb)
 replace HCb := Aside0.mk (Kd.C_below HCb.out hb)
 replace HXc := Aside0.mk (blk_below HXc.out hb)
 replace HCc := Aside0.mk (Kd.C_below HCc.out hb)
 replace HXd := Aside0.mk (blk_below HXd.out hb)
 replace HCd := Aside0.mk (Kd.C_below HCd.out hb)
 replace HXk := Aside0.mk (blk_below HXk.out hb)
 replace HCk := Aside0.mk (Kd.C_below HCk.out hb)
 replace HB := Aside0.mk (below_step HB.out hb)
 clear hb
 have d0 : w37.cell? ⟨gd,0,none⟩ = some (.slice Ad 1 cd) := (blk_cell HXd.out 0).trans rfl
 have d1 : w37.cell? ⟨gd,1,none⟩ = some (.int .i64 5) := (blk_cell HXd.out 1).trans rfl
 have d2 : w37.cell? ⟨gd,2,none⟩ = some (.int .i64 1) := (blk_cell HXd.out 2).trans rfl
 have d3 : w37.cell? ⟨gd,3,none⟩ = some (.int .i64 1) := (blk_cell HXd.out 3).trans rfl
 go_wp2_with fail
 clear d0 d1 d2 d3
 refine (sweep_Next.calls 12 Ad cd [2] 5 1 1 false 4 _ HCd.out Hcd.out (by kernel_rfl)).mono ?_
 rintro e w38 ⟨rfl,hb0⟩
 have hb : Below w37.heap.size w37 w38 := hb0
 clear hb0
 replace HXa := Aside0.mk (blk_below HXa.out hb)
 replace HCa := Aside0.mk (Kd.C_below HCa.out hb)
 replace HXb := Aside0.mk (blk_below HXb.out hb)
 replace HCb := Aside0.mk (Kd.C_below HCb.out hb)
 replace HXc := Aside0.mk (blk_below HXc.out hb)
 replace HCc := Aside0.mk (Kd.C_below HCc.out hb)
 replace HXd := Aside0.mk (blk_below HXd.out hb)
 replace HCd := Aside0.mk (Kd.C_below HCd.out hb)
 replace HXk := Aside0.mk (blk_below HXk.out hb)
 replace HCk := Aside0.mk (Kd.C_below HCk.out hb)
 replace HB := Aside0.mk (below_step HB.out hb)
 clear hb
 have k0 : w38.cell? ⟨gk,0,none⟩ = some (.slice Ak 1 ck) := (blk_cell HXk.out 0).trans rfl
 have k1 : w38.cell? ⟨gk,1,none⟩ = some (.int .i64 (-1)) := (blk_cell HXk.out 1).trans rfl
 have k2 : w38.cell? ⟨gk,2,none⟩ = some (.int .i64 0) := (blk_cell HXk.out 2).trans rfl
 have k3 : w38.cell? ⟨gk,3,none⟩ = some (.int .i64 0) := (blk_cell HXk.out 3).trans rfl
 go_wp2_with fail
 clear k0 k1 k2 k3
 refine (lodgerlaw15_Ref.calls Ak ck [2] (-1) 0 0 _).mono ?_
 rintro e w39 ⟨rfl,hb0⟩
 have hb : Below w38.heap.size w38 w39 := hb0
 clear hb0
 replace HXa := Aside0.mk (blk_below HXa.out hb)
 replace HCa := Aside0.mk (Kd.C_below HCa.out hb)
 replace HXb := Aside0.mk (blk_below HXb.out hb)
 replace HCb := Aside0.mk (Kd.C_below HCb.out hb)
 replace HXc := Aside0.mk (blk_below HXc.out hb)
 replace HCc := Aside0.mk (Kd.C_below HCc.out hb)
 replace HXd := Aside0.mk (blk_below HXd.out hb)
 replace HCd := Aside0.mk (Kd.C_below HCd.out hb)
 replace HXk := Aside0.mk (blk_below HXk.out hb)
 replace HCk := Aside0.mk (Kd.C_below HCk.out hb)
 replace HB := Aside0.mk (below_step HB.out hb)
 clear hb
 go_wp2_with fail
 refine (lodgerref15_Same.calls 12 Ak ck [2] (-1) 0 0 (some ⟨w39.heap.size,0,none⟩) 1 [2] (-1) 0 0 true _ (Kd.C_alloc HCk.out _) Hck.out (Cint_block (blk_new _ _) (by decide) rfl) (by decide) (by kernel_rfl)).mono ?_
 rintro e w40 ⟨rfl,hb0⟩
 have hb : Below w39.heap.size w39 w40 := below_step (below_alloc (Below.refl _ _) _) hb0
 clear hb0
 replace HXa := Aside0.mk (blk_below HXa.out hb)
 replace HCa := Aside0.mk (Kd.C_below HCa.out hb)
 replace HXb := Aside0.mk (blk_below HXb.out hb)
 replace HCb := Aside0.mk (Kd.C_below HCb.out hb)
 replace HXc := Aside0.mk (blk_below HXc.out hb)
 replace HCc := Aside0.mk (Kd.C_below HCc.out hb)
 replace HXd := Aside0.mk (blk_below HXd.out hb)
 replace HCd := Aside0.mk (Kd.C_below HCd.out hb)
 replace HXk := Aside0.mk (blk_below HXk.out hb)
 replace HCk := Aside0.mk (Kd.C_below HCk.out hb)
 replace HB := Aside0.mk (below_step HB.out hb)
 clear hb
 have a0 : w40.cell? ⟨ga,0,none⟩ = some (.slice Aa 0 ca) := (blk_cell HXa.out 0).trans rfl
 have a1 : w40.cell? ⟨ga,1,none⟩ = some (.int .i64 (-1)) := (blk_cell HXa.out 1).trans rfl
 have a2 : w40.cell? ⟨ga,2,none⟩ = some (.int .i64 0) := (blk_cell HXa.out 2).trans rfl
 have a3 : w40.cell? ⟨ga,3,none⟩ = some (.int .i64 0) := (blk_cell HXa.out 3).trans rfl
 go_wp2_with fail
 clear a0 a1 a2 a3
 refine (sweep_Need.calls Aa ca [] (-1) 0 0 7 7 _ HCa.out Hca.out (by kernel_rfl)).mono ?_
 rintro e w41 ⟨rfl,hb0⟩
 have hb : Below w40.heap.size w40 w41 := hb0
 clear hb0
 replace HXa := Aside0.mk (blk_below HXa.out hb)
 replace HCa := Aside0.mk (Kd.C_below HCa.out hb)
 replace HXb := Aside0.mk (blk_below HXb.out hb)
 replace HCb := Aside0.mk (Kd.C_below HCb.out hb)
 replace HXc := Aside0.mk (blk_below HXc.out hb)
 replace HCc := Aside0.mk (Kd.C_below HCc.out hb)
 replace HXd := Aside0.mk (blk_below HXd.out hb)
 replace HCd := Aside0.mk (Kd.C_below HCd.out hb)
 replace HXk := Aside0.mk (blk_below HXk.out hb)
 replace HCk := Aside0.mk (Kd.C_below HCk.out hb)
 replace HB := Aside0.mk (below_step HB.out hb)
 clear hb
 have c0 : w41.cell? ⟨gc,0,none⟩ = some (.slice Ac 1 cc) := (blk_cell HXc.out 0).trans rfl
 have c1 : w41.cell? ⟨gc,1,none⟩ = some (.int .i64 5) := (blk_cell HXc.out 1).trans rfl
 have c2 : w41.cell? ⟨gc,2,none⟩ = some (.int .i64 0) := (blk_cell HXc.out 2).trans rfl
 have c3 : w41.cell? ⟨gc,3,none⟩ = some (.int .i64 1) := (blk_cell HXc.out 3).trans rfl
 go_wp2_with fail
 clear c0 c1 c2 c3
 refine (sweep_Need.calls Ac cc [2] 5 0 1 7 1 _ HCc.out Hcc.out (by kernel_rfl)).mono ?_
 rintro e w42 ⟨rfl,hb0⟩
 have hb : Below w41.heap.size w41 w42 := hb0
 clear hb0
 replace HXa := Aside0.mk (blk_below HXa.out hb)
 replace HCa := Aside0.mk (Kd.C_below HCa.out hb)
 replace HXb := Aside0.mk (blk_below HXb.out hb)
 replace HCb := Aside0.mk (Kd.C_below HCb.out hb)
 replace HXc := Aside0.mk (blk_below HXc.out hb)
 replace HCc := Aside0.mk (Kd.C_below HCc.out hb)
 replace HXd := Aside0.mk (blk_below HXd.out hb)
 replace HCd := Aside0.mk (Kd.C_below HCd.out hb)
 replace HXk := Aside0.mk (blk_below HXk.out hb)
 replace HCk := Aside0.mk (Kd.C_below HCk.out hb)
 replace HB := Aside0.mk (below_step HB.out hb)
 clear hb
 have b0 : w42.cell? ⟨gb,0,none⟩ = some (.slice Ab 2 cb) := (blk_cell HXb.out 0).trans rfl
 have b1 : w42.cell? ⟨gb,1,none⟩ = some (.int .i64 (-1)) := (blk_cell HXb.out 1).trans rfl
 have b2 : w42.cell? ⟨gb,2,none⟩ = some (.int .i64 0) := (blk_cell HXb.out 2).trans rfl
 have b3 : w42.cell? ⟨gb,3,none⟩ = some (.int .i64 0) := (blk_cell HXb.out 3).trans rfl
 go_wp2_with fail
 clear b0 b1 b2 b3
 refine (sweep_Left.calls Ab cb [2,5] (-1) 0 0 3 10 _ HCb.out Hcb.out (by kernel_rfl)).mono ?_
 rintro e w43 ⟨rfl,hb0⟩
 have hb : Below w42.heap.size w42 w43 := hb0
 clear hb0
 replace HXa := Aside0.mk (blk_below HXa.out hb)
 replace HCa := Aside0.mk (Kd.C_below HCa.out hb)
 replace HXb := Aside0.mk (blk_below HXb.out hb)
 replace HCb := Aside0.mk (Kd.C_below HCb.out hb)
 replace HXc := Aside0.mk (blk_below HXc.out hb)
 replace HCc := Aside0.mk (Kd.C_below HCc.out hb)
 replace HXd := Aside0.mk (blk_below HXd.out hb)
 replace HCd := Aside0.mk (Kd.C_below HCd.out hb)
 replace HXk := Aside0.mk (blk_below HXk.out hb)
 replace HCk := Aside0.mk (Kd.C_below HCk.out hb)
 replace HB := Aside0.mk (below_step HB.out hb)
 clear hb
 have c0 : w43.cell? ⟨gc,0,none⟩ = some (.slice Ac 1 cc) := (blk_cell HXc.out 0).trans rfl
 have c1 : w43.cell? ⟨gc,1,none⟩ = some (.int .i64 5) := (blk_cell HXc.out 1).trans rfl
 have c2 : w43.cell? ⟨gc,2,none⟩ = some (.int .i64 0) := (blk_cell HXc.out 2).trans rfl
 have c3 : w43.cell? ⟨gc,3,none⟩ = some (.int .i64 1) := (blk_cell HXc.out 3).trans rfl
 go_wp2_with fail
 clear c0 c1 c2 c3
 refine (sweep_Left.calls Ac cc [2] 5 0 1 3 7 _ HCc.out Hcc.out (by kernel_rfl)).mono ?_
 rintro e w44 ⟨rfl,hb0⟩
 have hb : Below w43.heap.size w43 w44 := hb0
 clear hb0
 replace HXa := Aside0.mk (blk_below HXa.out hb)
 replace HCa := Aside0.mk (Kd.C_below HCa.out hb)
 replace HXb := Aside0.mk (blk_below HXb.out hb)
 replace HCb := Aside0.mk (Kd.C_below HCb.out hb)
 replace HXc := Aside0.mk (blk_below HXc.out hb)
 replace HCc := Aside0.mk (Kd.C_below HCc.out hb)
 replace HXd := Aside0.mk (blk_below HXd.out hb)
 replace HCd := Aside0.mk (Kd.C_below HCd.out hb)
 replace HXk := Aside0.mk (blk_below HXk.out hb)
 replace HCk := Aside0.mk (Kd.C_below HCk.out hb)
 replace HB := Aside0.mk (below_step HB.out hb)
 clear hb
 go_wp2_with fail
 go_ret
 exact ⟨rfl,HB.out⟩
/-! ### lodgerlaw15_SweepDoes: function 3 -/
/-! ### lodgerlaw15_Cut: function 19 -/
def lodgerlaw15_Cut.f (l0_0 : List Int) (a0_1 : Int) (a0_2 : Int) (a0_3 : Int) : Option (List Int × Int × Int × Int) := some (l0_0.take 20,a0_1,a0_2,a0_3)
set_option maxHeartbeats 8000000 in
set_option maxRecDepth 100000 in
theorem lodgerlaw15_Cut.calls (A0_0 : Option Addr) (c0_0 : Nat) (l0_0 : List Int) (a0_1 : Int) (a0_2 : Int) (a0_3 : Int) (w : World) (hc0_0 : l0_0.length ≤ c0_0) :
  Calls Try.prog 19 #[.agg #[.slice A0_0 l0_0.length c0_0,.int .i64 a0_1,.int .i64 a0_2,.int .i64 a0_3]] w fun e w' => e = .returned (.agg #[.slice A0_0 (l0_0.take 20).length c0_0,.int .i64 a0_1,.int .i64 a0_2,.int .i64 a0_3]) ∧ Below w.heap.size w w' := by
 obtain ⟨m,hm⟩ : ∃ m : Int,m = if (20 : Int) < (l0_0.length : Int) then 20 else (l0_0.length : Int) := ⟨_,rfl⟩
 have hm2 : 0 ≤ m ∧ m ≤ (l0_0.length : Int) ∧ m.toNat = min 20 l0_0.length := by rw [hm]; split <;> omega
 have hm_ := hm.symm
 obtain ⟨l,hl⟩ : ∃ l,l = l0_0.take 20 := ⟨_,rfl⟩
 have hln : l.length = m.toNat := by rw [hl,List.length_take,hm2.2.2]
 rw [← hl]
 obtain ⟨i0,hi,_⟩ := info_parts info3
 have hcut := cut_to (P := Try.prog) 23 3 .i64 Try.underlying23 hi A0_0 l0_0.length c0_0 m hm2.1 hm2.2.1 hc0_0
 rw [← hln] at hcut
 clear hm hm2 hl hln hi hc0_0
 go_enter Try.func19,Try.ntmps19
 go_upto_region 1 with fail
 obtain ⟨W1,hW1⟩ : ∃ W1,W1 = (w.alloc (.cells #[.slice A0_0 l0_0.length c0_0,.int .i64 a0_1,.int .i64 a0_2,.int .i64 a0_3] 25)).alloc (.cells #[.slice none 0 0,.int .i64 0,.int .i64 0,.int .i64 0] 25) := ⟨_,rfl⟩
 rw [← hW1]
 obtain ⟨gr,hgr⟩ : ∃ g,g = w.heap.size + 1 := ⟨_,rfl⟩
 obtain ⟨gs,hgs⟩ : ∃ g,g = w.heap.size := ⟨_,rfl⟩
 have HXs : Aside0 (W1.heap[gs]? = some (.cells #[.slice A0_0 l0_0.length c0_0,.int .i64 a0_1,.int .i64 a0_2,.int .i64 a0_3] 25 (0,0))) := ⟨by rw [hW1,hgs]; exact blk_alloc (blk_new _ _) _⟩
 have HXr : Aside0 (W1.heap[gr]? = some (.cells #[.slice none 0 0,.int .i64 0,.int .i64 0,.int .i64 0] 25 (0,0))) := ⟨by rw [hW1,hgr]; have := blk_new (w.alloc (.cells #[.slice A0_0 l0_0.length c0_0,.int .i64 a0_1,.int .i64 a0_2,.int .i64 a0_3] 25)) (.cells #[.slice none 0 0,.int .i64 0,.int .i64 0,.int .i64 0] 25); simpa using this⟩
 have HB : Aside0 (Below w.heap.size w W1) := ⟨by rw [hW1]; exact below_alloc (below_alloc (Below.refl _ _) _) _⟩
 have HGR : Aside0 (w.heap.size ≤ gr) := ⟨by omega⟩
 have HGS : Aside0 (w.heap.size ≤ gs) := ⟨by omega⟩
 have HNE : Aside0 (gr ≠ gs) := ⟨by omega⟩
 rw [← hgr,← hgs]
 clear hW1 hgr hgs
 have s0 : W1.cell? ⟨gs,0,none⟩ = some (.slice A0_0 l0_0.length c0_0) := (blk_cell HXs.out 0).trans rfl
 have s1 : W1.cell? ⟨gs,1,none⟩ = some (.int .i64 a0_1) := (blk_cell HXs.out 1).trans rfl
 have s2 : W1.cell? ⟨gs,2,none⟩ = some (.int .i64 a0_2) := (blk_cell HXs.out 2).trans rfl
 have s3 : W1.cell? ⟨gs,3,none⟩ = some (.int .i64 a0_3) := (blk_cell HXs.out 3).trans rfl
 have sf0 := blk_frozen HXs.out 0
 go_upto_region 2 with fail
 clear s0 s1 s2 s3 sf0 hcut hm_
 obtain ⟨W2,hW2⟩ : ∃ W_,W_ = W1.setCell ⟨gs,0,none⟩ (.slice A0_0 l.length c0_0) := ⟨_,rfl⟩
 rw [← hW2]
 have q0 := blk_set HXs.out 0 (.slice A0_0 l.length c0_0)
 simp only [zqI,zqs0,zqs1] at q0
 have q1 := blk_far HXr.out (p := ⟨gs,0,none⟩) HNE.out (.slice A0_0 l.length c0_0)
 have q2 := below_set (g := gs) (j := 0) (v := .slice A0_0 l.length c0_0) HB.out HGS.out
 rw [← hW2] at q0 q1 q2
 clear hW2 HXs HXr HB
 have HXs := Aside0.mk q0
 have HXr := Aside0.mk q1
 have HB := Aside0.mk q2
 clear q0 q1 q2
 have s0 : W2.cell? ⟨gs,0,none⟩ = some (.slice A0_0 l.length c0_0) := (blk_cell HXs.out 0).trans rfl
 have s1 : W2.cell? ⟨gs,1,none⟩ = some (.int .i64 a0_1) := (blk_cell HXs.out 1).trans rfl
 have s2 : W2.cell? ⟨gs,2,none⟩ = some (.int .i64 a0_2) := (blk_cell HXs.out 2).trans rfl
 have s3 : W2.cell? ⟨gs,3,none⟩ = some (.int .i64 a0_3) := (blk_cell HXs.out 3).trans rfl
 have x0 : W2.cell? ⟨gr,0,none⟩ = some (.slice none 0 0) := (blk_cell HXr.out 0).trans rfl
 have x1 : W2.cell? ⟨gr,1,none⟩ = some (.int .i64 0) := (blk_cell HXr.out 1).trans rfl
 have x2 : W2.cell? ⟨gr,2,none⟩ = some (.int .i64 0) := (blk_cell HXr.out 2).trans rfl
 have x3 : W2.cell? ⟨gr,3,none⟩ = some (.int .i64 0) := (blk_cell HXr.out 3).trans rfl
 have xf0 := blk_frozen HXr.out 0
 have xf1 := blk_frozen HXr.out 1
 have xf2 := blk_frozen HXr.out 2
 have xf3 := blk_frozen HXr.out 3
 go_wp2_with fail
 have b := (blk_set (blk_set (blk_set (blk_set HXr.out 0 (.slice A0_0 l.length c0_0)) 1 (.int .i64 a0_1)) 2 (.int .i64 a0_2)) 3 (.int .i64 a0_3))
 simp only [zqI,zqs0,zqs1] at b
 refine bodyPost_ret (results_cell_row rfl _ _ gr 25 _ (0,0) _ rfl b Try.underlying25 rfl (by kernel_rfl)) rfl ?_
 exact ⟨rfl,(below_set (g := gr) (j := 3) (v := .int .i64 a0_3) (below_set (g := gr) (j := 2) (v := .int .i64 a0_2) (below_set (g := gr) (j := 1) (v := .int .i64 a0_1) (below_set (g := gr) (j := 0) (v := .slice A0_0 l.length c0_0) HB.out HGR.out) HGR.out) HGR.out) HGR.out)⟩
/-! ### lodgerlaw15_SweepOnce: function 4 -/
/-! ### lodgerlaw15_SweepEnds: function 5 -/
end Go.Proofs.Ytbcmjbjhjnojjaa.H
