/-
The walk of VictimPicks.
-/
import Derived.Test.YtbcjdendpdnknaaHx
import Derived.Test.YtbcjdendpdnknaaBet
import Derived.Test.YtbcjdendpdnknaaArgs
import Derived.Test.YtbcjdendpdnknaaPl
import Derived.Test.YtbcjdendpdnknaaCut
namespace Go.Proofs.Ytbcjdendpdnknaa.H
open Go.RowKit Go.Proofs.YtbcjdendpdnknaaW.PrintWords Go.Proofs.YtbcjdendpdnknaaW.PrintLast Go.Proofs.YtbcjdendpdnknaaW.PrintMore
attribute [local go_sem] max2_int min2_int max_two min_two max_three min_three max_four min_four
set_option linter.unusedVariables false
set_option linter.unusedSimpArgs false
def law_picks.T2 : Bool × List (List Nat × List Nat) := (true, [([], []), ([], []), ([0, 1], [0, 1]), ([], []), ([3, 2], [3]), ([], []), ([5, 4], [5]), ([4, 6, 6], [4, 6]), ([2, 7], [2, 7]), ([8, 7], [8]), ([9], [9]), ([9], [9]), ([11, 9], [9, 11]), ([10, 12, 9, 9], [9, 10, 12]), ([9], [9]), ([14, 13, 9], [9, 14]), ([9], [9]), ([16, 9], [9, 16]), ([15, 17, 15, 9], [9, 15, 17]), ([13, 18, 9], [9, 13, 18]), ([9, 19], [9, 19]), ([20, 18], [20]), ([21], [21]), ([22, 21, 21], [21, 22]), ([21], [21]), ([24, 23, 21], [21, 24]), ([25, 25, 21], [21, 25]), ([23, 26, 26, 21], [21, 23, 26]), ([21, 27], [21, 27]), ([28, 27], [28]), ([29, 29], [29]), ([29, 30], [29, 30]), ([31, 30, 0, 1, 2, 3, 4, 5, 6, 7, 8, 9, 10, 11, 12, 13, 14, 15, 16, 17, 18, 19, 20, 21, 22, 23, 24, 25, 26, 27, 28, 29, 30, 31], [31])])
def law_picks.B2 : List Nat := [0, 0, 3, 0, 15, 0, 63, 127, 255, 511, 1023, 1023, 3071, 8191, 1023, 32767, 1023, 66559, 262143, 524287, 1048575, 2097151, 4194303, 8388607, 4194303, 33554431, 67108863, 134217727, 268435455, 536870911, 1073741823, 2147483647, 4294967295]
theorem law_picks.tab2 : rtab .any (opsOf Try.f3 2) = law_picks.T2 := by kernel_rfl
theorem law_picks.bits2 : waitsOk law_picks.T2.2 law_picks.B2 = true := by kernel_rfl
set_option maxHeartbeats 8000000 in
set_option maxRecDepth 100000 in
theorem VictimPicks_walk {w : World} (A0 : Option Addr) (c0 : Nat) (l0 : List S25) (hC : Kd.C k25 w A0 l0.length l0) (hc : l0.length ≤ c0) (hG : ∀ p ∈ l0, Op.G25 p) (a : S25) (ha : Op.G25 a) (b : S25) (hb : Op.G25 b) :
    Calls Try.prog 3 #[.slice A0 l0.length c0, .agg #[.int .i64 a.f0, .int .i64 a.f1, .int .i64 a.f2, .int .i64 a.f3, .int .u64 a.f4], .agg #[.int .i64 b.f0, .int .i64 b.f1, .int .i64 b.f2, .int .i64 b.f3, .int .u64 b.f4]] w fun e w' => e = .returned (.bool true) ∧ Below w.heap.size w w' := by
  have HAA := Aside0.mk (bounds_u64 ha.2.2.2.2).1
  have HAB := Aside0.mk (bounds_u64 hb.2.2.2.2).1
  clear ha hb
  obtain ⟨m, l, hm, h16, hcut, hC', hc', hG'⟩ := cut16 hC hc hG
  have hm_ : (if (16 : Int) < (l0.length : Int) then 16 else (l0.length : Int)) = m := hm
  have HR := Aside0.mk hC'
  have HC := Aside0.mk hc'
  have HG := Aside0.mk hG'
  have H16 := Aside0.mk h16
  clear hm hC' hc' hG' h16 hC hc hG
  obtain ⟨bb, hbb⟩ : ∃ bb, bet a b = bb := ⟨_, rfl⟩
  have HBB := Aside0.mk ((bet_some a b).trans (congrArg some hbb))
  have HBR := Aside0.mk ((better_ref a b HAA.out HAB.out).trans (congrArg some hbb))
  clear hbb
  obtain ⟨p, hp⟩ : ∃ p, pk l (fun i => decide ((rd_T25 l i).f3 ≤ a.f3)) l.length = p := ⟨_, rfl⟩
  have HP : Aside0 (victim_Pick.f l a.f3 = some p) := ⟨congrArg some hp⟩
  obtain ⟨lr, hlr⟩ : ∃ lr, lr = l.map c25 := ⟨_, rfl⟩
  have HLR : Aside0 (lodgerlaw14_Refs.f (l.length + 1) l = some lr) := ⟨by rw [hlr]; exact refs_are l H16.out⟩
  have HPR : Aside0 (lodgerref14_Pick.f 60 lr a.f3 = some p) := ⟨by rw [hlr, ← hp]; exact pick_ref l (age_of HG.out) H16.out a.f3⟩
  obtain ⟨os, hos⟩ : ∃ os, os = ord l l.length := ⟨_, rfl⟩
  have HOS : Aside0 (victim_Order.f l = some os) := ⟨by unfold victim_Order.f; rw [if_pos (by have := H16.out; omega), hos]⟩
  have HOR : Aside0 (lodgerref14_Order.f 80 lr = some os) := ⟨by rw [hlr, hos]; exact order_ref l (age_of HG.out) H16.out⟩
  have HOI : Aside0 (lodgerref07_Ints.f (os.length + 1) os os = some true) := ⟨ints_same os (by rw [hos, ord_length]; have := H16.out; omega)⟩
  clear hp hlr hos
  go_enter Try.func3, Try.ntmps3
  go_upto_region 1 with fail
  obtain ⟨W1, hW1⟩ : ∃ W, W = (w.alloc (.cells #[.int .i64 a.f0, .int .i64 a.f1, .int .i64 a.f2, .int .i64 a.f3, .int .u64 a.f4] 25)).alloc (.cells #[.int .i64 b.f0, .int .i64 b.f1, .int .i64 b.f2, .int .i64 b.f3, .int .u64 b.f4] 25) := ⟨_, rfl⟩
  rw [← hW1]
  obtain ⟨gb, hgb⟩ : ∃ g, g = w.heap.size + 1 := ⟨_, rfl⟩
  obtain ⟨ga, hga⟩ : ∃ g, g = w.heap.size := ⟨_, rfl⟩
  have HXga : Aside0 (W1.heap[ga]? = some (.cells #[.int .i64 a.f0, .int .i64 a.f1, .int .i64 a.f2, .int .i64 a.f3, .int .u64 a.f4] 25 (0, 0))) := ⟨by rw [hW1, hga]; exact blk_alloc (blk_at rfl) _⟩
  have HXgb : Aside0 (W1.heap[gb]? = some (.cells #[.int .i64 b.f0, .int .i64 b.f1, .int .i64 b.f2, .int .i64 b.f3, .int .u64 b.f4] 25 (0, 0))) := ⟨by rw [hW1, hgb]; exact blk_at (by simp)⟩
  have HB : Aside0 (Below w.heap.size w W1) := ⟨by rw [hW1]; exact below_alloc (below_alloc (Below.refl _ _) _) _⟩
  rw [← hgb, ← hga]
  clear hW1 hgb hga
  have HR_ := Aside0.mk (Kd.C_below HR.out HB.out)
  clear HR
  have HR := HR_
  clear HR_
  go_wp2_with fail
  clear hcut hm_
  refine start_ (n := 33) (S := fun w' => w'.cell? ⟨ga, 0, none⟩ = some (.int .i64 a.f0) ∧ w'.cell? ⟨ga, 1, none⟩ = some (.int .i64 a.f1) ∧ w'.cell? ⟨ga, 2, none⟩ = some (.int .i64 a.f2) ∧ w'.cell? ⟨ga, 3, none⟩ = some (.int .i64 a.f3) ∧ w'.cell? ⟨ga, 4, none⟩ = some (.int .u64 a.f4) ∧ w'.cell? ⟨gb, 0, none⟩ = some (.int .i64 b.f0) ∧ w'.cell? ⟨gb, 1, none⟩ = some (.int .i64 b.f1) ∧ w'.cell? ⟨gb, 2, none⟩ = some (.int .i64 b.f2) ∧ w'.cell? ⟨gb, 3, none⟩ = some (.int .i64 b.f3) ∧ w'.cell? ⟨gb, 4, none⟩ = some (.int .u64 b.f4)) (ds := []) #[false, false, false, false, false, false, false, false, false, false, false, false, false, false, false, false, false, false, false, false, false, false, false, false, false, false, false, false, false, false, false, false, false] (by kernel_rfl) rfl rfl ⟨((blk_cell (blk_drew HXga.out) 0).trans rfl), ((blk_cell (blk_drew HXga.out) 1).trans rfl), ((blk_cell (blk_drew HXga.out) 2).trans rfl), ((blk_cell (blk_drew HXga.out) 3).trans rfl), ((blk_cell (blk_drew HXga.out) 4).trans rfl), ((blk_cell (blk_drew HXgb.out) 0).trans rfl), ((blk_cell (blk_drew HXgb.out) 1).trans rfl), ((blk_cell (blk_drew HXgb.out) 2).trans rfl), ((blk_cell (blk_drew HXgb.out) 3).trans rfl), ((blk_cell (blk_drew HXgb.out) 4).trans rfl)⟩ (fun hHeld => ?_)
  refine with_tabW law_picks.tab2 law_picks.bits2 (fun HT_ HW_ => ?_)
  have HB_ := Aside0.mk (below_drew HB.out)
  clear HB
  have HB := HB_
  clear HB_
  have HXga_ := Aside0.mk (blk_drew HXga.out)
  clear HXga
  have HXga := HXga_
  clear HXga_
  have HXgb_ := Aside0.mk (blk_drew HXgb.out)
  clear HXgb
  have HXgb := HXgb_
  clear HXgb_
  have HR_ := Aside0.mk (Kd.C_drew HR.out)
  clear HR
  have HR := HR_
  clear HR_
  generalize W1.drew = w1 at *
  refine take_ (i := 0) (N := some 12) (v := ?_) (a' := ?_) #[true, false, false, false, false, false, false, false, false, false, false, false, false, false, false, false, false, false, false, false, false, false, false, false, false, false, false, false, false, false, false, false, false] rfl rfl (take_ofW HT_.out HW_.out (by kernel_rfl)) (fun _ _ _ h => h) (Or.inl ⟨by rfl, ?_⟩) hHeld ?_ ?_
  rotate_left
  · rintro w' ⟨s0, s1, s2, s3, s4, s5, s6, s7, s8, s9⟩
    go_simp
    with_reducible rfl
  rotate_left
  · simp only [Act.put, List.setIfInBounds_toArray, List.set_cons_zero, List.set_cons_succ, i64_w, i32_w]
    rfl
  refine take_ (i := 1) (N := some 13) (v := ?_) (a' := ?_) #[true, true, false, false, false, false, false, false, false, false, false, false, false, false, false, false, false, false, false, false, false, false, false, false, false, false, false, false, false, false, false, false, false] rfl rfl (take_ofW HT_.out HW_.out (by kernel_rfl)) (fun _ _ _ h => h) (Or.inl ⟨by rfl, ?_⟩) hHeld ?_ ?_
  rotate_left
  · rintro w' ⟨s0, s1, s2, s3, s4, s5, s6, s7, s8, s9⟩
    go_simp
    with_reducible rfl
  rotate_left
  · simp only [Act.put, List.setIfInBounds_toArray, List.set_cons_zero, List.set_cons_succ, i64_w, i32_w]
    rfl
  refine take_ (i := 3) (N := some 15) (v := ?_) (a' := ?_) #[true, true, false, true, false, false, false, false, false, false, false, false, false, false, false, false, false, false, false, false, false, false, false, false, false, false, false, false, false, false, false, false, false] rfl rfl (take_ofW HT_.out HW_.out (by kernel_rfl)) (fun _ _ _ h => h) (Or.inl ⟨by rfl, ?_⟩) hHeld ?_ ?_
  rotate_left
  · rintro w' ⟨s0, s1, s2, s3, s4, s5, s6, s7, s8, s9⟩
    go_simp
    with_reducible rfl
  rotate_left
  · simp only [Act.put, List.setIfInBounds_toArray, List.set_cons_zero, List.set_cons_succ, i64_w, i32_w]
    rfl
  refine take_ (i := 5) (N := some 17) (v := ?_) (a' := ?_) #[true, true, false, true, false, true, false, false, false, false, false, false, false, false, false, false, false, false, false, false, false, false, false, false, false, false, false, false, false, false, false, false, false] rfl rfl (take_ofW HT_.out HW_.out (by kernel_rfl)) (fun _ _ _ h => h) (Or.inl ⟨by rfl, ?_⟩) hHeld ?_ ?_
  rotate_left
  · rintro w' ⟨s0, s1, s2, s3, s4, s5, s6, s7, s8, s9⟩
    go_simp
    with_reducible rfl
  rotate_left
  · simp only [Act.put, List.setIfInBounds_toArray, List.set_cons_zero, List.set_cons_succ, i64_w, i32_w]
    rfl
  refine one_ (i := 2) (N := some 14) #[true, true, true, true, false, true, false, false, false, false, false, false, false, false, false, false, false, false, false, false, false, false, false, false, false, false, false, false, false, false, false, false, false] rfl rfl (one_of HT_.out (by kernel_rfl)) (by decide) (fun K hK => ?_)
  refine goes_ Try.func10 (by kernel_rfl) rfl #[.agg #[.int .i64 a.f0, .int .i64 a.f1, .int .i64 a.f2, .int .i64 a.f3, .int .u64 a.f4], .agg #[.int .i64 b.f0, .int .i64 b.f1, .int .i64 b.f2, .int .i64 b.f3, .int .u64 b.f4]] (by rfl) rfl rfl (by simp only [List.map_toArray, List.map_cons, List.map_nil]; rfl) ?_
  with_reducible refine (victim_Better.calls _ _ _ _ _ _ _ _ _ _ bb _ HBB.out).mono ?_
  rintro e w2 ⟨rfl, hb⟩
  refine ⟨_, rfl, ?_⟩
  have HB_ := Aside0.mk (below_step HB.out hb)
  clear HB
  have HB := HB_
  clear HB_
  have HXga_ := Aside0.mk (blk_below HXga.out hb)
  clear HXga
  have HXga := HXga_
  clear HXga_
  have HXgb_ := Aside0.mk (blk_below HXgb.out hb)
  clear HXgb
  have HXgb := HXgb_
  clear HXgb_
  have HR_ := Aside0.mk (Kd.C_below HR.out hb)
  clear HR
  have HR := HR_
  clear HR_
  clear hb
  refine hK.out _ _ ⟨((blk_cell HXga.out 0).trans rfl), ((blk_cell HXga.out 1).trans rfl), ((blk_cell HXga.out 2).trans rfl), ((blk_cell HXga.out 3).trans rfl), ((blk_cell HXga.out 4).trans rfl), ((blk_cell HXgb.out 0).trans rfl), ((blk_cell HXgb.out 1).trans rfl), ((blk_cell HXgb.out 2).trans rfl), ((blk_cell HXgb.out 3).trans rfl), ((blk_cell HXgb.out 4).trans rfl)⟩ (fun hHeld => ?_)
  clear hK K
  refine norm_ (a' := ?_) ?_ ?_
  rotate_left
  · show Act.put _ (some 14) _ = _
    simp only [Act.put, List.setIfInBounds_toArray, List.set_cons_zero, List.set_cons_succ, i64_w, i32_w]
    rfl
  refine one_ (i := 4) (N := some 16) #[true, true, true, true, true, true, false, false, false, false, false, false, false, false, false, false, false, false, false, false, false, false, false, false, false, false, false, false, false, false, false, false, false] rfl rfl (one_of HT_.out (by kernel_rfl)) (by decide) (fun K hK => ?_)
  refine goes_ Try.func12 (by kernel_rfl) rfl #[.agg #[.int .i64 a.f0, .int .i64 a.f1, .int .i64 a.f2, .int .i64 a.f3, .int .u64 a.f4]] (by rfl) rfl rfl (by simp only [List.map_toArray, List.map_cons, List.map_nil]; rfl) ?_
  with_reducible refine (lodgerlaw14_Ref.calls _ _ _ _ _ _ _ _ _ _ _ rfl).mono ?_
  rintro e w3 ⟨rfl, hb⟩
  refine ⟨_, rfl, ?_⟩
  have HB_ := Aside0.mk (below_step HB.out hb)
  clear HB
  have HB := HB_
  clear HB_
  have HXga_ := Aside0.mk (blk_below HXga.out hb)
  clear HXga
  have HXga := HXga_
  clear HXga_
  have HXgb_ := Aside0.mk (blk_below HXgb.out hb)
  clear HXgb
  have HXgb := HXgb_
  clear HXgb_
  have HR_ := Aside0.mk (Kd.C_below HR.out hb)
  clear HR
  have HR := HR_
  clear HR_
  clear hb
  refine hK.out _ _ ⟨((blk_cell HXga.out 0).trans rfl), ((blk_cell HXga.out 1).trans rfl), ((blk_cell HXga.out 2).trans rfl), ((blk_cell HXga.out 3).trans rfl), ((blk_cell HXga.out 4).trans rfl), ((blk_cell HXgb.out 0).trans rfl), ((blk_cell HXgb.out 1).trans rfl), ((blk_cell HXgb.out 2).trans rfl), ((blk_cell HXgb.out 3).trans rfl), ((blk_cell HXgb.out 4).trans rfl)⟩ (fun hHeld => ?_)
  clear hK K
  refine norm_ (a' := ?_) ?_ ?_
  rotate_left
  · show Act.put _ (some 16) _ = _
    simp only [Act.put, List.setIfInBounds_toArray, List.set_cons_zero, List.set_cons_succ, i64_w, i32_w]
    rfl
  refine one_ (i := 6) (N := some 18) #[true, true, true, true, true, true, true, false, false, false, false, false, false, false, false, false, false, false, false, false, false, false, false, false, false, false, false, false, false, false, false, false, false] rfl rfl (one_of HT_.out (by kernel_rfl)) (by decide) (fun K hK => ?_)
  refine goes_ Try.func12 (by kernel_rfl) rfl #[.agg #[.int .i64 b.f0, .int .i64 b.f1, .int .i64 b.f2, .int .i64 b.f3, .int .u64 b.f4]] (by rfl) rfl rfl (by simp only [List.map_toArray, List.map_cons, List.map_nil]; rfl) ?_
  with_reducible refine (lodgerlaw14_Ref.calls _ _ _ _ _ _ _ _ _ _ _ rfl).mono ?_
  rintro e w4 ⟨rfl, hb⟩
  refine ⟨_, rfl, ?_⟩
  have HB_ := Aside0.mk (below_step HB.out hb)
  clear HB
  have HB := HB_
  clear HB_
  have HXga_ := Aside0.mk (blk_below HXga.out hb)
  clear HXga
  have HXga := HXga_
  clear HXga_
  have HXgb_ := Aside0.mk (blk_below HXgb.out hb)
  clear HXgb
  have HXgb := HXgb_
  clear HXgb_
  have HR_ := Aside0.mk (Kd.C_below HR.out hb)
  clear HR
  have HR := HR_
  clear HR_
  clear hb
  refine hK.out _ _ ⟨((blk_cell HXga.out 0).trans rfl), ((blk_cell HXga.out 1).trans rfl), ((blk_cell HXga.out 2).trans rfl), ((blk_cell HXga.out 3).trans rfl), ((blk_cell HXga.out 4).trans rfl), ((blk_cell HXgb.out 0).trans rfl), ((blk_cell HXgb.out 1).trans rfl), ((blk_cell HXgb.out 2).trans rfl), ((blk_cell HXgb.out 3).trans rfl), ((blk_cell HXgb.out 4).trans rfl)⟩ (fun hHeld => ?_)
  clear hK K
  refine norm_ (a' := ?_) ?_ ?_
  rotate_left
  · show Act.put _ (some 18) _ = _
    simp only [Act.put, List.setIfInBounds_toArray, List.set_cons_zero, List.set_cons_succ, i64_w, i32_w]
    rfl
  refine one_ (i := 7) (N := some 19) #[true, true, true, true, true, true, true, true, false, false, false, false, false, false, false, false, false, false, false, false, false, false, false, false, false, false, false, false, false, false, false, false, false] rfl rfl (one_of HT_.out (by kernel_rfl)) (by decide) (fun K hK => ?_)
  refine goes_ Try.func11 (by kernel_rfl) rfl #[.agg #[.int .i64 a.f0, .int .i64 a.f1, .int .i64 a.f2, .int .i64 a.f3, .int .u64 a.f4], .agg #[.int .i64 b.f0, .int .i64 b.f1, .int .i64 b.f2, .int .i64 b.f3, .int .u64 b.f4]] (by rfl) rfl rfl (by simp only [List.map_toArray, List.map_cons, List.map_nil]; rfl) ?_
  with_reducible refine (lodgerref14_Better.calls _ _ _ _ _ _ _ _ _ _ bb _ HBR.out).mono ?_
  rintro e w5 ⟨rfl, hb⟩
  refine ⟨_, rfl, ?_⟩
  have HB_ := Aside0.mk (below_step HB.out hb)
  clear HB
  have HB := HB_
  clear HB_
  have HXga_ := Aside0.mk (blk_below HXga.out hb)
  clear HXga
  have HXga := HXga_
  clear HXga_
  have HXgb_ := Aside0.mk (blk_below HXgb.out hb)
  clear HXgb
  have HXgb := HXgb_
  clear HXgb_
  have HR_ := Aside0.mk (Kd.C_below HR.out hb)
  clear HR
  have HR := HR_
  clear HR_
  clear hb
  refine hK.out _ _ ⟨((blk_cell HXga.out 0).trans rfl), ((blk_cell HXga.out 1).trans rfl), ((blk_cell HXga.out 2).trans rfl), ((blk_cell HXga.out 3).trans rfl), ((blk_cell HXga.out 4).trans rfl), ((blk_cell HXgb.out 0).trans rfl), ((blk_cell HXgb.out 1).trans rfl), ((blk_cell HXgb.out 2).trans rfl), ((blk_cell HXgb.out 3).trans rfl), ((blk_cell HXgb.out 4).trans rfl)⟩ (fun hHeld => ?_)
  clear hK K
  refine norm_ (a' := ?_) ?_ ?_
  rotate_left
  · show Act.put _ (some 19) _ = _
    simp only [Act.put, List.setIfInBounds_toArray, List.set_cons_zero, List.set_cons_succ, i64_w, i32_w]
    rfl
  refine pure_ (i := 8) (N := some 20) (v := ?_) (a' := ?_) #[true, true, true, true, true, true, true, true, true, false, false, false, false, false, false, false, false, false, false, false, false, false, false, false, false, false, false, false, false, false, false, false, false] rfl rfl (any_of HT_.out (by kernel_rfl)) (fun _ _ _ h => h) (Or.inl ⟨by rfl, ?_⟩) ?_ ?_
  rotate_left
  · intro w'
    go_simp
    with_reducible rfl
  rotate_left
  · simp only [Act.put, List.setIfInBounds_toArray, List.set_cons_zero, List.set_cons_succ, i64_w, i32_w]
    rfl
  refine pure_ (i := 9) (N := some 21) (v := ?_) (a' := ?_) #[true, true, true, true, true, true, true, true, true, true, false, false, false, false, false, false, false, false, false, false, false, false, false, false, false, false, false, false, false, false, false, false, false] rfl rfl (any_of HT_.out (by kernel_rfl)) (fun _ _ _ h => h) (Or.inl ⟨by rfl, ?_⟩) ?_ ?_
  rotate_left
  · intro w'
    go_simp
    with_reducible rfl
  rotate_left
  · simp only [Act.put, List.setIfInBounds_toArray, List.set_cons_zero, List.set_cons_succ, i64_w, i32_w]
    rfl
  refine pure_ (i := 10) (N := some 22) (v := ?_) (a' := ?_) #[true, true, true, true, true, true, true, true, true, true, true, false, false, false, false, false, false, false, false, false, false, false, false, false, false, false, false, false, false, false, false, false, false] rfl rfl (any_of HT_.out (by kernel_rfl)) (fun _ _ _ h => h) (Or.inl ⟨by rfl, ?_⟩) ?_ ?_
  rotate_left
  · intro w'
    go_simp
    with_reducible rfl
  rotate_left
  · simp only [Act.put, List.setIfInBounds_toArray, List.set_cons_zero, List.set_cons_succ, i64_w, i32_w]
    rfl
  refine pure_ (i := 11) (N := some 23) (v := ?_) (a' := ?_) #[true, true, true, true, true, true, true, true, true, true, true, true, false, false, false, false, false, false, false, false, false, false, false, false, false, false, false, false, false, false, false, false, false] rfl rfl (any_of HT_.out (by kernel_rfl)) (fun _ _ _ h => h) (Or.inl ⟨by rfl, ?_⟩) ?_ ?_
  rotate_left
  · intro w'
    go_simp
    with_reducible rfl
  rotate_left
  · simp only [Act.put, List.setIfInBounds_toArray, List.set_cons_zero, List.set_cons_succ, i64_w, i32_w]
    rfl
  refine pure_ (i := 14) (N := some 26) (v := ?_) (a' := ?_) #[true, true, true, true, true, true, true, true, true, true, true, true, false, false, true, false, false, false, false, false, false, false, false, false, false, false, false, false, false, false, false, false, false] rfl rfl (any_of HT_.out (by kernel_rfl)) (fun _ _ _ h => h) (Or.inl ⟨by rfl, ?_⟩) ?_ ?_
  rotate_left
  · intro w'
    go_simp
    with_reducible rfl
  rotate_left
  · simp only [Act.put, List.setIfInBounds_toArray, List.set_cons_zero, List.set_cons_succ, i64_w, i32_w]
    rfl
  refine pure_ (i := 16) (N := some 28) (v := ?_) (a' := ?_) #[true, true, true, true, true, true, true, true, true, true, true, true, false, false, true, false, true, false, false, false, false, false, false, false, false, false, false, false, false, false, false, false, false] rfl rfl (any_of HT_.out (by kernel_rfl)) (fun _ _ _ h => h) (Or.inl ⟨by rfl, ?_⟩) ?_ ?_
  rotate_left
  · intro w'
    go_simp
    with_reducible rfl
  rotate_left
  · simp only [Act.put, List.setIfInBounds_toArray, List.set_cons_zero, List.set_cons_succ, i64_w, i32_w]
    rfl
  refine take_ (i := 12) (N := some 24) (v := ?_) (a' := ?_) #[true, true, true, true, true, true, true, true, true, true, true, true, true, false, true, false, true, false, false, false, false, false, false, false, false, false, false, false, false, false, false, false, false] rfl rfl (take_ofW HT_.out HW_.out (by kernel_rfl)) (fun _ _ _ h => h) (Or.inl ⟨by rfl, ?_⟩) hHeld ?_ ?_
  rotate_left
  · rintro w' ⟨s0, s1, s2, s3, s4, s5, s6, s7, s8, s9⟩
    go_simp
    with_reducible rfl
  rotate_left
  · simp only [Act.put, List.setIfInBounds_toArray, List.set_cons_zero, List.set_cons_succ, i64_w, i32_w]
    rfl
  refine take_ (i := 17) (N := some 29) (v := ?_) (a' := ?_) #[true, true, true, true, true, true, true, true, true, true, true, true, true, false, true, false, true, true, false, false, false, false, false, false, false, false, false, false, false, false, false, false, false] rfl rfl (take_ofW HT_.out HW_.out (by kernel_rfl)) (fun _ _ _ h => h) (Or.inl ⟨by rfl, ?_⟩) hHeld ?_ ?_
  rotate_left
  · rintro w' ⟨s0, s1, s2, s3, s4, s5, s6, s7, s8, s9⟩
    go_simp
    with_reducible rfl
  rotate_left
  · simp only [Act.put, List.setIfInBounds_toArray, List.set_cons_zero, List.set_cons_succ, i64_w, i32_w]
    rfl
  refine one_ (i := 13) (N := some 25) #[true, true, true, true, true, true, true, true, true, true, true, true, true, true, true, false, true, true, false, false, false, false, false, false, false, false, false, false, false, false, false, false, false] rfl rfl (one_of HT_.out (by kernel_rfl)) (by decide) (fun K hK => ?_)
  refine goes_ Try.func13 (by kernel_rfl) rfl #[.slice A0 l.length c0, .int .i64 a.f3] (by rfl) rfl rfl (by simp only [List.map_toArray, List.map_cons, List.map_nil]; rfl) ?_
  with_reducible refine (victim_Pick.calls _ _ l a.f3 p _ HR.out HC.out HP.out).mono ?_
  rintro e w6 ⟨rfl, hb⟩
  refine ⟨_, rfl, ?_⟩
  have HB_ := Aside0.mk (below_step HB.out hb)
  clear HB
  have HB := HB_
  clear HB_
  have HXga_ := Aside0.mk (blk_below HXga.out hb)
  clear HXga
  have HXga := HXga_
  clear HXga_
  have HXgb_ := Aside0.mk (blk_below HXgb.out hb)
  clear HXgb
  have HXgb := HXgb_
  clear HXgb_
  have HR_ := Aside0.mk (Kd.C_below HR.out hb)
  clear HR
  have HR := HR_
  clear HR_
  clear hb
  refine hK.out _ _ ⟨((blk_cell HXga.out 0).trans rfl), ((blk_cell HXga.out 1).trans rfl), ((blk_cell HXga.out 2).trans rfl), ((blk_cell HXga.out 3).trans rfl), ((blk_cell HXga.out 4).trans rfl), ((blk_cell HXgb.out 0).trans rfl), ((blk_cell HXgb.out 1).trans rfl), ((blk_cell HXgb.out 2).trans rfl), ((blk_cell HXgb.out 3).trans rfl), ((blk_cell HXgb.out 4).trans rfl)⟩ (fun hHeld => ?_)
  clear hK K
  refine norm_ (a' := ?_) ?_ ?_
  rotate_left
  · show Act.put _ (some 25) _ = _
    simp only [Act.put, List.setIfInBounds_toArray, List.set_cons_zero, List.set_cons_succ, i64_w, i32_w]
    rfl
  refine one_ (i := 15) (N := some 27) #[true, true, true, true, true, true, true, true, true, true, true, true, true, true, true, true, true, true, false, false, false, false, false, false, false, false, false, false, false, false, false, false, false] rfl rfl (one_of HT_.out (by kernel_rfl)) (by decide) (fun K hK => ?_)
  refine goes_ Try.func15 (by kernel_rfl) rfl #[.slice A0 l.length c0] (by rfl) rfl rfl (by simp only [List.map_toArray, List.map_cons, List.map_nil]; rfl) ?_
  with_reducible refine (lodgerlaw14_Refs.calls (l.length + 1) _ _ l lr _ HR.out HC.out HLR.out).mono ?_
  rintro e w7 ⟨vr, rfl, hv, hb⟩
  obtain ⟨Ar, cr, rfl, hcr, hCr⟩ := Kd.R_reads hv
  refine ⟨_, rfl, ?_⟩
  have HVr := Aside0.mk hCr
  have HWr := Aside0.mk hcr
  clear hv hcr hCr
  have HB_ := Aside0.mk (below_step HB.out hb)
  clear HB
  have HB := HB_
  clear HB_
  have HXga_ := Aside0.mk (blk_below HXga.out hb)
  clear HXga
  have HXga := HXga_
  clear HXga_
  have HXgb_ := Aside0.mk (blk_below HXgb.out hb)
  clear HXgb
  have HXgb := HXgb_
  clear HXgb_
  have HR_ := Aside0.mk (Kd.C_below HR.out hb)
  clear HR
  have HR := HR_
  clear HR_
  clear hb
  refine hK.out _ _ ⟨((blk_cell HXga.out 0).trans rfl), ((blk_cell HXga.out 1).trans rfl), ((blk_cell HXga.out 2).trans rfl), ((blk_cell HXga.out 3).trans rfl), ((blk_cell HXga.out 4).trans rfl), ((blk_cell HXgb.out 0).trans rfl), ((blk_cell HXgb.out 1).trans rfl), ((blk_cell HXgb.out 2).trans rfl), ((blk_cell HXgb.out 3).trans rfl), ((blk_cell HXgb.out 4).trans rfl)⟩ (fun hHeld => ?_)
  clear hK K
  refine norm_ (a' := ?_) ?_ ?_
  rotate_left
  · show Act.put _ (some 27) _ = _
    simp only [Act.put, List.setIfInBounds_toArray, List.set_cons_zero, List.set_cons_succ, i64_w, i32_w]
    rfl
  refine one_ (i := 18) (N := some 30) #[true, true, true, true, true, true, true, true, true, true, true, true, true, true, true, true, true, true, true, false, false, false, false, false, false, false, false, false, false, false, false, false, false] rfl rfl (one_of HT_.out (by kernel_rfl)) (by decide) (fun K hK => ?_)
  refine goes_ Try.func14 (by kernel_rfl) rfl #[.slice Ar lr.length cr, .int .i64 a.f3] (by rfl) rfl rfl (by simp only [List.map_toArray, List.map_cons, List.map_nil]; rfl) ?_
  with_reducible refine (lodgerref14_Pick.calls 60 _ _ lr a.f3 p _ HVr.out HWr.out HPR.out).mono ?_
  rintro e w8 ⟨rfl, hb⟩
  refine ⟨_, rfl, ?_⟩
  have HB_ := Aside0.mk (below_step HB.out hb)
  clear HB
  have HB := HB_
  clear HB_
  have HXga_ := Aside0.mk (blk_below HXga.out hb)
  clear HXga
  have HXga := HXga_
  clear HXga_
  have HXgb_ := Aside0.mk (blk_below HXgb.out hb)
  clear HXgb
  have HXgb := HXgb_
  clear HXgb_
  have HR_ := Aside0.mk (Kd.C_below HR.out hb)
  clear HR
  have HR := HR_
  clear HR_
  clear hb
  refine hK.out _ _ ⟨((blk_cell HXga.out 0).trans rfl), ((blk_cell HXga.out 1).trans rfl), ((blk_cell HXga.out 2).trans rfl), ((blk_cell HXga.out 3).trans rfl), ((blk_cell HXga.out 4).trans rfl), ((blk_cell HXgb.out 0).trans rfl), ((blk_cell HXgb.out 1).trans rfl), ((blk_cell HXgb.out 2).trans rfl), ((blk_cell HXgb.out 3).trans rfl), ((blk_cell HXgb.out 4).trans rfl)⟩ (fun hHeld => ?_)
  clear hK K
  refine norm_ (a' := ?_) ?_ ?_
  rotate_left
  · show Act.put _ (some 30) _ = _
    simp only [Act.put, List.setIfInBounds_toArray, List.set_cons_zero, List.set_cons_succ, i64_w, i32_w]
    rfl
  refine pure_ (i := 19) (N := some 31) (v := ?_) (a' := ?_) #[true, true, true, true, true, true, true, true, true, true, true, true, true, true, true, true, true, true, true, true, false, false, false, false, false, false, false, false, false, false, false, false, false] rfl rfl (any_of HT_.out (by kernel_rfl)) (fun _ _ _ h => h) (Or.inl ⟨by rfl, ?_⟩) ?_ ?_
  rotate_left
  · intro w'
    go_simp
    with_reducible rfl
  rotate_left
  · simp only [Act.put, List.setIfInBounds_toArray, List.set_cons_zero, List.set_cons_succ, i64_w, i32_w]
    rfl
  refine pure_ (i := 20) (N := some 32) (v := ?_) (a' := ?_) #[true, true, true, true, true, true, true, true, true, true, true, true, true, true, true, true, true, true, true, true, true, false, false, false, false, false, false, false, false, false, false, false, false] rfl rfl (any_of HT_.out (by kernel_rfl)) (fun _ _ _ h => h) (Or.inl ⟨by rfl, ?_⟩) ?_ ?_
  rotate_left
  · intro w'
    go_simp
    with_reducible rfl
  rotate_left
  · simp only [Act.put, List.setIfInBounds_toArray, List.set_cons_zero, List.set_cons_succ, i64_w, i32_w]
    rfl
  refine pure_ (i := 21) (N := some 33) (v := ?_) (a' := ?_) #[true, true, true, true, true, true, true, true, true, true, true, true, true, true, true, true, true, true, true, true, true, true, false, false, false, false, false, false, false, false, false, false, false] rfl rfl (any_of HT_.out (by kernel_rfl)) (fun _ _ _ h => h) (Or.inl ⟨by rfl, ?_⟩) ?_ ?_
  rotate_left
  · intro w'
    go_simp
    with_reducible rfl
  rotate_left
  · simp only [Act.put, List.setIfInBounds_toArray, List.set_cons_zero, List.set_cons_succ, i64_w, i32_w]
    rfl
  refine pure_ (i := 22) (N := some 34) (v := ?_) (a' := ?_) #[true, true, true, true, true, true, true, true, true, true, true, true, true, true, true, true, true, true, true, true, true, true, true, false, false, false, false, false, false, false, false, false, false] rfl rfl (any_of HT_.out (by kernel_rfl)) (fun _ _ _ h => h) (Or.inl ⟨by rfl, ?_⟩) ?_ ?_
  rotate_left
  · intro w'
    go_simp
    with_reducible rfl
  rotate_left
  · simp only [Act.put, List.setIfInBounds_toArray, List.set_cons_zero, List.set_cons_succ, i64_w, i32_w]
    rfl
  refine pure_ (i := 24) (N := some 36) (v := ?_) (a' := ?_) #[true, true, true, true, true, true, true, true, true, true, true, true, true, true, true, true, true, true, true, true, true, true, true, false, true, false, false, false, false, false, false, false, false] rfl rfl (any_of HT_.out (by kernel_rfl)) (fun _ _ _ h => h) (Or.inl ⟨by rfl, ?_⟩) ?_ ?_
  rotate_left
  · intro w'
    go_simp
    with_reducible rfl
  rotate_left
  · simp only [Act.put, List.setIfInBounds_toArray, List.set_cons_zero, List.set_cons_succ, i64_w, i32_w]
    rfl
  refine one_ (i := 23) (N := some 35) #[true, true, true, true, true, true, true, true, true, true, true, true, true, true, true, true, true, true, true, true, true, true, true, true, true, false, false, false, false, false, false, false, false] rfl rfl (one_of HT_.out (by kernel_rfl)) (by decide) (fun K hK => ?_)
  refine goes_ Try.func17 (by kernel_rfl) rfl #[.slice A0 l.length c0] (by rfl) rfl rfl (by simp only [List.map_toArray, List.map_cons, List.map_nil]; rfl) ?_
  with_reducible refine (victim_Order.calls _ _ l os _ HR.out HC.out HOS.out).mono ?_
  rintro e w9 ⟨vo, rfl, hv, hb⟩
  obtain ⟨Ao, co, rfl, hco, hCo⟩ := Kd.R_reads hv
  refine ⟨_, rfl, ?_⟩
  have HVo := Aside0.mk hCo
  have HWo := Aside0.mk hco
  clear hv hco hCo
  have HB_ := Aside0.mk (below_step HB.out hb)
  clear HB
  have HB := HB_
  clear HB_
  have HXga_ := Aside0.mk (blk_below HXga.out hb)
  clear HXga
  have HXga := HXga_
  clear HXga_
  have HXgb_ := Aside0.mk (blk_below HXgb.out hb)
  clear HXgb
  have HXgb := HXgb_
  clear HXgb_
  have HR_ := Aside0.mk (Kd.C_below HR.out hb)
  clear HR
  have HR := HR_
  clear HR_
  clear hb
  refine hK.out _ _ ⟨((blk_cell HXga.out 0).trans rfl), ((blk_cell HXga.out 1).trans rfl), ((blk_cell HXga.out 2).trans rfl), ((blk_cell HXga.out 3).trans rfl), ((blk_cell HXga.out 4).trans rfl), ((blk_cell HXgb.out 0).trans rfl), ((blk_cell HXgb.out 1).trans rfl), ((blk_cell HXgb.out 2).trans rfl), ((blk_cell HXgb.out 3).trans rfl), ((blk_cell HXgb.out 4).trans rfl)⟩ (fun hHeld => ?_)
  clear hK K
  refine norm_ (a' := ?_) ?_ ?_
  rotate_left
  · show Act.put _ (some 35) _ = _
    simp only [Act.put, List.setIfInBounds_toArray, List.set_cons_zero, List.set_cons_succ, i64_w, i32_w]
    rfl
  refine one_ (i := 25) (N := some 37) #[true, true, true, true, true, true, true, true, true, true, true, true, true, true, true, true, true, true, true, true, true, true, true, true, true, true, false, false, false, false, false, false, false] rfl rfl (one_of HT_.out (by kernel_rfl)) (by decide) (fun K hK => ?_)
  refine goes_ Try.func15 (by kernel_rfl) rfl #[.slice A0 l.length c0] (by rfl) rfl rfl (by simp only [List.map_toArray, List.map_cons, List.map_nil]; rfl) ?_
  with_reducible refine (lodgerlaw14_Refs.calls (l.length + 1) _ _ l lr _ HR.out HC.out HLR.out).mono ?_
  rintro e w10 ⟨vs, rfl, hv, hb⟩
  obtain ⟨As, cs, rfl, hcs, hCs⟩ := Kd.R_reads hv
  refine ⟨_, rfl, ?_⟩
  have HVs := Aside0.mk hCs
  have HWs := Aside0.mk hcs
  clear hv hcs hCs
  have HB_ := Aside0.mk (below_step HB.out hb)
  clear HB
  have HB := HB_
  clear HB_
  have HXga_ := Aside0.mk (blk_below HXga.out hb)
  clear HXga
  have HXga := HXga_
  clear HXga_
  have HXgb_ := Aside0.mk (blk_below HXgb.out hb)
  clear HXgb
  have HXgb := HXgb_
  clear HXgb_
  have HR_ := Aside0.mk (Kd.C_below HR.out hb)
  clear HR
  have HR := HR_
  clear HR_
  have HVo_ := Aside0.mk (Kd.C_below HVo.out hb)
  clear HVo
  have HVo := HVo_
  clear HVo_
  clear hb
  refine hK.out _ _ ⟨((blk_cell HXga.out 0).trans rfl), ((blk_cell HXga.out 1).trans rfl), ((blk_cell HXga.out 2).trans rfl), ((blk_cell HXga.out 3).trans rfl), ((blk_cell HXga.out 4).trans rfl), ((blk_cell HXgb.out 0).trans rfl), ((blk_cell HXgb.out 1).trans rfl), ((blk_cell HXgb.out 2).trans rfl), ((blk_cell HXgb.out 3).trans rfl), ((blk_cell HXgb.out 4).trans rfl)⟩ (fun hHeld => ?_)
  clear hK K
  refine norm_ (a' := ?_) ?_ ?_
  rotate_left
  · show Act.put _ (some 37) _ = _
    simp only [Act.put, List.setIfInBounds_toArray, List.set_cons_zero, List.set_cons_succ, i64_w, i32_w]
    rfl
  refine one_ (i := 26) (N := some 38) #[true, true, true, true, true, true, true, true, true, true, true, true, true, true, true, true, true, true, true, true, true, true, true, true, true, true, true, false, false, false, false, false, false] rfl rfl (one_of HT_.out (by kernel_rfl)) (by decide) (fun K hK => ?_)
  refine goes_ Try.func18 (by kernel_rfl) rfl #[.slice As lr.length cs] (by rfl) rfl rfl (by simp only [List.map_toArray, List.map_cons, List.map_nil]; rfl) ?_
  with_reducible refine (lodgerref14_Order.calls 80 _ _ lr os _ HVs.out HWs.out HOR.out).mono ?_
  rintro e w11 ⟨vq, rfl, hv, hb⟩
  obtain ⟨Aq, cq, rfl, hcq, hCq⟩ := Kd.R_reads hv
  refine ⟨_, rfl, ?_⟩
  have HVq := Aside0.mk hCq
  have HWq := Aside0.mk hcq
  clear hv hcq hCq
  have HB_ := Aside0.mk (below_step HB.out hb)
  clear HB
  have HB := HB_
  clear HB_
  have HXga_ := Aside0.mk (blk_below HXga.out hb)
  clear HXga
  have HXga := HXga_
  clear HXga_
  have HXgb_ := Aside0.mk (blk_below HXgb.out hb)
  clear HXgb
  have HXgb := HXgb_
  clear HXgb_
  have HVo_ := Aside0.mk (Kd.C_below HVo.out hb)
  clear HVo
  have HVo := HVo_
  clear HVo_
  clear hb
  refine hK.out _ _ ⟨((blk_cell HXga.out 0).trans rfl), ((blk_cell HXga.out 1).trans rfl), ((blk_cell HXga.out 2).trans rfl), ((blk_cell HXga.out 3).trans rfl), ((blk_cell HXga.out 4).trans rfl), ((blk_cell HXgb.out 0).trans rfl), ((blk_cell HXgb.out 1).trans rfl), ((blk_cell HXgb.out 2).trans rfl), ((blk_cell HXgb.out 3).trans rfl), ((blk_cell HXgb.out 4).trans rfl)⟩ (fun hHeld => ?_)
  clear hK K
  refine norm_ (a' := ?_) ?_ ?_
  rotate_left
  · show Act.put _ (some 38) _ = _
    simp only [Act.put, List.setIfInBounds_toArray, List.set_cons_zero, List.set_cons_succ, i64_w, i32_w]
    rfl
  refine one_ (i := 27) (N := some 39) #[true, true, true, true, true, true, true, true, true, true, true, true, true, true, true, true, true, true, true, true, true, true, true, true, true, true, true, true, false, false, false, false, false] rfl rfl (one_of HT_.out (by kernel_rfl)) (by decide) (fun K hK => ?_)
  refine goes_ Try.func16 (by kernel_rfl) rfl #[.slice Ao os.length co, .slice Aq os.length cq] (by rfl) rfl rfl (by simp only [List.map_toArray, List.map_cons, List.map_nil]; rfl) ?_
  with_reducible refine (lodgerref07_Ints.calls (os.length + 1) _ _ os _ _ os true _ HVo.out HWo.out HVq.out HWq.out HOI.out).mono ?_
  rintro e w12 ⟨rfl, hb⟩
  refine ⟨_, rfl, ?_⟩
  replace hb := hb.below
  have HB_ := Aside0.mk (below_step HB.out hb)
  clear HB
  have HB := HB_
  clear HB_
  have HXga_ := Aside0.mk (blk_below HXga.out hb)
  clear HXga
  have HXga := HXga_
  clear HXga_
  have HXgb_ := Aside0.mk (blk_below HXgb.out hb)
  clear HXgb
  have HXgb := HXgb_
  clear HXgb_
  clear hb
  refine hK.out _ _ ⟨((blk_cell HXga.out 0).trans rfl), ((blk_cell HXga.out 1).trans rfl), ((blk_cell HXga.out 2).trans rfl), ((blk_cell HXga.out 3).trans rfl), ((blk_cell HXga.out 4).trans rfl), ((blk_cell HXgb.out 0).trans rfl), ((blk_cell HXgb.out 1).trans rfl), ((blk_cell HXgb.out 2).trans rfl), ((blk_cell HXgb.out 3).trans rfl), ((blk_cell HXgb.out 4).trans rfl)⟩ (fun hHeld => ?_)
  clear hK K
  refine norm_ (a' := ?_) ?_ ?_
  rotate_left
  · show Act.put _ (some 39) _ = _
    simp only [Act.put, List.setIfInBounds_toArray, List.set_cons_zero, List.set_cons_succ, i64_w, i32_w]
    rfl
  refine pure_ (i := 28) (N := some 40) (v := ?_) (a' := ?_) #[true, true, true, true, true, true, true, true, true, true, true, true, true, true, true, true, true, true, true, true, true, true, true, true, true, true, true, true, true, false, false, false, false] rfl rfl (any_of HT_.out (by kernel_rfl)) (fun _ _ _ h => h) (Or.inl ⟨by rfl, ?_⟩) ?_ ?_
  rotate_left
  · intro w'
    go_simp
    with_reducible rfl
  rotate_left
  · simp only [Act.put, List.setIfInBounds_toArray, List.set_cons_zero, List.set_cons_succ, i64_w, i32_w]
    rfl
  refine pure_ (i := 29) (N := some 41) (v := ?_) (a' := ?_) #[true, true, true, true, true, true, true, true, true, true, true, true, true, true, true, true, true, true, true, true, true, true, true, true, true, true, true, true, true, true, false, false, false] rfl rfl (any_of HT_.out (by kernel_rfl)) (fun _ _ _ h => h) (Or.inl ⟨by rfl, ?_⟩) ?_ ?_
  rotate_left
  · intro w'
    go_simp
    with_reducible rfl
  rotate_left
  · simp only [Act.put, List.setIfInBounds_toArray, List.set_cons_zero, List.set_cons_succ, i64_w, i32_w]
    rfl
  refine one_ (i := 30) (N := some 42) #[true, true, true, true, true, true, true, true, true, true, true, true, true, true, true, true, true, true, true, true, true, true, true, true, true, true, true, true, true, true, true, false, false] rfl rfl (one_of HT_.out (by kernel_rfl)) (by decide) (fun K hK => ?_)
  refine goes_ Try.func19 (by kernel_rfl) rfl #[] (by rfl) rfl rfl (by simp) ?_
  with_reducible refine (lodgerlaw14_fixed.calls true _ rfl).mono ?_
  rintro e w13 ⟨rfl, hb⟩
  refine ⟨_, rfl, ?_⟩
  have HB_ := Aside0.mk (below_step HB.out hb)
  clear HB
  have HB := HB_
  clear HB_
  have HXga_ := Aside0.mk (blk_below HXga.out hb)
  clear HXga
  have HXga := HXga_
  clear HXga_
  have HXgb_ := Aside0.mk (blk_below HXgb.out hb)
  clear HXgb
  have HXgb := HXgb_
  clear HXgb_
  clear hb
  refine hK.out _ _ ⟨((blk_cell HXga.out 0).trans rfl), ((blk_cell HXga.out 1).trans rfl), ((blk_cell HXga.out 2).trans rfl), ((blk_cell HXga.out 3).trans rfl), ((blk_cell HXga.out 4).trans rfl), ((blk_cell HXgb.out 0).trans rfl), ((blk_cell HXgb.out 1).trans rfl), ((blk_cell HXgb.out 2).trans rfl), ((blk_cell HXgb.out 3).trans rfl), ((blk_cell HXgb.out 4).trans rfl)⟩ (fun hHeld => ?_)
  clear hK K
  refine norm_ (a' := ?_) ?_ ?_
  rotate_left
  · show Act.put _ (some 42) _ = _
    simp only [Act.put, List.setIfInBounds_toArray, List.set_cons_zero, List.set_cons_succ, i64_w, i32_w]
    rfl
  refine pure_ (i := 31) (N := some 43) (v := ?_) (a' := ?_) #[true, true, true, true, true, true, true, true, true, true, true, true, true, true, true, true, true, true, true, true, true, true, true, true, true, true, true, true, true, true, true, true, false] rfl rfl (any_of HT_.out (by kernel_rfl)) (fun _ _ _ h => h) (Or.inl ⟨by rfl, ?_⟩) ?_ ?_
  rotate_left
  · intro w'
    go_simp
    with_reducible rfl
  rotate_left
  · simp only [Act.put, List.setIfInBounds_toArray, List.set_cons_zero, List.set_cons_succ, i64_w, i32_w]
    rfl
  refine pure_ (i := 32) (N := some 6) (v := ?_) (a' := ?_) #[true, true, true, true, true, true, true, true, true, true, true, true, true, true, true, true, true, true, true, true, true, true, true, true, true, true, true, true, true, true, true, true, true] rfl rfl (any_of HT_.out (by kernel_rfl)) (fun _ _ _ h => h) (Or.inl ⟨by rfl, ?_⟩) ?_ ?_
  rotate_left
  · intro w'
    go_simp
    with_reducible rfl
  rotate_left
  · simp only [Act.put, List.setIfInBounds_toArray, List.set_cons_zero, List.set_cons_succ, i64_w, i32_w]
    rfl
  refine done_ (done_of HT_.out (by kernel_rfl)) ?_

  clear HT_ HW_ hHeld
  go_wp2
  go_ret
  exact ⟨rfl, HB.out⟩
end Go.Proofs.Ytbcjdendpdnknaa.H
