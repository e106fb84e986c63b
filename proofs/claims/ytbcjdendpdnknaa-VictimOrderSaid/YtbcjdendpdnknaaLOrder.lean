/-
The walk of VictimOrder, and the plain law behind it.
-/
import Derived.Test.YtbcjdendpdnknaaHx
import Derived.Test.YtbcjdendpdnknaaBet
import Derived.Test.YtbcjdendpdnknaaArgs
namespace Go.Proofs.Ytbcjdendpdnknaa.H
open Go.RowKit Go.Proofs.YtbcjdendpdnknaaW.PrintWords Go.Proofs.YtbcjdendpdnknaaW.PrintLast Go.Proofs.YtbcjdendpdnknaaW.PrintMore
attribute [local go_sem] max2_int min2_int max_two min_two max_three min_three max_four min_four
set_option linter.unusedVariables false
set_option linter.unusedSimpArgs false
def law_order.T1 : Bool × List (List Nat × List Nat) := (true, [([], []), ([], []), ([0, 1], [0, 1]), ([], []), ([], []), ([3, 4, 2], [3, 4]), ([], []), ([], []), ([6, 7, 5], [6, 7]), ([], []), ([], []), ([9, 10, 8], [9, 10]), ([], []), ([], []), ([12, 13, 11], [12, 13]), ([], []), ([], []), ([15, 16, 14], [15, 16]), ([2, 17, 0, 1, 2], [2]), ([5, 18, 0, 1, 2, 3, 4, 5, 18], [5]), ([8, 19, 0, 1, 2, 3, 4, 5, 6, 7, 8, 18, 19], [8]), ([11, 20, 0, 1, 2, 3, 4, 5, 6, 7, 8, 9, 10, 11, 18, 19, 20], [11]), ([14, 21, 0, 1, 2, 3, 4, 5, 6, 7, 8, 9, 10, 11, 12, 13, 14, 18, 19, 20, 21], [14]), ([17, 22, 0, 1, 2, 3, 4, 5, 6, 7, 8, 9, 10, 11, 12, 13, 14, 15, 16, 17, 18, 19, 20, 21, 22], [17])])
def law_order.B1 : List Nat := [0, 0, 3, 0, 0, 31, 0, 0, 255, 0, 0, 2047, 0, 0, 16383, 0, 0, 131071, 262143, 524287, 1048575, 2097151, 4194303, 8388607]
theorem law_order.tab1 : rtab .any (opsOf Try.f4 1) = law_order.T1 := by kernel_rfl
theorem law_order.bits1 : waitsOk law_order.T1.2 law_order.B1 = true := by kernel_rfl
/-- What the law asks of its six answers. -/
def orderB (ab ba bc cb ac ca : Bool) : Bool := !((ab && ba) || (ab && bc && !ac) || (cb && ba && !ca)) && (ab || ba || bc || cb || (!ac && !ca))
set_option maxHeartbeats 8000000 in
set_option maxRecDepth 100000 in
theorem order_walk (a b c : S25) (ab ba bc cb ac ca : Bool) (w : World) (hab : victim_Better.f a.f0 a.f1 a.f2 a.f3 a.f4 b.f0 b.f1 b.f2 b.f3 b.f4 = some ab) (hba : victim_Better.f b.f0 b.f1 b.f2 b.f3 b.f4 a.f0 a.f1 a.f2 a.f3 a.f4 = some ba) (hbc : victim_Better.f b.f0 b.f1 b.f2 b.f3 b.f4 c.f0 c.f1 c.f2 c.f3 c.f4 = some bc) (hcb : victim_Better.f c.f0 c.f1 c.f2 c.f3 c.f4 b.f0 b.f1 b.f2 b.f3 b.f4 = some cb) (hac : victim_Better.f a.f0 a.f1 a.f2 a.f3 a.f4 c.f0 c.f1 c.f2 c.f3 c.f4 = some ac) (hca : victim_Better.f c.f0 c.f1 c.f2 c.f3 c.f4 a.f0 a.f1 a.f2 a.f3 a.f4 = some ca)
    (haa : victim_Better.f a.f0 a.f1 a.f2 a.f3 a.f4 a.f0 a.f1 a.f2 a.f3 a.f4 = some false) (hlaw : orderB ab ba bc cb ac ca = true) :
    Calls Try.prog 4 #[.agg #[.int .i64 a.f0, .int .i64 a.f1, .int .i64 a.f2, .int .i64 a.f3, .int .u64 a.f4], .agg #[.int .i64 b.f0, .int .i64 b.f1, .int .i64 b.f2, .int .i64 b.f3, .int .u64 b.f4], .agg #[.int .i64 c.f0, .int .i64 c.f1, .int .i64 c.f2, .int .i64 c.f3, .int .u64 c.f4]] w fun e w' => e = .returned (.bool true) ∧ Below w.heap.size w w' := by
  have Hab := Aside0.mk hab
  have Hba := Aside0.mk hba
  have Hbc := Aside0.mk hbc
  have Hcb := Aside0.mk hcb
  have Hac := Aside0.mk hac
  have Hca := Aside0.mk hca
  have Haa := Aside0.mk haa
  clear hab hba hbc hcb hac hca haa
  have HLAW := Aside0.mk hlaw
  clear hlaw
  go_enter Try.func4, Try.ntmps4
  go_wp2_with fail
  obtain ⟨W1, hW1⟩ : ∃ W1, W1 = ((w.alloc (.cells #[.int .i64 a.f0, .int .i64 a.f1, .int .i64 a.f2, .int .i64 a.f3, .int .u64 a.f4] 25)).alloc (.cells #[.int .i64 b.f0, .int .i64 b.f1, .int .i64 b.f2, .int .i64 b.f3, .int .u64 b.f4] 25)).alloc (.cells #[.int .i64 c.f0, .int .i64 c.f1, .int .i64 c.f2, .int .i64 c.f3, .int .u64 c.f4] 25) := ⟨_, rfl⟩
  rw [← hW1]
  obtain ⟨gc, hgc⟩ : ∃ g, g = w.heap.size + 1 + 1 := ⟨_, rfl⟩
  obtain ⟨gb, hgb⟩ : ∃ g, g = w.heap.size + 1 := ⟨_, rfl⟩
  obtain ⟨ga, hga⟩ : ∃ g, g = w.heap.size := ⟨_, rfl⟩
  have HXga : Aside0 (W1.heap[ga]? = some (.cells #[.int .i64 a.f0, .int .i64 a.f1, .int .i64 a.f2, .int .i64 a.f3, .int .u64 a.f4] 25 (0, 0))) := ⟨by rw [hW1, hga]; exact blk_alloc (blk_alloc (blk_at rfl) _) _⟩
  have HXgb : Aside0 (W1.heap[gb]? = some (.cells #[.int .i64 b.f0, .int .i64 b.f1, .int .i64 b.f2, .int .i64 b.f3, .int .u64 b.f4] 25 (0, 0))) := ⟨by rw [hW1, hgb]; exact blk_alloc (blk_at (by simp)) _⟩
  have HXgc : Aside0 (W1.heap[gc]? = some (.cells #[.int .i64 c.f0, .int .i64 c.f1, .int .i64 c.f2, .int .i64 c.f3, .int .u64 c.f4] 25 (0, 0))) := ⟨by rw [hW1, hgc]; exact blk_at (by simp)⟩
  have HB : Aside0 (Below w.heap.size w W1) := ⟨by rw [hW1]; exact below_alloc (below_alloc (below_alloc (Below.refl _ _) _) _) _⟩
  rw [← hgc, ← hgb, ← hga]
  clear hW1 hgc hgb hga
  refine start_ (n := 24) (S := fun w' => w'.cell? ⟨ga, 0, none⟩ = some (.int .i64 a.f0) ∧ w'.cell? ⟨ga, 1, none⟩ = some (.int .i64 a.f1) ∧ w'.cell? ⟨ga, 2, none⟩ = some (.int .i64 a.f2) ∧ w'.cell? ⟨ga, 3, none⟩ = some (.int .i64 a.f3) ∧ w'.cell? ⟨ga, 4, none⟩ = some (.int .u64 a.f4) ∧ w'.cell? ⟨gb, 0, none⟩ = some (.int .i64 b.f0) ∧ w'.cell? ⟨gb, 1, none⟩ = some (.int .i64 b.f1) ∧ w'.cell? ⟨gb, 2, none⟩ = some (.int .i64 b.f2) ∧ w'.cell? ⟨gb, 3, none⟩ = some (.int .i64 b.f3) ∧ w'.cell? ⟨gb, 4, none⟩ = some (.int .u64 b.f4) ∧ w'.cell? ⟨gc, 0, none⟩ = some (.int .i64 c.f0) ∧ w'.cell? ⟨gc, 1, none⟩ = some (.int .i64 c.f1) ∧ w'.cell? ⟨gc, 2, none⟩ = some (.int .i64 c.f2) ∧ w'.cell? ⟨gc, 3, none⟩ = some (.int .i64 c.f3) ∧ w'.cell? ⟨gc, 4, none⟩ = some (.int .u64 c.f4)) (ds := []) #[false, false, false, false, false, false, false, false, false, false, false, false, false, false, false, false, false, false, false, false, false, false, false, false] (by kernel_rfl) rfl rfl ⟨((blk_cell (blk_drew HXga.out) 0).trans rfl), ((blk_cell (blk_drew HXga.out) 1).trans rfl), ((blk_cell (blk_drew HXga.out) 2).trans rfl), ((blk_cell (blk_drew HXga.out) 3).trans rfl), ((blk_cell (blk_drew HXga.out) 4).trans rfl), ((blk_cell (blk_drew HXgb.out) 0).trans rfl), ((blk_cell (blk_drew HXgb.out) 1).trans rfl), ((blk_cell (blk_drew HXgb.out) 2).trans rfl), ((blk_cell (blk_drew HXgb.out) 3).trans rfl), ((blk_cell (blk_drew HXgb.out) 4).trans rfl), ((blk_cell (blk_drew HXgc.out) 0).trans rfl), ((blk_cell (blk_drew HXgc.out) 1).trans rfl), ((blk_cell (blk_drew HXgc.out) 2).trans rfl), ((blk_cell (blk_drew HXgc.out) 3).trans rfl), ((blk_cell (blk_drew HXgc.out) 4).trans rfl)⟩ (fun hHeld => ?_)
  refine with_tabW law_order.tab1 law_order.bits1 (fun HT_ HW_ => ?_)
  have HB_ := Aside0.mk (below_drew HB.out)
  clear HB
  have HB := HB_
  clear HB_
  have HXga_ := Aside0.mk (blk_drew HXga.out)
  clear HXga
  have HXga := HXga_
  clear HXga_
  have HXgb_ := Aside0.mk (blk_drew HXgb.out)
  clear HXgb
  have HXgb := HXgb_
  clear HXgb_
  have HXgc_ := Aside0.mk (blk_drew HXgc.out)
  clear HXgc
  have HXgc := HXgc_
  clear HXgc_
  generalize W1.drew = w1 at *
  refine take_ (i := 0) (N := some 13) (v := ?_) (a' := ?_) #[true, false, false, false, false, false, false, false, false, false, false, false, false, false, false, false, false, false, false, false, false, false, false, false] rfl rfl (take_ofW HT_.out HW_.out (by kernel_rfl)) (fun _ _ _ h => h) (Or.inl ⟨by rfl, ?_⟩) hHeld ?_ ?_
  rotate_left
  · rintro w' ⟨s0, s1, s2, s3, s4, s5, s6, s7, s8, s9, s10, s11, s12, s13, s14⟩
    go_simp
    with_reducible rfl
  rotate_left
  · simp only [Act.put, List.setIfInBounds_toArray, List.set_cons_zero, List.set_cons_succ, i64_w, i32_w]
    rfl
  refine take_ (i := 1) (N := some 14) (v := ?_) (a' := ?_) #[true, true, false, false, false, false, false, false, false, false, false, false, false, false, false, false, false, false, false, false, false, false, false, false] rfl rfl (take_ofW HT_.out HW_.out (by kernel_rfl)) (fun _ _ _ h => h) (Or.inl ⟨by rfl, ?_⟩) hHeld ?_ ?_
  rotate_left
  · rintro w' ⟨s0, s1, s2, s3, s4, s5, s6, s7, s8, s9, s10, s11, s12, s13, s14⟩
    go_simp
    with_reducible rfl
  rotate_left
  · simp only [Act.put, List.setIfInBounds_toArray, List.set_cons_zero, List.set_cons_succ, i64_w, i32_w]
    rfl
  refine take_ (i := 3) (N := some 16) (v := ?_) (a' := ?_) #[true, true, false, true, false, false, false, false, false, false, false, false, false, false, false, false, false, false, false, false, false, false, false, false] rfl rfl (take_ofW HT_.out HW_.out (by kernel_rfl)) (fun _ _ _ h => h) (Or.inl ⟨by rfl, ?_⟩) hHeld ?_ ?_
  rotate_left
  · rintro w' ⟨s0, s1, s2, s3, s4, s5, s6, s7, s8, s9, s10, s11, s12, s13, s14⟩
    go_simp
    with_reducible rfl
  rotate_left
  · simp only [Act.put, List.setIfInBounds_toArray, List.set_cons_zero, List.set_cons_succ, i64_w, i32_w]
    rfl
  refine take_ (i := 4) (N := some 17) (v := ?_) (a' := ?_) #[true, true, false, true, true, false, false, false, false, false, false, false, false, false, false, false, false, false, false, false, false, false, false, false] rfl rfl (take_ofW HT_.out HW_.out (by kernel_rfl)) (fun _ _ _ h => h) (Or.inl ⟨by rfl, ?_⟩) hHeld ?_ ?_
  rotate_left
  · rintro w' ⟨s0, s1, s2, s3, s4, s5, s6, s7, s8, s9, s10, s11, s12, s13, s14⟩
    go_simp
    with_reducible rfl
  rotate_left
  · simp only [Act.put, List.setIfInBounds_toArray, List.set_cons_zero, List.set_cons_succ, i64_w, i32_w]
    rfl
  refine take_ (i := 6) (N := some 19) (v := ?_) (a' := ?_) #[true, true, false, true, true, false, true, false, false, false, false, false, false, false, false, false, false, false, false, false, false, false, false, false] rfl rfl (take_ofW HT_.out HW_.out (by kernel_rfl)) (fun _ _ _ h => h) (Or.inl ⟨by rfl, ?_⟩) hHeld ?_ ?_
  rotate_left
  · rintro w' ⟨s0, s1, s2, s3, s4, s5, s6, s7, s8, s9, s10, s11, s12, s13, s14⟩
    go_simp
    with_reducible rfl
  rotate_left
  · simp only [Act.put, List.setIfInBounds_toArray, List.set_cons_zero, List.set_cons_succ, i64_w, i32_w]
    rfl
  refine take_ (i := 7) (N := some 20) (v := ?_) (a' := ?_) #[true, true, false, true, true, false, true, true, false, false, false, false, false, false, false, false, false, false, false, false, false, false, false, false] rfl rfl (take_ofW HT_.out HW_.out (by kernel_rfl)) (fun _ _ _ h => h) (Or.inl ⟨by rfl, ?_⟩) hHeld ?_ ?_
  rotate_left
  · rintro w' ⟨s0, s1, s2, s3, s4, s5, s6, s7, s8, s9, s10, s11, s12, s13, s14⟩
    go_simp
    with_reducible rfl
  rotate_left
  · simp only [Act.put, List.setIfInBounds_toArray, List.set_cons_zero, List.set_cons_succ, i64_w, i32_w]
    rfl
  refine take_ (i := 9) (N := some 22) (v := ?_) (a' := ?_) #[true, true, false, true, true, false, true, true, false, true, false, false, false, false, false, false, false, false, false, false, false, false, false, false] rfl rfl (take_ofW HT_.out HW_.out (by kernel_rfl)) (fun _ _ _ h => h) (Or.inl ⟨by rfl, ?_⟩) hHeld ?_ ?_
  rotate_left
  · rintro w' ⟨s0, s1, s2, s3, s4, s5, s6, s7, s8, s9, s10, s11, s12, s13, s14⟩
    go_simp
    with_reducible rfl
  rotate_left
  · simp only [Act.put, List.setIfInBounds_toArray, List.set_cons_zero, List.set_cons_succ, i64_w, i32_w]
    rfl
  refine take_ (i := 10) (N := some 23) (v := ?_) (a' := ?_) #[true, true, false, true, true, false, true, true, false, true, true, false, false, false, false, false, false, false, false, false, false, false, false, false] rfl rfl (take_ofW HT_.out HW_.out (by kernel_rfl)) (fun _ _ _ h => h) (Or.inl ⟨by rfl, ?_⟩) hHeld ?_ ?_
  rotate_left
  · rintro w' ⟨s0, s1, s2, s3, s4, s5, s6, s7, s8, s9, s10, s11, s12, s13, s14⟩
    go_simp
    with_reducible rfl
  rotate_left
  · simp only [Act.put, List.setIfInBounds_toArray, List.set_cons_zero, List.set_cons_succ, i64_w, i32_w]
    rfl
  refine take_ (i := 12) (N := some 25) (v := ?_) (a' := ?_) #[true, true, false, true, true, false, true, true, false, true, true, false, true, false, false, false, false, false, false, false, false, false, false, false] rfl rfl (take_ofW HT_.out HW_.out (by kernel_rfl)) (fun _ _ _ h => h) (Or.inl ⟨by rfl, ?_⟩) hHeld ?_ ?_
  rotate_left
  · rintro w' ⟨s0, s1, s2, s3, s4, s5, s6, s7, s8, s9, s10, s11, s12, s13, s14⟩
    go_simp
    with_reducible rfl
  rotate_left
  · simp only [Act.put, List.setIfInBounds_toArray, List.set_cons_zero, List.set_cons_succ, i64_w, i32_w]
    rfl
  refine take_ (i := 13) (N := some 26) (v := ?_) (a' := ?_) #[true, true, false, true, true, false, true, true, false, true, true, false, true, true, false, false, false, false, false, false, false, false, false, false] rfl rfl (take_ofW HT_.out HW_.out (by kernel_rfl)) (fun _ _ _ h => h) (Or.inl ⟨by rfl, ?_⟩) hHeld ?_ ?_
  rotate_left
  · rintro w' ⟨s0, s1, s2, s3, s4, s5, s6, s7, s8, s9, s10, s11, s12, s13, s14⟩
    go_simp
    with_reducible rfl
  rotate_left
  · simp only [Act.put, List.setIfInBounds_toArray, List.set_cons_zero, List.set_cons_succ, i64_w, i32_w]
    rfl
  refine take_ (i := 15) (N := some 28) (v := ?_) (a' := ?_) #[true, true, false, true, true, false, true, true, false, true, true, false, true, true, false, true, false, false, false, false, false, false, false, false] rfl rfl (take_ofW HT_.out HW_.out (by kernel_rfl)) (fun _ _ _ h => h) (Or.inl ⟨by rfl, ?_⟩) hHeld ?_ ?_
  rotate_left
  · rintro w' ⟨s0, s1, s2, s3, s4, s5, s6, s7, s8, s9, s10, s11, s12, s13, s14⟩
    go_simp
    with_reducible rfl
  rotate_left
  · simp only [Act.put, List.setIfInBounds_toArray, List.set_cons_zero, List.set_cons_succ, i64_w, i32_w]
    rfl
  refine take_ (i := 16) (N := some 29) (v := ?_) (a' := ?_) #[true, true, false, true, true, false, true, true, false, true, true, false, true, true, false, true, true, false, false, false, false, false, false, false] rfl rfl (take_ofW HT_.out HW_.out (by kernel_rfl)) (fun _ _ _ h => h) (Or.inl ⟨by rfl, ?_⟩) hHeld ?_ ?_
  rotate_left
  · rintro w' ⟨s0, s1, s2, s3, s4, s5, s6, s7, s8, s9, s10, s11, s12, s13, s14⟩
    go_simp
    with_reducible rfl
  rotate_left
  · simp only [Act.put, List.setIfInBounds_toArray, List.set_cons_zero, List.set_cons_succ, i64_w, i32_w]
    rfl
  refine one_ (i := 2) (N := some 15) #[true, true, true, true, true, false, true, true, false, true, true, false, true, true, false, true, true, false, false, false, false, false, false, false] rfl rfl (one_of HT_.out (by kernel_rfl)) (by decide) (fun K hK => ?_)
  refine goes_ Try.func10 (by kernel_rfl) rfl #[.agg #[.int .i64 a.f0, .int .i64 a.f1, .int .i64 a.f2, .int .i64 a.f3, .int .u64 a.f4], .agg #[.int .i64 b.f0, .int .i64 b.f1, .int .i64 b.f2, .int .i64 b.f3, .int .u64 b.f4]] (by rfl) rfl rfl (by simp only [List.map_toArray, List.map_cons, List.map_nil]; rfl) ?_
  with_reducible refine (victim_Better.calls _ _ _ _ _ _ _ _ _ _ ab _ Hab.out).mono ?_
  rintro e w2 ⟨rfl, hb⟩
  refine ⟨_, rfl, ?_⟩
  have HB_ := Aside0.mk (below_step HB.out hb)
  clear HB
  have HB := HB_
  clear HB_
  have HXga_ := Aside0.mk (blk_below HXga.out hb)
  clear HXga
  have HXga := HXga_
  clear HXga_
  have HXgb_ := Aside0.mk (blk_below HXgb.out hb)
  clear HXgb
  have HXgb := HXgb_
  clear HXgb_
  have HXgc_ := Aside0.mk (blk_below HXgc.out hb)
  clear HXgc
  have HXgc := HXgc_
  clear HXgc_
  clear hb
  refine hK.out _ _ ⟨((blk_cell HXga.out 0).trans rfl), ((blk_cell HXga.out 1).trans rfl), ((blk_cell HXga.out 2).trans rfl), ((blk_cell HXga.out 3).trans rfl), ((blk_cell HXga.out 4).trans rfl), ((blk_cell HXgb.out 0).trans rfl), ((blk_cell HXgb.out 1).trans rfl), ((blk_cell HXgb.out 2).trans rfl), ((blk_cell HXgb.out 3).trans rfl), ((blk_cell HXgb.out 4).trans rfl), ((blk_cell HXgc.out 0).trans rfl), ((blk_cell HXgc.out 1).trans rfl), ((blk_cell HXgc.out 2).trans rfl), ((blk_cell HXgc.out 3).trans rfl), ((blk_cell HXgc.out 4).trans rfl)⟩ (fun hHeld => ?_)
  clear hK K
  refine norm_ (a' := ?_) ?_ ?_
  rotate_left
  · show Act.put _ (some 15) _ = _
    simp only [Act.put, List.setIfInBounds_toArray, List.set_cons_zero, List.set_cons_succ, i64_w, i32_w]
    rfl
  refine one_ (i := 5) (N := some 18) #[true, true, true, true, true, true, true, true, false, true, true, false, true, true, false, true, true, false, false, false, false, false, false, false] rfl rfl (one_of HT_.out (by kernel_rfl)) (by decide) (fun K hK => ?_)
  refine goes_ Try.func10 (by kernel_rfl) rfl #[.agg #[.int .i64 b.f0, .int .i64 b.f1, .int .i64 b.f2, .int .i64 b.f3, .int .u64 b.f4], .agg #[.int .i64 a.f0, .int .i64 a.f1, .int .i64 a.f2, .int .i64 a.f3, .int .u64 a.f4]] (by rfl) rfl rfl (by simp only [List.map_toArray, List.map_cons, List.map_nil]; rfl) ?_
  with_reducible refine (victim_Better.calls _ _ _ _ _ _ _ _ _ _ ba _ Hba.out).mono ?_
  rintro e w3 ⟨rfl, hb⟩
  refine ⟨_, rfl, ?_⟩
  have HB_ := Aside0.mk (below_step HB.out hb)
  clear HB
  have HB := HB_
  clear HB_
  have HXga_ := Aside0.mk (blk_below HXga.out hb)
  clear HXga
  have HXga := HXga_
  clear HXga_
  have HXgb_ := Aside0.mk (blk_below HXgb.out hb)
  clear HXgb
  have HXgb := HXgb_
  clear HXgb_
  have HXgc_ := Aside0.mk (blk_below HXgc.out hb)
  clear HXgc
  have HXgc := HXgc_
  clear HXgc_
  clear hb
  refine hK.out _ _ ⟨((blk_cell HXga.out 0).trans rfl), ((blk_cell HXga.out 1).trans rfl), ((blk_cell HXga.out 2).trans rfl), ((blk_cell HXga.out 3).trans rfl), ((blk_cell HXga.out 4).trans rfl), ((blk_cell HXgb.out 0).trans rfl), ((blk_cell HXgb.out 1).trans rfl), ((blk_cell HXgb.out 2).trans rfl), ((blk_cell HXgb.out 3).trans rfl), ((blk_cell HXgb.out 4).trans rfl), ((blk_cell HXgc.out 0).trans rfl), ((blk_cell HXgc.out 1).trans rfl), ((blk_cell HXgc.out 2).trans rfl), ((blk_cell HXgc.out 3).trans rfl), ((blk_cell HXgc.out 4).trans rfl)⟩ (fun hHeld => ?_)
  clear hK K
  refine norm_ (a' := ?_) ?_ ?_
  rotate_left
  · show Act.put _ (some 18) _ = _
    simp only [Act.put, List.setIfInBounds_toArray, List.set_cons_zero, List.set_cons_succ, i64_w, i32_w]
    rfl
  refine one_ (i := 8) (N := some 21) #[true, true, true, true, true, true, true, true, true, true, true, false, true, true, false, true, true, false, false, false, false, false, false, false] rfl rfl (one_of HT_.out (by kernel_rfl)) (by decide) (fun K hK => ?_)
  refine goes_ Try.func10 (by kernel_rfl) rfl #[.agg #[.int .i64 b.f0, .int .i64 b.f1, .int .i64 b.f2, .int .i64 b.f3, .int .u64 b.f4], .agg #[.int .i64 c.f0, .int .i64 c.f1, .int .i64 c.f2, .int .i64 c.f3, .int .u64 c.f4]] (by rfl) rfl rfl (by simp only [List.map_toArray, List.map_cons, List.map_nil]; rfl) ?_
  with_reducible refine (victim_Better.calls _ _ _ _ _ _ _ _ _ _ bc _ Hbc.out).mono ?_
  rintro e w4 ⟨rfl, hb⟩
  refine ⟨_, rfl, ?_⟩
  have HB_ := Aside0.mk (below_step HB.out hb)
  clear HB
  have HB := HB_
  clear HB_
  have HXga_ := Aside0.mk (blk_below HXga.out hb)
  clear HXga
  have HXga := HXga_
  clear HXga_
  have HXgb_ := Aside0.mk (blk_below HXgb.out hb)
  clear HXgb
  have HXgb := HXgb_
  clear HXgb_
  have HXgc_ := Aside0.mk (blk_below HXgc.out hb)
  clear HXgc
  have HXgc := HXgc_
  clear HXgc_
  clear hb
  refine hK.out _ _ ⟨((blk_cell HXga.out 0).trans rfl), ((blk_cell HXga.out 1).trans rfl), ((blk_cell HXga.out 2).trans rfl), ((blk_cell HXga.out 3).trans rfl), ((blk_cell HXga.out 4).trans rfl), ((blk_cell HXgb.out 0).trans rfl), ((blk_cell HXgb.out 1).trans rfl), ((blk_cell HXgb.out 2).trans rfl), ((blk_cell HXgb.out 3).trans rfl), ((blk_cell HXgb.out 4).trans rfl), ((blk_cell HXgc.out 0).trans rfl), ((blk_cell HXgc.out 1).trans rfl), ((blk_cell HXgc.out 2).trans rfl), ((blk_cell HXgc.out 3).trans rfl), ((blk_cell HXgc.out 4).trans rfl)⟩ (fun hHeld => ?_)
  clear hK K
  refine norm_ (a' := ?_) ?_ ?_
  rotate_left
  · show Act.put _ (some 21) _ = _
    simp only [Act.put, List.setIfInBounds_toArray, List.set_cons_zero, List.set_cons_succ, i64_w, i32_w]
    rfl
  refine one_ (i := 11) (N := some 24) #[true, true, true, true, true, true, true, true, true, true, true, true, true, true, false, true, true, false, false, false, false, false, false, false] rfl rfl (one_of HT_.out (by kernel_rfl)) (by decide) (fun K hK => ?_)
  refine goes_ Try.func10 (by kernel_rfl) rfl #[.agg #[.int .i64 c.f0, .int .i64 c.f1, .int .i64 c.f2, .int .i64 c.f3, .int .u64 c.f4], .agg #[.int .i64 b.f0, .int .i64 b.f1, .int .i64 b.f2, .int .i64 b.f3, .int .u64 b.f4]] (by rfl) rfl rfl (by simp only [List.map_toArray, List.map_cons, List.map_nil]; rfl) ?_
  with_reducible refine (victim_Better.calls _ _ _ _ _ _ _ _ _ _ cb _ Hcb.out).mono ?_
  rintro e w5 ⟨rfl, hb⟩
  refine ⟨_, rfl, ?_⟩
  have HB_ := Aside0.mk (below_step HB.out hb)
  clear HB
  have HB := HB_
  clear HB_
  have HXga_ := Aside0.mk (blk_below HXga.out hb)
  clear HXga
  have HXga := HXga_
  clear HXga_
  have HXgb_ := Aside0.mk (blk_below HXgb.out hb)
  clear HXgb
  have HXgb := HXgb_
  clear HXgb_
  have HXgc_ := Aside0.mk (blk_below HXgc.out hb)
  clear HXgc
  have HXgc := HXgc_
  clear HXgc_
  clear hb
  refine hK.out _ _ ⟨((blk_cell HXga.out 0).trans rfl), ((blk_cell HXga.out 1).trans rfl), ((blk_cell HXga.out 2).trans rfl), ((blk_cell HXga.out 3).trans rfl), ((blk_cell HXga.out 4).trans rfl), ((blk_cell HXgb.out 0).trans rfl), ((blk_cell HXgb.out 1).trans rfl), ((blk_cell HXgb.out 2).trans rfl), ((blk_cell HXgb.out 3).trans rfl), ((blk_cell HXgb.out 4).trans rfl), ((blk_cell HXgc.out 0).trans rfl), ((blk_cell HXgc.out 1).trans rfl), ((blk_cell HXgc.out 2).trans rfl), ((blk_cell HXgc.out 3).trans rfl), ((blk_cell HXgc.out 4).trans rfl)⟩ (fun hHeld => ?_)
  clear hK K
  refine norm_ (a' := ?_) ?_ ?_
  rotate_left
  · show Act.put _ (some 24) _ = _
    simp only [Act.put, List.setIfInBounds_toArray, List.set_cons_zero, List.set_cons_succ, i64_w, i32_w]
    rfl
  refine one_ (i := 14) (N := some 27) #[true, true, true, true, true, true, true, true, true, true, true, true, true, true, true, true, true, false, false, false, false, false, false, false] rfl rfl (one_of HT_.out (by kernel_rfl)) (by decide) (fun K hK => ?_)
  refine goes_ Try.func10 (by kernel_rfl) rfl #[.agg #[.int .i64 a.f0, .int .i64 a.f1, .int .i64 a.f2, .int .i64 a.f3, .int .u64 a.f4], .agg #[.int .i64 c.f0, .int .i64 c.f1, .int .i64 c.f2, .int .i64 c.f3, .int .u64 c.f4]] (by rfl) rfl rfl (by simp only [List.map_toArray, List.map_cons, List.map_nil]; rfl) ?_
  with_reducible refine (victim_Better.calls _ _ _ _ _ _ _ _ _ _ ac _ Hac.out).mono ?_
  rintro e w6 ⟨rfl, hb⟩
  refine ⟨_, rfl, ?_⟩
  have HB_ := Aside0.mk (below_step HB.out hb)
  clear HB
  have HB := HB_
  clear HB_
  have HXga_ := Aside0.mk (blk_below HXga.out hb)
  clear HXga
  have HXga := HXga_
  clear HXga_
  have HXgb_ := Aside0.mk (blk_below HXgb.out hb)
  clear HXgb
  have HXgb := HXgb_
  clear HXgb_
  have HXgc_ := Aside0.mk (blk_below HXgc.out hb)
  clear HXgc
  have HXgc := HXgc_
  clear HXgc_
  clear hb
  refine hK.out _ _ ⟨((blk_cell HXga.out 0).trans rfl), ((blk_cell HXga.out 1).trans rfl), ((blk_cell HXga.out 2).trans rfl), ((blk_cell HXga.out 3).trans rfl), ((blk_cell HXga.out 4).trans rfl), ((blk_cell HXgb.out 0).trans rfl), ((blk_cell HXgb.out 1).trans rfl), ((blk_cell HXgb.out 2).trans rfl), ((blk_cell HXgb.out 3).trans rfl), ((blk_cell HXgb.out 4).trans rfl), ((blk_cell HXgc.out 0).trans rfl), ((blk_cell HXgc.out 1).trans rfl), ((blk_cell HXgc.out 2).trans rfl), ((blk_cell HXgc.out 3).trans rfl), ((blk_cell HXgc.out 4).trans rfl)⟩ (fun hHeld => ?_)
  clear hK K
  refine norm_ (a' := ?_) ?_ ?_
  rotate_left
  · show Act.put _ (some 27) _ = _
    simp only [Act.put, List.setIfInBounds_toArray, List.set_cons_zero, List.set_cons_succ, i64_w, i32_w]
    rfl
  refine one_ (i := 17) (N := some 30) #[true, true, true, true, true, true, true, true, true, true, true, true, true, true, true, true, true, true, false, false, false, false, false, false] rfl rfl (one_of HT_.out (by kernel_rfl)) (by decide) (fun K hK => ?_)
  refine goes_ Try.func10 (by kernel_rfl) rfl #[.agg #[.int .i64 c.f0, .int .i64 c.f1, .int .i64 c.f2, .int .i64 c.f3, .int .u64 c.f4], .agg #[.int .i64 a.f0, .int .i64 a.f1, .int .i64 a.f2, .int .i64 a.f3, .int .u64 a.f4]] (by rfl) rfl rfl (by simp only [List.map_toArray, List.map_cons, List.map_nil]; rfl) ?_
  with_reducible refine (victim_Better.calls _ _ _ _ _ _ _ _ _ _ ca _ Hca.out).mono ?_
  rintro e w7 ⟨rfl, hb⟩
  refine ⟨_, rfl, ?_⟩
  have HB_ := Aside0.mk (below_step HB.out hb)
  clear HB
  have HB := HB_
  clear HB_
  have HXga_ := Aside0.mk (blk_below HXga.out hb)
  clear HXga
  have HXga := HXga_
  clear HXga_
  have HXgb_ := Aside0.mk (blk_below HXgb.out hb)
  clear HXgb
  have HXgb := HXgb_
  clear HXgb_
  have HXgc_ := Aside0.mk (blk_below HXgc.out hb)
  clear HXgc
  have HXgc := HXgc_
  clear HXgc_
  clear hb
  refine hK.out _ _ ⟨((blk_cell HXga.out 0).trans rfl), ((blk_cell HXga.out 1).trans rfl), ((blk_cell HXga.out 2).trans rfl), ((blk_cell HXga.out 3).trans rfl), ((blk_cell HXga.out 4).trans rfl), ((blk_cell HXgb.out 0).trans rfl), ((blk_cell HXgb.out 1).trans rfl), ((blk_cell HXgb.out 2).trans rfl), ((blk_cell HXgb.out 3).trans rfl), ((blk_cell HXgb.out 4).trans rfl), ((blk_cell HXgc.out 0).trans rfl), ((blk_cell HXgc.out 1).trans rfl), ((blk_cell HXgc.out 2).trans rfl), ((blk_cell HXgc.out 3).trans rfl), ((blk_cell HXgc.out 4).trans rfl)⟩ (fun hHeld => ?_)
  clear hK K
  refine norm_ (a' := ?_) ?_ ?_
  rotate_left
  · show Act.put _ (some 30) _ = _
    simp only [Act.put, List.setIfInBounds_toArray, List.set_cons_zero, List.set_cons_succ, i64_w, i32_w]
    rfl
  refine pure_ (i := 18) (N := some 7) (v := ?_) (a' := ?_) #[true, true, true, true, true, true, true, true, true, true, true, true, true, true, true, true, true, true, true, false, false, false, false, false] rfl rfl (any_of HT_.out (by kernel_rfl)) (fun _ _ _ h => h) (Or.inl ⟨by rfl, ?_⟩) ?_ ?_
  rotate_left
  · intro w'
    go_simp
    with_reducible rfl
  rotate_left
  · simp only [Act.put, List.setIfInBounds_toArray, List.set_cons_zero, List.set_cons_succ, i64_w, i32_w]
    rfl
  refine pure_ (i := 19) (N := some 8) (v := ?_) (a' := ?_) #[true, true, true, true, true, true, true, true, true, true, true, true, true, true, true, true, true, true, true, true, false, false, false, false] rfl rfl (any_of HT_.out (by kernel_rfl)) (fun _ _ _ h => h) (Or.inl ⟨by rfl, ?_⟩) ?_ ?_
  rotate_left
  · intro w'
    go_simp
    with_reducible rfl
  rotate_left
  · simp only [Act.put, List.setIfInBounds_toArray, List.set_cons_zero, List.set_cons_succ, i64_w, i32_w]
    rfl
  refine pure_ (i := 20) (N := some 9) (v := ?_) (a' := ?_) #[true, true, true, true, true, true, true, true, true, true, true, true, true, true, true, true, true, true, true, true, true, false, false, false] rfl rfl (any_of HT_.out (by kernel_rfl)) (fun _ _ _ h => h) (Or.inl ⟨by rfl, ?_⟩) ?_ ?_
  rotate_left
  · intro w'
    go_simp
    with_reducible rfl
  rotate_left
  · simp only [Act.put, List.setIfInBounds_toArray, List.set_cons_zero, List.set_cons_succ, i64_w, i32_w]
    rfl
  refine pure_ (i := 21) (N := some 10) (v := ?_) (a' := ?_) #[true, true, true, true, true, true, true, true, true, true, true, true, true, true, true, true, true, true, true, true, true, true, false, false] rfl rfl (any_of HT_.out (by kernel_rfl)) (fun _ _ _ h => h) (Or.inl ⟨by rfl, ?_⟩) ?_ ?_
  rotate_left
  · intro w'
    go_simp
    with_reducible rfl
  rotate_left
  · simp only [Act.put, List.setIfInBounds_toArray, List.set_cons_zero, List.set_cons_succ, i64_w, i32_w]
    rfl
  refine pure_ (i := 22) (N := some 11) (v := ?_) (a' := ?_) #[true, true, true, true, true, true, true, true, true, true, true, true, true, true, true, true, true, true, true, true, true, true, true, false] rfl rfl (any_of HT_.out (by kernel_rfl)) (fun _ _ _ h => h) (Or.inl ⟨by rfl, ?_⟩) ?_ ?_
  rotate_left
  · intro w'
    go_simp
    with_reducible rfl
  rotate_left
  · simp only [Act.put, List.setIfInBounds_toArray, List.set_cons_zero, List.set_cons_succ, i64_w, i32_w]
    rfl
  refine pure_ (i := 23) (N := some 12) (v := ?_) (a' := ?_) #[true, true, true, true, true, true, true, true, true, true, true, true, true, true, true, true, true, true, true, true, true, true, true, true] rfl rfl (any_of HT_.out (by kernel_rfl)) (fun _ _ _ h => h) (Or.inl ⟨by rfl, ?_⟩) ?_ ?_
  rotate_left
  · intro w'
    go_simp
    with_reducible rfl
  rotate_left
  · simp only [Act.put, List.setIfInBounds_toArray, List.set_cons_zero, List.set_cons_succ, i64_w, i32_w]
    rfl
  refine done_ (done_of HT_.out (by kernel_rfl)) ?_

  clear HT_ HW_ hHeld
  clear Hab Hba Hbc Hcb Hac Hca
  have hlaw := HLAW.out
  clear HLAW
  cases ab <;> cases ba <;> cases bc <;> cases cb <;> cases ac <;> cases ca <;> first | (exfalso; revert hlaw; decide) | (clear hlaw; skip)
  all_goals
    have hz_ga0 : w7.cell? ⟨ga, 0, none⟩ = some (.int .i64 a.f0) := (blk_cell HXga.out 0).trans rfl
    have hz_ga1 : w7.cell? ⟨ga, 1, none⟩ = some (.int .i64 a.f1) := (blk_cell HXga.out 1).trans rfl
    have hz_ga2 : w7.cell? ⟨ga, 2, none⟩ = some (.int .i64 a.f2) := (blk_cell HXga.out 2).trans rfl
    have hz_ga3 : w7.cell? ⟨ga, 3, none⟩ = some (.int .i64 a.f3) := (blk_cell HXga.out 3).trans rfl
    have hz_ga4 : w7.cell? ⟨ga, 4, none⟩ = some (.int .u64 a.f4) := (blk_cell HXga.out 4).trans rfl
    have hz_gb0 : w7.cell? ⟨gb, 0, none⟩ = some (.int .i64 b.f0) := (blk_cell HXgb.out 0).trans rfl
    have hz_gb1 : w7.cell? ⟨gb, 1, none⟩ = some (.int .i64 b.f1) := (blk_cell HXgb.out 1).trans rfl
    have hz_gb2 : w7.cell? ⟨gb, 2, none⟩ = some (.int .i64 b.f2) := (blk_cell HXgb.out 2).trans rfl
    have hz_gb3 : w7.cell? ⟨gb, 3, none⟩ = some (.int .i64 b.f3) := (blk_cell HXgb.out 3).trans rfl
    have hz_gb4 : w7.cell? ⟨gb, 4, none⟩ = some (.int .u64 b.f4) := (blk_cell HXgb.out 4).trans rfl
    have hz_gc0 : w7.cell? ⟨gc, 0, none⟩ = some (.int .i64 c.f0) := (blk_cell HXgc.out 0).trans rfl
    have hz_gc1 : w7.cell? ⟨gc, 1, none⟩ = some (.int .i64 c.f1) := (blk_cell HXgc.out 1).trans rfl
    have hz_gc2 : w7.cell? ⟨gc, 2, none⟩ = some (.int .i64 c.f2) := (blk_cell HXgc.out 2).trans rfl
    have hz_gc3 : w7.cell? ⟨gc, 3, none⟩ = some (.int .i64 c.f3) := (blk_cell HXgc.out 3).trans rfl
    have hz_gc4 : w7.cell? ⟨gc, 4, none⟩ = some (.int .u64 c.f4) := (blk_cell HXgc.out 4).trans rfl
    go_wp2_with fail
    clear hz_ga0 hz_ga1 hz_ga2 hz_ga3 hz_ga4 hz_gb0 hz_gb1 hz_gb2 hz_gb3 hz_gb4 hz_gc0 hz_gc1 hz_gc2 hz_gc3 hz_gc4
    refine (victim_Better.calls _ _ _ _ _ _ _ _ _ _ false _ Haa.out).mono ?_
    rintro e w8 ⟨rfl, hb⟩
    have HB_ := Aside0.mk (below_step HB.out hb)
    clear HB
    have HB := HB_
    clear HB_
    have HXga_ := Aside0.mk (blk_below HXga.out hb)
    clear HXga
    have HXga := HXga_
    clear HXga_
    have HXgb_ := Aside0.mk (blk_below HXgb.out hb)
    clear HXgb
    have HXgb := HXgb_
    clear HXgb_
    have HXgc_ := Aside0.mk (blk_below HXgc.out hb)
    clear HXgc
    have HXgc := HXgc_
    clear HXgc_
    clear hb
    go_wp2_with fail
    refine (lodgerlaw14_fixed.calls true _ rfl).mono ?_
    rintro e w9 ⟨rfl, hb⟩
    have HB_ := Aside0.mk (below_step HB.out hb)
    clear HB
    have HB := HB_
    clear HB_
    clear hb
    go_wp2
    go_ret
    exact ⟨rfl, HB.out⟩
theorem order_plain (a b c : S25) : orderB (bet a b) (bet b a) (bet b c) (bet c b) (bet a c) (bet c a) = true := by
  have h1 := @nb_trans a b c; have h2 := @nb_trans c b a; have h3 := @nb_trans a c b; have h4 := @nb_trans b a c; have h5 := @nb_trans b c a; have h6 := @nb_trans c a b
  have t1 := nb_total a b; have t2 := nb_total b c; have t3 := nb_total a c
  revert h1 h2 h3 h4 h5 h6 t1 t2 t3
  generalize bet a b = ab; generalize bet b a = ba; generalize bet b c = bc; generalize bet c b = cb; generalize bet a c = ac; generalize bet c a = ca
  cases ab <;> cases ba <;> cases bc <;> cases cb <;> cases ac <;> cases ca <;> simp [orderB]
theorem VictimOrder_walk (a : S25) (_ : Op.G25 a) (b : S25) (_ : Op.G25 b) (c : S25) (_ : Op.G25 c) (w : World) : Calls Try.prog 4 #[.agg #[.int .i64 a.f0, .int .i64 a.f1, .int .i64 a.f2, .int .i64 a.f3, .int .u64 a.f4], .agg #[.int .i64 b.f0, .int .i64 b.f1, .int .i64 b.f2, .int .i64 b.f3, .int .u64 b.f4], .agg #[.int .i64 c.f0, .int .i64 c.f1, .int .i64 c.f2, .int .i64 c.f3, .int .u64 c.f4]] w fun e w' => e = .returned (.bool true) ∧ Below w.heap.size w w' :=
  order_walk a b c _ _ _ _ _ _ w (bet_some a b) (bet_some b a) (bet_some b c) (bet_some c b) (bet_some a c) (bet_some c a) ((bet_some a a).trans (congrArg some (bet_irr a))) (order_plain a b c)
end Go.Proofs.Ytbcjdendpdnknaa.H
