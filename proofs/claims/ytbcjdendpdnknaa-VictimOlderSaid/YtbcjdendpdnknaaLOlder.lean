/-
The walk of VictimOlder, and the plain law behind it.
-/
import Derived.Test.YtbcjdendpdnknaaHx
import Derived.Test.YtbcjdendpdnknaaBet
import Derived.Test.YtbcjdendpdnknaaArgs
namespace Go.Proofs.Ytbcjdendpdnknaa.H
open Go.RowKit Go.Proofs.YtbcjdendpdnknaaW.PrintWords Go.Proofs.YtbcjdendpdnknaaW.PrintLast Go.Proofs.YtbcjdendpdnknaaW.PrintMore
attribute [local go_sem] max2_int min2_int max_two min_two max_three min_three max_four min_four
set_option linter.unusedVariables false
set_option linter.unusedSimpArgs false
def law_older.T1 : Bool × List (List Nat × List Nat) := (true, [([], []), ([], []), ([], []), ([], []), ([2, 0, 0, 2, 3], [0, 2]), ([3, 1, 4, 0, 1, 2, 3, 4], [1, 3])])
def law_older.B1 : List Nat := [0, 0, 0, 0, 13, 31]
theorem law_older.tab1 : rtab .any (opsOf Try.f5 1) = law_older.T1 := by kernel_rfl
theorem law_older.bits1 : waitsOk law_older.T1.2 law_older.B1 = true := by kernel_rfl
set_option maxHeartbeats 8000000 in
set_option maxRecDepth 100000 in
theorem VictimOlder_walk (a : S25) (_ : Op.G25 a) (age : Int) (_ : (Lit.int .u64 age).wf = true) (live : Int) (_ : (Lit.int .i64 live).wf = true) (w : World) :
    Calls Try.prog 5 #[.agg #[.int .i64 a.f0, .int .i64 a.f1, .int .i64 a.f2, .int .i64 a.f3, .int .u64 a.f4], .int .u64 age, .int .i64 live] w fun e w' => e = .returned (.bool true) ∧ Below w.heap.size w w' := by
  go_enter Try.func5, Try.ntmps5
  go_wp2_with fail
  obtain ⟨W1, hW1⟩ : ∃ W1, W1 = w.alloc (.cells #[.int .i64 a.f0, .int .i64 a.f1, .int .i64 a.f2, .int .i64 a.f3, .int .u64 a.f4] 25) := ⟨_, rfl⟩
  rw [← hW1]
  obtain ⟨ga, hga⟩ : ∃ g, g = w.heap.size := ⟨_, rfl⟩
  have HXga : Aside0 (W1.heap[ga]? = some (.cells #[.int .i64 a.f0, .int .i64 a.f1, .int .i64 a.f2, .int .i64 a.f3, .int .u64 a.f4] 25 (0, 0))) := ⟨by rw [hW1, hga]; exact blk_at rfl⟩
  have HB : Aside0 (Below w.heap.size w W1) := ⟨by rw [hW1]; exact below_alloc (Below.refl _ _) _⟩
  rw [← hga]
  clear hW1 hga
  refine start_ (n := 6) (S := fun w' => w'.cell? ⟨ga, 0, none⟩ = some (.int .i64 a.f0) ∧ w'.cell? ⟨ga, 1, none⟩ = some (.int .i64 a.f1) ∧ w'.cell? ⟨ga, 2, none⟩ = some (.int .i64 a.f2) ∧ w'.cell? ⟨ga, 3, none⟩ = some (.int .i64 a.f3) ∧ w'.cell? ⟨ga, 4, none⟩ = some (.int .u64 a.f4)) (ds := []) #[false, false, false, false, false, false] (by kernel_rfl) rfl rfl ⟨((blk_cell (blk_drew HXga.out) 0).trans rfl), ((blk_cell (blk_drew HXga.out) 1).trans rfl), ((blk_cell (blk_drew HXga.out) 2).trans rfl), ((blk_cell (blk_drew HXga.out) 3).trans rfl), ((blk_cell (blk_drew HXga.out) 4).trans rfl)⟩ (fun hHeld => ?_)
  refine with_tabW law_older.tab1 law_older.bits1 (fun HT_ HW_ => ?_)
  have HB_ := Aside0.mk (below_drew HB.out)
  clear HB
  have HB := HB_
  clear HB_
  have HXga_ := Aside0.mk (blk_drew HXga.out)
  clear HXga
  have HXga := HXga_
  clear HXga_
  generalize W1.drew = w1 at *
  refine take_ (i := 0) (N := some 9) (v := ?_) (a' := ?_) #[true, false, false, false, false, false] rfl rfl (take_ofW HT_.out HW_.out (by kernel_rfl)) (fun _ _ _ h => h) (Or.inl ⟨by rfl, ?_⟩) hHeld ?_ ?_
  rotate_left
  · rintro w' ⟨s0, s1, s2, s3, s4⟩
    go_simp
    with_reducible rfl
  rotate_left
  · simp only [Act.put, List.setIfInBounds_toArray, List.set_cons_zero, List.set_cons_succ, i64_w, i32_w]
    rfl
  refine take_ (i := 1) (N := some 10) (v := ?_) (a' := ?_) #[true, true, false, false, false, false] rfl rfl (take_ofW HT_.out HW_.out (by kernel_rfl)) (fun _ _ _ h => h) (Or.inl ⟨by rfl, ?_⟩) hHeld ?_ ?_
  rotate_left
  · rintro w' ⟨s0, s1, s2, s3, s4⟩
    go_simp
    with_reducible rfl
  rotate_left
  · simp only [Act.put, List.setIfInBounds_toArray, List.set_cons_zero, List.set_cons_succ, i64_w, i32_w]
    rfl
  refine join_ (σ := Nat × Nat) 2 #[true, true, true, true, false, false] (fun s => [(7, .pointer (some ⟨s.1, 0, none⟩)), (8, .pointer (some ⟨s.2, 0, none⟩))]) (fun s w' => w'.heap[s.1]? = some (.cells #[.int .i64 0, .int .i64 0, .int .i64 0, .int .i64 0, .int .u64 0] 25 (0, 0)) ∧ w'.heap[s.2]? = some (.cells #[.int .i64 0, .int .i64 0, .int .i64 0, .int .i64 0, .int .u64 0] 25 (0, 0)) ∧ s.1 ≠ s.2 ∧ ga ≠ s.1 ∧ ga ≠ s.2 ∧ w'.heap[ga]? = some (.cells #[.int .i64 a.f0, .int .i64 a.f1, .int .i64 a.f2, .int .i64 a.f3, .int .u64 a.f4] 25 (0, 0)) ∧ Below w.heap.size w w' ∧ w.heap.size ≤ s.1 ∧ w.heap.size ≤ s.2) ?_ ?_
  rotate_left
  · intro hCont
    refine two_ (i := 2) (j := 3) (Ni := some 7) (Nj := some 8) #[true, true, true, false, false, false] #[true, true, false, true, false, false] rfl rfl rfl rfl (two_of HT_.out (by kernel_rfl)) (by decide) (by decide) (fun K hK => ?_) (fun K hK => ?_)
    · skip
      refine value_ (w1 := ?_) (v := ?_) (by rfl) rfl ?_ ?_
      rotate_left 2
      · go_simp
        constructor
        · rfl
        · rfl
      refine hK.out _ _ ⟨((blk_cell (blk_alloc HXga.out (.cells #[.int .i64 0, .int .i64 0, .int .i64 0, .int .i64 0, .int .u64 0] 25)) 0).trans rfl), ((blk_cell (blk_alloc HXga.out (.cells #[.int .i64 0, .int .i64 0, .int .i64 0, .int .i64 0, .int .u64 0] 25)) 1).trans rfl), ((blk_cell (blk_alloc HXga.out (.cells #[.int .i64 0, .int .i64 0, .int .i64 0, .int .i64 0, .int .u64 0] 25)) 2).trans rfl), ((blk_cell (blk_alloc HXga.out (.cells #[.int .i64 0, .int .i64 0, .int .i64 0, .int .i64 0, .int .u64 0] 25)) 3).trans rfl), ((blk_cell (blk_alloc HXga.out (.cells #[.int .i64 0, .int .i64 0, .int .i64 0, .int .i64 0, .int .u64 0] 25)) 4).trans rfl)⟩ (fun hHeld => ?_)
      clear hK K
      refine norm_ (a' := ?_) ?_ ?_
      rotate_left
      · show Act.put _ (some 7) _ = _
        simp only [Act.put, List.setIfInBounds_toArray, List.set_cons_zero, List.set_cons_succ, i64_w, i32_w]
        rfl
      refine one_ (i := 3) (N := some 8) #[true, true, true, true, false, false] rfl rfl (one_of HT_.out (by kernel_rfl)) (by decide) (fun K hK => ?_)
      refine value_ (w1 := ?_) (v := ?_) (by rfl) rfl ?_ ?_
      rotate_left 2
      · go_simp
        constructor
        · rfl
        · rfl
      refine hK.out _ _ ⟨((blk_cell (blk_alloc (blk_alloc HXga.out (.cells #[.int .i64 0, .int .i64 0, .int .i64 0, .int .i64 0, .int .u64 0] 25)) (.cells #[.int .i64 0, .int .i64 0, .int .i64 0, .int .i64 0, .int .u64 0] 25)) 0).trans rfl), ((blk_cell (blk_alloc (blk_alloc HXga.out (.cells #[.int .i64 0, .int .i64 0, .int .i64 0, .int .i64 0, .int .u64 0] 25)) (.cells #[.int .i64 0, .int .i64 0, .int .i64 0, .int .i64 0, .int .u64 0] 25)) 1).trans rfl), ((blk_cell (blk_alloc (blk_alloc HXga.out (.cells #[.int .i64 0, .int .i64 0, .int .i64 0, .int .i64 0, .int .u64 0] 25)) (.cells #[.int .i64 0, .int .i64 0, .int .i64 0, .int .i64 0, .int .u64 0] 25)) 2).trans rfl), ((blk_cell (blk_alloc (blk_alloc HXga.out (.cells #[.int .i64 0, .int .i64 0, .int .i64 0, .int .i64 0, .int .u64 0] 25)) (.cells #[.int .i64 0, .int .i64 0, .int .i64 0, .int .i64 0, .int .u64 0] 25)) 3).trans rfl), ((blk_cell (blk_alloc (blk_alloc HXga.out (.cells #[.int .i64 0, .int .i64 0, .int .i64 0, .int .i64 0, .int .u64 0] 25)) (.cells #[.int .i64 0, .int .i64 0, .int .i64 0, .int .i64 0, .int .u64 0] 25)) 4).trans rfl)⟩ (fun hHeld => ?_)
      clear hK K
      refine norm_ (a' := ?_) ?_ ?_
      rotate_left
      · show Act.put _ (some 8) _ = _
        simp only [Act.put, List.setIfInBounds_toArray, List.set_cons_zero, List.set_cons_succ, i64_w, i32_w]
        rfl
      exact norm_ (by simp only [putAll, Act.put, List.setIfInBounds_toArray, List.set_cons_zero, List.set_cons_succ]) (hCont (w1.heap.size, w1.heap.size + 1) _ ⟨(blk_alloc (blk_at rfl) _), (blk_at (by simp)), by simp, by have := blk_lt HXga.out; simp; omega, by have := blk_lt HXga.out; simp; omega, blk_alloc (blk_alloc HXga.out _) _, below_alloc (below_alloc HB.out _) _, by have := HB.out.size; simp; omega, by have := HB.out.size; simp; omega⟩)
    · skip
      refine value_ (w1 := ?_) (v := ?_) (by rfl) rfl ?_ ?_
      rotate_left 2
      · go_simp
        constructor
        · rfl
        · rfl
      refine hK.out _ _ ⟨((blk_cell (blk_alloc HXga.out (.cells #[.int .i64 0, .int .i64 0, .int .i64 0, .int .i64 0, .int .u64 0] 25)) 0).trans rfl), ((blk_cell (blk_alloc HXga.out (.cells #[.int .i64 0, .int .i64 0, .int .i64 0, .int .i64 0, .int .u64 0] 25)) 1).trans rfl), ((blk_cell (blk_alloc HXga.out (.cells #[.int .i64 0, .int .i64 0, .int .i64 0, .int .i64 0, .int .u64 0] 25)) 2).trans rfl), ((blk_cell (blk_alloc HXga.out (.cells #[.int .i64 0, .int .i64 0, .int .i64 0, .int .i64 0, .int .u64 0] 25)) 3).trans rfl), ((blk_cell (blk_alloc HXga.out (.cells #[.int .i64 0, .int .i64 0, .int .i64 0, .int .i64 0, .int .u64 0] 25)) 4).trans rfl)⟩ (fun hHeld => ?_)
      clear hK K
      refine norm_ (a' := ?_) ?_ ?_
      rotate_left
      · show Act.put _ (some 8) _ = _
        simp only [Act.put, List.setIfInBounds_toArray, List.set_cons_zero, List.set_cons_succ, i64_w, i32_w]
        rfl
      refine one_ (i := 2) (N := some 7) #[true, true, true, true, false, false] rfl rfl (one_of HT_.out (by kernel_rfl)) (by decide) (fun K hK => ?_)
      refine value_ (w1 := ?_) (v := ?_) (by rfl) rfl ?_ ?_
      rotate_left 2
      · go_simp
        constructor
        · rfl
        · rfl
      refine hK.out _ _ ⟨((blk_cell (blk_alloc (blk_alloc HXga.out (.cells #[.int .i64 0, .int .i64 0, .int .i64 0, .int .i64 0, .int .u64 0] 25)) (.cells #[.int .i64 0, .int .i64 0, .int .i64 0, .int .i64 0, .int .u64 0] 25)) 0).trans rfl), ((blk_cell (blk_alloc (blk_alloc HXga.out (.cells #[.int .i64 0, .int .i64 0, .int .i64 0, .int .i64 0, .int .u64 0] 25)) (.cells #[.int .i64 0, .int .i64 0, .int .i64 0, .int .i64 0, .int .u64 0] 25)) 1).trans rfl), ((blk_cell (blk_alloc (blk_alloc HXga.out (.cells #[.int .i64 0, .int .i64 0, .int .i64 0, .int .i64 0, .int .u64 0] 25)) (.cells #[.int .i64 0, .int .i64 0, .int .i64 0, .int .i64 0, .int .u64 0] 25)) 2).trans rfl), ((blk_cell (blk_alloc (blk_alloc HXga.out (.cells #[.int .i64 0, .int .i64 0, .int .i64 0, .int .i64 0, .int .u64 0] 25)) (.cells #[.int .i64 0, .int .i64 0, .int .i64 0, .int .i64 0, .int .u64 0] 25)) 3).trans rfl), ((blk_cell (blk_alloc (blk_alloc HXga.out (.cells #[.int .i64 0, .int .i64 0, .int .i64 0, .int .i64 0, .int .u64 0] 25)) (.cells #[.int .i64 0, .int .i64 0, .int .i64 0, .int .i64 0, .int .u64 0] 25)) 4).trans rfl)⟩ (fun hHeld => ?_)
      clear hK K
      refine norm_ (a' := ?_) ?_ ?_
      rotate_left
      · show Act.put _ (some 7) _ = _
        simp only [Act.put, List.setIfInBounds_toArray, List.set_cons_zero, List.set_cons_succ, i64_w, i32_w]
        rfl
      exact norm_ (by simp only [putAll, Act.put, List.setIfInBounds_toArray, List.set_cons_zero, List.set_cons_succ]) (hCont (w1.heap.size + 1, w1.heap.size) _ ⟨(blk_at (by simp)), (blk_alloc (blk_at rfl) _), by simp, by have := blk_lt HXga.out; simp; omega, by have := blk_lt HXga.out; simp; omega, blk_alloc (blk_alloc HXga.out _) _, below_alloc (below_alloc HB.out _) _, by have := HB.out.size; simp; omega, by have := HB.out.size; simp; omega⟩)
  rintro ⟨g7, g8⟩ w2 ⟨h7, h8, hne, hn7, hn8, ha, hb, hl7, hl8⟩
  dsimp only at h7 h8 hne hn7 hn8 hl7 hl8
  clear HXga HB
  have HXg7 := Aside0.mk h7
  have HXg8 := Aside0.mk h8
  have HNE := Aside0.mk hne
  have HN7 := Aside0.mk hn7
  have HN8 := Aside0.mk hn8
  have HXga := Aside0.mk ha
  have HB := Aside0.mk hb
  have HL7 := Aside0.mk hl7
  have HL8 := Aside0.mk hl8
  clear h7 h8 hne hn7 hn8 ha hb hl7 hl8
  have hHeld : (fun w' => w'.cell? ⟨ga, 0, none⟩ = some (.int .i64 a.f0) ∧ w'.cell? ⟨ga, 1, none⟩ = some (.int .i64 a.f1) ∧ w'.cell? ⟨ga, 2, none⟩ = some (.int .i64 a.f2) ∧ w'.cell? ⟨ga, 3, none⟩ = some (.int .i64 a.f3) ∧ w'.cell? ⟨ga, 4, none⟩ = some (.int .u64 a.f4)) w2 := ⟨((blk_cell HXga.out 0).trans rfl), ((blk_cell HXga.out 1).trans rfl), ((blk_cell HXga.out 2).trans rfl), ((blk_cell HXga.out 3).trans rfl), ((blk_cell HXga.out 4).trans rfl)⟩
  refine norm_ (a' := ?_) ?_ ?_
  rotate_left
  · simp only [putAll, Act.put, List.setIfInBounds_toArray, List.set_cons_zero, List.set_cons_succ]
    rfl
  refine one_ (i := 4) (N := none) #[true, true, true, true, true, false] rfl rfl (one_of HT_.out (by kernel_rfl)) (by decide) (fun K hK => ?_)
  have zc0 := (blk_cell HXg7.out 0).trans rfl
  have zc1 := (blk_cell HXg7.out 1).trans rfl
  have zc2 := (blk_cell HXg7.out 2).trans rfl
  have zc3 := (blk_cell HXg7.out 3).trans rfl
  have zc4 := (blk_cell HXg7.out 4).trans rfl
  have zf0 := blk_frozen HXg7.out 0
  have zf1 := blk_frozen HXg7.out 1
  have zf2 := blk_frozen HXg7.out 2
  have zf3 := blk_frozen HXg7.out 3
  have zf4 := blk_frozen HXg7.out 4
  refine skip_ (w1 := ?_) (by rfl) rfl ?_ ?_
  rotate_left
  · go_simp
    rfl
  clear zc0 zf0 zc1 zf1 zc2 zf2 zc3 zf3 zc4 zf4
  have HXn := (blk_set (blk_set (blk_set (blk_set (blk_set HXg7.out 0 (.int .i64 a.f0)) 1 (.int .i64 a.f1)) 2 (.int .i64 a.f2)) 3 (.int .i64 a.f3)) 4 (.int .u64 a.f4))
  simp only [List.setIfInBounds_toArray, List.set_cons_zero, List.set_cons_succ] at HXn
  have HXo := Aside0.mk (blk_far (blk_far (blk_far (blk_far (blk_far HXg8.out (p := ⟨g7, 0, none⟩) (Ne.symm HNE.out) (.int .i64 a.f0)) (p := ⟨g7, 1, none⟩) (Ne.symm HNE.out) (.int .i64 a.f1)) (p := ⟨g7, 2, none⟩) (Ne.symm HNE.out) (.int .i64 a.f2)) (p := ⟨g7, 3, none⟩) (Ne.symm HNE.out) (.int .i64 a.f3)) (p := ⟨g7, 4, none⟩) (Ne.symm HNE.out) (.int .u64 a.f4))
  have HXa := Aside0.mk (blk_far (blk_far (blk_far (blk_far (blk_far HXga.out (p := ⟨g7, 0, none⟩) HN7.out (.int .i64 a.f0)) (p := ⟨g7, 1, none⟩) HN7.out (.int .i64 a.f1)) (p := ⟨g7, 2, none⟩) HN7.out (.int .i64 a.f2)) (p := ⟨g7, 3, none⟩) HN7.out (.int .i64 a.f3)) (p := ⟨g7, 4, none⟩) HN7.out (.int .u64 a.f4))
  have HBn := Aside0.mk (below_set (g := g7) (j := 4) (v := .int .u64 a.f4) (below_set (g := g7) (j := 3) (v := .int .i64 a.f3) (below_set (g := g7) (j := 2) (v := .int .i64 a.f2) (below_set (g := g7) (j := 1) (v := .int .i64 a.f1) (below_set (g := g7) (j := 0) (v := .int .i64 a.f0) HB.out HL7.out) HL7.out) HL7.out) HL7.out) HL7.out)
  clear HXg7 HXg8 HXga HB
  have HXg7 := Aside0.mk HXn
  have HXg8 := HXo
  have HXga := HXa
  have HB := HBn
  clear HXn HXo HXa HBn
  refine hK.out _ _ ⟨((blk_cell HXga.out 0).trans rfl), ((blk_cell HXga.out 1).trans rfl), ((blk_cell HXga.out 2).trans rfl), ((blk_cell HXga.out 3).trans rfl), ((blk_cell HXga.out 4).trans rfl)⟩ (fun hHeld => ?_)
  clear hK K
  refine one_ (i := 5) (N := none) #[true, true, true, true, true, true] rfl rfl (one_of HT_.out (by kernel_rfl)) (by decide) (fun K hK => ?_)
  have zc0 := (blk_cell HXg8.out 0).trans rfl
  have zc1 := (blk_cell HXg8.out 1).trans rfl
  have zc2 := (blk_cell HXg8.out 2).trans rfl
  have zc3 := (blk_cell HXg8.out 3).trans rfl
  have zc4 := (blk_cell HXg8.out 4).trans rfl
  have zf0 := blk_frozen HXg8.out 0
  have zf1 := blk_frozen HXg8.out 1
  have zf2 := blk_frozen HXg8.out 2
  have zf3 := blk_frozen HXg8.out 3
  have zf4 := blk_frozen HXg8.out 4
  refine skip_ (w1 := ?_) (by rfl) rfl ?_ ?_
  rotate_left
  · go_simp
    rfl
  clear zc0 zf0 zc1 zf1 zc2 zf2 zc3 zf3 zc4 zf4
  have HXn := (blk_set (blk_set (blk_set (blk_set (blk_set HXg8.out 0 (.int .i64 a.f0)) 1 (.int .i64 a.f1)) 2 (.int .i64 a.f2)) 3 (.int .i64 a.f3)) 4 (.int .u64 a.f4))
  simp only [List.setIfInBounds_toArray, List.set_cons_zero, List.set_cons_succ] at HXn
  have HXo := Aside0.mk (blk_far (blk_far (blk_far (blk_far (blk_far HXg7.out (p := ⟨g8, 0, none⟩) HNE.out (.int .i64 a.f0)) (p := ⟨g8, 1, none⟩) HNE.out (.int .i64 a.f1)) (p := ⟨g8, 2, none⟩) HNE.out (.int .i64 a.f2)) (p := ⟨g8, 3, none⟩) HNE.out (.int .i64 a.f3)) (p := ⟨g8, 4, none⟩) HNE.out (.int .u64 a.f4))
  have HXa := Aside0.mk (blk_far (blk_far (blk_far (blk_far (blk_far HXga.out (p := ⟨g8, 0, none⟩) HN8.out (.int .i64 a.f0)) (p := ⟨g8, 1, none⟩) HN8.out (.int .i64 a.f1)) (p := ⟨g8, 2, none⟩) HN8.out (.int .i64 a.f2)) (p := ⟨g8, 3, none⟩) HN8.out (.int .i64 a.f3)) (p := ⟨g8, 4, none⟩) HN8.out (.int .u64 a.f4))
  have HBn := Aside0.mk (below_set (g := g8) (j := 4) (v := .int .u64 a.f4) (below_set (g := g8) (j := 3) (v := .int .i64 a.f3) (below_set (g := g8) (j := 2) (v := .int .i64 a.f2) (below_set (g := g8) (j := 1) (v := .int .i64 a.f1) (below_set (g := g8) (j := 0) (v := .int .i64 a.f0) HB.out HL8.out) HL8.out) HL8.out) HL8.out) HL8.out)
  clear HXg8 HXg7 HXga HB
  have HXg8 := Aside0.mk HXn
  have HXg7 := HXo
  have HXga := HXa
  have HB := HBn
  clear HXn HXo HXa HBn
  refine hK.out _ _ ⟨((blk_cell HXga.out 0).trans rfl), ((blk_cell HXga.out 1).trans rfl), ((blk_cell HXga.out 2).trans rfl), ((blk_cell HXga.out 3).trans rfl), ((blk_cell HXga.out 4).trans rfl)⟩ (fun hHeld => ?_)
  clear hK K
  refine done_ (done_of HT_.out (by kernel_rfl)) ?_

  clear HT_ HW_ hHeld
  obtain ⟨w3, hw3⟩ : ∃ x, x = ((((((((((w2.setCell ⟨g7, 0, none⟩ (.int .i64 a.f0)).setCell ⟨g7, 1, none⟩ (.int .i64 a.f1)).setCell ⟨g7, 2, none⟩ (.int .i64 a.f2)).setCell ⟨g7, 3, none⟩ (.int .i64 a.f3)).setCell ⟨g7, 4, none⟩ (.int .u64 a.f4)).setCell ⟨g8, 0, none⟩ (.int .i64 a.f0)).setCell ⟨g8, 1, none⟩ (.int .i64 a.f1)).setCell ⟨g8, 2, none⟩ (.int .i64 a.f2)).setCell ⟨g8, 3, none⟩ (.int .i64 a.f3)).setCell ⟨g8, 4, none⟩ (.int .u64 a.f4)) := ⟨_, rfl⟩
  rw [← hw3] at HXga HXg7 HXg8 HB ⊢
  clear hw3
  obtain ⟨ag, hag⟩ : ∃ j_ : Int, mx a.f4 age = j_ := ⟨_, rfl⟩
  have hag_ : (if a.f4 < age then age else a.f4) = ag := hag
  obtain ⟨lv, hlv⟩ : ∃ j_ : Int, mn a.f2 live = j_ := ⟨_, rfl⟩
  have hlv_ : (if live < a.f2 then live else a.f2) = lv := hlv
  have HAG := Aside0.mk hag
  have HLV := Aside0.mk hlv
  clear hag hlv
  have za4 : w3.cell? ⟨ga, 4, none⟩ = some (.int .u64 a.f4) := (blk_cell HXga.out 4).trans rfl
  have z74 : w3.cell? ⟨g7, 4, none⟩ = some (.int .u64 a.f4) := (blk_cell HXg7.out 4).trans rfl
  have zf74 := blk_frozen HXg7.out 4
  go_upto_region 3 with fail
  clear za4 z74 zf74
  obtain ⟨w4, hw4⟩ : ∃ x, x = w3.setCell ⟨g7, 4, none⟩ (.int .u64 ag) := ⟨_, rfl⟩
  rw [← hw4]
  have HXn := blk_set HXg7.out 4 (.int .u64 ag)
  simp only [List.setIfInBounds_toArray, List.set_cons_zero, List.set_cons_succ] at HXn
  have HXoga := blk_far HXga.out (p := ⟨g7, 4, none⟩) HN7.out (.int .u64 ag)
  have HXog8 := blk_far HXg8.out (p := ⟨g7, 4, none⟩) (Ne.symm HNE.out) (.int .u64 ag)
  have HBn := below_set (g := g7) (j := 4) (v := .int .u64 ag) HB.out HL7.out
  rw [← hw4] at HXn HBn HXoga HXog8
  clear hw4 HB HXg7 HXga HXg8
  have HXg7 := Aside0.mk HXn
  have HXga := Aside0.mk HXoga
  have HXg8 := Aside0.mk HXog8
  have HB := Aside0.mk HBn
  clear HXn HBn HXoga HXog8
  have za2 : w4.cell? ⟨ga, 2, none⟩ = some (.int .i64 a.f2) := (blk_cell HXga.out 2).trans rfl
  have z82 : w4.cell? ⟨g8, 2, none⟩ = some (.int .i64 a.f2) := (blk_cell HXg8.out 2).trans rfl
  have zf82 := blk_frozen HXg8.out 2
  go_upto_region 4 with fail
  clear za2 z82 zf82
  obtain ⟨w5, hw5⟩ : ∃ x, x = w4.setCell ⟨g8, 2, none⟩ (.int .i64 lv) := ⟨_, rfl⟩
  rw [← hw5]
  have HXn := blk_set HXg8.out 2 (.int .i64 lv)
  simp only [List.setIfInBounds_toArray, List.set_cons_zero, List.set_cons_succ] at HXn
  have HXoga := blk_far HXga.out (p := ⟨g8, 2, none⟩) HN8.out (.int .i64 lv)
  have HXog7 := blk_far HXg7.out (p := ⟨g8, 2, none⟩) HNE.out (.int .i64 lv)
  have HBn := below_set (g := g8) (j := 2) (v := .int .i64 lv) HB.out HL8.out
  rw [← hw5] at HXn HBn HXoga HXog7
  clear hw5 HB HXg8 HXga HXg7
  have HXg8 := Aside0.mk HXn
  have HXga := Aside0.mk HXoga
  have HXg7 := Aside0.mk HXog7
  have HB := Aside0.mk HBn
  clear HXn HBn HXoga HXog7
  clear hag_ hlv_
  have hz_ga0 : w5.cell? ⟨ga, 0, none⟩ = some (.int .i64 a.f0) := (blk_cell HXga.out 0).trans rfl
  have hz_ga1 : w5.cell? ⟨ga, 1, none⟩ = some (.int .i64 a.f1) := (blk_cell HXga.out 1).trans rfl
  have hz_ga2 : w5.cell? ⟨ga, 2, none⟩ = some (.int .i64 a.f2) := (blk_cell HXga.out 2).trans rfl
  have hz_ga3 : w5.cell? ⟨ga, 3, none⟩ = some (.int .i64 a.f3) := (blk_cell HXga.out 3).trans rfl
  have hz_ga4 : w5.cell? ⟨ga, 4, none⟩ = some (.int .u64 a.f4) := (blk_cell HXga.out 4).trans rfl
  have hz_g70 : w5.cell? ⟨g7, 0, none⟩ = some (.int .i64 a.f0) := (blk_cell HXg7.out 0).trans rfl
  have hz_g71 : w5.cell? ⟨g7, 1, none⟩ = some (.int .i64 a.f1) := (blk_cell HXg7.out 1).trans rfl
  have hz_g72 : w5.cell? ⟨g7, 2, none⟩ = some (.int .i64 a.f2) := (blk_cell HXg7.out 2).trans rfl
  have hz_g73 : w5.cell? ⟨g7, 3, none⟩ = some (.int .i64 a.f3) := (blk_cell HXg7.out 3).trans rfl
  have hz_g74 : w5.cell? ⟨g7, 4, none⟩ = some (.int .u64 ag) := (blk_cell HXg7.out 4).trans rfl
  have hz_g80 : w5.cell? ⟨g8, 0, none⟩ = some (.int .i64 a.f0) := (blk_cell HXg8.out 0).trans rfl
  have hz_g81 : w5.cell? ⟨g8, 1, none⟩ = some (.int .i64 a.f1) := (blk_cell HXg8.out 1).trans rfl
  have hz_g82 : w5.cell? ⟨g8, 2, none⟩ = some (.int .i64 lv) := (blk_cell HXg8.out 2).trans rfl
  have hz_g83 : w5.cell? ⟨g8, 3, none⟩ = some (.int .i64 a.f3) := (blk_cell HXg8.out 3).trans rfl
  have hz_g84 : w5.cell? ⟨g8, 4, none⟩ = some (.int .u64 a.f4) := (blk_cell HXg8.out 4).trans rfl
  go_wp2_with fail
  clear hz_ga0 hz_ga1 hz_ga2 hz_ga3 hz_ga4 hz_g70 hz_g71 hz_g72 hz_g73 hz_g74 hz_g80 hz_g81 hz_g82 hz_g83 hz_g84
  refine (victim_Better.calls _ _ _ _ _ _ _ _ _ _ false _ ((bet_some a ⟨a.f0, a.f1, a.f2, a.f3, ag⟩).trans (congrArg some (bet_older a ⟨a.f0, a.f1, a.f2, a.f3, ag⟩ rfl rfl (by rw [← HAG.out]; unfold mx; show a.f4 ≤ if a.f4 < age then age else a.f4; split <;> omega))))).mono ?_
  rintro e w6 ⟨rfl, hb⟩
  have HB_ := Aside0.mk (below_step HB.out hb)
  clear HB
  have HB := HB_
  clear HB_
  have HXga_ := Aside0.mk (blk_below HXga.out hb)
  clear HXga
  have HXga := HXga_
  clear HXga_
  have HXg7_ := Aside0.mk (blk_below HXg7.out hb)
  clear HXg7
  have HXg7 := HXg7_
  clear HXg7_
  have HXg8_ := Aside0.mk (blk_below HXg8.out hb)
  clear HXg8
  have HXg8 := HXg8_
  clear HXg8_
  clear hb
  have hz_ga0 : w6.cell? ⟨ga, 0, none⟩ = some (.int .i64 a.f0) := (blk_cell HXga.out 0).trans rfl
  have hz_ga1 : w6.cell? ⟨ga, 1, none⟩ = some (.int .i64 a.f1) := (blk_cell HXga.out 1).trans rfl
  have hz_ga2 : w6.cell? ⟨ga, 2, none⟩ = some (.int .i64 a.f2) := (blk_cell HXga.out 2).trans rfl
  have hz_ga3 : w6.cell? ⟨ga, 3, none⟩ = some (.int .i64 a.f3) := (blk_cell HXga.out 3).trans rfl
  have hz_ga4 : w6.cell? ⟨ga, 4, none⟩ = some (.int .u64 a.f4) := (blk_cell HXga.out 4).trans rfl
  have hz_g70 : w6.cell? ⟨g7, 0, none⟩ = some (.int .i64 a.f0) := (blk_cell HXg7.out 0).trans rfl
  have hz_g71 : w6.cell? ⟨g7, 1, none⟩ = some (.int .i64 a.f1) := (blk_cell HXg7.out 1).trans rfl
  have hz_g72 : w6.cell? ⟨g7, 2, none⟩ = some (.int .i64 a.f2) := (blk_cell HXg7.out 2).trans rfl
  have hz_g73 : w6.cell? ⟨g7, 3, none⟩ = some (.int .i64 a.f3) := (blk_cell HXg7.out 3).trans rfl
  have hz_g74 : w6.cell? ⟨g7, 4, none⟩ = some (.int .u64 ag) := (blk_cell HXg7.out 4).trans rfl
  have hz_g80 : w6.cell? ⟨g8, 0, none⟩ = some (.int .i64 a.f0) := (blk_cell HXg8.out 0).trans rfl
  have hz_g81 : w6.cell? ⟨g8, 1, none⟩ = some (.int .i64 a.f1) := (blk_cell HXg8.out 1).trans rfl
  have hz_g82 : w6.cell? ⟨g8, 2, none⟩ = some (.int .i64 lv) := (blk_cell HXg8.out 2).trans rfl
  have hz_g83 : w6.cell? ⟨g8, 3, none⟩ = some (.int .i64 a.f3) := (blk_cell HXg8.out 3).trans rfl
  have hz_g84 : w6.cell? ⟨g8, 4, none⟩ = some (.int .u64 a.f4) := (blk_cell HXg8.out 4).trans rfl
  go_wp2_with fail
  clear hz_ga0 hz_ga1 hz_ga2 hz_ga3 hz_ga4 hz_g70 hz_g71 hz_g72 hz_g73 hz_g74 hz_g80 hz_g81 hz_g82 hz_g83 hz_g84
  refine (victim_Better.calls _ _ _ _ _ _ _ _ _ _ false _ ((bet_some a ⟨a.f0, a.f1, lv, a.f3, a.f4⟩).trans (congrArg some (bet_fewer a ⟨a.f0, a.f1, lv, a.f3, a.f4⟩ rfl (by rw [← HLV.out]; unfold mn; show (if live < a.f2 then live else a.f2) ≤ a.f2; split <;> omega) rfl)))).mono ?_
  rintro e w7 ⟨rfl, hb⟩
  have HB_ := Aside0.mk (below_step HB.out hb)
  clear HB
  have HB := HB_
  clear HB_
  clear hb
  go_wp2_with fail
  refine (lodgerlaw14_fixed.calls true _ rfl).mono ?_
  rintro e w8 ⟨rfl, hb⟩
  have HB_ := Aside0.mk (below_step HB.out hb)
  clear HB
  have HB := HB_
  clear HB_
  clear hb
  go_wp2
  go_ret
  exact ⟨rfl, HB.out⟩
end Go.Proofs.Ytbcjdendpdnknaa.H
