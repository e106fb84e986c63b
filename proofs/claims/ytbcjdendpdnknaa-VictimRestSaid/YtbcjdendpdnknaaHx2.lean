-- PRINTED by print.py (a twelfth state) out of the translation. Not trusted: Lean checks it.
import Derived.Test.YtbcjdendpdnknaaHx0
import Derived.Test.YtbcjdendpdnknaaHx1
namespace Go.Proofs.Ytbcjdendpdnknaa.H
open Go.RowKit Go.Proofs.YtbcjdendpdnknaaW.PrintWords Go.Proofs.YtbcjdendpdnknaaW.PrintLast Go.Proofs.YtbcjdendpdnknaaW.PrintMore
attribute [local go_sem] max2_int min2_int max_two min_two max_three min_three max_four min_four   -- for this text's walks alone
set_option linter.unusedVariables false
set_option linter.unusedSimpArgs false

/-! ### victim_Pick: function 13 -/
def victim_Pick_1.T1 : Bool × List (List Nat × List Nat) := (true, [([], []), ([], []), ([0, 1], [0, 1]), ([2], [2]), ([3], [3]), ([], []), ([4, 5], [4, 5]), ([6, 0, 1, 2, 3, 4, 5, 6], [6])])
def victim_Pick_1.B1 : List Nat := [0, 0, 3, 7, 15, 0, 63, 127]
theorem victim_Pick_1.tab1 : rtab .any (opsOf Try.f24 1) = victim_Pick_1.T1 := by kernel_rfl
theorem victim_Pick_1.bits1 : waitsOk victim_Pick_1.T1.2 victim_Pick_1.B1 = true := by kernel_rfl
set_option maxHeartbeats 1000000 in
set_option maxRecDepth 100000 in
theorem victim_Pick_1.calls (gl gr : Nat) (A0 : Option Addr) (c0 : Nat) (l0 : List S25) (room i : Int) (w : World) (h1 : w.heap[gl]? = some (.cells #[.slice A0 l0.length c0] 22 (0, 0))) (h2 : w.heap[gr]? = some (.cells #[.int .i64 room] 3 (0, 0)))
    (hr0 : Kd.C k25 w A0 l0.length l0) (h0 : 0 ≤ i) (hi : i < l0.length) :
    Calls Try.prog 24 #[.int .i64 i, .pointer (some ⟨gl, 0, none⟩), .pointer (some ⟨gr, 0, none⟩)] w fun e w' => e = .returned (.bool (decide ((rd_T25 l0 i).f3 ≤ room))) ∧ Below w.heap.size w w' := by
  obtain ⟨ad, e1, hx0, hx1, hx2, hx3, hx4⟩ := at_T25 hr0 i h0 hi
  cases e1
  clear hx0 hx1 hx2 hx4
  replace hx3 := Aside0.mk hx3
  replace h1 := Aside0.mk h1
  replace h2 := Aside0.mk h2
  have HR0 := Aside0.mk hr0
  clear hr0
  have hh0 := eq_true h0
  have hhi := eq_true hi
  replace h0 := Aside0.mk h0
  replace hi := Aside0.mk hi
  go_enter Try.func24, Try.ntmps24
  go_wp2_with fail
  refine start_ (n := 8) (S := fun w' => w'.cell? ⟨gl, 0, none⟩ = some (.slice (some ad) l0.length c0) ∧ w'.cell? ⟨gr, 0, none⟩ = some (.int .i64 room) ∧ w'.cell? ⟨(ad.add (i.toNat * 5)).block, (ad.add (i.toNat * 5)).off + 3, none⟩ = some (.int .i64 (rd_T25 l0 i).f3)) (ds := []) #[false, false, false, false, false, false, false, false] (by kernel_rfl) rfl rfl ⟨((blk_cell (blk_drew h1.out) 0).trans rfl), ((blk_cell (blk_drew h2.out) 0).trans rfl), hx3.out⟩ (fun hHeld => ?_)
  refine with_tabW victim_Pick_1.tab1 victim_Pick_1.bits1 (fun HT_ HW_ => ?_)
  refine pure_ (i := 1) (N := some 6) (v := ?_) (a' := ?_) #[false, true, false, false, false, false, false, false] rfl rfl (any_of HT_.out (by kernel_rfl)) (fun _ _ _ h => h) (Or.inl ⟨by rfl, ?_⟩) ?_ ?_
  rotate_left
  · intro w'
    go_simp
    with_reducible rfl
  rotate_left
  · simp only [Act.put, List.setIfInBounds_toArray, List.set_cons_zero, List.set_cons_succ, i64_w, i32_w]
    rfl
  refine take_ (i := 0) (N := some 5) (v := ?_) (a' := ?_) #[true, true, false, false, false, false, false, false] rfl rfl (take_ofW HT_.out HW_.out (by kernel_rfl)) (fun _ _ _ h => h) (Or.inl ⟨by rfl, ?_⟩) hHeld ?_ ?_
  rotate_left
  · rintro w' ⟨s0, s1, s2⟩
    go_simp
    with_reducible rfl
  rotate_left
  · simp only [Act.put, List.setIfInBounds_toArray, List.set_cons_zero, List.set_cons_succ, i64_w, i32_w]
    rfl
  refine pure_ (i := 2) (N := some 7) (v := ?_) (a' := ?_) #[true, true, true, false, false, false, false, false] rfl rfl (any_of HT_.out (by kernel_rfl)) (fun _ _ _ h => h) (Or.inl ⟨by rfl, ?_⟩) ?_ ?_
  rotate_left
  · intro w'
    go_simp
    with_reducible rfl
  rotate_left
  · simp only [Act.put, List.setIfInBounds_toArray, List.set_cons_zero, List.set_cons_succ, i64_w, i32_w]
    rfl
  refine pure_ (i := 3) (N := some 8) (v := ?_) (a' := ?_) #[true, true, true, true, false, false, false, false] rfl rfl (any_of HT_.out (by kernel_rfl)) (fun _ _ _ h => h) (Or.inl ⟨by rfl, ?_⟩) ?_ ?_
  rotate_left
  · intro w'
    go_simp
    with_reducible rfl
  rotate_left
  · simp only [Act.put, List.setIfInBounds_toArray, List.set_cons_zero, List.set_cons_succ, i64_w, i32_w]
    rfl
  refine take_ (i := 4) (N := some 9) (v := ?_) (a' := ?_) #[true, true, true, true, true, false, false, false] rfl rfl (take_ofW HT_.out HW_.out (by kernel_rfl)) (fun _ _ _ h => h) (Or.inl ⟨by rfl, ?_⟩) hHeld ?_ ?_
  rotate_left
  · rintro w' ⟨s0, s1, s2⟩
    go_simp
    with_reducible rfl
  rotate_left
  · simp only [Act.put, List.setIfInBounds_toArray, List.set_cons_zero, List.set_cons_succ, i64_w, i32_w]
    rfl
  refine take_ (i := 5) (N := some 10) (v := ?_) (a' := ?_) #[true, true, true, true, true, true, false, false] rfl rfl (take_ofW HT_.out HW_.out (by kernel_rfl)) (fun _ _ _ h => h) (Or.inl ⟨by rfl, ?_⟩) hHeld ?_ ?_
  rotate_left
  · rintro w' ⟨s0, s1, s2⟩
    go_simp
    with_reducible rfl
  rotate_left
  · simp only [Act.put, List.setIfInBounds_toArray, List.set_cons_zero, List.set_cons_succ, i64_w, i32_w]
    rfl
  refine pure_ (i := 6) (N := some 11) (v := ?_) (a' := ?_) #[true, true, true, true, true, true, true, false] rfl rfl (any_of HT_.out (by kernel_rfl)) (fun _ _ _ h => h) (Or.inl ⟨by rfl, ?_⟩) ?_ ?_
  rotate_left
  · intro w'
    go_simp
    with_reducible rfl
  rotate_left
  · simp only [Act.put, List.setIfInBounds_toArray, List.set_cons_zero, List.set_cons_succ, i64_w, i32_w]
    rfl
  refine pure_ (i := 7) (N := some 4) (v := ?_) (a' := ?_) #[true, true, true, true, true, true, true, true] rfl rfl (any_of HT_.out (by kernel_rfl)) (fun _ _ _ h => h) (Or.inl ⟨by rfl, ?_⟩) ?_ ?_
  rotate_left
  · intro w'
    go_simp
    with_reducible rfl
  rotate_left
  · simp only [Act.put, List.setIfInBounds_toArray, List.set_cons_zero, List.set_cons_succ, i64_w, i32_w]
    rfl
  refine done_ (done_of HT_.out (by kernel_rfl)) ?_
  go_wp2
  go_ret
  exact ⟨rfl, below_drew (Below.refl _ _)⟩

def victim_Pick.f (l0 : List S25) (a1 : Int) : Option Int := some (pk l0 (fun i => decide ((rd_T25 l0 i).f3 ≤ a1)) l0.length)
set_option maxHeartbeats 1000000 in
theorem victim_Pick.calls (A0 : Option Addr) (c0 : Nat) (l0 : List (S25)) (a1 : Int) (r : Int) (w : World) (hr0 : Kd.C k25 w A0 l0.length l0) (hc0 : l0.length ≤ c0) (h : victim_Pick.f l0 a1 = some r) :
    Calls Try.prog 13 #[.slice A0 l0.length c0, .int .i64 a1] w fun e w' => e = .returned (.int .i64 r) ∧ Below w.heap.size w w' := by
  unfold victim_Pick.f at h
  obtain rfl := Option.some.inj h
  clear h
  have HR0 := Aside0.mk hr0
  have HC0 := Aside0.mk hc0
  clear hr0 hc0
  go_enter Try.func13, Try.ntmps13
  go_wp2_with fail
  refine (victim_best.calls 24 #[.pointer (some ⟨w.heap.size, 0, none⟩), .pointer (some ⟨w.heap.size + 1, 0, none⟩)] (fun i => decide ((rd_T25 l0 i).f3 ≤ a1))
    (fun w1 => w1.heap[w.heap.size]? = some (.cells #[.slice A0 l0.length c0] 22 (0, 0)) ∧ w1.heap[w.heap.size + 1]? = some (.cells #[.int .i64 a1] 3 (0, 0)) ∧ Kd.C k25 w1 A0 l0.length l0)
    A0 c0 l0 _ (Kd.C_alloc (Kd.C_alloc HR0.out _) _) HC0.out ?_ ?_ ?_ ?_).mono ?_
  · exact fun args w => enters_ Try.func24 (by kernel_rfl) rfl args w
  · refine ⟨blk_alloc (blk_new _ _) _, ?_, Kd.C_alloc (Kd.C_alloc HR0.out _) _⟩
    have := blk_new (w.alloc (.cells #[.slice A0 l0.length c0] 22)) (.cells #[.int .i64 a1] 3)
    simpa using this
  · rintro w1 w2 ⟨s1, s2, s3⟩ hb
    exact ⟨blk_below s1 hb, blk_below s2 hb, Kd.C_below s3 hb⟩
  · rintro i w1 h0 hi ⟨s1, s2, s3⟩
    exact victim_Pick_1.calls _ _ A0 c0 l0 a1 i w1 s1 s2 s3 h0 hi
  · rintro e w' ⟨rfl, hb⟩
    have HB := Aside0.mk (below_step (below_alloc (below_alloc (Below.refl w.heap.size w) _) _) hb)
    clear hb
    go_wp2
    go_ret
    exact ⟨rfl, HB.out⟩


end Go.Proofs.Ytbcjdendpdnknaa.H
