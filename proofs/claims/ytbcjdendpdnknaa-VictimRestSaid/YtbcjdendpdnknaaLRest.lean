/-
The walk of VictimRest.
-/
import Derived.Test.YtbcjdendpdnknaaHx
import Derived.Test.YtbcjdendpdnknaaBet
import Derived.Test.YtbcjdendpdnknaaArgs
import Derived.Test.YtbcjdendpdnknaaPl
import Derived.Test.YtbcjdendpdnknaaCut
namespace Go.Proofs.Ytbcjdendpdnknaa.H
open Go.RowKit Go.Proofs.YtbcjdendpdnknaaW.PrintWords Go.Proofs.YtbcjdendpdnknaaW.PrintLast Go.Proofs.YtbcjdendpdnknaaW.PrintMore
attribute [local go_sem] max2_int min2_int max_two min_two max_three min_three max_four min_four
set_option linter.unusedVariables false
set_option linter.unusedSimpArgs false
def law_rest.T2 : Bool × List (List Nat × List Nat) := (true, [([], []), ([0], [0]), ([], []), ([2], [2]), ([1, 0, 1], [1]), ([3, 4, 0, 1, 2, 3, 4], [3])])
def law_rest.B2 : List Nat := [0, 1, 0, 4, 3, 31]
theorem law_rest.tab2 : rtab .any (opsOf Try.f9 2) = law_rest.T2 := by kernel_rfl
theorem law_rest.bits2 : waitsOk law_rest.T2.2 law_rest.B2 = true := by kernel_rfl
def law_rest.T8 : Bool × List (List Nat × List Nat) := (true, [([], []), ([0], [0]), ([1], [1]), ([2], [2]), ([2], [2]), ([2], [2]), ([4, 5, 2], [2, 4, 5]), ([6, 2], [2, 6]), ([3, 7, 2, 2], [2, 3, 7]), ([8, 2], [2, 8]), ([2, 9], [2, 9]), ([10, 8], [10]), ([11], [11]), ([11], [11]), ([12, 13, 11, 11], [11, 12, 13]), ([11], [11]), ([14, 15, 11], [11, 14, 15]), ([11, 16], [11, 16])])
def law_rest.B8 : List Nat := [0, 1, 3, 7, 7, 7, 55, 119, 255, 511, 1023, 2047, 4095, 4095, 16383, 4095, 65535, 131071]
theorem law_rest.tab8 : rtab .any (opsOf Try.f9 8) = law_rest.T8 := by kernel_rfl
theorem law_rest.bits8 : waitsOk law_rest.T8.2 law_rest.B8 = true := by kernel_rfl
theorem more_lo (l : List S25) (x : S25) (i : Int) (h0 : 0 ≤ i) (h1 : i < l.length) : rd_T25 (l ++ [x]) i = rd_T25 l i := by
  simp only [rd_T25, List.getD_eq_getElem?_getD]
  rw [List.getElem?_append_left (by omega)]
theorem more_hi (l : List S25) (x : S25) : rd_T25 (l ++ [x]) (l.length : Int) = x := by
  simp only [rd_T25, List.getD_eq_getElem?_getD, Int.toNat_natCast]
  rw [List.getElem?_append_right (Nat.le_refl _)]
  simp
theorem more_best {l : List S25} {x : S25} {room p : Int} (h : IsBest l (fun i => decide ((rd_T25 l i).f3 ≤ room)) l.length p) (hx : bet x (rd_T25 l p) = false) : victim_Pick.f (l ++ [x]) room = some p := by
  have hp := more_lo l x p h.lo h.hi
  have hlen : ((l ++ [x]).length : Int) = l.length + 1 := by simp
  refine congrArg some (pk_best ⟨h.lo, by have := h.hi; omega, ?_, fun k k0 k1 ks => ?_, fun k k0 k1 ks => ?_⟩)
  · show decide ((rd_T25 (l ++ [x]) p).f3 ≤ room) = true
    rw [hp]; exact h.is
  · rw [hp]
    by_cases hk : k < l.length
    · have e := more_lo l x k k0 hk
      rw [e] at ks ⊢
      exact h.best k k0 hk ks
    · obtain rfl : k = l.length := by omega
      rw [more_hi]; exact hx
  · have e := more_lo l x k k0 (by have := h.hi; omega)
    rw [hp]; rw [e] at ks ⊢
    exact h.first k k0 k1 ks
def sk (n : Nat) (i : Int) : Int := if i < n then i else i + 1
theorem rd_less (l : List S25) (n : Nat) (hn : n < l.length) (i : Int) (h0 : 0 ≤ i) (h1 : i < (l.length : Int) - 1) : rd_T25 (l.take n ++ l.drop (n + 1)) i = rd_T25 l (sk n i) := by
  simp only [rd_T25, List.getD_eq_getElem?_getD, sk]
  have hl : (l.take n).length = n := by rw [List.length_take]; omega
  split
  · rename_i h
    rw [List.getElem?_append_left (by rw [hl]; omega), List.getElem?_take, if_pos (by omega)]
  · rename_i h
    rw [List.getElem?_append_right (by rw [hl]; omega), hl, List.getElem?_drop, show n + 1 + (i.toNat - n) = (i + 1).toNat by omega]
theorem less_len (l : List S25) (n : Nat) (hn : n < l.length) : ((l.take n ++ l.drop (n + 1)).length : Int) = (l.length : Int) - 1 := by simp; omega
theorem less_none {l : List S25} {room : Int} (n : Nat) (hn : n < l.length) (h : ∀ k : Int, 0 ≤ k → k < l.length → decide ((rd_T25 l k).f3 ≤ room) = false) : victim_Pick.f (l.take n ++ l.drop (n + 1)) room = some (-1) := by
  refine congrArg some (pk_none fun k k0 k1 => ?_)
  have hl := less_len l n hn
  show decide ((rd_T25 (l.take n ++ l.drop (n + 1)) k).f3 ≤ room) = false
  rw [rd_less l n hn k k0 (by omega)]
  exact h _ (by unfold sk; split <;> omega) (by unfold sk; split <;> omega)
theorem less_best {l : List S25} {room p : Int} (n : Nat) (hn : n < l.length) (h : IsBest l (fun i => decide ((rd_T25 l i).f3 ≤ room)) l.length p) (hp : (n : Int) ≠ p) : victim_Pick.f (l.take n ++ l.drop (n + 1)) room = some (if (n : Int) < p then p - 1 else p) := by
  have hl := less_len l n hn
  have h1 := h.lo
  have h2 := h.hi
  obtain ⟨p', hp'⟩ : ∃ p', (if (n : Int) < p then p - 1 else p) = p' := ⟨_, rfl⟩
  have hs : sk n p' = p := by rw [← hp']; unfold sk; split <;> split <;> omega
  have b0 : 0 ≤ p' := by rw [← hp']; split <;> omega
  have b1 : p' < (l.length : Int) - 1 := by rw [← hp']; split <;> omega
  rw [hp']
  refine congrArg some (pk_best ⟨b0, by omega, ?_, fun k k0 k1 ks => ?_, fun k k0 k1 ks => ?_⟩)
  · show decide ((rd_T25 (l.take n ++ l.drop (n + 1)) p').f3 ≤ room) = true
    rw [rd_less l n hn p' b0 b1, hs]; exact h.is
  · rw [rd_less l n hn k k0 (by omega)] at ks ⊢
    rw [rd_less l n hn p' b0 b1, hs]
    exact h.best _ (by unfold sk; split <;> omega) (by unfold sk; split <;> omega) ks
  · rw [rd_less l n hn k k0 (by omega)] at ks ⊢
    rw [rd_less l n hn p' b0 b1, hs]
    exact h.first _ (by unfold sk; split <;> omega) (by rw [← hs]; unfold sk; split <;> split <;> omega) ks
set_option maxHeartbeats 8000000 in
set_option maxRecDepth 100000 in
theorem rest_none {w : World} (A0 : Option Addr) (c0 : Nat) (l : List S25) (x : S25) (room gone : Int) (n0 : Nat) (m : Int) (hn0 : n0 ≤ c0) (hm_ : (if (16 : Int) < (n0 : Int) then 16 else (n0 : Int)) = m) (hcut : ∀ W, (Instr.slice 22 (.slice A0 n0 c0) none (some (.int .i64 m)) none).run Try.prog W = .ok (.slice A0 l.length c0) W) (hC : Kd.C k25 w A0 l.length l) (hc : l.length ≤ c0) (h16 : l.length ≤ 16)
    (p : Int) (hp1 : -1 ≤ p ∧ p < l.length) (hP : victim_Pick.f l room = some p) (hless : ∀ (h0 : 0 ≤ gone) (h1 : gone < l.length) (h2 : gone ≠ p), victim_Pick.f (l.take gone.toNat ++ l.drop (gone + 1).toNat) room = some (if gone < p then p - 1 else p)) (hpn : p < 0) :
    Calls Try.prog 9 #[.slice A0 n0 c0, .agg #[.int .i64 x.f0, .int .i64 x.f1, .int .i64 x.f2, .int .i64 x.f3, .int .u64 x.f4], .agg #[.int .i64 room, .int .i64 gone]] w fun e w' => e = .returned (.bool true) ∧ Below w.heap.size w w' := by
  have HR := Aside0.mk hC
  have HC := Aside0.mk hc
  have H16 := Aside0.mk h16
  clear hC hc h16 hn0
  have HPL := Aside0.mk hp1
  have HP := Aside0.mk hP
  have HLESS := Aside0.mk hless
  clear hp1 hP hless
  have HPN := Aside0.mk hpn
  clear hpn
  have hpy : decide (p < -1) = false := decide_eq_false (by have := HPL.out; omega)
  have hpz : decide ((l.length : Int) ≤ p) = false := decide_eq_false (by have := HPL.out; omega)
  go_enter Try.func9, Try.ntmps9
  go_upto_region 2 with fail
  clear hcut hm_
  obtain ⟨W1, hW1⟩ : ∃ W, W = (w.alloc (.cells #[.int .i64 x.f0, .int .i64 x.f1, .int .i64 x.f2, .int .i64 x.f3, .int .u64 x.f4] 25)).alloc (.cells #[.int .i64 room, .int .i64 gone] 46) := ⟨_, rfl⟩
  rw [← hW1]
  obtain ⟨gn, hgn⟩ : ∃ g, g = w.heap.size + 1 := ⟨_, rfl⟩
  obtain ⟨gx, hgx⟩ : ∃ g, g = w.heap.size := ⟨_, rfl⟩
  have HXgx : Aside0 (W1.heap[gx]? = some (.cells #[.int .i64 x.f0, .int .i64 x.f1, .int .i64 x.f2, .int .i64 x.f3, .int .u64 x.f4] 25 (0, 0))) := ⟨by rw [hW1, hgx]; exact blk_alloc (blk_at rfl) _⟩
  have HXgn : Aside0 (W1.heap[gn]? = some (.cells #[.int .i64 room, .int .i64 gone] 46 (0, 0))) := ⟨by rw [hW1, hgn]; exact blk_at (by simp)⟩
  have HB : Aside0 (Below w.heap.size w W1) := ⟨by rw [hW1]; exact below_alloc (below_alloc (Below.refl _ _) _) _⟩
  rw [← hgn, ← hgx]
  clear hW1 hgn hgx
  have HR_ := Aside0.mk (Kd.C_below HR.out HB.out)
  clear HR
  have HR := HR_
  clear HR_
  go_wp2_with fail
  refine start_ (n := 6) (S := fun w' => w'.cell? ⟨gn, 0, none⟩ = some (.int .i64 room) ∧ w'.cell? ⟨gn, 1, none⟩ = some (.int .i64 gone)) (ds := []) #[false, false, false, false, false, false] (by kernel_rfl) rfl rfl ⟨((blk_cell (blk_drew HXgn.out) 0).trans rfl), ((blk_cell (blk_drew HXgn.out) 1).trans rfl)⟩ (fun hHeld => ?_)
  refine with_tabW law_rest.tab2 law_rest.bits2 (fun HT_ HW_ => ?_)
  have HB_ := Aside0.mk (below_drew HB.out)
  clear HB
  have HB := HB_
  clear HB_
  have HXgx_ := Aside0.mk (blk_drew HXgx.out)
  clear HXgx
  have HXgx := HXgx_
  clear HXgx_
  have HR_ := Aside0.mk (Kd.C_drew HR.out)
  clear HR
  have HR := HR_
  clear HR_
  generalize W1.drew = w1 at *
  refine pure_ (i := 0) (N := some 18) (v := ?_) (a' := ?_) #[true, false, false, false, false, false] rfl rfl (any_of HT_.out (by kernel_rfl)) (fun _ _ _ h => h) (Or.inl ⟨by rfl, ?_⟩) ?_ ?_
  rotate_left
  · intro w'
    go_simp
    with_reducible rfl
  rotate_left
  · simp only [Act.put, List.setIfInBounds_toArray, List.set_cons_zero, List.set_cons_succ, i64_w, i32_w]
    rfl
  refine pure_ (i := 2) (N := some 20) (v := ?_) (a' := ?_) #[true, false, true, false, false, false] rfl rfl (any_of HT_.out (by kernel_rfl)) (fun _ _ _ h => h) (Or.inl ⟨by rfl, ?_⟩) ?_ ?_
  rotate_left
  · intro w'
    go_simp
    with_reducible rfl
  rotate_left
  · simp only [Act.put, List.setIfInBounds_toArray, List.set_cons_zero, List.set_cons_succ, i64_w, i32_w]
    rfl
  refine take_ (i := 1) (N := some 19) (v := ?_) (a' := ?_) #[true, true, true, false, false, false] rfl rfl (take_ofW HT_.out HW_.out (by kernel_rfl)) (fun _ _ _ h => h) (Or.inl ⟨by rfl, ?_⟩) hHeld ?_ ?_
  rotate_left
  · rintro w' ⟨s0, s1⟩
    go_simp
    with_reducible rfl
  rotate_left
  · simp only [Act.put, List.setIfInBounds_toArray, List.set_cons_zero, List.set_cons_succ, i64_w, i32_w]
    rfl
  refine pure_ (i := 4) (N := some 7) (v := ?_) (a' := ?_) #[true, true, true, false, true, false] rfl rfl (any_of HT_.out (by kernel_rfl)) (fun _ _ _ h => h) (Or.inl ⟨by rfl, ?_⟩) ?_ ?_
  rotate_left
  · intro w'
    go_simp
    with_reducible rfl
  rotate_left
  · simp only [Act.put, List.setIfInBounds_toArray, List.set_cons_zero, List.set_cons_succ, i64_w, i32_w]
    rfl
  refine take_ (i := 3) (N := some 21) (v := ?_) (a' := ?_) #[true, true, true, true, true, false] rfl rfl (take_ofW HT_.out HW_.out (by kernel_rfl)) (fun _ _ _ h => h) (Or.inl ⟨by rfl, ?_⟩) hHeld ?_ ?_
  rotate_left
  · rintro w' ⟨s0, s1⟩
    go_simp
    with_reducible rfl
  rotate_left
  · simp only [Act.put, List.setIfInBounds_toArray, List.set_cons_zero, List.set_cons_succ, i64_w, i32_w]
    rfl
  refine pure_ (i := 5) (N := some 8) (v := ?_) (a' := ?_) #[true, true, true, true, true, true] rfl rfl (any_of HT_.out (by kernel_rfl)) (fun _ _ _ h => h) (Or.inl ⟨by rfl, ?_⟩) ?_ ?_
  rotate_left
  · intro w'
    go_simp
    with_reducible rfl
  rotate_left
  · simp only [Act.put, List.setIfInBounds_toArray, List.set_cons_zero, List.set_cons_succ, i64_w, i32_w]
    rfl
  refine done_ (done_of HT_.out (by kernel_rfl)) ?_

  clear HT_ HW_ hHeld
  clear HXgn
  go_wp2_with fail
  refine (victim_Pick.calls _ _ l room p _ HR.out HC.out HP.out).mono ?_
  rintro e w2 ⟨rfl, hb⟩
  have HB0 := Aside0.mk (below_step HB.out hb)
  have HXx := Aside0.mk (blk_below HXgx.out hb)
  have HRx := Aside0.mk (Kd.C_below HR.out hb)
  clear HB HXgx HR hb
  have HX := HXx
  have HR := HRx
  clear HXx HRx
  have HB : Aside0 (Below w2.heap.size w2 w2) := ⟨Below.refl _ _⟩
  go_upto_region 6 with fail
  clear hpy hpz
  go_upto_region 7 with (first | ((with_reducible refine gate_dst (N := 33) rfl ?_); refine Kd.R_lit k25 _ 25 ?hg (N := 33) ?hd (xs := ([] : List S25)) (inner := []) (ok := fun _ => True) (okp := fun _ => True) ?hr ?hp (fun _ hk => hk) trivial (Below.refl _ _) (Nat.le_refl _) (by simp) ?_; (case hd => rfl); (case hg => rfl); (case hr => first | (go_simp; done) | (go_simp; rfl)); (case hp => exact (Reps.none _ _)); intro vm w3 ho hb hg_ hnew_; clear hg_ hnew_; have n0_ := Aside0.mk (Kd.R_lower ho (below_size HB.out)); have n1_ := Aside0.mk (below_step HB.out hb); clear HB ho hb; have HM := n0_; have HB := n1_; clear n0_ n1_) | ((with_reducible refine gate_builtin (b := .append) (xs := #[.tmp 33, .tmp 34]) rfl ?_); at_builtin; refine Kd.R_append_rows k25 (w0 := w2) w2.heap.size rfl (.tmp 33) (.tmp 34) 22 25 (.agg #[(.int .i64 0), (.int .i64 0), (.int .i64 0), (.int .i64 0), (.int .u64 0)]) 40 rfl Try.underlying22 info25 rfl (by decide) (by omega) vm [] l _ _ _ (fun _ => True) (fun _ => False) rfl rfl ?aO ?aR (fun _ _ h => h) (fun _ h => h.elim) ?aF ?aB ?aS ?aL ?_; (case aR => exact Kd.C_below HR.out HB.out); (case aB => exact HB.out); (case aF => exact (fun _ _ => trivial)); (case aO => exact HM.out); (case aS => exact below_size HB.out); (case aL => have := H16.out; simp only [List.length_nil]; omega); intro vm2 w4 ho hb hg hat; rw [List.nil_append] at ho; have n0_ := Aside0.mk hb; have n1_ := Aside0.mk ho; clear HB HM; have HB := n0_; have HM := n1_; clear n0_ n1_ ho hb hg hat))
  have zb0 := (blk_cell (blk_below HX.out HB.out) 0).trans rfl
  have zb1 := (blk_cell (blk_below HX.out HB.out) 1).trans rfl
  have zb2 := (blk_cell (blk_below HX.out HB.out) 2).trans rfl
  have zb3 := (blk_cell (blk_below HX.out HB.out) 3).trans rfl
  have zb4 := (blk_cell (blk_below HX.out HB.out) 4).trans rfl
  go_upto_region 8 with ((with_reducible refine gate_builtin (b := .append) (xs := #[.tmp 36, .tmp 38]) rfl ?_); at_builtin; refine Kd.R_append k25 (w0 := w2) w2.heap.size rfl (.tmp 36) (.tmp 38) 22 25 (.agg #[(.int .i64 0), (.int .i64 0), (.int .i64 0), (.int .i64 0), (.int .u64 0)]) 40 rfl Try.underlying22 info25 rfl (by decide) (by omega) vm2 l x [.int .i64 x.f0, .int .i64 x.f1, .int .i64 x.f2, .int .i64 x.f3, .int .u64 x.f4] (fun _ => True) (fun _ => False) rfl (by first | (go_simp; done) | (go_simp; rfl)) ?aP (fun _ hk => hk.elim) ?aF ?aO ?aB ?aS ?aL ?_; (case aP => exact k25_mkM _ _ _ x); (case aB => exact HB.out); (case aF => exact (fun _ _ => trivial)); (case aO => exact HM.out); (case aS => exact below_size HB.out); (case aL => have := H16.out; omega); intro vm3 w5 ho hb hg hat; have n0_ := Aside0.mk hb; have n1_ := Aside0.mk ho; clear HB HM; have HB := n0_; have HM := n1_; clear n0_ n1_ ho hb hg hat)
  clear zb0 zb1 zb2 zb3 zb4
  obtain ⟨Am, cm, hvm, hcm, hCm⟩ := Kd.R_reads HM.out
  obtain ⟨l3, hl3⟩ : ∃ y, y = l ++ [x] := ⟨_, rfl⟩
  rw [← hl3] at hvm hcm hCm
  subst hvm
  have HMC := Aside0.mk hCm
  have HMc := Aside0.mk hcm
  have HL3 := Aside0.mk hl3
  clear hcm hCm HM hl3
  have hpa : decide (0 ≤ p) = false := decide_eq_false (by have := HPN.out; omega)
  go_wp2_with fail
  refine start_ (n := 18) (S := fun w' => w'.cell? ⟨gx, 0, none⟩ = some (.int .i64 x.f0) ∧ w'.cell? ⟨gx, 1, none⟩ = some (.int .i64 x.f1) ∧ w'.cell? ⟨gx, 2, none⟩ = some (.int .i64 x.f2) ∧ w'.cell? ⟨gx, 3, none⟩ = some (.int .i64 x.f3) ∧ w'.cell? ⟨gx, 4, none⟩ = some (.int .u64 x.f4)) (ds := []) #[false, false, false, false, false, false, false, false, false, false, false, false, false, false, false, false, false, false] (by kernel_rfl) rfl rfl ⟨((blk_cell (blk_below HX.out (below_drew HB.out)) 0).trans rfl), ((blk_cell (blk_below HX.out (below_drew HB.out)) 1).trans rfl), ((blk_cell (blk_below HX.out (below_drew HB.out)) 2).trans rfl), ((blk_cell (blk_below HX.out (below_drew HB.out)) 3).trans rfl), ((blk_cell (blk_below HX.out (below_drew HB.out)) 4).trans rfl)⟩ (fun hHeld => ?_)
  refine with_tabW law_rest.tab8 law_rest.bits8 (fun HT_ HW_ => ?_)
  have HB_ := Aside0.mk (below_drew HB.out)
  clear HB
  have HB := HB_
  clear HB_
  have HMC_ := Aside0.mk (Kd.C_drew HMC.out)
  clear HMC
  have HMC := HMC_
  clear HMC_
  generalize w5.drew = w6 at *
  refine pure_ (i := 0) (N := some 40) (v := ?_) (a' := ?_) #[true, false, false, false, false, false, false, false, false, false, false, false, false, false, false, false, false, false] rfl rfl (any_of HT_.out (by kernel_rfl)) (fun _ _ _ h => h) (Or.inl ⟨by rfl, ?_⟩) ?_ ?_
  rotate_left
  · intro w'
    go_simp
    with_reducible rfl
  rotate_left
  · simp only [Act.put, List.setIfInBounds_toArray, List.set_cons_zero, List.set_cons_succ, i64_w, i32_w]
    rfl
  refine pure_ (i := 1) (N := some 41) (v := ?_) (a' := ?_) #[true, true, false, false, false, false, false, false, false, false, false, false, false, false, false, false, false, false] rfl rfl (any_of HT_.out (by kernel_rfl)) (fun _ _ _ h => h) (Or.inl ⟨by rfl, ?_⟩) ?_ ?_
  rotate_left
  · intro w'
    go_simp
    with_reducible rfl
  rotate_left
  · simp only [Act.put, List.setIfInBounds_toArray, List.set_cons_zero, List.set_cons_succ, i64_w, i32_w]
    rfl
  refine pure_ (i := 2) (N := some 42) (v := ?_) (a' := ?_) #[true, true, true, false, false, false, false, false, false, false, false, false, false, false, false, false, false, false] rfl rfl (any_of HT_.out (by kernel_rfl)) (fun _ _ _ h => h) (Or.inl ⟨by rfl, ?_⟩) ?_ ?_
  rotate_left
  · intro w'
    go_simp
    with_reducible rfl
  rotate_left
  · simp only [Act.put, List.setIfInBounds_toArray, List.set_cons_zero, List.set_cons_succ, i64_w, i32_w]
    rfl
  refine pure_ (i := 3) (N := some 43) (v := undef) (a' := ?_) #[true, true, true, true, false, false, false, false, false, false, false, false, false, false, false, false, false, false] rfl rfl (any_of HT_.out (by kernel_rfl)) (fun _ _ _ h => h) (Or.inr ⟨by rfl, rfl⟩) ?_ ?_
  rotate_left
  · simp only [Act.put, List.setIfInBounds_toArray, List.set_cons_zero, List.set_cons_succ, i64_w, i32_w]
    rfl
  refine pure_ (i := 4) (N := some 44) (v := undef) (a' := ?_) #[true, true, true, true, true, false, false, false, false, false, false, false, false, false, false, false, false, false] rfl rfl (any_of HT_.out (by kernel_rfl)) (fun _ _ _ h => h) (Or.inr ⟨by rfl, rfl⟩) ?_ ?_
  rotate_left
  · simp only [Act.put, List.setIfInBounds_toArray, List.set_cons_zero, List.set_cons_succ, i64_w, i32_w]
    rfl
  refine pure_ (i := 5) (N := some 45) (v := undef) (a' := ?_) #[true, true, true, true, true, true, false, false, false, false, false, false, false, false, false, false, false, false] rfl rfl (any_of HT_.out (by kernel_rfl)) (fun _ _ _ h => h) (Or.inr ⟨by rfl, rfl⟩) ?_ ?_
  rotate_left
  · simp only [Act.put, List.setIfInBounds_toArray, List.set_cons_zero, List.set_cons_succ, i64_w, i32_w]
    rfl
  refine pure_ (i := 6) (N := some 46) (v := undef) (a' := ?_) #[true, true, true, true, true, true, true, false, false, false, false, false, false, false, false, false, false, false] rfl rfl (any_of HT_.out (by kernel_rfl)) (fun _ _ _ h => h) (Or.inr ⟨by rfl, rfl⟩) ?_ ?_
  rotate_left
  · simp only [Act.put, List.setIfInBounds_toArray, List.set_cons_zero, List.set_cons_succ, i64_w, i32_w]
    rfl
  refine pure_ (i := 7) (N := some 47) (v := undef) (a' := ?_) #[true, true, true, true, true, true, true, true, false, false, false, false, false, false, false, false, false, false] rfl rfl (any_of HT_.out (by kernel_rfl)) (fun _ _ _ h => h) (Or.inr ⟨by rfl, rfl⟩) ?_ ?_
  rotate_left
  · simp only [Act.put, List.setIfInBounds_toArray, List.set_cons_zero, List.set_cons_succ, i64_w, i32_w]
    rfl
  refine pure_ (i := 8) (N := some 48) (v := undef) (a' := ?_) #[true, true, true, true, true, true, true, true, true, false, false, false, false, false, false, false, false, false] rfl rfl (any_of HT_.out (by kernel_rfl)) (fun _ _ _ h => h) (Or.inr ⟨by rfl, rfl⟩) ?_ ?_
  rotate_left
  · simp only [Act.put, List.setIfInBounds_toArray, List.set_cons_zero, List.set_cons_succ, i64_w, i32_w]
    rfl
  refine pure_ (i := 9) (N := some 49) (v := undef) (a' := ?_) #[true, true, true, true, true, true, true, true, true, true, false, false, false, false, false, false, false, false] rfl rfl (any_of HT_.out (by kernel_rfl)) (fun _ _ _ h => h) (Or.inr ⟨by rfl, rfl⟩) ?_ ?_
  rotate_left
  · simp only [Act.put, List.setIfInBounds_toArray, List.set_cons_zero, List.set_cons_succ, i64_w, i32_w]
    rfl
  refine pure_ (i := 10) (N := some 50) (v := ?_) (a' := ?_) #[true, true, true, true, true, true, true, true, true, true, true, false, false, false, false, false, false, false] rfl rfl (any_of HT_.out (by kernel_rfl)) (fun _ _ _ h => h) (Or.inl ⟨by rfl, ?_⟩) ?_ ?_
  rotate_left
  · intro w'
    go_simp
    with_reducible rfl
  rotate_left
  · simp only [Act.put, List.setIfInBounds_toArray, List.set_cons_zero, List.set_cons_succ, i64_w, i32_w]
    rfl
  refine pure_ (i := 11) (N := some 51) (v := ?_) (a' := ?_) #[true, true, true, true, true, true, true, true, true, true, true, true, false, false, false, false, false, false] rfl rfl (any_of HT_.out (by kernel_rfl)) (fun _ _ _ h => h) (Or.inl ⟨by rfl, ?_⟩) ?_ ?_
  rotate_left
  · intro w'
    go_simp
    with_reducible rfl
  rotate_left
  · simp only [Act.put, List.setIfInBounds_toArray, List.set_cons_zero, List.set_cons_succ, i64_w, i32_w]
    rfl
  refine pure_ (i := 12) (N := some 52) (v := undef) (a' := ?_) #[true, true, true, true, true, true, true, true, true, true, true, true, true, false, false, false, false, false] rfl rfl (any_of HT_.out (by kernel_rfl)) (fun _ _ _ h => h) (Or.inr ⟨by rfl, rfl⟩) ?_ ?_
  rotate_left
  · simp only [Act.put, List.setIfInBounds_toArray, List.set_cons_zero, List.set_cons_succ, i64_w, i32_w]
    rfl
  refine pure_ (i := 13) (N := some 53) (v := undef) (a' := ?_) #[true, true, true, true, true, true, true, true, true, true, true, true, true, true, false, false, false, false] rfl rfl (any_of HT_.out (by kernel_rfl)) (fun _ _ _ h => h) (Or.inr ⟨by rfl, rfl⟩) ?_ ?_
  rotate_left
  · simp only [Act.put, List.setIfInBounds_toArray, List.set_cons_zero, List.set_cons_succ, i64_w, i32_w]
    rfl
  refine pure_ (i := 14) (N := some 54) (v := undef) (a' := ?_) #[true, true, true, true, true, true, true, true, true, true, true, true, true, true, true, false, false, false] rfl rfl (any_of HT_.out (by kernel_rfl)) (fun _ _ _ h => h) (Or.inr ⟨by rfl, rfl⟩) ?_ ?_
  rotate_left
  · simp only [Act.put, List.setIfInBounds_toArray, List.set_cons_zero, List.set_cons_succ, i64_w, i32_w]
    rfl
  refine pure_ (i := 15) (N := some 55) (v := undef) (a' := ?_) #[true, true, true, true, true, true, true, true, true, true, true, true, true, true, true, true, false, false] rfl rfl (any_of HT_.out (by kernel_rfl)) (fun _ _ _ h => h) (Or.inr ⟨by rfl, rfl⟩) ?_ ?_
  rotate_left
  · simp only [Act.put, List.setIfInBounds_toArray, List.set_cons_zero, List.set_cons_succ, i64_w, i32_w]
    rfl
  refine pure_ (i := 16) (N := some 56) (v := undef) (a' := ?_) #[true, true, true, true, true, true, true, true, true, true, true, true, true, true, true, true, true, false] rfl rfl (any_of HT_.out (by kernel_rfl)) (fun _ _ _ h => h) (Or.inr ⟨by rfl, rfl⟩) ?_ ?_
  rotate_left
  · simp only [Act.put, List.setIfInBounds_toArray, List.set_cons_zero, List.set_cons_succ, i64_w, i32_w]
    rfl
  refine pure_ (i := 17) (N := some 57) (v := ?_) (a' := ?_) #[true, true, true, true, true, true, true, true, true, true, true, true, true, true, true, true, true, true] rfl rfl (any_of HT_.out (by kernel_rfl)) (fun _ _ _ h => h) (Or.inl ⟨by rfl, ?_⟩) ?_ ?_
  rotate_left
  · intro w'
    go_simp
    with_reducible rfl
  rotate_left
  · simp only [Act.put, List.setIfInBounds_toArray, List.set_cons_zero, List.set_cons_succ, i64_w, i32_w]
    rfl
  refine done_ (done_of HT_.out (by kernel_rfl)) ?_

  clear HT_ HW_ hHeld HMC HMc
  clear hpa
  by_cases hg1 : gone < 0
  · have hga := decide_eq_true hg1
    clear hg1
    go_wp2_with fail
    refine (lodgerlaw14_fixed.calls true _ rfl).mono ?_
    rintro e wf ⟨rfl, hb⟩
    have HB_ := Aside0.mk (below_step HB.out hb)
    clear HB
    have HB := HB_
    clear HB_
    clear hb
    go_wp2
    go_ret
    exact ⟨rfl, below_step HB0.out HB.out⟩
  · have hga := decide_eq_false hg1
    by_cases hg2 : (l.length : Int) ≤ gone
    · have hgb := decide_eq_true hg2
      clear hg1 hg2
      go_wp2_with fail
      refine (lodgerlaw14_fixed.calls true _ rfl).mono ?_
      rintro e wf ⟨rfl, hb⟩
      have HB_ := Aside0.mk (below_step HB.out hb)
      clear HB
      have HB := HB_
      clear HB_
      clear hb
      go_wp2
      go_ret
      exact ⟨rfl, below_step HB0.out HB.out⟩
    · have hgb := decide_eq_false hg2
      by_cases hg3 : gone = p
      · have hgc : (gone == p) = true := beq_iff_eq.mpr hg3
        clear hg1 hg2 hg3
        go_wp2_with fail
        refine (lodgerlaw14_fixed.calls true _ rfl).mono ?_
        rintro e wf ⟨rfl, hb⟩
        have HB_ := Aside0.mk (below_step HB.out hb)
        clear HB
        have HB := HB_
        clear HB_
        clear hb
        go_wp2
        go_ret
        exact ⟨rfl, below_step HB0.out HB.out⟩
      · have hgc : (gone == p) = false := beq_eq_false_iff_ne.mpr hg3
        obtain ⟨q, hq⟩ : ∃ q, (if gone < p then p - 1 else p) = q := ⟨_, rfl⟩
        have HQ : Aside0 (victim_Pick.f (l.take gone.toNat ++ l.drop (gone + 1).toNat) room = some q) := ⟨by rw [← hq]; exact HLESS.out (by omega) (by omega) hg3⟩
        obtain ⟨i0, hi, _, hsz, _⟩ := info_parts info25
        obtain ⟨y1, hy1⟩ : ∃ y, y = l.take gone.toNat := ⟨_, rfl⟩
        have hl1 : y1.length = gone.toNat := by rw [hy1, List.length_take]; omega
        have hcut2 := cut_to (P := Try.prog) 22 25 .i64 Try.underlying22 hi A0 l.length c0 gone (by omega) (by omega) HC.out
        rw [← hl1] at hcut2
        have HC1 : Aside0 (Kd.C k25 w2 A0 y1.length y1) := ⟨by rw [hy1]; exact Kd.C_take HR.out (by omega)⟩
        obtain ⟨y2, hy2⟩ : ∃ y, y = l.drop (gone + 1).toNat := ⟨_, rfl⟩
        have hl2 : y2.length = l.length - (gone + 1).toNat := by rw [hy2, List.length_drop]
        have hcut3 := cut_from (P := Try.prog) 22 25 .i64 Try.underlying22 hi 5 hsz A0 l.length c0 (gone + 1) (by omega) (by omega)
        have hC2 := Kd.C_drop (m := (gone + 1).toNat) (c := c0) HR.out (by omega) HC.out
        rw [← hy2] at hC2
        have hk5 : k25.sz = 5 := rfl
        rw [hk5] at hC2
        obtain ⟨A2, hA2⟩ : ∃ A', A' = (if c0 = (gone + 1).toNat then A0 else (A0 : Option Addr).map (·.add ((gone + 1).toNat * 5))) := ⟨_, rfl⟩
        rw [← hA2] at hC2 hcut3
        have hc2 : y2.length ≤ c0 - (gone + 1).toNat := by rw [hl2]; have := HC.out; omega
        rw [← hl2] at hcut3
        obtain ⟨c2, hcc2⟩ : ∃ c, c = c0 - (gone + 1).toNat := ⟨_, rfl⟩
        rw [← hcc2] at hcut3 hc2
        have HC2 := Aside0.mk hC2
        clear hC2 hk5 hA2 hcc2
        rw [← hy1, ← hy2] at HQ
        have hg0 : 0 ≤ gone := by omega
        have hg64 : gone + 1 ≤ 9223372036854775807 := by have := H16.out; omega
        have HL : Aside0 (y1.length + y2.length ≤ 16) := ⟨by have := H16.out; omega⟩
        clear hl1 hl2 hy1 hy2 hc2 hg1 hg2 hg3
        go_upto_region 14 with (first | ((with_reducible refine gate_dst (N := 72) rfl ?_); refine Kd.R_lit k25 _ 25 ?hg (N := 72) ?hd (xs := ([] : List S25)) (inner := []) (ok := fun _ => True) (okp := fun _ => True) ?hr ?hp (fun _ hk => hk) trivial (Below.refl _ _) (Nat.le_refl _) (by simp) ?_; (case hd => rfl); (case hg => rfl); (case hr => first | (go_simp; done) | (go_simp; rfl)); (case hp => exact (Reps.none _ _)); intro vm wa ho hb hg_ hnew_; clear hg_ hnew_; have n0_ := Aside0.mk (Kd.R_lower ho (below_size HB.out)); have n1_ := Aside0.mk (below_step HB.out hb); clear HB ho hb; have HM := n0_; have HB := n1_; clear n0_ n1_) | ((with_reducible refine gate_builtin (b := .append) (xs := #[.tmp 72, .tmp 75]) rfl ?_); at_builtin; refine Kd.R_append_rows k25 (w0 := w2) w2.heap.size rfl (.tmp 72) (.tmp 75) 22 25 (.agg #[(.int .i64 0), (.int .i64 0), (.int .i64 0), (.int .i64 0), (.int .u64 0)]) 40 rfl Try.underlying22 info25 rfl (by decide) (by omega) vm [] y1 _ _ _ (fun _ => True) (fun _ => False) rfl rfl ?aO ?aR (fun _ _ h => h) (fun _ h => h.elim) ?aF ?aB ?aS ?aL ?_; (case aR => exact Kd.C_below HC1.out HB.out); (case aB => exact HB.out); (case aF => exact (fun _ _ => trivial)); (case aO => exact HM.out); (case aS => exact below_size HB.out); (case aL => have := HL.out; simp only [List.length_nil]; omega); intro vl wb ho hb hg hat; rw [List.nil_append] at ho; have n0_ := Aside0.mk hb; have n1_ := Aside0.mk ho; clear HB HM; have HB := n0_; have HM := n1_; clear n0_ n1_ ho hb hg hat) | ((with_reducible refine gate_builtin (b := .append) (xs := #[.tmp 77, .tmp 81]) rfl ?_); at_builtin; refine Kd.R_append_rows k25 (w0 := w2) w2.heap.size rfl (.tmp 77) (.tmp 81) 22 25 (.agg #[(.int .i64 0), (.int .i64 0), (.int .i64 0), (.int .i64 0), (.int .u64 0)]) 40 rfl Try.underlying22 info25 rfl (by decide) (by omega) vl y1 y2 _ _ _ (fun _ => True) (fun _ => False) rfl rfl ?aO ?aR (fun _ _ h => h) (fun _ h => h.elim) ?aF ?aB ?aS ?aL ?_; (case aR => exact Kd.C_below HC2.out HB.out); (case aB => exact HB.out); (case aF => exact (fun _ _ => trivial)); (case aO => exact HM.out); (case aS => exact below_size HB.out); (case aL => have := HL.out; omega); intro vl2 wc ho hb hg hat; have n0_ := Aside0.mk hb; have n1_ := Aside0.mk ho; clear HB HM; have HB := n0_; have HM := n1_; clear n0_ n1_ ho hb hg hat))
        obtain ⟨Al, cl, hvl, hcl, hCl⟩ := Kd.R_reads HM.out
        subst hvl
        clear hcut2 hcut3
        obtain ⟨y3, hy3⟩ : ∃ y, y = y1 ++ y2 := ⟨_, rfl⟩
        have HQ3 := HQ.out
        rw [← hy3] at hCl hcl HQ3 ⊢
        clear hy3
        go_wp2_with fail
        refine (victim_Pick.calls _ _ y3 room q _ hCl hcl HQ3).mono ?_
        rintro e wd ⟨rfl, hb⟩
        have HB_ := Aside0.mk (below_step HB.out hb)
        clear HB
        have HB := HB_
        clear HB_
        clear hb hCl hcl HM HQ3
        by_cases hgp : gone < p
        · have hgp2 := decide_eq_true hgp
          obtain rfl : q = p - 1 := by rw [← hq, if_pos hgp]
          have hp64 : -9223372036854775808 ≤ p - 1 := by omega
          have hp65 : p - 1 ≤ 9223372036854775807 := by have := HPL.out; have := H16.out; omega
          have hw64 : wrap64 (p - 1) = p - 1 := by unfold wrap64; omega
          clear hgp hq
          go_wp2_with fail
          refine (lodgerlaw14_fixed.calls true _ rfl).mono ?_
          rintro e wf ⟨rfl, hb⟩
          have HB_ := Aside0.mk (below_step HB.out hb)
          clear HB
          have HB := HB_
          clear HB_
          clear hb
          go_wp2
          go_ret
          exact ⟨rfl, below_step HB0.out HB.out⟩
        · have hgp2 := decide_eq_false hgp
          obtain rfl : q = p := by rw [← hq, if_neg hgp]
          clear hgp hq
          go_wp2_with fail
          refine (lodgerlaw14_fixed.calls true _ rfl).mono ?_
          rintro e wf ⟨rfl, hb⟩
          have HB_ := Aside0.mk (below_step HB.out hb)
          clear HB
          have HB := HB_
          clear HB_
          clear hb
          go_wp2
          go_ret
          exact ⟨rfl, below_step HB0.out HB.out⟩
set_option maxHeartbeats 8000000 in
set_option maxRecDepth 100000 in
theorem rest_worse {w : World} (A0 : Option Addr) (c0 : Nat) (l : List S25) (x : S25) (room gone : Int) (n0 : Nat) (m : Int) (hn0 : n0 ≤ c0) (hm_ : (if (16 : Int) < (n0 : Int) then 16 else (n0 : Int)) = m) (hcut : ∀ W, (Instr.slice 22 (.slice A0 n0 c0) none (some (.int .i64 m)) none).run Try.prog W = .ok (.slice A0 l.length c0) W) (hC : Kd.C k25 w A0 l.length l) (hc : l.length ≤ c0) (h16 : l.length ≤ 16)
    (p : Int) (hp1 : -1 ≤ p ∧ p < l.length) (hP : victim_Pick.f l room = some p) (hless : ∀ (h0 : 0 ≤ gone) (h1 : gone < l.length) (h2 : gone ≠ p), victim_Pick.f (l.take gone.toNat ++ l.drop (gone + 1).toNat) room = some (if gone < p then p - 1 else p)) (hpn : 0 ≤ p) (hx : bet x (rd_T25 l p) = true) :
    Calls Try.prog 9 #[.slice A0 n0 c0, .agg #[.int .i64 x.f0, .int .i64 x.f1, .int .i64 x.f2, .int .i64 x.f3, .int .u64 x.f4], .agg #[.int .i64 room, .int .i64 gone]] w fun e w' => e = .returned (.bool true) ∧ Below w.heap.size w w' := by
  have HR := Aside0.mk hC
  have HC := Aside0.mk hc
  have H16 := Aside0.mk h16
  clear hC hc h16 hn0
  have HPL := Aside0.mk hp1
  have HP := Aside0.mk hP
  have HLESS := Aside0.mk hless
  clear hp1 hP hless
  have HPN := Aside0.mk hpn
  have HXP := Aside0.mk ((bet_some x (rd_T25 l p)).trans (congrArg some hx))
  clear hx hpn
  have hpy : decide (p < -1) = false := decide_eq_false (by have := HPL.out; omega)
  have hpz : decide ((l.length : Int) ≤ p) = false := decide_eq_false (by have := HPL.out; omega)
  go_enter Try.func9, Try.ntmps9
  go_upto_region 2 with fail
  clear hcut hm_
  obtain ⟨W1, hW1⟩ : ∃ W, W = (w.alloc (.cells #[.int .i64 x.f0, .int .i64 x.f1, .int .i64 x.f2, .int .i64 x.f3, .int .u64 x.f4] 25)).alloc (.cells #[.int .i64 room, .int .i64 gone] 46) := ⟨_, rfl⟩
  rw [← hW1]
  obtain ⟨gn, hgn⟩ : ∃ g, g = w.heap.size + 1 := ⟨_, rfl⟩
  obtain ⟨gx, hgx⟩ : ∃ g, g = w.heap.size := ⟨_, rfl⟩
  have HXgx : Aside0 (W1.heap[gx]? = some (.cells #[.int .i64 x.f0, .int .i64 x.f1, .int .i64 x.f2, .int .i64 x.f3, .int .u64 x.f4] 25 (0, 0))) := ⟨by rw [hW1, hgx]; exact blk_alloc (blk_at rfl) _⟩
  have HXgn : Aside0 (W1.heap[gn]? = some (.cells #[.int .i64 room, .int .i64 gone] 46 (0, 0))) := ⟨by rw [hW1, hgn]; exact blk_at (by simp)⟩
  have HB : Aside0 (Below w.heap.size w W1) := ⟨by rw [hW1]; exact below_alloc (below_alloc (Below.refl _ _) _) _⟩
  rw [← hgn, ← hgx]
  clear hW1 hgn hgx
  have HR_ := Aside0.mk (Kd.C_below HR.out HB.out)
  clear HR
  have HR := HR_
  clear HR_
  go_wp2_with fail
  refine start_ (n := 6) (S := fun w' => w'.cell? ⟨gn, 0, none⟩ = some (.int .i64 room) ∧ w'.cell? ⟨gn, 1, none⟩ = some (.int .i64 gone)) (ds := []) #[false, false, false, false, false, false] (by kernel_rfl) rfl rfl ⟨((blk_cell (blk_drew HXgn.out) 0).trans rfl), ((blk_cell (blk_drew HXgn.out) 1).trans rfl)⟩ (fun hHeld => ?_)
  refine with_tabW law_rest.tab2 law_rest.bits2 (fun HT_ HW_ => ?_)
  have HB_ := Aside0.mk (below_drew HB.out)
  clear HB
  have HB := HB_
  clear HB_
  have HXgx_ := Aside0.mk (blk_drew HXgx.out)
  clear HXgx
  have HXgx := HXgx_
  clear HXgx_
  have HR_ := Aside0.mk (Kd.C_drew HR.out)
  clear HR
  have HR := HR_
  clear HR_
  generalize W1.drew = w1 at *
  refine pure_ (i := 0) (N := some 18) (v := ?_) (a' := ?_) #[true, false, false, false, false, false] rfl rfl (any_of HT_.out (by kernel_rfl)) (fun _ _ _ h => h) (Or.inl ⟨by rfl, ?_⟩) ?_ ?_
  rotate_left
  · intro w'
    go_simp
    with_reducible rfl
  rotate_left
  · simp only [Act.put, List.setIfInBounds_toArray, List.set_cons_zero, List.set_cons_succ, i64_w, i32_w]
    rfl
  refine pure_ (i := 2) (N := some 20) (v := ?_) (a' := ?_) #[true, false, true, false, false, false] rfl rfl (any_of HT_.out (by kernel_rfl)) (fun _ _ _ h => h) (Or.inl ⟨by rfl, ?_⟩) ?_ ?_
  rotate_left
  · intro w'
    go_simp
    with_reducible rfl
  rotate_left
  · simp only [Act.put, List.setIfInBounds_toArray, List.set_cons_zero, List.set_cons_succ, i64_w, i32_w]
    rfl
  refine take_ (i := 1) (N := some 19) (v := ?_) (a' := ?_) #[true, true, true, false, false, false] rfl rfl (take_ofW HT_.out HW_.out (by kernel_rfl)) (fun _ _ _ h => h) (Or.inl ⟨by rfl, ?_⟩) hHeld ?_ ?_
  rotate_left
  · rintro w' ⟨s0, s1⟩
    go_simp
    with_reducible rfl
  rotate_left
  · simp only [Act.put, List.setIfInBounds_toArray, List.set_cons_zero, List.set_cons_succ, i64_w, i32_w]
    rfl
  refine pure_ (i := 4) (N := some 7) (v := ?_) (a' := ?_) #[true, true, true, false, true, false] rfl rfl (any_of HT_.out (by kernel_rfl)) (fun _ _ _ h => h) (Or.inl ⟨by rfl, ?_⟩) ?_ ?_
  rotate_left
  · intro w'
    go_simp
    with_reducible rfl
  rotate_left
  · simp only [Act.put, List.setIfInBounds_toArray, List.set_cons_zero, List.set_cons_succ, i64_w, i32_w]
    rfl
  refine take_ (i := 3) (N := some 21) (v := ?_) (a' := ?_) #[true, true, true, true, true, false] rfl rfl (take_ofW HT_.out HW_.out (by kernel_rfl)) (fun _ _ _ h => h) (Or.inl ⟨by rfl, ?_⟩) hHeld ?_ ?_
  rotate_left
  · rintro w' ⟨s0, s1⟩
    go_simp
    with_reducible rfl
  rotate_left
  · simp only [Act.put, List.setIfInBounds_toArray, List.set_cons_zero, List.set_cons_succ, i64_w, i32_w]
    rfl
  refine pure_ (i := 5) (N := some 8) (v := ?_) (a' := ?_) #[true, true, true, true, true, true] rfl rfl (any_of HT_.out (by kernel_rfl)) (fun _ _ _ h => h) (Or.inl ⟨by rfl, ?_⟩) ?_ ?_
  rotate_left
  · intro w'
    go_simp
    with_reducible rfl
  rotate_left
  · simp only [Act.put, List.setIfInBounds_toArray, List.set_cons_zero, List.set_cons_succ, i64_w, i32_w]
    rfl
  refine done_ (done_of HT_.out (by kernel_rfl)) ?_

  clear HT_ HW_ hHeld
  clear HXgn
  go_wp2_with fail
  refine (victim_Pick.calls _ _ l room p _ HR.out HC.out HP.out).mono ?_
  rintro e w2 ⟨rfl, hb⟩
  have HB0 := Aside0.mk (below_step HB.out hb)
  have HXx := Aside0.mk (blk_below HXgx.out hb)
  have HRx := Aside0.mk (Kd.C_below HR.out hb)
  clear HB HXgx HR hb
  have HX := HXx
  have HR := HRx
  clear HXx HRx
  have HB : Aside0 (Below w2.heap.size w2 w2) := ⟨Below.refl _ _⟩
  go_upto_region 6 with fail
  clear hpy hpz
  go_upto_region 7 with (first | ((with_reducible refine gate_dst (N := 33) rfl ?_); refine Kd.R_lit k25 _ 25 ?hg (N := 33) ?hd (xs := ([] : List S25)) (inner := []) (ok := fun _ => True) (okp := fun _ => True) ?hr ?hp (fun _ hk => hk) trivial (Below.refl _ _) (Nat.le_refl _) (by simp) ?_; (case hd => rfl); (case hg => rfl); (case hr => first | (go_simp; done) | (go_simp; rfl)); (case hp => exact (Reps.none _ _)); intro vm w3 ho hb hg_ hnew_; clear hg_ hnew_; have n0_ := Aside0.mk (Kd.R_lower ho (below_size HB.out)); have n1_ := Aside0.mk (below_step HB.out hb); clear HB ho hb; have HM := n0_; have HB := n1_; clear n0_ n1_) | ((with_reducible refine gate_builtin (b := .append) (xs := #[.tmp 33, .tmp 34]) rfl ?_); at_builtin; refine Kd.R_append_rows k25 (w0 := w2) w2.heap.size rfl (.tmp 33) (.tmp 34) 22 25 (.agg #[(.int .i64 0), (.int .i64 0), (.int .i64 0), (.int .i64 0), (.int .u64 0)]) 40 rfl Try.underlying22 info25 rfl (by decide) (by omega) vm [] l _ _ _ (fun _ => True) (fun _ => False) rfl rfl ?aO ?aR (fun _ _ h => h) (fun _ h => h.elim) ?aF ?aB ?aS ?aL ?_; (case aR => exact Kd.C_below HR.out HB.out); (case aB => exact HB.out); (case aF => exact (fun _ _ => trivial)); (case aO => exact HM.out); (case aS => exact below_size HB.out); (case aL => have := H16.out; simp only [List.length_nil]; omega); intro vm2 w4 ho hb hg hat; rw [List.nil_append] at ho; have n0_ := Aside0.mk hb; have n1_ := Aside0.mk ho; clear HB HM; have HB := n0_; have HM := n1_; clear n0_ n1_ ho hb hg hat))
  have zb0 := (blk_cell (blk_below HX.out HB.out) 0).trans rfl
  have zb1 := (blk_cell (blk_below HX.out HB.out) 1).trans rfl
  have zb2 := (blk_cell (blk_below HX.out HB.out) 2).trans rfl
  have zb3 := (blk_cell (blk_below HX.out HB.out) 3).trans rfl
  have zb4 := (blk_cell (blk_below HX.out HB.out) 4).trans rfl
  go_upto_region 8 with ((with_reducible refine gate_builtin (b := .append) (xs := #[.tmp 36, .tmp 38]) rfl ?_); at_builtin; refine Kd.R_append k25 (w0 := w2) w2.heap.size rfl (.tmp 36) (.tmp 38) 22 25 (.agg #[(.int .i64 0), (.int .i64 0), (.int .i64 0), (.int .i64 0), (.int .u64 0)]) 40 rfl Try.underlying22 info25 rfl (by decide) (by omega) vm2 l x [.int .i64 x.f0, .int .i64 x.f1, .int .i64 x.f2, .int .i64 x.f3, .int .u64 x.f4] (fun _ => True) (fun _ => False) rfl (by first | (go_simp; done) | (go_simp; rfl)) ?aP (fun _ hk => hk.elim) ?aF ?aO ?aB ?aS ?aL ?_; (case aP => exact k25_mkM _ _ _ x); (case aB => exact HB.out); (case aF => exact (fun _ _ => trivial)); (case aO => exact HM.out); (case aS => exact below_size HB.out); (case aL => have := H16.out; omega); intro vm3 w5 ho hb hg hat; have n0_ := Aside0.mk hb; have n1_ := Aside0.mk ho; clear HB HM; have HB := n0_; have HM := n1_; clear n0_ n1_ ho hb hg hat)
  clear zb0 zb1 zb2 zb3 zb4
  obtain ⟨Am, cm, hvm, hcm, hCm⟩ := Kd.R_reads HM.out
  obtain ⟨l3, hl3⟩ : ∃ y, y = l ++ [x] := ⟨_, rfl⟩
  rw [← hl3] at hvm hcm hCm
  subst hvm
  have HMC := Aside0.mk hCm
  have HMc := Aside0.mk hcm
  have HL3 := Aside0.mk hl3
  clear hcm hCm HM hl3
  obtain ⟨ad_p, e1, hl_p0, hl_p1, hl_p2, hl_p3, hl_p4⟩ := at_T25 HR.out p HPN.out HPL.out.2
  obtain ⟨ad, had⟩ : ∃ a, a = ad_p := ⟨_, rfl⟩
  subst had
  cases e1
  replace hl_p0 := Aside0.mk hl_p0
  replace hl_p1 := Aside0.mk hl_p1
  replace hl_p2 := Aside0.mk hl_p2
  replace hl_p3 := Aside0.mk hl_p3
  replace hl_p4 := Aside0.mk hl_p4
  have hpa : decide (0 ≤ p) = true := decide_eq_true HPN.out
  have hp0t := eq_true HPN.out
  have hp1t := eq_true HPL.out.2
  go_wp2_with fail
  refine start_ (n := 18) (S := fun w' => w'.cell? ⟨gx, 0, none⟩ = some (.int .i64 x.f0) ∧ w'.cell? ⟨gx, 1, none⟩ = some (.int .i64 x.f1) ∧ w'.cell? ⟨gx, 2, none⟩ = some (.int .i64 x.f2) ∧ w'.cell? ⟨gx, 3, none⟩ = some (.int .i64 x.f3) ∧ w'.cell? ⟨gx, 4, none⟩ = some (.int .u64 x.f4) ∧ w'.cell? (ad.add (p.toNat * 5)) = some (.int .i64 (rd_T25 l p).f0) ∧ w'.cell? ⟨(ad.add (p.toNat * 5)).block, (ad.add (p.toNat * 5)).off + 1, none⟩ = some (.int .i64 (rd_T25 l p).f1) ∧ w'.cell? ⟨(ad.add (p.toNat * 5)).block, (ad.add (p.toNat * 5)).off + 2, none⟩ = some (.int .i64 (rd_T25 l p).f2) ∧ w'.cell? ⟨(ad.add (p.toNat * 5)).block, (ad.add (p.toNat * 5)).off + 3, none⟩ = some (.int .i64 (rd_T25 l p).f3) ∧ w'.cell? ⟨(ad.add (p.toNat * 5)).block, (ad.add (p.toNat * 5)).off + 4, none⟩ = some (.int .u64 (rd_T25 l p).f4)) (ds := []) #[false, false, false, false, false, false, false, false, false, false, false, false, false, false, false, false, false, false] (by kernel_rfl) rfl rfl ⟨((blk_cell (blk_below HX.out (below_drew HB.out)) 0).trans rfl), ((blk_cell (blk_below HX.out (below_drew HB.out)) 1).trans rfl), ((blk_cell (blk_below HX.out (below_drew HB.out)) 2).trans rfl), ((blk_cell (blk_below HX.out (below_drew HB.out)) 3).trans rfl), ((blk_cell (blk_below HX.out (below_drew HB.out)) 4).trans rfl), (pw_cell_below (below_drew HB.out) hl_p0.out), (pw_cell_below (below_drew HB.out) hl_p1.out), (pw_cell_below (below_drew HB.out) hl_p2.out), (pw_cell_below (below_drew HB.out) hl_p3.out), (pw_cell_below (below_drew HB.out) hl_p4.out)⟩ (fun hHeld => ?_)
  refine with_tabW law_rest.tab8 law_rest.bits8 (fun HT_ HW_ => ?_)
  have HB_ := Aside0.mk (below_drew HB.out)
  clear HB
  have HB := HB_
  clear HB_
  have HMC_ := Aside0.mk (Kd.C_drew HMC.out)
  clear HMC
  have HMC := HMC_
  clear HMC_
  generalize w5.drew = w6 at *
  refine pure_ (i := 0) (N := some 40) (v := ?_) (a' := ?_) #[true, false, false, false, false, false, false, false, false, false, false, false, false, false, false, false, false, false] rfl rfl (any_of HT_.out (by kernel_rfl)) (fun _ _ _ h => h) (Or.inl ⟨by rfl, ?_⟩) ?_ ?_
  rotate_left
  · intro w'
    go_simp
    with_reducible rfl
  rotate_left
  · simp only [Act.put, List.setIfInBounds_toArray, List.set_cons_zero, List.set_cons_succ, i64_w, i32_w]
    rfl
  refine pure_ (i := 1) (N := some 41) (v := ?_) (a' := ?_) #[true, true, false, false, false, false, false, false, false, false, false, false, false, false, false, false, false, false] rfl rfl (any_of HT_.out (by kernel_rfl)) (fun _ _ _ h => h) (Or.inl ⟨by rfl, ?_⟩) ?_ ?_
  rotate_left
  · intro w'
    go_simp
    with_reducible rfl
  rotate_left
  · simp only [Act.put, List.setIfInBounds_toArray, List.set_cons_zero, List.set_cons_succ, i64_w, i32_w]
    rfl
  refine pure_ (i := 2) (N := some 42) (v := ?_) (a' := ?_) #[true, true, true, false, false, false, false, false, false, false, false, false, false, false, false, false, false, false] rfl rfl (any_of HT_.out (by kernel_rfl)) (fun _ _ _ h => h) (Or.inl ⟨by rfl, ?_⟩) ?_ ?_
  rotate_left
  · intro w'
    go_simp
    with_reducible rfl
  rotate_left
  · simp only [Act.put, List.setIfInBounds_toArray, List.set_cons_zero, List.set_cons_succ, i64_w, i32_w]
    rfl
  refine pure_ (i := 4) (N := some 44) (v := ?_) (a' := ?_) #[true, true, true, false, true, false, false, false, false, false, false, false, false, false, false, false, false, false] rfl rfl (any_of HT_.out (by kernel_rfl)) (fun _ _ _ h => h) (Or.inl ⟨by rfl, ?_⟩) ?_ ?_
  rotate_left
  · intro w'
    go_simp
    with_reducible rfl
  rotate_left
  · simp only [Act.put, List.setIfInBounds_toArray, List.set_cons_zero, List.set_cons_succ, i64_w, i32_w]
    rfl
  refine pure_ (i := 5) (N := some 45) (v := ?_) (a' := ?_) #[true, true, true, false, true, true, false, false, false, false, false, false, false, false, false, false, false, false] rfl rfl (any_of HT_.out (by kernel_rfl)) (fun _ _ _ h => h) (Or.inl ⟨by rfl, ?_⟩) ?_ ?_
  rotate_left
  · intro w'
    go_simp
    with_reducible rfl
  rotate_left
  · simp only [Act.put, List.setIfInBounds_toArray, List.set_cons_zero, List.set_cons_succ, i64_w, i32_w]
    rfl
  refine pure_ (i := 6) (N := some 46) (v := ?_) (a' := ?_) #[true, true, true, false, true, true, true, false, false, false, false, false, false, false, false, false, false, false] rfl rfl (any_of HT_.out (by kernel_rfl)) (fun _ _ _ h => h) (Or.inl ⟨by rfl, ?_⟩) ?_ ?_
  rotate_left
  · intro w'
    go_simp
    with_reducible rfl
  rotate_left
  · simp only [Act.put, List.setIfInBounds_toArray, List.set_cons_zero, List.set_cons_succ, i64_w, i32_w]
    rfl
  refine take_ (i := 3) (N := some 43) (v := ?_) (a' := ?_) #[true, true, true, true, true, true, true, false, false, false, false, false, false, false, false, false, false, false] rfl rfl (take_ofW HT_.out HW_.out (by kernel_rfl)) (fun _ _ _ h => h) (Or.inl ⟨by rfl, ?_⟩) hHeld ?_ ?_
  rotate_left
  · rintro w' ⟨s0, s1, s2, s3, s4, s5, s6, s7, s8, s9⟩
    go_simp
    with_reducible rfl
  rotate_left
  · simp only [Act.put, List.setIfInBounds_toArray, List.set_cons_zero, List.set_cons_succ, i64_w, i32_w]
    rfl
  refine take_ (i := 7) (N := some 47) (v := ?_) (a' := ?_) #[true, true, true, true, true, true, true, true, false, false, false, false, false, false, false, false, false, false] rfl rfl (take_ofW HT_.out HW_.out (by kernel_rfl)) (fun _ _ _ h => h) (Or.inl ⟨by rfl, ?_⟩) hHeld ?_ ?_
  rotate_left
  · rintro w' ⟨s0, s1, s2, s3, s4, s5, s6, s7, s8, s9⟩
    go_simp
    with_reducible rfl
  rotate_left
  · simp only [Act.put, List.setIfInBounds_toArray, List.set_cons_zero, List.set_cons_succ, i64_w, i32_w]
    rfl
  refine one_ (i := 8) (N := some 48) #[true, true, true, true, true, true, true, true, true, false, false, false, false, false, false, false, false, false] rfl rfl (one_of HT_.out (by kernel_rfl)) (by decide) (fun K hK => ?_)
  refine goes_ Try.func10 (by kernel_rfl) rfl #[.agg #[.int .i64 x.f0, .int .i64 x.f1, .int .i64 x.f2, .int .i64 x.f3, .int .u64 x.f4], .agg #[.int .i64 (rd_T25 l p).f0, .int .i64 (rd_T25 l p).f1, .int .i64 (rd_T25 l p).f2, .int .i64 (rd_T25 l p).f3, .int .u64 (rd_T25 l p).f4]] (by rfl) rfl rfl (by simp only [List.map_toArray, List.map_cons, List.map_nil]; rfl) ?_
  with_reducible refine (victim_Better.calls _ _ _ _ _ _ _ _ _ _ true _ HXP.out).mono ?_
  rintro e w7 ⟨rfl, hb⟩
  refine ⟨_, rfl, ?_⟩
  have HB_ := Aside0.mk (below_step HB.out hb)
  clear HB
  have HB := HB_
  clear HB_
  have HMC_ := Aside0.mk (Kd.C_below HMC.out hb)
  clear HMC
  have HMC := HMC_
  clear HMC_
  clear hb
  refine hK.out _ _ ⟨((blk_cell (blk_below HX.out HB.out) 0).trans rfl), ((blk_cell (blk_below HX.out HB.out) 1).trans rfl), ((blk_cell (blk_below HX.out HB.out) 2).trans rfl), ((blk_cell (blk_below HX.out HB.out) 3).trans rfl), ((blk_cell (blk_below HX.out HB.out) 4).trans rfl), (pw_cell_below HB.out hl_p0.out), (pw_cell_below HB.out hl_p1.out), (pw_cell_below HB.out hl_p2.out), (pw_cell_below HB.out hl_p3.out), (pw_cell_below HB.out hl_p4.out)⟩ (fun hHeld => ?_)
  clear hK K
  refine norm_ (a' := ?_) ?_ ?_
  rotate_left
  · show Act.put _ (some 48) _ = _
    simp only [Act.put, List.setIfInBounds_toArray, List.set_cons_zero, List.set_cons_succ, i64_w, i32_w]
    rfl
  refine pure_ (i := 9) (N := some 49) (v := ?_) (a' := ?_) #[true, true, true, true, true, true, true, true, true, true, false, false, false, false, false, false, false, false] rfl rfl (any_of HT_.out (by kernel_rfl)) (fun _ _ _ h => h) (Or.inl ⟨by rfl, ?_⟩) ?_ ?_
  rotate_left
  · intro w'
    go_simp
    with_reducible rfl
  rotate_left
  · simp only [Act.put, List.setIfInBounds_toArray, List.set_cons_zero, List.set_cons_succ, i64_w, i32_w]
    rfl
  refine pure_ (i := 10) (N := some 50) (v := ?_) (a' := ?_) #[true, true, true, true, true, true, true, true, true, true, true, false, false, false, false, false, false, false] rfl rfl (any_of HT_.out (by kernel_rfl)) (fun _ _ _ h => h) (Or.inl ⟨by rfl, ?_⟩) ?_ ?_
  rotate_left
  · intro w'
    go_simp
    with_reducible rfl
  rotate_left
  · simp only [Act.put, List.setIfInBounds_toArray, List.set_cons_zero, List.set_cons_succ, i64_w, i32_w]
    rfl
  refine pure_ (i := 11) (N := some 51) (v := ?_) (a' := ?_) #[true, true, true, true, true, true, true, true, true, true, true, true, false, false, false, false, false, false] rfl rfl (any_of HT_.out (by kernel_rfl)) (fun _ _ _ h => h) (Or.inl ⟨by rfl, ?_⟩) ?_ ?_
  rotate_left
  · intro w'
    go_simp
    with_reducible rfl
  rotate_left
  · simp only [Act.put, List.setIfInBounds_toArray, List.set_cons_zero, List.set_cons_succ, i64_w, i32_w]
    rfl
  refine pure_ (i := 12) (N := some 52) (v := undef) (a' := ?_) #[true, true, true, true, true, true, true, true, true, true, true, true, true, false, false, false, false, false] rfl rfl (any_of HT_.out (by kernel_rfl)) (fun _ _ _ h => h) (Or.inr ⟨by rfl, rfl⟩) ?_ ?_
  rotate_left
  · simp only [Act.put, List.setIfInBounds_toArray, List.set_cons_zero, List.set_cons_succ, i64_w, i32_w]
    rfl
  refine pure_ (i := 13) (N := some 53) (v := undef) (a' := ?_) #[true, true, true, true, true, true, true, true, true, true, true, true, true, true, false, false, false, false] rfl rfl (any_of HT_.out (by kernel_rfl)) (fun _ _ _ h => h) (Or.inr ⟨by rfl, rfl⟩) ?_ ?_
  rotate_left
  · simp only [Act.put, List.setIfInBounds_toArray, List.set_cons_zero, List.set_cons_succ, i64_w, i32_w]
    rfl
  refine pure_ (i := 14) (N := some 54) (v := undef) (a' := ?_) #[true, true, true, true, true, true, true, true, true, true, true, true, true, true, true, false, false, false] rfl rfl (any_of HT_.out (by kernel_rfl)) (fun _ _ _ h => h) (Or.inr ⟨by rfl, rfl⟩) ?_ ?_
  rotate_left
  · simp only [Act.put, List.setIfInBounds_toArray, List.set_cons_zero, List.set_cons_succ, i64_w, i32_w]
    rfl
  refine pure_ (i := 15) (N := some 55) (v := undef) (a' := ?_) #[true, true, true, true, true, true, true, true, true, true, true, true, true, true, true, true, false, false] rfl rfl (any_of HT_.out (by kernel_rfl)) (fun _ _ _ h => h) (Or.inr ⟨by rfl, rfl⟩) ?_ ?_
  rotate_left
  · simp only [Act.put, List.setIfInBounds_toArray, List.set_cons_zero, List.set_cons_succ, i64_w, i32_w]
    rfl
  refine pure_ (i := 16) (N := some 56) (v := undef) (a' := ?_) #[true, true, true, true, true, true, true, true, true, true, true, true, true, true, true, true, true, false] rfl rfl (any_of HT_.out (by kernel_rfl)) (fun _ _ _ h => h) (Or.inr ⟨by rfl, rfl⟩) ?_ ?_
  rotate_left
  · simp only [Act.put, List.setIfInBounds_toArray, List.set_cons_zero, List.set_cons_succ, i64_w, i32_w]
    rfl
  refine pure_ (i := 17) (N := some 57) (v := ?_) (a' := ?_) #[true, true, true, true, true, true, true, true, true, true, true, true, true, true, true, true, true, true] rfl rfl (any_of HT_.out (by kernel_rfl)) (fun _ _ _ h => h) (Or.inl ⟨by rfl, ?_⟩) ?_ ?_
  rotate_left
  · intro w'
    go_simp
    with_reducible rfl
  rotate_left
  · simp only [Act.put, List.setIfInBounds_toArray, List.set_cons_zero, List.set_cons_succ, i64_w, i32_w]
    rfl
  refine done_ (done_of HT_.out (by kernel_rfl)) ?_

  clear HT_ HW_ hHeld HMC HMc
  clear hpa
  by_cases hg1 : gone < 0
  · have hga := decide_eq_true hg1
    clear hg1
    go_wp2_with fail
    refine (lodgerlaw14_fixed.calls true _ rfl).mono ?_
    rintro e wf ⟨rfl, hb⟩
    have HB_ := Aside0.mk (below_step HB.out hb)
    clear HB
    have HB := HB_
    clear HB_
    clear hb
    go_wp2
    go_ret
    exact ⟨rfl, below_step HB0.out HB.out⟩
  · have hga := decide_eq_false hg1
    by_cases hg2 : (l.length : Int) ≤ gone
    · have hgb := decide_eq_true hg2
      clear hg1 hg2
      go_wp2_with fail
      refine (lodgerlaw14_fixed.calls true _ rfl).mono ?_
      rintro e wf ⟨rfl, hb⟩
      have HB_ := Aside0.mk (below_step HB.out hb)
      clear HB
      have HB := HB_
      clear HB_
      clear hb
      go_wp2
      go_ret
      exact ⟨rfl, below_step HB0.out HB.out⟩
    · have hgb := decide_eq_false hg2
      by_cases hg3 : gone = p
      · have hgc : (gone == p) = true := beq_iff_eq.mpr hg3
        clear hg1 hg2 hg3
        go_wp2_with fail
        refine (lodgerlaw14_fixed.calls true _ rfl).mono ?_
        rintro e wf ⟨rfl, hb⟩
        have HB_ := Aside0.mk (below_step HB.out hb)
        clear HB
        have HB := HB_
        clear HB_
        clear hb
        go_wp2
        go_ret
        exact ⟨rfl, below_step HB0.out HB.out⟩
      · have hgc : (gone == p) = false := beq_eq_false_iff_ne.mpr hg3
        obtain ⟨q, hq⟩ : ∃ q, (if gone < p then p - 1 else p) = q := ⟨_, rfl⟩
        have HQ : Aside0 (victim_Pick.f (l.take gone.toNat ++ l.drop (gone + 1).toNat) room = some q) := ⟨by rw [← hq]; exact HLESS.out (by omega) (by omega) hg3⟩
        obtain ⟨i0, hi, _, hsz, _⟩ := info_parts info25
        obtain ⟨y1, hy1⟩ : ∃ y, y = l.take gone.toNat := ⟨_, rfl⟩
        have hl1 : y1.length = gone.toNat := by rw [hy1, List.length_take]; omega
        have hcut2 := cut_to (P := Try.prog) 22 25 .i64 Try.underlying22 hi (some ad) l.length c0 gone (by omega) (by omega) HC.out
        rw [← hl1] at hcut2
        have HC1 : Aside0 (Kd.C k25 w2 (some ad) y1.length y1) := ⟨by rw [hy1]; exact Kd.C_take HR.out (by omega)⟩
        obtain ⟨y2, hy2⟩ : ∃ y, y = l.drop (gone + 1).toNat := ⟨_, rfl⟩
        have hl2 : y2.length = l.length - (gone + 1).toNat := by rw [hy2, List.length_drop]
        have hcut3 := cut_from (P := Try.prog) 22 25 .i64 Try.underlying22 hi 5 hsz (some ad) l.length c0 (gone + 1) (by omega) (by omega)
        have hC2 := Kd.C_drop (m := (gone + 1).toNat) (c := c0) HR.out (by omega) HC.out
        rw [← hy2] at hC2
        have hk5 : k25.sz = 5 := rfl
        rw [hk5] at hC2
        obtain ⟨A2, hA2⟩ : ∃ A', A' = (if c0 = (gone + 1).toNat then (some ad) else ((some ad) : Option Addr).map (·.add ((gone + 1).toNat * 5))) := ⟨_, rfl⟩
        rw [← hA2] at hC2 hcut3
        have hc2 : y2.length ≤ c0 - (gone + 1).toNat := by rw [hl2]; have := HC.out; omega
        rw [← hl2] at hcut3
        obtain ⟨c2, hcc2⟩ : ∃ c, c = c0 - (gone + 1).toNat := ⟨_, rfl⟩
        rw [← hcc2] at hcut3 hc2
        have HC2 := Aside0.mk hC2
        clear hC2 hk5 hA2 hcc2
        rw [← hy1, ← hy2] at HQ
        have hg0 : 0 ≤ gone := by omega
        have hg64 : gone + 1 ≤ 9223372036854775807 := by have := H16.out; omega
        have HL : Aside0 (y1.length + y2.length ≤ 16) := ⟨by have := H16.out; omega⟩
        clear hl1 hl2 hy1 hy2 hc2 hg1 hg2 hg3
        go_upto_region 14 with (first | ((with_reducible refine gate_dst (N := 72) rfl ?_); refine Kd.R_lit k25 _ 25 ?hg (N := 72) ?hd (xs := ([] : List S25)) (inner := []) (ok := fun _ => True) (okp := fun _ => True) ?hr ?hp (fun _ hk => hk) trivial (Below.refl _ _) (Nat.le_refl _) (by simp) ?_; (case hd => rfl); (case hg => rfl); (case hr => first | (go_simp; done) | (go_simp; rfl)); (case hp => exact (Reps.none _ _)); intro vm wa ho hb hg_ hnew_; clear hg_ hnew_; have n0_ := Aside0.mk (Kd.R_lower ho (below_size HB.out)); have n1_ := Aside0.mk (below_step HB.out hb); clear HB ho hb; have HM := n0_; have HB := n1_; clear n0_ n1_) | ((with_reducible refine gate_builtin (b := .append) (xs := #[.tmp 72, .tmp 75]) rfl ?_); at_builtin; refine Kd.R_append_rows k25 (w0 := w2) w2.heap.size rfl (.tmp 72) (.tmp 75) 22 25 (.agg #[(.int .i64 0), (.int .i64 0), (.int .i64 0), (.int .i64 0), (.int .u64 0)]) 40 rfl Try.underlying22 info25 rfl (by decide) (by omega) vm [] y1 _ _ _ (fun _ => True) (fun _ => False) rfl rfl ?aO ?aR (fun _ _ h => h) (fun _ h => h.elim) ?aF ?aB ?aS ?aL ?_; (case aR => exact Kd.C_below HC1.out HB.out); (case aB => exact HB.out); (case aF => exact (fun _ _ => trivial)); (case aO => exact HM.out); (case aS => exact below_size HB.out); (case aL => have := HL.out; simp only [List.length_nil]; omega); intro vl wb ho hb hg hat; rw [List.nil_append] at ho; have n0_ := Aside0.mk hb; have n1_ := Aside0.mk ho; clear HB HM; have HB := n0_; have HM := n1_; clear n0_ n1_ ho hb hg hat) | ((with_reducible refine gate_builtin (b := .append) (xs := #[.tmp 77, .tmp 81]) rfl ?_); at_builtin; refine Kd.R_append_rows k25 (w0 := w2) w2.heap.size rfl (.tmp 77) (.tmp 81) 22 25 (.agg #[(.int .i64 0), (.int .i64 0), (.int .i64 0), (.int .i64 0), (.int .u64 0)]) 40 rfl Try.underlying22 info25 rfl (by decide) (by omega) vl y1 y2 _ _ _ (fun _ => True) (fun _ => False) rfl rfl ?aO ?aR (fun _ _ h => h) (fun _ h => h.elim) ?aF ?aB ?aS ?aL ?_; (case aR => exact Kd.C_below HC2.out HB.out); (case aB => exact HB.out); (case aF => exact (fun _ _ => trivial)); (case aO => exact HM.out); (case aS => exact below_size HB.out); (case aL => have := HL.out; omega); intro vl2 wc ho hb hg hat; have n0_ := Aside0.mk hb; have n1_ := Aside0.mk ho; clear HB HM; have HB := n0_; have HM := n1_; clear n0_ n1_ ho hb hg hat))
        obtain ⟨Al, cl, hvl, hcl, hCl⟩ := Kd.R_reads HM.out
        subst hvl
        clear hcut2 hcut3
        obtain ⟨y3, hy3⟩ : ∃ y, y = y1 ++ y2 := ⟨_, rfl⟩
        have HQ3 := HQ.out
        rw [← hy3] at hCl hcl HQ3 ⊢
        clear hy3
        go_wp2_with fail
        refine (victim_Pick.calls _ _ y3 room q _ hCl hcl HQ3).mono ?_
        rintro e wd ⟨rfl, hb⟩
        have HB_ := Aside0.mk (below_step HB.out hb)
        clear HB
        have HB := HB_
        clear HB_
        clear hb hCl hcl HM HQ3
        by_cases hgp : gone < p
        · have hgp2 := decide_eq_true hgp
          obtain rfl : q = p - 1 := by rw [← hq, if_pos hgp]
          have hp64 : -9223372036854775808 ≤ p - 1 := by omega
          have hp65 : p - 1 ≤ 9223372036854775807 := by have := HPL.out; have := H16.out; omega
          have hw64 : wrap64 (p - 1) = p - 1 := by unfold wrap64; omega
          clear hgp hq
          go_wp2_with fail
          refine (lodgerlaw14_fixed.calls true _ rfl).mono ?_
          rintro e wf ⟨rfl, hb⟩
          have HB_ := Aside0.mk (below_step HB.out hb)
          clear HB
          have HB := HB_
          clear HB_
          clear hb
          go_wp2
          go_ret
          exact ⟨rfl, below_step HB0.out HB.out⟩
        · have hgp2 := decide_eq_false hgp
          obtain rfl : q = p := by rw [← hq, if_neg hgp]
          clear hgp hq
          go_wp2_with fail
          refine (lodgerlaw14_fixed.calls true _ rfl).mono ?_
          rintro e wf ⟨rfl, hb⟩
          have HB_ := Aside0.mk (below_step HB.out hb)
          clear HB
          have HB := HB_
          clear HB_
          clear hb
          go_wp2
          go_ret
          exact ⟨rfl, below_step HB0.out HB.out⟩
set_option maxHeartbeats 8000000 in
set_option maxRecDepth 100000 in
theorem rest_same {w : World} (A0 : Option Addr) (c0 : Nat) (l : List S25) (x : S25) (room gone : Int) (n0 : Nat) (m : Int) (hn0 : n0 ≤ c0) (hm_ : (if (16 : Int) < (n0 : Int) then 16 else (n0 : Int)) = m) (hcut : ∀ W, (Instr.slice 22 (.slice A0 n0 c0) none (some (.int .i64 m)) none).run Try.prog W = .ok (.slice A0 l.length c0) W) (hC : Kd.C k25 w A0 l.length l) (hc : l.length ≤ c0) (h16 : l.length ≤ 16)
    (p : Int) (hp1 : -1 ≤ p ∧ p < l.length) (hP : victim_Pick.f l room = some p) (hless : ∀ (h0 : 0 ≤ gone) (h1 : gone < l.length) (h2 : gone ≠ p), victim_Pick.f (l.take gone.toNat ++ l.drop (gone + 1).toNat) room = some (if gone < p then p - 1 else p)) (hpn : 0 ≤ p) (hx : bet x (rd_T25 l p) = false) (hM : victim_Pick.f (l ++ [x]) room = some p) :
    Calls Try.prog 9 #[.slice A0 n0 c0, .agg #[.int .i64 x.f0, .int .i64 x.f1, .int .i64 x.f2, .int .i64 x.f3, .int .u64 x.f4], .agg #[.int .i64 room, .int .i64 gone]] w fun e w' => e = .returned (.bool true) ∧ Below w.heap.size w w' := by
  have HR := Aside0.mk hC
  have HC := Aside0.mk hc
  have H16 := Aside0.mk h16
  clear hC hc h16 hn0
  have HPL := Aside0.mk hp1
  have HP := Aside0.mk hP
  have HLESS := Aside0.mk hless
  clear hp1 hP hless
  have HPN := Aside0.mk hpn
  have HXP := Aside0.mk ((bet_some x (rd_T25 l p)).trans (congrArg some hx))
  clear hx hpn
  have HPM := Aside0.mk hM
  clear hM
  have hpy : decide (p < -1) = false := decide_eq_false (by have := HPL.out; omega)
  have hpz : decide ((l.length : Int) ≤ p) = false := decide_eq_false (by have := HPL.out; omega)
  go_enter Try.func9, Try.ntmps9
  go_upto_region 2 with fail
  clear hcut hm_
  obtain ⟨W1, hW1⟩ : ∃ W, W = (w.alloc (.cells #[.int .i64 x.f0, .int .i64 x.f1, .int .i64 x.f2, .int .i64 x.f3, .int .u64 x.f4] 25)).alloc (.cells #[.int .i64 room, .int .i64 gone] 46) := ⟨_, rfl⟩
  rw [← hW1]
  obtain ⟨gn, hgn⟩ : ∃ g, g = w.heap.size + 1 := ⟨_, rfl⟩
  obtain ⟨gx, hgx⟩ : ∃ g, g = w.heap.size := ⟨_, rfl⟩
  have HXgx : Aside0 (W1.heap[gx]? = some (.cells #[.int .i64 x.f0, .int .i64 x.f1, .int .i64 x.f2, .int .i64 x.f3, .int .u64 x.f4] 25 (0, 0))) := ⟨by rw [hW1, hgx]; exact blk_alloc (blk_at rfl) _⟩
  have HXgn : Aside0 (W1.heap[gn]? = some (.cells #[.int .i64 room, .int .i64 gone] 46 (0, 0))) := ⟨by rw [hW1, hgn]; exact blk_at (by simp)⟩
  have HB : Aside0 (Below w.heap.size w W1) := ⟨by rw [hW1]; exact below_alloc (below_alloc (Below.refl _ _) _) _⟩
  rw [← hgn, ← hgx]
  clear hW1 hgn hgx
  have HR_ := Aside0.mk (Kd.C_below HR.out HB.out)
  clear HR
  have HR := HR_
  clear HR_
  go_wp2_with fail
  refine start_ (n := 6) (S := fun w' => w'.cell? ⟨gn, 0, none⟩ = some (.int .i64 room) ∧ w'.cell? ⟨gn, 1, none⟩ = some (.int .i64 gone)) (ds := []) #[false, false, false, false, false, false] (by kernel_rfl) rfl rfl ⟨((blk_cell (blk_drew HXgn.out) 0).trans rfl), ((blk_cell (blk_drew HXgn.out) 1).trans rfl)⟩ (fun hHeld => ?_)
  refine with_tabW law_rest.tab2 law_rest.bits2 (fun HT_ HW_ => ?_)
  have HB_ := Aside0.mk (below_drew HB.out)
  clear HB
  have HB := HB_
  clear HB_
  have HXgx_ := Aside0.mk (blk_drew HXgx.out)
  clear HXgx
  have HXgx := HXgx_
  clear HXgx_
  have HR_ := Aside0.mk (Kd.C_drew HR.out)
  clear HR
  have HR := HR_
  clear HR_
  generalize W1.drew = w1 at *
  refine pure_ (i := 0) (N := some 18) (v := ?_) (a' := ?_) #[true, false, false, false, false, false] rfl rfl (any_of HT_.out (by kernel_rfl)) (fun _ _ _ h => h) (Or.inl ⟨by rfl, ?_⟩) ?_ ?_
  rotate_left
  · intro w'
    go_simp
    with_reducible rfl
  rotate_left
  · simp only [Act.put, List.setIfInBounds_toArray, List.set_cons_zero, List.set_cons_succ, i64_w, i32_w]
    rfl
  refine pure_ (i := 2) (N := some 20) (v := ?_) (a' := ?_) #[true, false, true, false, false, false] rfl rfl (any_of HT_.out (by kernel_rfl)) (fun _ _ _ h => h) (Or.inl ⟨by rfl, ?_⟩) ?_ ?_
  rotate_left
  · intro w'
    go_simp
    with_reducible rfl
  rotate_left
  · simp only [Act.put, List.setIfInBounds_toArray, List.set_cons_zero, List.set_cons_succ, i64_w, i32_w]
    rfl
  refine take_ (i := 1) (N := some 19) (v := ?_) (a' := ?_) #[true, true, true, false, false, false] rfl rfl (take_ofW HT_.out HW_.out (by kernel_rfl)) (fun _ _ _ h => h) (Or.inl ⟨by rfl, ?_⟩) hHeld ?_ ?_
  rotate_left
  · rintro w' ⟨s0, s1⟩
    go_simp
    with_reducible rfl
  rotate_left
  · simp only [Act.put, List.setIfInBounds_toArray, List.set_cons_zero, List.set_cons_succ, i64_w, i32_w]
    rfl
  refine pure_ (i := 4) (N := some 7) (v := ?_) (a' := ?_) #[true, true, true, false, true, false] rfl rfl (any_of HT_.out (by kernel_rfl)) (fun _ _ _ h => h) (Or.inl ⟨by rfl, ?_⟩) ?_ ?_
  rotate_left
  · intro w'
    go_simp
    with_reducible rfl
  rotate_left
  · simp only [Act.put, List.setIfInBounds_toArray, List.set_cons_zero, List.set_cons_succ, i64_w, i32_w]
    rfl
  refine take_ (i := 3) (N := some 21) (v := ?_) (a' := ?_) #[true, true, true, true, true, false] rfl rfl (take_ofW HT_.out HW_.out (by kernel_rfl)) (fun _ _ _ h => h) (Or.inl ⟨by rfl, ?_⟩) hHeld ?_ ?_
  rotate_left
  · rintro w' ⟨s0, s1⟩
    go_simp
    with_reducible rfl
  rotate_left
  · simp only [Act.put, List.setIfInBounds_toArray, List.set_cons_zero, List.set_cons_succ, i64_w, i32_w]
    rfl
  refine pure_ (i := 5) (N := some 8) (v := ?_) (a' := ?_) #[true, true, true, true, true, true] rfl rfl (any_of HT_.out (by kernel_rfl)) (fun _ _ _ h => h) (Or.inl ⟨by rfl, ?_⟩) ?_ ?_
  rotate_left
  · intro w'
    go_simp
    with_reducible rfl
  rotate_left
  · simp only [Act.put, List.setIfInBounds_toArray, List.set_cons_zero, List.set_cons_succ, i64_w, i32_w]
    rfl
  refine done_ (done_of HT_.out (by kernel_rfl)) ?_

  clear HT_ HW_ hHeld
  clear HXgn
  go_wp2_with fail
  refine (victim_Pick.calls _ _ l room p _ HR.out HC.out HP.out).mono ?_
  rintro e w2 ⟨rfl, hb⟩
  have HB0 := Aside0.mk (below_step HB.out hb)
  have HXx := Aside0.mk (blk_below HXgx.out hb)
  have HRx := Aside0.mk (Kd.C_below HR.out hb)
  clear HB HXgx HR hb
  have HX := HXx
  have HR := HRx
  clear HXx HRx
  have HB : Aside0 (Below w2.heap.size w2 w2) := ⟨Below.refl _ _⟩
  go_upto_region 6 with fail
  clear hpy hpz
  go_upto_region 7 with (first | ((with_reducible refine gate_dst (N := 33) rfl ?_); refine Kd.R_lit k25 _ 25 ?hg (N := 33) ?hd (xs := ([] : List S25)) (inner := []) (ok := fun _ => True) (okp := fun _ => True) ?hr ?hp (fun _ hk => hk) trivial (Below.refl _ _) (Nat.le_refl _) (by simp) ?_; (case hd => rfl); (case hg => rfl); (case hr => first | (go_simp; done) | (go_simp; rfl)); (case hp => exact (Reps.none _ _)); intro vm w3 ho hb hg_ hnew_; clear hg_ hnew_; have n0_ := Aside0.mk (Kd.R_lower ho (below_size HB.out)); have n1_ := Aside0.mk (below_step HB.out hb); clear HB ho hb; have HM := n0_; have HB := n1_; clear n0_ n1_) | ((with_reducible refine gate_builtin (b := .append) (xs := #[.tmp 33, .tmp 34]) rfl ?_); at_builtin; refine Kd.R_append_rows k25 (w0 := w2) w2.heap.size rfl (.tmp 33) (.tmp 34) 22 25 (.agg #[(.int .i64 0), (.int .i64 0), (.int .i64 0), (.int .i64 0), (.int .u64 0)]) 40 rfl Try.underlying22 info25 rfl (by decide) (by omega) vm [] l _ _ _ (fun _ => True) (fun _ => False) rfl rfl ?aO ?aR (fun _ _ h => h) (fun _ h => h.elim) ?aF ?aB ?aS ?aL ?_; (case aR => exact Kd.C_below HR.out HB.out); (case aB => exact HB.out); (case aF => exact (fun _ _ => trivial)); (case aO => exact HM.out); (case aS => exact below_size HB.out); (case aL => have := H16.out; simp only [List.length_nil]; omega); intro vm2 w4 ho hb hg hat; rw [List.nil_append] at ho; have n0_ := Aside0.mk hb; have n1_ := Aside0.mk ho; clear HB HM; have HB := n0_; have HM := n1_; clear n0_ n1_ ho hb hg hat))
  have zb0 := (blk_cell (blk_below HX.out HB.out) 0).trans rfl
  have zb1 := (blk_cell (blk_below HX.out HB.out) 1).trans rfl
  have zb2 := (blk_cell (blk_below HX.out HB.out) 2).trans rfl
  have zb3 := (blk_cell (blk_below HX.out HB.out) 3).trans rfl
  have zb4 := (blk_cell (blk_below HX.out HB.out) 4).trans rfl
  go_upto_region 8 with ((with_reducible refine gate_builtin (b := .append) (xs := #[.tmp 36, .tmp 38]) rfl ?_); at_builtin; refine Kd.R_append k25 (w0 := w2) w2.heap.size rfl (.tmp 36) (.tmp 38) 22 25 (.agg #[(.int .i64 0), (.int .i64 0), (.int .i64 0), (.int .i64 0), (.int .u64 0)]) 40 rfl Try.underlying22 info25 rfl (by decide) (by omega) vm2 l x [.int .i64 x.f0, .int .i64 x.f1, .int .i64 x.f2, .int .i64 x.f3, .int .u64 x.f4] (fun _ => True) (fun _ => False) rfl (by first | (go_simp; done) | (go_simp; rfl)) ?aP (fun _ hk => hk.elim) ?aF ?aO ?aB ?aS ?aL ?_; (case aP => exact k25_mkM _ _ _ x); (case aB => exact HB.out); (case aF => exact (fun _ _ => trivial)); (case aO => exact HM.out); (case aS => exact below_size HB.out); (case aL => have := H16.out; omega); intro vm3 w5 ho hb hg hat; have n0_ := Aside0.mk hb; have n1_ := Aside0.mk ho; clear HB HM; have HB := n0_; have HM := n1_; clear n0_ n1_ ho hb hg hat)
  clear zb0 zb1 zb2 zb3 zb4
  obtain ⟨Am, cm, hvm, hcm, hCm⟩ := Kd.R_reads HM.out
  obtain ⟨l3, hl3⟩ : ∃ y, y = l ++ [x] := ⟨_, rfl⟩
  rw [← hl3] at hvm hcm hCm
  subst hvm
  have HMC := Aside0.mk hCm
  have HMc := Aside0.mk hcm
  have HL3 := Aside0.mk hl3
  clear hcm hCm HM hl3
  obtain ⟨ad_p, e1, hl_p0, hl_p1, hl_p2, hl_p3, hl_p4⟩ := at_T25 HR.out p HPN.out HPL.out.2
  obtain ⟨ad, had⟩ : ∃ a, a = ad_p := ⟨_, rfl⟩
  subst had
  cases e1
  replace hl_p0 := Aside0.mk hl_p0
  replace hl_p1 := Aside0.mk hl_p1
  replace hl_p2 := Aside0.mk hl_p2
  replace hl_p3 := Aside0.mk hl_p3
  replace hl_p4 := Aside0.mk hl_p4
  have hpa : decide (0 ≤ p) = true := decide_eq_true HPN.out
  have hp0t := eq_true HPN.out
  have hp1t := eq_true HPL.out.2
  go_wp2_with fail
  refine start_ (n := 18) (S := fun w' => w'.cell? ⟨gx, 0, none⟩ = some (.int .i64 x.f0) ∧ w'.cell? ⟨gx, 1, none⟩ = some (.int .i64 x.f1) ∧ w'.cell? ⟨gx, 2, none⟩ = some (.int .i64 x.f2) ∧ w'.cell? ⟨gx, 3, none⟩ = some (.int .i64 x.f3) ∧ w'.cell? ⟨gx, 4, none⟩ = some (.int .u64 x.f4) ∧ w'.cell? (ad.add (p.toNat * 5)) = some (.int .i64 (rd_T25 l p).f0) ∧ w'.cell? ⟨(ad.add (p.toNat * 5)).block, (ad.add (p.toNat * 5)).off + 1, none⟩ = some (.int .i64 (rd_T25 l p).f1) ∧ w'.cell? ⟨(ad.add (p.toNat * 5)).block, (ad.add (p.toNat * 5)).off + 2, none⟩ = some (.int .i64 (rd_T25 l p).f2) ∧ w'.cell? ⟨(ad.add (p.toNat * 5)).block, (ad.add (p.toNat * 5)).off + 3, none⟩ = some (.int .i64 (rd_T25 l p).f3) ∧ w'.cell? ⟨(ad.add (p.toNat * 5)).block, (ad.add (p.toNat * 5)).off + 4, none⟩ = some (.int .u64 (rd_T25 l p).f4)) (ds := []) #[false, false, false, false, false, false, false, false, false, false, false, false, false, false, false, false, false, false] (by kernel_rfl) rfl rfl ⟨((blk_cell (blk_below HX.out (below_drew HB.out)) 0).trans rfl), ((blk_cell (blk_below HX.out (below_drew HB.out)) 1).trans rfl), ((blk_cell (blk_below HX.out (below_drew HB.out)) 2).trans rfl), ((blk_cell (blk_below HX.out (below_drew HB.out)) 3).trans rfl), ((blk_cell (blk_below HX.out (below_drew HB.out)) 4).trans rfl), (pw_cell_below (below_drew HB.out) hl_p0.out), (pw_cell_below (below_drew HB.out) hl_p1.out), (pw_cell_below (below_drew HB.out) hl_p2.out), (pw_cell_below (below_drew HB.out) hl_p3.out), (pw_cell_below (below_drew HB.out) hl_p4.out)⟩ (fun hHeld => ?_)
  refine with_tabW law_rest.tab8 law_rest.bits8 (fun HT_ HW_ => ?_)
  have HB_ := Aside0.mk (below_drew HB.out)
  clear HB
  have HB := HB_
  clear HB_
  have HMC_ := Aside0.mk (Kd.C_drew HMC.out)
  clear HMC
  have HMC := HMC_
  clear HMC_
  generalize w5.drew = w6 at *
  refine pure_ (i := 0) (N := some 40) (v := ?_) (a' := ?_) #[true, false, false, false, false, false, false, false, false, false, false, false, false, false, false, false, false, false] rfl rfl (any_of HT_.out (by kernel_rfl)) (fun _ _ _ h => h) (Or.inl ⟨by rfl, ?_⟩) ?_ ?_
  rotate_left
  · intro w'
    go_simp
    with_reducible rfl
  rotate_left
  · simp only [Act.put, List.setIfInBounds_toArray, List.set_cons_zero, List.set_cons_succ, i64_w, i32_w]
    rfl
  refine pure_ (i := 1) (N := some 41) (v := ?_) (a' := ?_) #[true, true, false, false, false, false, false, false, false, false, false, false, false, false, false, false, false, false] rfl rfl (any_of HT_.out (by kernel_rfl)) (fun _ _ _ h => h) (Or.inl ⟨by rfl, ?_⟩) ?_ ?_
  rotate_left
  · intro w'
    go_simp
    with_reducible rfl
  rotate_left
  · simp only [Act.put, List.setIfInBounds_toArray, List.set_cons_zero, List.set_cons_succ, i64_w, i32_w]
    rfl
  refine pure_ (i := 2) (N := some 42) (v := ?_) (a' := ?_) #[true, true, true, false, false, false, false, false, false, false, false, false, false, false, false, false, false, false] rfl rfl (any_of HT_.out (by kernel_rfl)) (fun _ _ _ h => h) (Or.inl ⟨by rfl, ?_⟩) ?_ ?_
  rotate_left
  · intro w'
    go_simp
    with_reducible rfl
  rotate_left
  · simp only [Act.put, List.setIfInBounds_toArray, List.set_cons_zero, List.set_cons_succ, i64_w, i32_w]
    rfl
  refine pure_ (i := 4) (N := some 44) (v := ?_) (a' := ?_) #[true, true, true, false, true, false, false, false, false, false, false, false, false, false, false, false, false, false] rfl rfl (any_of HT_.out (by kernel_rfl)) (fun _ _ _ h => h) (Or.inl ⟨by rfl, ?_⟩) ?_ ?_
  rotate_left
  · intro w'
    go_simp
    with_reducible rfl
  rotate_left
  · simp only [Act.put, List.setIfInBounds_toArray, List.set_cons_zero, List.set_cons_succ, i64_w, i32_w]
    rfl
  refine pure_ (i := 5) (N := some 45) (v := ?_) (a' := ?_) #[true, true, true, false, true, true, false, false, false, false, false, false, false, false, false, false, false, false] rfl rfl (any_of HT_.out (by kernel_rfl)) (fun _ _ _ h => h) (Or.inl ⟨by rfl, ?_⟩) ?_ ?_
  rotate_left
  · intro w'
    go_simp
    with_reducible rfl
  rotate_left
  · simp only [Act.put, List.setIfInBounds_toArray, List.set_cons_zero, List.set_cons_succ, i64_w, i32_w]
    rfl
  refine pure_ (i := 6) (N := some 46) (v := ?_) (a' := ?_) #[true, true, true, false, true, true, true, false, false, false, false, false, false, false, false, false, false, false] rfl rfl (any_of HT_.out (by kernel_rfl)) (fun _ _ _ h => h) (Or.inl ⟨by rfl, ?_⟩) ?_ ?_
  rotate_left
  · intro w'
    go_simp
    with_reducible rfl
  rotate_left
  · simp only [Act.put, List.setIfInBounds_toArray, List.set_cons_zero, List.set_cons_succ, i64_w, i32_w]
    rfl
  refine take_ (i := 3) (N := some 43) (v := ?_) (a' := ?_) #[true, true, true, true, true, true, true, false, false, false, false, false, false, false, false, false, false, false] rfl rfl (take_ofW HT_.out HW_.out (by kernel_rfl)) (fun _ _ _ h => h) (Or.inl ⟨by rfl, ?_⟩) hHeld ?_ ?_
  rotate_left
  · rintro w' ⟨s0, s1, s2, s3, s4, s5, s6, s7, s8, s9⟩
    go_simp
    with_reducible rfl
  rotate_left
  · simp only [Act.put, List.setIfInBounds_toArray, List.set_cons_zero, List.set_cons_succ, i64_w, i32_w]
    rfl
  refine take_ (i := 7) (N := some 47) (v := ?_) (a' := ?_) #[true, true, true, true, true, true, true, true, false, false, false, false, false, false, false, false, false, false] rfl rfl (take_ofW HT_.out HW_.out (by kernel_rfl)) (fun _ _ _ h => h) (Or.inl ⟨by rfl, ?_⟩) hHeld ?_ ?_
  rotate_left
  · rintro w' ⟨s0, s1, s2, s3, s4, s5, s6, s7, s8, s9⟩
    go_simp
    with_reducible rfl
  rotate_left
  · simp only [Act.put, List.setIfInBounds_toArray, List.set_cons_zero, List.set_cons_succ, i64_w, i32_w]
    rfl
  refine one_ (i := 8) (N := some 48) #[true, true, true, true, true, true, true, true, true, false, false, false, false, false, false, false, false, false] rfl rfl (one_of HT_.out (by kernel_rfl)) (by decide) (fun K hK => ?_)
  refine goes_ Try.func10 (by kernel_rfl) rfl #[.agg #[.int .i64 x.f0, .int .i64 x.f1, .int .i64 x.f2, .int .i64 x.f3, .int .u64 x.f4], .agg #[.int .i64 (rd_T25 l p).f0, .int .i64 (rd_T25 l p).f1, .int .i64 (rd_T25 l p).f2, .int .i64 (rd_T25 l p).f3, .int .u64 (rd_T25 l p).f4]] (by rfl) rfl rfl (by simp only [List.map_toArray, List.map_cons, List.map_nil]; rfl) ?_
  with_reducible refine (victim_Better.calls _ _ _ _ _ _ _ _ _ _ false _ HXP.out).mono ?_
  rintro e w7 ⟨rfl, hb⟩
  refine ⟨_, rfl, ?_⟩
  have HB_ := Aside0.mk (below_step HB.out hb)
  clear HB
  have HB := HB_
  clear HB_
  have HMC_ := Aside0.mk (Kd.C_below HMC.out hb)
  clear HMC
  have HMC := HMC_
  clear HMC_
  clear hb
  refine hK.out _ _ ⟨((blk_cell (blk_below HX.out HB.out) 0).trans rfl), ((blk_cell (blk_below HX.out HB.out) 1).trans rfl), ((blk_cell (blk_below HX.out HB.out) 2).trans rfl), ((blk_cell (blk_below HX.out HB.out) 3).trans rfl), ((blk_cell (blk_below HX.out HB.out) 4).trans rfl), (pw_cell_below HB.out hl_p0.out), (pw_cell_below HB.out hl_p1.out), (pw_cell_below HB.out hl_p2.out), (pw_cell_below HB.out hl_p3.out), (pw_cell_below HB.out hl_p4.out)⟩ (fun hHeld => ?_)
  clear hK K
  refine norm_ (a' := ?_) ?_ ?_
  rotate_left
  · show Act.put _ (some 48) _ = _
    simp only [Act.put, List.setIfInBounds_toArray, List.set_cons_zero, List.set_cons_succ, i64_w, i32_w]
    rfl
  refine pure_ (i := 9) (N := some 49) (v := ?_) (a' := ?_) #[true, true, true, true, true, true, true, true, true, true, false, false, false, false, false, false, false, false] rfl rfl (any_of HT_.out (by kernel_rfl)) (fun _ _ _ h => h) (Or.inl ⟨by rfl, ?_⟩) ?_ ?_
  rotate_left
  · intro w'
    go_simp
    with_reducible rfl
  rotate_left
  · simp only [Act.put, List.setIfInBounds_toArray, List.set_cons_zero, List.set_cons_succ, i64_w, i32_w]
    rfl
  refine pure_ (i := 10) (N := some 50) (v := ?_) (a' := ?_) #[true, true, true, true, true, true, true, true, true, true, true, false, false, false, false, false, false, false] rfl rfl (any_of HT_.out (by kernel_rfl)) (fun _ _ _ h => h) (Or.inl ⟨by rfl, ?_⟩) ?_ ?_
  rotate_left
  · intro w'
    go_simp
    with_reducible rfl
  rotate_left
  · simp only [Act.put, List.setIfInBounds_toArray, List.set_cons_zero, List.set_cons_succ, i64_w, i32_w]
    rfl
  refine pure_ (i := 11) (N := some 51) (v := ?_) (a' := ?_) #[true, true, true, true, true, true, true, true, true, true, true, true, false, false, false, false, false, false] rfl rfl (any_of HT_.out (by kernel_rfl)) (fun _ _ _ h => h) (Or.inl ⟨by rfl, ?_⟩) ?_ ?_
  rotate_left
  · intro w'
    go_simp
    with_reducible rfl
  rotate_left
  · simp only [Act.put, List.setIfInBounds_toArray, List.set_cons_zero, List.set_cons_succ, i64_w, i32_w]
    rfl
  refine pure_ (i := 12) (N := some 52) (v := ?_) (a' := ?_) #[true, true, true, true, true, true, true, true, true, true, true, true, true, false, false, false, false, false] rfl rfl (any_of HT_.out (by kernel_rfl)) (fun _ _ _ h => h) (Or.inl ⟨by rfl, ?_⟩) ?_ ?_
  rotate_left
  · intro w'
    go_simp
    with_reducible rfl
  rotate_left
  · simp only [Act.put, List.setIfInBounds_toArray, List.set_cons_zero, List.set_cons_succ, i64_w, i32_w]
    rfl
  refine pure_ (i := 13) (N := some 53) (v := ?_) (a' := ?_) #[true, true, true, true, true, true, true, true, true, true, true, true, true, true, false, false, false, false] rfl rfl (any_of HT_.out (by kernel_rfl)) (fun _ _ _ h => h) (Or.inl ⟨by rfl, ?_⟩) ?_ ?_
  rotate_left
  · intro w'
    go_simp
    with_reducible rfl
  rotate_left
  · simp only [Act.put, List.setIfInBounds_toArray, List.set_cons_zero, List.set_cons_succ, i64_w, i32_w]
    rfl
  refine pure_ (i := 15) (N := some 55) (v := ?_) (a' := ?_) #[true, true, true, true, true, true, true, true, true, true, true, true, true, true, false, true, false, false] rfl rfl (any_of HT_.out (by kernel_rfl)) (fun _ _ _ h => h) (Or.inl ⟨by rfl, ?_⟩) ?_ ?_
  rotate_left
  · intro w'
    go_simp
    with_reducible rfl
  rotate_left
  · simp only [Act.put, List.setIfInBounds_toArray, List.set_cons_zero, List.set_cons_succ, i64_w, i32_w]
    rfl
  refine one_ (i := 14) (N := some 54) #[true, true, true, true, true, true, true, true, true, true, true, true, true, true, true, true, false, false] rfl rfl (one_of HT_.out (by kernel_rfl)) (by decide) (fun K hK => ?_)
  refine goes_ Try.func13 (by kernel_rfl) rfl #[.slice Am l3.length cm, .int .i64 room] (by rfl) rfl rfl (by simp only [List.map_toArray, List.map_cons, List.map_nil]; rfl) ?_
  with_reducible refine (victim_Pick.calls _ _ l3 room p _ HMC.out HMc.out ((congrArg (fun z => victim_Pick.f z room) HL3.out).trans HPM.out)).mono ?_
  rintro e w8 ⟨rfl, hb⟩
  refine ⟨_, rfl, ?_⟩
  have HB_ := Aside0.mk (below_step HB.out hb)
  clear HB
  have HB := HB_
  clear HB_
  have HMC_ := Aside0.mk (Kd.C_below HMC.out hb)
  clear HMC
  have HMC := HMC_
  clear HMC_
  clear hb
  refine hK.out _ _ ⟨((blk_cell (blk_below HX.out HB.out) 0).trans rfl), ((blk_cell (blk_below HX.out HB.out) 1).trans rfl), ((blk_cell (blk_below HX.out HB.out) 2).trans rfl), ((blk_cell (blk_below HX.out HB.out) 3).trans rfl), ((blk_cell (blk_below HX.out HB.out) 4).trans rfl), (pw_cell_below HB.out hl_p0.out), (pw_cell_below HB.out hl_p1.out), (pw_cell_below HB.out hl_p2.out), (pw_cell_below HB.out hl_p3.out), (pw_cell_below HB.out hl_p4.out)⟩ (fun hHeld => ?_)
  clear hK K
  refine norm_ (a' := ?_) ?_ ?_
  rotate_left
  · show Act.put _ (some 54) _ = _
    simp only [Act.put, List.setIfInBounds_toArray, List.set_cons_zero, List.set_cons_succ, i64_w, i32_w]
    rfl
  refine pure_ (i := 16) (N := some 56) (v := ?_) (a' := ?_) #[true, true, true, true, true, true, true, true, true, true, true, true, true, true, true, true, true, false] rfl rfl (any_of HT_.out (by kernel_rfl)) (fun _ _ _ h => h) (Or.inl ⟨by rfl, ?_⟩) ?_ ?_
  rotate_left
  · intro w'
    go_simp
    with_reducible rfl
  rotate_left
  · simp only [Act.put, List.setIfInBounds_toArray, List.set_cons_zero, List.set_cons_succ, i64_w, i32_w]
    rfl
  refine pure_ (i := 17) (N := some 57) (v := ?_) (a' := ?_) #[true, true, true, true, true, true, true, true, true, true, true, true, true, true, true, true, true, true] rfl rfl (any_of HT_.out (by kernel_rfl)) (fun _ _ _ h => h) (Or.inl ⟨by rfl, ?_⟩) ?_ ?_
  rotate_left
  · intro w'
    go_simp
    with_reducible rfl
  rotate_left
  · simp only [Act.put, List.setIfInBounds_toArray, List.set_cons_zero, List.set_cons_succ, i64_w, i32_w]
    rfl
  refine done_ (done_of HT_.out (by kernel_rfl)) ?_

  clear HT_ HW_ hHeld HMC HMc
  clear hpa
  by_cases hg1 : gone < 0
  · have hga := decide_eq_true hg1
    clear hg1
    go_wp2_with fail
    refine (lodgerlaw14_fixed.calls true _ rfl).mono ?_
    rintro e wf ⟨rfl, hb⟩
    have HB_ := Aside0.mk (below_step HB.out hb)
    clear HB
    have HB := HB_
    clear HB_
    clear hb
    go_wp2
    go_ret
    exact ⟨rfl, below_step HB0.out HB.out⟩
  · have hga := decide_eq_false hg1
    by_cases hg2 : (l.length : Int) ≤ gone
    · have hgb := decide_eq_true hg2
      clear hg1 hg2
      go_wp2_with fail
      refine (lodgerlaw14_fixed.calls true _ rfl).mono ?_
      rintro e wf ⟨rfl, hb⟩
      have HB_ := Aside0.mk (below_step HB.out hb)
      clear HB
      have HB := HB_
      clear HB_
      clear hb
      go_wp2
      go_ret
      exact ⟨rfl, below_step HB0.out HB.out⟩
    · have hgb := decide_eq_false hg2
      by_cases hg3 : gone = p
      · have hgc : (gone == p) = true := beq_iff_eq.mpr hg3
        clear hg1 hg2 hg3
        go_wp2_with fail
        refine (lodgerlaw14_fixed.calls true _ rfl).mono ?_
        rintro e wf ⟨rfl, hb⟩
        have HB_ := Aside0.mk (below_step HB.out hb)
        clear HB
        have HB := HB_
        clear HB_
        clear hb
        go_wp2
        go_ret
        exact ⟨rfl, below_step HB0.out HB.out⟩
      · have hgc : (gone == p) = false := beq_eq_false_iff_ne.mpr hg3
        obtain ⟨q, hq⟩ : ∃ q, (if gone < p then p - 1 else p) = q := ⟨_, rfl⟩
        have HQ : Aside0 (victim_Pick.f (l.take gone.toNat ++ l.drop (gone + 1).toNat) room = some q) := ⟨by rw [← hq]; exact HLESS.out (by omega) (by omega) hg3⟩
        obtain ⟨i0, hi, _, hsz, _⟩ := info_parts info25
        obtain ⟨y1, hy1⟩ : ∃ y, y = l.take gone.toNat := ⟨_, rfl⟩
        have hl1 : y1.length = gone.toNat := by rw [hy1, List.length_take]; omega
        have hcut2 := cut_to (P := Try.prog) 22 25 .i64 Try.underlying22 hi (some ad) l.length c0 gone (by omega) (by omega) HC.out
        rw [← hl1] at hcut2
        have HC1 : Aside0 (Kd.C k25 w2 (some ad) y1.length y1) := ⟨by rw [hy1]; exact Kd.C_take HR.out (by omega)⟩
        obtain ⟨y2, hy2⟩ : ∃ y, y = l.drop (gone + 1).toNat := ⟨_, rfl⟩
        have hl2 : y2.length = l.length - (gone + 1).toNat := by rw [hy2, List.length_drop]
        have hcut3 := cut_from (P := Try.prog) 22 25 .i64 Try.underlying22 hi 5 hsz (some ad) l.length c0 (gone + 1) (by omega) (by omega)
        have hC2 := Kd.C_drop (m := (gone + 1).toNat) (c := c0) HR.out (by omega) HC.out
        rw [← hy2] at hC2
        have hk5 : k25.sz = 5 := rfl
        rw [hk5] at hC2
        obtain ⟨A2, hA2⟩ : ∃ A', A' = (if c0 = (gone + 1).toNat then (some ad) else ((some ad) : Option Addr).map (·.add ((gone + 1).toNat * 5))) := ⟨_, rfl⟩
        rw [← hA2] at hC2 hcut3
        have hc2 : y2.length ≤ c0 - (gone + 1).toNat := by rw [hl2]; have := HC.out; omega
        rw [← hl2] at hcut3
        obtain ⟨c2, hcc2⟩ : ∃ c, c = c0 - (gone + 1).toNat := ⟨_, rfl⟩
        rw [← hcc2] at hcut3 hc2
        have HC2 := Aside0.mk hC2
        clear hC2 hk5 hA2 hcc2
        rw [← hy1, ← hy2] at HQ
        have hg0 : 0 ≤ gone := by omega
        have hg64 : gone + 1 ≤ 9223372036854775807 := by have := H16.out; omega
        have HL : Aside0 (y1.length + y2.length ≤ 16) := ⟨by have := H16.out; omega⟩
        clear hl1 hl2 hy1 hy2 hc2 hg1 hg2 hg3
        go_upto_region 14 with (first | ((with_reducible refine gate_dst (N := 72) rfl ?_); refine Kd.R_lit k25 _ 25 ?hg (N := 72) ?hd (xs := ([] : List S25)) (inner := []) (ok := fun _ => True) (okp := fun _ => True) ?hr ?hp (fun _ hk => hk) trivial (Below.refl _ _) (Nat.le_refl _) (by simp) ?_; (case hd => rfl); (case hg => rfl); (case hr => first | (go_simp; done) | (go_simp; rfl)); (case hp => exact (Reps.none _ _)); intro vm wa ho hb hg_ hnew_; clear hg_ hnew_; have n0_ := Aside0.mk (Kd.R_lower ho (below_size HB.out)); have n1_ := Aside0.mk (below_step HB.out hb); clear HB ho hb; have HM := n0_; have HB := n1_; clear n0_ n1_) | ((with_reducible refine gate_builtin (b := .append) (xs := #[.tmp 72, .tmp 75]) rfl ?_); at_builtin; refine Kd.R_append_rows k25 (w0 := w2) w2.heap.size rfl (.tmp 72) (.tmp 75) 22 25 (.agg #[(.int .i64 0), (.int .i64 0), (.int .i64 0), (.int .i64 0), (.int .u64 0)]) 40 rfl Try.underlying22 info25 rfl (by decide) (by omega) vm [] y1 _ _ _ (fun _ => True) (fun _ => False) rfl rfl ?aO ?aR (fun _ _ h => h) (fun _ h => h.elim) ?aF ?aB ?aS ?aL ?_; (case aR => exact Kd.C_below HC1.out HB.out); (case aB => exact HB.out); (case aF => exact (fun _ _ => trivial)); (case aO => exact HM.out); (case aS => exact below_size HB.out); (case aL => have := HL.out; simp only [List.length_nil]; omega); intro vl wb ho hb hg hat; rw [List.nil_append] at ho; have n0_ := Aside0.mk hb; have n1_ := Aside0.mk ho; clear HB HM; have HB := n0_; have HM := n1_; clear n0_ n1_ ho hb hg hat) | ((with_reducible refine gate_builtin (b := .append) (xs := #[.tmp 77, .tmp 81]) rfl ?_); at_builtin; refine Kd.R_append_rows k25 (w0 := w2) w2.heap.size rfl (.tmp 77) (.tmp 81) 22 25 (.agg #[(.int .i64 0), (.int .i64 0), (.int .i64 0), (.int .i64 0), (.int .u64 0)]) 40 rfl Try.underlying22 info25 rfl (by decide) (by omega) vl y1 y2 _ _ _ (fun _ => True) (fun _ => False) rfl rfl ?aO ?aR (fun _ _ h => h) (fun _ h => h.elim) ?aF ?aB ?aS ?aL ?_; (case aR => exact Kd.C_below HC2.out HB.out); (case aB => exact HB.out); (case aF => exact (fun _ _ => trivial)); (case aO => exact HM.out); (case aS => exact below_size HB.out); (case aL => have := HL.out; omega); intro vl2 wc ho hb hg hat; have n0_ := Aside0.mk hb; have n1_ := Aside0.mk ho; clear HB HM; have HB := n0_; have HM := n1_; clear n0_ n1_ ho hb hg hat))
        obtain ⟨Al, cl, hvl, hcl, hCl⟩ := Kd.R_reads HM.out
        subst hvl
        clear hcut2 hcut3
        obtain ⟨y3, hy3⟩ : ∃ y, y = y1 ++ y2 := ⟨_, rfl⟩
        have HQ3 := HQ.out
        rw [← hy3] at hCl hcl HQ3 ⊢
        clear hy3
        go_wp2_with fail
        refine (victim_Pick.calls _ _ y3 room q _ hCl hcl HQ3).mono ?_
        rintro e wd ⟨rfl, hb⟩
        have HB_ := Aside0.mk (below_step HB.out hb)
        clear HB
        have HB := HB_
        clear HB_
        clear hb hCl hcl HM HQ3
        by_cases hgp : gone < p
        · have hgp2 := decide_eq_true hgp
          obtain rfl : q = p - 1 := by rw [← hq, if_pos hgp]
          have hp64 : -9223372036854775808 ≤ p - 1 := by omega
          have hp65 : p - 1 ≤ 9223372036854775807 := by have := HPL.out; have := H16.out; omega
          have hw64 : wrap64 (p - 1) = p - 1 := by unfold wrap64; omega
          clear hgp hq
          go_wp2_with fail
          refine (lodgerlaw14_fixed.calls true _ rfl).mono ?_
          rintro e wf ⟨rfl, hb⟩
          have HB_ := Aside0.mk (below_step HB.out hb)
          clear HB
          have HB := HB_
          clear HB_
          clear hb
          go_wp2
          go_ret
          exact ⟨rfl, below_step HB0.out HB.out⟩
        · have hgp2 := decide_eq_false hgp
          obtain rfl : q = p := by rw [← hq, if_neg hgp]
          clear hgp hq
          go_wp2_with fail
          refine (lodgerlaw14_fixed.calls true _ rfl).mono ?_
          rintro e wf ⟨rfl, hb⟩
          have HB_ := Aside0.mk (below_step HB.out hb)
          clear HB
          have HB := HB_
          clear HB_
          clear hb
          go_wp2
          go_ret
          exact ⟨rfl, below_step HB0.out HB.out⟩
structure S46 where
  f0 : Int
  f1 : Int
namespace Op
def k46 : Kd S46 := Kd.iso (Kd.pair (Kd.int .i64) (Kd.int .i64)) (fun x => (x.f0, x.f1))
def G46 (x : S46) : Prop := (Lit.int .i64 x.f0).wf = true ∧ (Lit.int .i64 x.f1).wf = true
theorem k46_open {w : World} {x : S46} {cs : List Value} (h : k46.K w x cs) : cs = [.int .i64 x.f0, .int .i64 x.f1] := by
  obtain ⟨_, _, rfl, rfl, rfl⟩ := h
  exact rfl
end Op
theorem VictimRest_walk {w : World} (A0 : Option Addr) (c0 : Nat) (l0 : List S25) (hC : Kd.C k25 w A0 l0.length l0) (hc : l0.length ≤ c0) (hG : ∀ p ∈ l0, Op.G25 p) (x : S25) (_ : Op.G25 x) (n : S46) (_ : Op.G46 n) :
    Calls Try.prog 9 #[.slice A0 l0.length c0, .agg #[.int .i64 x.f0, .int .i64 x.f1, .int .i64 x.f2, .int .i64 x.f3, .int .u64 x.f4], .agg #[.int .i64 n.f0, .int .i64 n.f1]] w fun e w' => e = .returned (.bool true) ∧ Below w.heap.size w w' := by
  obtain ⟨room, gone⟩ := n
  obtain ⟨m, l, hm, h16, hcut, hC', hc', _⟩ := cut16 hC hc hG
  rcases pk_tells l (fun i => decide ((rd_T25 l i).f3 ≤ room)) l.length with ⟨hp, h⟩ | h
  · exact rest_none A0 c0 l x room gone l0.length m hc hm hcut hC' hc' h16 (-1) ⟨by omega, by omega⟩ (congrArg some hp) (fun h0 h1 h2 => by
      have := less_none (room := room) gone.toNat (by omega) h
      rw [if_neg (by omega), show (gone + 1).toNat = gone.toNat + 1 by omega]
      exact this) (by omega)
  · obtain ⟨p, hp⟩ : ∃ p, pk l (fun i => decide ((rd_T25 l i).f3 ≤ room)) l.length = p := ⟨_, rfl⟩
    rw [hp] at h
    have hless : ∀ (h0 : 0 ≤ gone) (h1 : gone < l.length) (h2 : gone ≠ p), victim_Pick.f (l.take gone.toNat ++ l.drop (gone + 1).toNat) room = some (if gone < p then p - 1 else p) := fun h0 h1 h2 => by
      have := less_best (room := room) gone.toNat (by omega) h (by omega)
      rw [show ((gone.toNat : Nat) : Int) = gone by omega] at this
      rw [show (gone + 1).toNat = gone.toNat + 1 by omega]
      exact this
    cases hx : bet x (rd_T25 l p) with
    | true => exact rest_worse A0 c0 l x room gone l0.length m hc hm hcut hC' hc' h16 p ⟨by have := h.lo; omega, h.hi⟩ (congrArg some hp) hless h.lo hx
    | false => exact rest_same A0 c0 l x room gone l0.length m hc hm hcut hC' hc' h16 p ⟨by have := h.lo; omega, h.hi⟩ (congrArg some hp) hless h.lo hx (more_best h hx)
end Go.Proofs.Ytbcjdendpdnknaa.H
