/-
The walk of SweepEnds, and the plain laws behind it.
-/
import Derived.Test.YtbcmjbjhjnojjaaHx
import Derived.Test.YtbcmjbjhjnojjaaSw2
namespace Go.Proofs.Ytbcmjbjhjnojjaa.H
open Go.RowKit Go.Proofs.YtbcmjbjhjnojjaaW.PrintWords Go.Proofs.YtbcmjbjhjnojjaaW.PrintLast Go.Proofs.YtbcmjbjhjnojjaaW.PrintMore
attribute [local go_sem] max2_int min2_int max_two min_two max_three min_three max_four min_four
set_option linter.unusedVariables false
set_option linter.unusedSimpArgs false
theorem zxI {α : Type} (l : List α) (i : Nat) (a : α) : l.toArray.setIfInBounds i a = (l.set i a).toArray := List.setIfInBounds_toArray l i a
theorem zxs0 {α : Type} (x : α) (l : List α) (a : α) : (x :: l).set 0 a = a :: l := rfl
theorem zxs1 {α : Type} (x : α) (l : List α) (i : Nat) (a : α) : (x :: l).set (i + 1) a = x :: l.set i a := rfl
def sweep_ends5.T2 : Bool × List (List Nat × List Nat) := (true,[([],[]),([],[]),([0,0],[0]),([1,2,0,1,2],[1])])
def sweep_ends5.B2 : List Nat := [0,0,1,7]
theorem sweep_ends5.tab2 : rtab .any (opsOf Try.f5 2) = sweep_ends5.T2 := by kernel_rfl
theorem sweep_ends5.bits2 : waitsOk sweep_ends5.T2.2 sweep_ends5.B2 = true := by kernel_rfl
def sg (m : Nat) : List Int := (List.range m).map (fun i : Nat => (i : Int))
theorem sg_len (m : Nat) : (sg m).length = m := by simp [sg]
theorem sg_snoc (m : Nat) : sg m ++ [(m : Int)] = sg (m + 1) := by simp [sg,List.range_succ]
theorem sg_in {m : Nat} {z : Int} (h : z ∈ sg m) : 0 ≤ z ∧ z < m := by
 obtain ⟨i,hi,rfl⟩ := List.mem_map.1 h
 have := List.mem_range.1 hi
 omega
theorem sg_rt (m : Nat) (h : m ≤ 15) : rt (sg m) (-1) 0 0 = true := by
 have key : ∀ m,m < 16 → rt (sg m) (-1) 0 0 = true := by decide +kernel
 exact key m (by omega)
theorem sg_begin (m : Nat) (h : m ≤ 15) : sweep_Begin.f 61 [] (-1) 0 0 (sg m) = some (sg m,-1,0,0,0) := by
 rw [(begin_is (l := []) (v := -1) (s := 0) (n := 0) (by decide) (sg m) (by rw [sg_len]; omega)).1]
 unfold beginR
 rw [if_pos ⟨rfl,rfl,sg_rt m h⟩]
/-- How many steps at most. -/
def lf (l : List Int) (v s n most : Int) : Int := (l.length : Int) * (most + 2) + (if v = -1 then 0 else n - s + 1)
theorem mul_in {a b : Int} (h0 : 0 ≤ a) (h1 : a ≤ 16) (k0 : 0 ≤ b) (k1 : b ≤ 32) : 0 ≤ a * b ∧ a * b ≤ 512 := by
 refine ⟨Int.mul_nonneg h0 k0,?_⟩
 have h2 : a * b ≤ 16 * b := Int.mul_le_mul_of_nonneg_right h1 k0
 omega
theorem lf_is {l : List Int} {v s n most : Int} (h : rt l v s n = true) (h0 : 0 ≤ most) (h1 : most ≤ 30) : sweep_Left.f l v s n most = some (lf l v s n most) := by
 have h16 := rt_few h
 have ht := rt_tl h
 have hm : wrap64 (most + 2) = most + 2 := by unfold wrap64; omega
 have hp := mul_in (a := (l.length : Int)) (b := most + 2) (by omega) (by omega) (by omega) (by omega)
 unfold sweep_Left.f lf
 rw [hm]
 obtain ⟨P,hP⟩ : ∃ P,P = (l.length : Int) * (most + 2) := ⟨_,rfl⟩
 rw [← hP] at hp ⊢
 by_cases hv : v = -1
 ·rw [if_pos hv,if_pos hv]
  exact congrArg some (by unfold wrap64; omega)
 ·rw [if_neg hv,if_neg hv]
  have e1 : wrap64 (n - s) = n - s := by unfold wrap64; omega
  have e2 : wrap64 (n - s + 1) = n - s + 1 := by unfold wrap64; omega
  have e3 : wrap64 P = P := by unfold wrap64; omega
  rw [e1,e2,e3]
  exact congrArg some (by unfold wrap64; omega)
theorem lf_lo {l : List Int} {v s n most : Int} (h : rt l v s n = true) (h0 : 0 ≤ most) : 0 ≤ lf l v s n most := by
 have ht := rt_tl h
 have hp : 0 ≤ (l.length : Int) * (most + 2) := Int.mul_nonneg (by omega) (by omega)
 unfold lf
 split <;> omega
def nx (l : List Int) (v s n : Int) : Int := if v = -1 then (if l.length = 0 then 0 else 2) else if s < n then 3 else 4
theorem nx_is {l : List Int} {v s n : Int} (h : rt l v s n = true) : sweep_Next.f 61 l v s n false = some (nx l v s n) := by
 unfold nx
 simp only [sweep_Next.f,sweep_Next.j0]
 by_cases hv : v = -1
 ·rw [if_pos hv,if_pos hv]
  simp only [Bool.false_eq_true,if_false]
  rw [if_pos hv]
  by_cases hl : (l.length : Int) > 0
  ·rw [if_pos hl,if_neg (by omega)]
   exact congrArg some (by unfold wrap64; rfl)
  ·rw [if_neg hl,if_pos (by omega)]
 ·rw [if_neg hv]
  by_cases hs : s < n
  ·rw [decide_eq_true hs,if_pos rfl,if_neg hv,if_pos hs]
  ·rw [decide_eq_false hs]
   simp only [Bool.false_eq_true,if_false]
   rw [if_neg hv,if_neg hv,if_neg hs]
/-- What holds at the head of each round: x rounds are done, L steps are left at most, taken segments were taken; bw: which. -/
def Inv (m : Nat) (most x L taken : Int) (l : List Int) (v s n : Int) (bw : List Bool) : Prop :=
 rt l v s n = true ∧ n ≤ most ∧ L = lf l v s n most ∧ 0 ≤ x ∧ x + L ≤ 480 ∧ taken + l.length = m ∧ 0 ≤ taken ∧ bw.length = 16 ∧ ∀ z ∈ l,rdOf false bw z = false
theorem Inv_start {m : Nat} {most : Int} (h1 : 1 ≤ m) (h15 : m ≤ 15) (h0 : 0 ≤ most) (h30 : most ≤ 30) : Inv m most 0 ((m : Int) * (most + 2)) 0 (sg m) (-1) 0 0 (List.replicate 16 false) := by
 have hp : (m : Int) * (most + 2) ≤ 15 * (most + 2) := Int.mul_le_mul_of_nonneg_right (by omega) (by omega)
 refine ⟨sg_rt m h15,h0,by unfold lf; rw [if_pos rfl,sg_len,Int.add_zero],by omega,by omega,by rw [sg_len]; omega,by omega,by simp,fun z hz => ?_⟩
 have hz2 := sg_in hz
 unfold rdOf
 rw [List.getD_eq_getElem?_getD,List.getElem?_replicate]
 split <;> rfl
theorem Inv_take {m : Nat} {most x L taken s n z mm : Int} {l : List Int} {bw : List Bool} (h : Inv m most x L taken l (-1) s n bw) (hz : z ∈ l) (hm0 : 0 ≤ mm) (hm1 : mm ≤ most) (h30 : most ≤ 30) :
  Inv m most (x + 1) (lf (l.filter (· != z)) z 0 mm most) (taken + 1) (l.filter (· != z)) z 0 mm (bw.set z.toNat true) ∧ lf (l.filter (· != z)) z 0 mm most < L ∧ 0 ≤ lf (l.filter (· != z)) z 0 mm most ∧ rt (l.filter (· != z)) z 0 mm = true := by
 obtain ⟨hr,hn,hL,hx0,hx,ht,ht0,hbw,hall⟩ := h
 obtain ⟨j,hj,hjz⟩ := mem_getD hz
 have hd := rt_nodup hr
 have hlen : (l.filter (· != z)).length = l.length - 1 := by
  have h1 := erase_filter hd hj
  rw [hjz] at h1
  rw [← h1,List.length_eraseIdx,if_pos hj]
 have hzs := rt_seg hr hz
 have h16 := rt_few hr
 have hrt : rt (l.filter (· != z)) z 0 mm = true := by
  refine rt_sub hr (hd.filter _) (fun _ hq => (List.mem_filter.1 hq).1) (fun hq => ?_) ?_
  ·have := (List.mem_filter.1 hq).2
   simp at this
  ·unfold tl
   rw [if_neg (by omega)]
   simp
   omega
 have hlf : lf (l.filter (· != z)) z 0 mm most < L := by
  rw [hL]
  unfold lf
  rw [if_neg (by omega),if_pos rfl,hlen]
  have e1 : ((l.length - 1 : Nat) : Int) = (l.length : Int) - 1 := by omega
  rw [e1,Int.sub_mul]
  omega
 refine ⟨⟨hrt,hm1,rfl,by omega,by omega,by rw [hlen]; omega,by omega,by simpa using hbw,fun q hq => ?_⟩,hlf,lf_lo hrt (by omega),hrt⟩
 have hq1 := List.mem_filter.1 hq
 have hqs := rt_seg hr hq1.1
 have hne : q ≠ z := by simpa using hq1.2
 have h0 := hall q hq1.1
 unfold rdOf at h0 ⊢
 rw [List.getD_eq_getElem?_getD] at h0 ⊢
 rw [List.getElem?_set_ne (by omega)]
 exact h0
theorem Inv_seen {m : Nat} {most x L taken v s n : Int} {l : List Int} {bw : List Bool} (h : Inv m most x L taken l v s n bw) (hv : v ≠ -1) (hs : s < n) :
  Inv m most (x + 1) (lf l v (s + 1) n most) taken l v (s + 1) n bw ∧ lf l v (s + 1) n most < L := by
 obtain ⟨hr,hn,hL,hx0,hx,ht,ht0,hbw,hall⟩ := h
 have h2 := rt_tl hr
 have hrt : rt l v (s + 1) n = true := by
  refine rt_sub hr (rt_nodup hr) (fun _ hq => hq) (fun hm => ?_) ?_
  ·obtain ⟨j,hj,e⟩ := mem_getD hm
   exact (okA_is ((rtf_all _ _ hr).1 j (by omega) (by omega))).2.2.1 e
  ·unfold tl
   rw [if_neg hv]
   simp
   omega
 have hlf : lf l v (s + 1) n most < L := by
  rw [hL]
  unfold lf
  rw [if_neg hv,if_neg hv]
  omega
 exact ⟨⟨hrt,hn,rfl,by omega,by omega,ht,ht0,hbw,hall⟩,hlf⟩
theorem Inv_give {m : Nat} {most x L taken v s n : Int} {l : List Int} {bw : List Bool} (h : Inv m most x L taken l v s n bw) (hv : v ≠ -1) (hs : ¬ s < n) :
  Inv m most (x + 1) (lf l (-1) 0 0 most) taken l (-1) 0 0 bw ∧ lf l (-1) 0 0 most < L := by
 obtain ⟨hr,hn,hL,hx0,hx,ht,ht0,hbw,hall⟩ := h
 have h2 := rt_tl hr
 have hrt : rt l (-1) 0 0 = true := by
  refine rt_sub hr (rt_nodup hr) (fun _ hq => hq) (fun hm => ?_) (by decide)
  have := rt_seg hr hm
  omega
 have hlf : lf l (-1) 0 0 most < L := by
  rw [hL]
  unfold lf
  rw [if_pos rfl,if_neg hv]
  omega
 exact ⟨⟨hrt,by omega,rfl,by omega,by omega,ht,ht0,hbw,hall⟩,hlf⟩
theorem Inv_end {m : Nat} {most x L taken s n : Int} {bw : List Bool} (h : Inv m most x L taken [] (-1) s n bw) : L = 0 ∧ taken = m ∧ s = 0 ∧ n = 0 := by
 obtain ⟨hr,hn,hL,hx0,hx,ht,ht0,hbw,hall⟩ := h
 have h2 := rt_tl hr
 refine ⟨?_,by simpa using ht,by omega,by omega⟩
 rw [hL]
 unfold lf
 simp
theorem info4b : (Try.prog.info? 4).map (fun i => (i.zero,i.size,i.bytes)) = some (some (.bool false),1,1) := by kernel_rfl
theorem begin_sg (AI : Option Addr) (cI : Nat) (A0 : Option Addr) (c0 m : Nat) (w : World) (h15 : m ≤ 15) (hI : Kd.C (Kd.int .i64) w AI 0 []) (hC : Kd.C (Kd.int .i64) w A0 (sg m).length (sg m)) (hc : (sg m).length ≤ c0) :
  Calls Try.prog 22 #[.agg #[.slice AI 0 cI,.int .i64 (-1),.int .i64 0,.int .i64 0],.slice A0 (sg m).length c0] w fun e w' => ∃ v0_ : Value,e = .returned (.tuple #[.agg #[v0_,.int .i64 (-1),.int .i64 0,.int .i64 0],.int .i64 0]) ∧ Kd.R (Kd.int .i64) 3 w' w.heap.size (fun _ => True) v0_ (sg m) ∧ Below w.heap.size w w' :=
 sweep_Begin.calls 61 AI cI [] (-1) 0 0 A0 c0 (sg m) (sg m) (-1) 0 0 0 w hI (Nat.zero_le _) hC hc (sg_begin m h15)
theorem ref_nil (At : Option Addr) (ct : Nat) (w : World) : Calls Try.prog 21 #[.agg #[.slice At 0 ct,.int .i64 (-1),.int .i64 0,.int .i64 0]] w fun e w' => e = .returned (.agg #[.slice At 0 ct,.int .i64 (-1),.int .i64 0,.int .i64 0]) ∧ Below w.heap.size w w' :=
 lodgerlaw15_Ref.calls At ct [] (-1) 0 0 w
theorem same_nil (At : Option Addr) (ct : Nat) (AJ : Option Addr) (cJ : Nat) (w : World) (h : Kd.C (Kd.int .i64) w At 0 []) (h' : Kd.C (Kd.int .i64) w AJ 0 []) :
  Calls Try.prog 26 #[.agg #[.slice At 0 ct,.int .i64 (-1),.int .i64 0,.int .i64 0],.agg #[.slice AJ 0 cJ,.int .i64 (-1),.int .i64 0,.int .i64 0]] w fun e w' => e = .returned (.bool true) ∧ Below w.heap.size w w' :=
 lodgerref15_Same.calls 61 At ct [] (-1) 0 0 AJ cJ [] (-1) 0 0 true w h (Nat.zero_le _) h' (Nat.zero_le _) (same_is [] (-1) 0 0 (by simp) 61 (by omega))
theorem rd_mem {l : List Int} {k : Int} (h0 : 0 ≤ k) (h1 : k < l.length) : rd l k ∈ l := getD_mem (by omega)
set_option maxHeartbeats 8000000 in
set_option maxRecDepth 100000 in
theorem SweepEnds_walk0 (n0 n1 : Int) (hn0 : 0 ≤ n0 ∧ n0 ≤ 255) (hn1 : 0 ≤ n1 ∧ n1 ≤ 255) (An : Option Addr) (cn : Nat) (ls : List Int) (Ap : Option Addr) (cp : Nat) (pk : List Int) (w : World) (hCn : Kd.C (Kd.int .u8) w An ls.length ls) (hcn : ls.length ≤ cn) (hGn : ∀ p ∈ ls,0 ≤ p ∧ p ≤ 255) (hCp : Kd.C (Kd.int .u8) w Ap pk.length pk) (hcp : pk.length ≤ cp) (hGp : ∀ p ∈ pk,0 ≤ p ∧ p ≤ 255) :
  Calls Try.prog 5 #[.agg #[.int .u8 n0,.int .u8 n1],.slice An ls.length cn,.slice Ap pk.length cp] w fun e w' => e = .returned (.bool true) ∧ Below w.heap.size w w' := by
 have HCn := Aside0.mk hCn
 have Hcn := Aside0.mk hcn
 have HGn := Aside0.mk hGn
 have HCp := Aside0.mk hCp
 have Hcp := Aside0.mk hcp
 have HGp := Aside0.mk hGp
 have hn00 := hn0.1
 have hn01 := hn0.2
 have hn10 := hn1.1
 have hn11 := hn1.2
 clear hCn hcn hGn hCp hcp hGp hn0 hn1
 go_enter Try.func5,Try.ntmps5
 go_upto_region 1 with fail
 obtain ⟨W1,hW1⟩ : ∃ W1,W1 = w.alloc (.cells #[.int .u8 n0,.int .u8 n1] 44) := ⟨_,rfl⟩
 rw [← hW1]
 obtain ⟨gn,hgn⟩ : ∃ g,g = w.heap.size := ⟨_,rfl⟩
 have HX : W1.heap[gn]? = some (.cells #[.int .u8 n0,.int .u8 n1] 44 (0,0)) := by rw [hW1,hgn]; exact blk_new _ _
 have HB : Aside0 (Below w.heap.size w W1) := ⟨by rw [hW1]; exact below_alloc (Below.refl _ _) _⟩
 rw [← hgn]
 clear hW1 hgn
 have z0 : W1.cell? ⟨gn,0,none⟩ = some (.int .u8 n0) := (blk_cell HX 0).trans rfl
 have z1 : W1.cell? ⟨gn,1,none⟩ = some (.int .u8 n1) := (blk_cell HX 1).trans rfl
 clear HX
 go_wp2_with fail
 go_quiet (fail)
 obtain ⟨m,hm⟩ : ∃ m : Nat,(m : Int) = 1 + n0 % 15 := ⟨(1 + n0 % 15).toNat,by omega⟩
 obtain ⟨e,he⟩ : ∃ e : Int,e = n1 % 31 := ⟨_,rfl⟩
 rw [← hm,← he]
 have HM : Aside0 (1 ≤ m ∧ m ≤ 15) := ⟨by omega⟩
 have hE0 : 0 ≤ e := by omega
 have hE1 : e ≤ 30 := by omega
 have HE : Aside0 (0 ≤ e ∧ e ≤ 30) := ⟨hE0,hE1⟩
 clear hm he z0 z1 hn00 hn01 hn10 hn11
 obtain ⟨W2,hW2⟩ : ∃ W_,W_ = W1.drewN nq := ⟨_,rfl⟩
 rw [← hW2]
 have HB2 : Aside0 (Below w.heap.size w W2) := ⟨by rw [hW2]; exact pw_below_drewN HB.out _⟩
 clear HB hW2
 have HB := HB2
 clear HB2
 go_wp2_with fail
 refine start_ (n := 4) (S := fun w' => True) (ds := []) #[false,false,false,false] (by kernel_rfl) rfl rfl trivial (fun hHeld => ?_)
 refine with_tabW sweep_ends5.tab2 sweep_ends5.bits2 (fun HT_ HW_ => ?_)
 replace HB := Aside0.mk (below_drew HB.out)
 generalize W2.drew = wd2 at *
 refine join_ (σ := Value × Value) 1 #[true,true,true,false] (fun s_ => [(32,s_.1),(33,s_.2),(9,s_.1)]) (fun s_ w' => Kd.R (Kd.int .i64) 3 w' w.heap.size (fun _ => True) s_.1 ([] : List Int) ∧ Kd.R Kd.bool 4 w' w.heap.size (fun _ => True) s_.2 (List.replicate 16 false) ∧ Below w.heap.size w w') ?_ ?_
 rotate_left
 ·intro hCont
  refine two_ (i := 0) (j := 1) (Ni := some 32) (Nj := some 33) #[true,false,false,false] #[false,true,false,false] rfl rfl rfl rfl (two_of HT_.out (by kernel_rfl)) (by decide) (by decide) (fun K hK => ?_) (fun K hK => ?_)
  ·skip
   refine Kd.R_lit_step (Kd.int .i64) wd2.heap.size 3 (by rfl) (N := 32) ?hd (xs := ([] : List Int)) (inner := []) (ok := fun _ => True) (okp := fun _ => True) ?hr ?hp (fun _ hk => hk) trivial (Below.refl _ _) (Nat.le_refl _) (by simp) ?_
   case hd => rfl
   case hr => first | (go_simp; done) | (go_simp; rfl)
   case hp => exact (Reps.none _ _)
   intro vr wf1 ho hb hg_ hnew_
   clear hg_ hnew_
   have HV := Aside0.mk (Kd.R_lower ho (below_size HB.out))
   replace HB := Aside0.mk (below_step HB.out hb)
   clear ho hb
   refine hK.out _ _ trivial (fun hHeld => ?_)
   clear hK K
   refine norm_ (a' := ?_) ?_ ?_
   rotate_left
   ·show Act.put _ (some 32) _ = _
    simp only [Act.put,zxI,zxs0,zxs1,i64_w,i32_w]
    rfl
   refine pure_ (i := 2) (N := some 9) (v := ?_) (a' := ?_) #[true,false,true,false] rfl rfl (any_of HT_.out (by kernel_rfl)) (fun _ _ _ h => h) (Or.inl ⟨by rfl,?_⟩) ?_ ?_
   rotate_left
   ·intro w'
    go_simp
    with_reducible rfl
   rotate_left
   ·simp only [Act.put,zxI,zxs0,zxs1,i64_w,i32_w]
    rfl
   refine one_ (i := 1) (N := some 33) #[true,true,true,false] rfl rfl (one_of HT_.out (by kernel_rfl)) (by decide) (fun K hK => ?_)
   refine Kd.R_make_step Kd.bool wf1.heap.size 4 (by rfl) (N := 33) ?hd 46 (.const (.int .i64 16)) (.const (.int .i64 16)) rfl (16 : Int) rfl rfl Try.underlying46 (.bool false) 1 info4b rfl (by decide) (by decide) false (ok := fun _ => True) (okp := fun _ => False) rfl (fun _ hk => hk.elim) trivial (by omega) (by decide) (Below.refl _ _) (Nat.le_refl _) ?_
   case hd => rfl
   intro vw wf2 ho hb hg_ hnew_
   clear hg_ hnew_
   have HWs : Aside0 (Kd.R Kd.bool 4 wf2 w.heap.size (fun _ => True) vw (List.replicate 16 false)) := ⟨Kd.R_lower ho (below_size HB.out)⟩
   replace HV := Aside0.mk (Kd.R_below HV.out hb)
   replace HB := Aside0.mk (below_step HB.out hb)
   clear ho hb
   refine hK.out _ _ trivial (fun hHeld => ?_)
   clear hK K
   refine norm_ (a' := ?_) ?_ ?_
   rotate_left
   ·show Act.put _ (some 33) _ = _
    simp only [Act.put,zxI,zxs0,zxs1,i64_w,i32_w]
    rfl
   exact norm_ (by first | (simp only [putAll,Act.put,zxI,zxs0,zxs1]; done) | (simp only [putAll,Act.put,zxI,zxs0,zxs1]; rfl)) (hCont (vr,vw) _ ⟨HV.out,HWs.out,HB.out⟩)
  ·skip
   refine Kd.R_make_step Kd.bool wd2.heap.size 4 (by rfl) (N := 33) ?hd 46 (.const (.int .i64 16)) (.const (.int .i64 16)) rfl (16 : Int) rfl rfl Try.underlying46 (.bool false) 1 info4b rfl (by decide) (by decide) false (ok := fun _ => True) (okp := fun _ => False) rfl (fun _ hk => hk.elim) trivial (by omega) (by decide) (Below.refl _ _) (Nat.le_refl _) ?_
   case hd => rfl
   intro vw wf1 ho hb hg_ hnew_
   clear hg_ hnew_
   have HWs : Aside0 (Kd.R Kd.bool 4 wf1 w.heap.size (fun _ => True) vw (List.replicate 16 false)) := ⟨Kd.R_lower ho (below_size HB.out)⟩
   replace HB := Aside0.mk (below_step HB.out hb)
   clear ho hb
   refine hK.out _ _ trivial (fun hHeld => ?_)
   clear hK K
   refine norm_ (a' := ?_) ?_ ?_
   rotate_left
   ·show Act.put _ (some 33) _ = _
    simp only [Act.put,zxI,zxs0,zxs1,i64_w,i32_w]
    rfl
   refine one_ (i := 0) (N := some 32) #[true,true,false,false] rfl rfl (one_of HT_.out (by kernel_rfl)) (by decide) (fun K hK => ?_)
   refine Kd.R_lit_step (Kd.int .i64) wf1.heap.size 3 (by rfl) (N := 32) ?hd (xs := ([] : List Int)) (inner := []) (ok := fun _ => True) (okp := fun _ => True) ?hr ?hp (fun _ hk => hk) trivial (Below.refl _ _) (Nat.le_refl _) (by simp) ?_
   case hd => rfl
   case hr => first | (go_simp; done) | (go_simp; rfl)
   case hp => exact (Reps.none _ _)
   intro vr wf2 ho hb hg_ hnew_
   clear hg_ hnew_
   have HV := Aside0.mk (Kd.R_lower ho (below_size HB.out))
   replace HWs := Aside0.mk (Kd.R_below HWs.out hb)
   replace HB := Aside0.mk (below_step HB.out hb)
   clear ho hb
   refine hK.out _ _ trivial (fun hHeld => ?_)
   clear hK K
   refine norm_ (a' := ?_) ?_ ?_
   rotate_left
   ·show Act.put _ (some 32) _ = _
    simp only [Act.put,zxI,zxs0,zxs1,i64_w,i32_w]
    rfl
   refine pure_ (i := 2) (N := some 9) (v := ?_) (a' := ?_) #[true,true,true,false] rfl rfl (any_of HT_.out (by kernel_rfl)) (fun _ _ _ h => h) (Or.inl ⟨by rfl,?_⟩) ?_ ?_
   rotate_left
   ·intro w'
    go_simp
    with_reducible rfl
   rotate_left
   ·simp only [Act.put,zxI,zxs0,zxs1,i64_w,i32_w]
    rfl
   exact norm_ (by first | (simp only [putAll,Act.put,zxI,zxs0,zxs1]; done) | (simp only [putAll,Act.put,zxI,zxs0,zxs1]; rfl)) (hCont (vr,vw) _ ⟨HV.out,HWs.out,HB.out⟩)
 rintro ⟨vr,vw⟩ w3 ⟨hv,hw,hb⟩
 dsimp only at hv hw
 clear HB
 have HV := Aside0.mk hv
 have HWs := Aside0.mk hw
 have HB := Aside0.mk hb
 clear hv hw hb
 have hHeld : (fun w' : World => True) w3 := trivial
 refine norm_ (a' := ?_) ?_ ?_
 rotate_left
 ·simp only [putAll,Act.put,zxI,zxs0,zxs1]
  rfl
 refine pure_ (i := 3) (N := some 10) (v := ?_) (a' := ?_) #[true,true,true,true] rfl rfl (any_of HT_.out (by kernel_rfl)) (fun _ _ _ h => h) (Or.inl ⟨by rfl,?_⟩) ?_ ?_
 rotate_left
 ·intro w'
  go_simp
  with_reducible rfl
 rotate_left
 ·simp only [Act.put,zxI,zxs0,zxs1,i64_w,i32_w]
  rfl
 refine done_ (done_of HT_.out (by kernel_rfl)) ?_
 clear HT_ HW_ hHeld
 go_wp2_with fail
 obtain ⟨Aw,cw,hvw,_,_⟩ := Kd.R_reads HWs.out
 have hvw1 : vw = .slice Aw 16 cw := hvw
 subst hvw1
 clear hvw
 obtain ⟨gw,cw2,hvw2,_,_,_,_⟩ := Kd.R_form HWs.out (by simp)
 have hvw3 : (Value.slice Aw 16 cw) = .slice (some ⟨gw,0,none⟩) 16 cw2 := hvw2
 clear hvw2
 cases hvw3
 go_loopw [9,11] (fun v9 v11 w' => ∃ x : Nat,Aside0 (x ≤ m) ∧ v11 = .int .i64 (x : Int) ∧ Aside0 (Kd.R (Kd.int .i64) 3 w' w.heap.size (fun _ => True) v9 (sg x)) ∧ Aside0 (Kd.R Kd.bool 4 w' w.heap.size (fun _ => True) (.slice (some ⟨gw,0,none⟩) 16 cw) (List.replicate 16 false)) ∧ Aside0 (Below w.heap.size w w')) (fun _ v11 _ => m - (intOf v11).toNat)
 case atStart => exact ⟨0,⟨by omega⟩,rfl,HV,HWs,HB⟩
 case round =>
  clear HV HWs HB
  obtain ⟨x,hx,rfl,HV,HWs,HB⟩ := hrel
  have hx64 : (x : Int) + 1 ≤ 9223372036854775807 := by have := hx.out; have := HM.out; omega
  have hx0 : (0 : Int) ≤ x := by omega
  by_cases hxm : x < m
  ·have HXM := Aside0.mk hxm
   have hxm2 : decide ((x : Int) < (m : Int)) = true := decide_eq_true (by omega)
   have hxm3 : decide (x < m) = true := decide_eq_true hxm
   clear hxm
   go_wp2_with ((with_reducible refine gate_builtin (b := .append) (xs := #[.tmp 39,.tmp 41]) rfl ?_); at_builtin; refine Kd.R_append (Kd.int .i64) (w0 := w) w.heap.size rfl (.tmp 39) (.tmp 41) 23 3 (.int .i64 0) 8 rfl Try.underlying23 info3 rfl (by decide) (by omega) u9 (sg x) (x : Int) [.int .i64 (x : Int)] (fun _ => True) (fun _ => False) rfl (by first | (go_simp; done) | (go_simp; rfl)) ?aP (fun _ hk => hk.elim) ?aF ?aO ?aB ?aS ?aL ?_; (case aP => exact rfl); (case aB => exact HB.out); (case aF => exact (fun _ _ => trivial)); (case aO => exact HV.out); (case aS => exact below_size HB.out); (case aL => have := HM.out; have := hx.out; rw [sg_len]; omega); intro v9b w7 ho hb hg hat; rw [sg_snoc] at ho; have q1 := Aside0.mk ho; have q2 := Aside0.mk (Kd.R_mono (Kd.R_grown (Kd.R_apartR HWs.out HV.out (by decide)) hg (fun k hk => hk.2)) (fun _ _ => trivial)); have q3 := Aside0.mk hb; clear HV HWs HB ho hb hg hat; have HV := q1; have HWs := q2; have HB := q3; clear q1 q2 q3)
   go_roundw
   case rel => exact ⟨x + 1,⟨by have := HXM.out; omega⟩,by go_num,HV,⟨HWs.out⟩,HB⟩
   case measure => have := HXM.out; simp [intOf]; omega
  ·obtain rfl : m = x := by have := hx.out; omega
   rename World => wB
   clear hxm hx hx64 hx0
   have hxm2 : decide ((m : Int) < (m : Int)) = false := decide_eq_false (by omega)
   have hxm3 : decide (m < m) = false := decide_eq_false (by omega)
   obtain ⟨Ag,cg,hvg,hcg,hCg⟩ := Kd.R_reads HV.out
   subst hvg
   have HCg := Aside0.mk hCg
   have Hcg := Aside0.mk hcg
   have HB0 := HB
   clear HV hcg hCg
   go_wp2_with fail
   clear hxm2 hxm3
   refine (sweep_Idle.calls [] (-1) 0 0 _ (by kernel_rfl)).mono ?_
   rintro e_ wi ⟨v0,rfl,hv,hb⟩
   obtain ⟨AI,cI,hv0,_,_⟩ := Kd.R_reads hv
   have hv1 : v0 = .slice AI 0 cI := hv0
   subst hv1
   have HI : Aside0 (Kd.C (Kd.int .i64) _ AI 0 []) := ⟨(Kd.R_reads' hv).2.2⟩
   replace HWs := Aside0.mk (Kd.R_below HWs.out hb)
   replace HB := Aside0.mk (below_step HB.out hb)
   replace HCg := Aside0.mk (Kd.C_below HCg.out hb)
   clear hv0 hv hb
   go_wp2_with fail
   refine (begin_sg AI cI Ag cg m _ HM.out.2 HI.out HCg.out Hcg.out).mono ?_
   rintro e_ wa ⟨v0,rfl,hv,hb⟩
   obtain ⟨At,ct,hv0,_,_⟩ := Kd.R_reads hv
   subst hv0
   have HV := Aside0.mk (Kd.R_lower hv (below_size HB.out))
   replace HWs := Aside0.mk (Kd.R_below HWs.out hb)
   replace HB := Aside0.mk (below_step HB.out hb)
   clear hv hb HCg Hcg HI
   go_upto_region 8 with ((with_reducible refine gate_dst (N := 12) rfl ?_); refine box_event ?hg (N := 12) ?hd (cs := #[.slice none 0 0,.int .i64 0,.int .i64 0,.int .i64 0]) (t := 25) ?hr ?_; (case hd => rfl); (case hg => rfl); (case hr => first | (go_simp; done) | (go_simp; rfl)); intro gs hgo wb hbox hbb; have HBO := Aside0.mk hbox; have HBB := Aside0.mk hbb; have HGO := Aside0.mk hgo; have y0 : wb.cell? ⟨gs,0,none⟩ = some (.slice none 0 0) := (blk_cell hbox 0).trans rfl; have y1 : wb.cell? ⟨gs,1,none⟩ = some (.int .i64 0) := (blk_cell hbox 1).trans rfl; have y2 : wb.cell? ⟨gs,2,none⟩ = some (.int .i64 0) := (blk_cell hbox 2).trans rfl; have y3 : wb.cell? ⟨gs,3,none⟩ = some (.int .i64 0) := (blk_cell hbox 3).trans rfl; have yf0 := blk_frozen hbox 0; have yf1 := blk_frozen hbox 1; have yf2 := blk_frozen hbox 2; have yf3 := blk_frozen hbox 3; clear hbox hbb hgo)
   clear y0 y1 y2 y3 yf0 yf1 yf2 yf3
   obtain ⟨Wm,hW⟩ : ∃ W_,W_ = ((((wb.setCell ⟨gs,0,none⟩ (.slice At (sg m).length ct)).setCell ⟨gs,1,none⟩ (.int .i64 (-1))).setCell ⟨gs,2,none⟩ (.int .i64 (0))).setCell ⟨gs,3,none⟩ (.int .i64 (0))) := ⟨_,rfl⟩
   rw [← hW]
   have q1 := (blk_set (blk_set (blk_set (blk_set HBO.out 0 (.slice At (sg m).length ct)) 1 (.int .i64 (-1))) 2 (.int .i64 (0))) 3 (.int .i64 (0)))
   simp only [zxI,zxs0,zxs1] at q1
   have q2 := (Kd.R_set (Kd.R_set (Kd.R_set (Kd.R_set (Kd.R_below HV.out HBB.out) HBO.out (by decide) 0 (.slice At (sg m).length ct)) (blk_set HBO.out 0 (.slice At (sg m).length ct)) (by decide) 1 (.int .i64 (-1))) (blk_set (blk_set HBO.out 0 (.slice At (sg m).length ct)) 1 (.int .i64 (-1))) (by decide) 2 (.int .i64 (0))) (blk_set (blk_set (blk_set HBO.out 0 (.slice At (sg m).length ct)) 1 (.int .i64 (-1))) 2 (.int .i64 (0))) (by decide) 3 (.int .i64 (0)))
   have q4 := (Kd.R_set (Kd.R_set (Kd.R_set (Kd.R_set (Kd.R_below HWs.out HBB.out) HBO.out (by decide) 0 (.slice At (sg m).length ct)) (blk_set HBO.out 0 (.slice At (sg m).length ct)) (by decide) 1 (.int .i64 (-1))) (blk_set (blk_set HBO.out 0 (.slice At (sg m).length ct)) 1 (.int .i64 (-1))) (by decide) 2 (.int .i64 (0))) (blk_set (blk_set (blk_set HBO.out 0 (.slice At (sg m).length ct)) 1 (.int .i64 (-1))) 2 (.int .i64 (0))) (by decide) 3 (.int .i64 (0)))
   have q3 := (below_set (g := gs) (j := 3) (v := .int .i64 (0)) (below_set (g := gs) (j := 2) (v := .int .i64 (0)) (below_set (g := gs) (j := 1) (v := .int .i64 (-1)) (below_set (g := gs) (j := 0) (v := .slice At (sg m).length ct) (below_step HB.out HBB.out) (by rw [HGO.out]; exact below_size HB.out)) (by rw [HGO.out]; exact below_size HB.out)) (by rw [HGO.out]; exact below_size HB.out)) (by rw [HGO.out]; exact below_size HB.out))
   rw [← hW] at q1 q2 q3 q4
   have HGs : Aside0 (w.heap.size ≤ gs) := ⟨by rw [HGO.out]; exact below_size HB.out⟩
   clear hW HBO HBB HGO HV HB HWs
   have HXs := Aside0.mk q1
   have HV := Aside0.mk q2
   have HB := Aside0.mk q3
   have HWs := Aside0.mk q4
   clear q1 q2 q3 q4
   have s_0 : Wm.cell? ⟨gs,0,none⟩ = some (.slice At (sg m).length ct) := (blk_cell HXs.out 0).trans rfl
   have s_1 : Wm.cell? ⟨gs,1,none⟩ = some (.int .i64 (-1)) := (blk_cell HXs.out 1).trans rfl
   have s_2 : Wm.cell? ⟨gs,2,none⟩ = some (.int .i64 (0)) := (blk_cell HXs.out 2).trans rfl
   have s_3 : Wm.cell? ⟨gs,3,none⟩ = some (.int .i64 (0)) := (blk_cell HXs.out 3).trans rfl
   have HRT := Aside0.mk (sg_rt m HM.out.2)
   obtain ⟨P,hP⟩ : ∃ P : Int,(m : Int) * (e + 2) = P := ⟨_,rfl⟩
   have HL : Aside0 (sweep_Left.f (sg m) (-1) 0 0 e = some P) := ⟨(lf_is HRT.out hE0 hE1).trans (by unfold lf; rw [if_pos rfl,sg_len,Int.add_zero,hP])⟩
   have HIV : Aside0 (Inv m e 0 P 0 (sg m) (-1) 0 0 (List.replicate 16 false)) := ⟨by rw [← hP]; exact Inv_start HM.out.1 HM.out.2 hE0 hE1⟩
   have hPw : wrap64 ((m : Int) * (e + 2)) = P := by have h := mul_in (a := (m : Int)) (b := e + 2) (by omega) (by have := HM.out; omega) (by omega) (by omega); rw [hP] at h ⊢; unfold wrap64; omega
   clear hP
   have HPW := Aside0.mk hPw
   clear hPw
   go_wp2_with fail
   clear s_0 s_1 s_2 s_3
   refine (sweep_Left.calls At ct (sg m) (-1) 0 0 e P _ (Kd.R_reads' HV.out).2.2 (Kd.R_reads' HV.out).2.1 HL.out).mono ?_
   rintro e_ wl ⟨rfl,hb⟩
   replace HWs := Aside0.mk (Kd.R_below HWs.out hb)
   replace HV := Aside0.mk (Kd.R_below HV.out hb)
   replace HXs := Aside0.mk (blk_below HXs.out hb)
   replace HB := Aside0.mk (below_step HB.out hb)
   clear hb HL
   have hPw := HPW.out
   have hm0 : (0 : Int) ≤ m := by omega
   go_upto_region 13 with fail
   clear hPw hm0 HPW
   go_wp2_with fail
   go_loopw [14,15,16] (fun v14 v15 v16 w' => ∃ (x L taken : Int) (l : List Int) (v s n : Int) (bw : List Bool) (At : Option Addr) (ct : Nat),v16 = .int .i64 x ∧ v14 = .int .i64 L ∧ v15 = .int .i64 taken ∧ Aside0 (Inv m e x L taken l v s n bw) ∧ Aside0 (w'.heap[gs]? = some (.cells #[.slice At l.length ct,.int .i64 (v),.int .i64 (s),.int .i64 (n)] 25 (0,0))) ∧ Aside0 (Kd.R (Kd.int .i64) 3 w' w.heap.size (fun _ => True) (.slice At l.length ct) l) ∧ Aside0 (Kd.R Kd.bool 4 w' w.heap.size (fun _ => True) (.slice (some ⟨gw,0,none⟩) 16 cw) bw) ∧ Aside0 (Below w.heap.size w w')) (fun _ _ v16 _ => 600 - (intOf v16).toNat)
   case atStart => exact ⟨0,P,0,sg m,-1,0,0,_,At,ct,rfl,rfl,rfl,HIV,HXs,HV,HWs,HB⟩
   case round =>
    clear HIV HXs HV HWs HB HRT
    obtain ⟨x,L,taken,l,v,s,n,bw,At,ct,rfl,rfl,rfl,HIV,HXs,HV,HWs,HB⟩ := hrel
    have HRT := Aside0.mk HIV.out.1
    have hx0 : 0 ≤ x := HIV.out.2.2.2.1
    have hxb : x ≤ 480 := by have := HIV.out.2.2.2.2.1; have := lf_lo HRT.out hE0 (s := s) (n := n); have := HIV.out.2.2.1; omega
    have hx6 : decide (x < 600) = true := decide_eq_true (by omega)
    have ht0 : 0 ≤ taken := HIV.out.2.2.2.2.2.2.1
    have htb : taken ≤ 15 := by have := HIV.out.2.2.2.2.2.1; have := HM.out; omega
    by_cases hv : v = -1
    ·subst hv
     by_cases hl : l = []
     ·subst hl
      have HNX : Aside0 (sweep_Next.f 61 ([] : List Int) (-1) s n false = some 0) := ⟨(nx_is HRT.out).trans rfl⟩
      obtain ⟨hL,ht,hs0,hn0⟩ := Inv_end HIV.out
      subst hL hs0 hn0
      have htm : (taken == (m : Int)) = true := beq_iff_eq.mpr ht
      clear ht hx0 hxb ht0 htb
      have s_0 : wr.cell? ⟨gs,0,none⟩ = some (.slice At ([] : List Int).length ct) := (blk_cell HXs.out 0).trans rfl
      have s_1 : wr.cell? ⟨gs,1,none⟩ = some (.int .i64 (-1)) := (blk_cell HXs.out 1).trans rfl
      have s_2 : wr.cell? ⟨gs,2,none⟩ = some (.int .i64 (0)) := (blk_cell HXs.out 2).trans rfl
      have s_3 : wr.cell? ⟨gs,3,none⟩ = some (.int .i64 (0)) := (blk_cell HXs.out 3).trans rfl
      go_wp2_with fail
      clear s_0 s_1 s_2 s_3
      refine (sweep_Next.calls 61 At ct [] (-1) 0 0 false 0 _ (Kd.R_reads' HV.out).2.2 (Kd.R_reads' HV.out).2.1 HNX.out).mono ?_
      rintro e_ wz ⟨rfl,hb⟩
      replace HWs := Aside0.mk (Kd.R_below HWs.out hb)
      replace HV := Aside0.mk (Kd.R_below HV.out hb)
      replace HXs := Aside0.mk (blk_below HXs.out hb)
      replace HB := Aside0.mk (below_step HB.out hb)
      clear hb
      have s_0 : wz.cell? ⟨gs,0,none⟩ = some (.slice At 0 ct) := (blk_cell HXs.out 0).trans rfl
      have s_1 : wz.cell? ⟨gs,1,none⟩ = some (.int .i64 (-1)) := (blk_cell HXs.out 1).trans rfl
      have s_2 : wz.cell? ⟨gs,2,none⟩ = some (.int .i64 (0)) := (blk_cell HXs.out 2).trans rfl
      have s_3 : wz.cell? ⟨gs,3,none⟩ = some (.int .i64 (0)) := (blk_cell HXs.out 3).trans rfl
      go_wp2_with fail
      clear s_0 s_1 s_2 s_3
      refine (ref_nil At ct _).mono ?_
      rintro e_ wy ⟨rfl,hb⟩
      replace HV := Aside0.mk (Kd.R_below HV.out hb)
      replace HB := Aside0.mk (below_step HB.out hb)
      clear hb
      go_wp2_with fail
      refine (lodgerref15_Idle.calls [] (-1) 0 0 _ (by kernel_rfl)).mono ?_
      rintro e_ wi ⟨v0,rfl,hv,hb⟩
      obtain ⟨AJ,cJ,hv0,_,_⟩ := Kd.R_reads hv
      have hv1 : v0 = .slice AJ 0 cJ := hv0
      subst hv1
      have HJ : Aside0 (Kd.C (Kd.int .i64) _ AJ 0 []) := ⟨(Kd.R_reads' hv).2.2⟩
      replace HV := Aside0.mk (Kd.R_below HV.out hb)
      replace HB := Aside0.mk (below_step HB.out hb)
      clear hv hv0 hb
      go_wp2_with fail
      refine (same_nil At ct AJ cJ _ (Kd.R_reads' HV.out).2.2 HJ.out).mono ?_
      rintro e_ wk ⟨rfl,hb⟩
      replace HB := Aside0.mk (below_step HB.out hb)
      clear hb HJ HV HWs HXs
      go_wp2_with fail
      refine (lodgerlaw15_fixed.calls _).mono ?_
      rintro e wf ⟨rfl,hb⟩
      go_wp2
      go_ret
      exact ⟨rfl,below_step HB.out hb⟩
     ·have hln : 1 ≤ l.length := by rcases l with _ | ⟨a_,t_⟩ <;> simp at hl ⊢
      have HNX : Aside0 (sweep_Next.f 61 l (-1) s n false = some 2) := ⟨(nx_is HRT.out).trans (congrArg some (by unfold nx; rw [if_pos rfl,if_neg (by omega)]))⟩
      have HLN := Aside0.mk hln
      clear hl hln
      have s_0 : wr.cell? ⟨gs,0,none⟩ = some (.slice At l.length ct) := (blk_cell HXs.out 0).trans rfl
      have s_1 : wr.cell? ⟨gs,1,none⟩ = some (.int .i64 (-1)) := (blk_cell HXs.out 1).trans rfl
      have s_2 : wr.cell? ⟨gs,2,none⟩ = some (.int .i64 (s)) := (blk_cell HXs.out 2).trans rfl
      have s_3 : wr.cell? ⟨gs,3,none⟩ = some (.int .i64 (n)) := (blk_cell HXs.out 3).trans rfl
      go_wp2_with fail
      clear s_0 s_1 s_2 s_3
      refine (sweep_Next.calls 61 At ct l (-1) s n false 2 _ (Kd.R_reads' HV.out).2.2 (Kd.R_reads' HV.out).2.1 HNX.out).mono ?_
      rintro e_ wz ⟨rfl,hb⟩
      replace HWs := Aside0.mk (Kd.R_below HWs.out hb)
      replace HV := Aside0.mk (Kd.R_below HV.out hb)
      replace HXs := Aside0.mk (blk_below HXs.out hb)
      replace HB := Aside0.mk (below_step HB.out hb)
      clear hb
      have s_0 : wz.cell? ⟨gs,0,none⟩ = some (.slice At l.length ct) := (blk_cell HXs.out 0).trans rfl
      have s_1 : wz.cell? ⟨gs,1,none⟩ = some (.int .i64 (-1)) := (blk_cell HXs.out 1).trans rfl
      have s_2 : wz.cell? ⟨gs,2,none⟩ = some (.int .i64 (s)) := (blk_cell HXs.out 2).trans rfl
      have s_3 : wz.cell? ⟨gs,3,none⟩ = some (.int .i64 (n)) := (blk_cell HXs.out 3).trans rfl
      go_upto_region 17 with ((with_reducible refine gate_dst (N := 17) rfl ?_); refine box_event ?hg (N := 17) ?hd (cs := #[.slice none 0 0,.int .i64 0,.int .i64 0,.int .i64 0]) (t := 25) ?hr ?_; (case hd => rfl); (case hg => rfl); (case hr => first | (go_simp; done) | (go_simp; rfl)); intro gt hgo wb hbox hbb; have HBO := Aside0.mk hbox; have HBB := Aside0.mk hbb; have HGO := Aside0.mk hgo; have y0 : wb.cell? ⟨gt,0,none⟩ = some (.slice none 0 0) := (blk_cell hbox 0).trans rfl; have y1 : wb.cell? ⟨gt,1,none⟩ = some (.int .i64 0) := (blk_cell hbox 1).trans rfl; have y2 : wb.cell? ⟨gt,2,none⟩ = some (.int .i64 0) := (blk_cell hbox 2).trans rfl; have y3 : wb.cell? ⟨gt,3,none⟩ = some (.int .i64 0) := (blk_cell hbox 3).trans rfl; have yf0 := blk_frozen hbox 0; have yf1 := blk_frozen hbox 1; have yf2 := blk_frozen hbox 2; have yf3 := blk_frozen hbox 3; clear hbox hbb hgo)
      clear y0 y1 y2 y3 yf0 yf1 yf2 yf3
      clear s_0 s_1 s_2 s_3
      obtain ⟨W3,hW⟩ : ∃ W_,W_ = ((((wb.setCell ⟨gt,0,none⟩ (.slice At l.length ct)).setCell ⟨gt,1,none⟩ (.int .i64 (-1))).setCell ⟨gt,2,none⟩ (.int .i64 (s))).setCell ⟨gt,3,none⟩ (.int .i64 (n))) := ⟨_,rfl⟩
      rw [← hW]
      have q1 := (blk_set (blk_set (blk_set (blk_set HBO.out 0 (.slice At l.length ct)) 1 (.int .i64 (-1))) 2 (.int .i64 (s))) 3 (.int .i64 (n)))
      simp only [zxI,zxs0,zxs1] at q1
      have q2 := (Kd.R_set (Kd.R_set (Kd.R_set (Kd.R_set (Kd.R_below HV.out HBB.out) HBO.out (by decide) 0 (.slice At l.length ct)) (blk_set HBO.out 0 (.slice At l.length ct)) (by decide) 1 (.int .i64 (-1))) (blk_set (blk_set HBO.out 0 (.slice At l.length ct)) 1 (.int .i64 (-1))) (by decide) 2 (.int .i64 (s))) (blk_set (blk_set (blk_set HBO.out 0 (.slice At l.length ct)) 1 (.int .i64 (-1))) 2 (.int .i64 (s))) (by decide) 3 (.int .i64 (n)))
      have q4 := (Kd.R_set (Kd.R_set (Kd.R_set (Kd.R_set (Kd.R_below HWs.out HBB.out) HBO.out (by decide) 0 (.slice At l.length ct)) (blk_set HBO.out 0 (.slice At l.length ct)) (by decide) 1 (.int .i64 (-1))) (blk_set (blk_set HBO.out 0 (.slice At l.length ct)) 1 (.int .i64 (-1))) (by decide) 2 (.int .i64 (s))) (blk_set (blk_set (blk_set HBO.out 0 (.slice At l.length ct)) 1 (.int .i64 (-1))) 2 (.int .i64 (s))) (by decide) 3 (.int .i64 (n)))
      have q3 := (below_set (g := gt) (j := 3) (v := .int .i64 (n)) (below_set (g := gt) (j := 2) (v := .int .i64 (s)) (below_set (g := gt) (j := 1) (v := .int .i64 (-1)) (below_set (g := gt) (j := 0) (v := .slice At l.length ct) (below_step HB.out HBB.out) (by rw [HGO.out]; exact below_size HB.out)) (by rw [HGO.out]; exact below_size HB.out)) (by rw [HGO.out]; exact below_size HB.out)) (by rw [HGO.out]; exact below_size HB.out))
      have pHXs := (blk_far (blk_far (blk_far (blk_far (blk_below HXs.out HBB.out) (p := ⟨gt,0,none⟩) (by rw [HGO.out]; exact Nat.ne_of_lt (blk_lt HXs.out)) (.slice At l.length ct)) (p := ⟨gt,1,none⟩) (by rw [HGO.out]; exact Nat.ne_of_lt (blk_lt HXs.out)) (.int .i64 (-1))) (p := ⟨gt,2,none⟩) (by rw [HGO.out]; exact Nat.ne_of_lt (blk_lt HXs.out)) (.int .i64 (s))) (p := ⟨gt,3,none⟩) (by rw [HGO.out]; exact Nat.ne_of_lt (blk_lt HXs.out)) (.int .i64 (n)))
      rw [← hW] at pHXs
      have Nst : Aside0 (gs ≠ gt) := ⟨by rw [HGO.out]; exact Nat.ne_of_lt (blk_lt HXs.out)⟩
      replace HXs := Aside0.mk pHXs
      clear pHXs
      rw [← hW] at q1 q2 q3 q4
      have HGt : Aside0 (w.heap.size ≤ gt) := ⟨by rw [HGO.out]; exact below_size HB.out⟩
      clear hW HBO HBB HGO HV HB HWs
      have HXt := Aside0.mk q1
      have HV := Aside0.mk q2
      have HB := Aside0.mk q3
      have HWs := Aside0.mk q4
      clear q1 q2 q3 q4
      have s_0 : W3.cell? ⟨gs,0,none⟩ = some (.slice At l.length ct) := (blk_cell HXs.out 0).trans rfl
      have s_1 : W3.cell? ⟨gs,1,none⟩ = some (.int .i64 (-1)) := (blk_cell HXs.out 1).trans rfl
      have s_2 : W3.cell? ⟨gs,2,none⟩ = some (.int .i64 (s)) := (blk_cell HXs.out 2).trans rfl
      have s_3 : W3.cell? ⟨gs,3,none⟩ = some (.int .i64 (n)) := (blk_cell HXs.out 3).trans rfl
      go_wp2_with fail
      clear s_0 s_1 s_2 s_3
      refine (sweep_Next.calls 61 At ct l (-1) s n false 2 _ (Kd.R_reads' HV.out).2.2 (Kd.R_reads' HV.out).2.1 HNX.out).mono ?_
      rintro e_ wy ⟨rfl,hb⟩
      replace HWs := Aside0.mk (Kd.R_below HWs.out hb)
      replace HV := Aside0.mk (Kd.R_below HV.out hb)
      replace HXs := Aside0.mk (blk_below HXs.out hb)
      replace HXt := Aside0.mk (blk_below HXt.out hb)
      replace HB := Aside0.mk (below_step HB.out hb)
      clear hb
      have s_0 : wy.cell? ⟨gs,0,none⟩ = some (.slice At l.length ct) := (blk_cell HXs.out 0).trans rfl
      have s_1 : wy.cell? ⟨gs,1,none⟩ = some (.int .i64 (-1)) := (blk_cell HXs.out 1).trans rfl
      have s_2 : wy.cell? ⟨gs,2,none⟩ = some (.int .i64 (s)) := (blk_cell HXs.out 2).trans rfl
      have s_3 : wy.cell? ⟨gs,3,none⟩ = some (.int .i64 (n)) := (blk_cell HXs.out 3).trans rfl
      have hl0a : ((l.length : Int) == 0) = false := beq_eq_false_iff_ne.mpr (by have := HLN.out; omega)
      have hl0b : (l.length == 0) = false := beq_eq_false_iff_ne.mpr (by have := HLN.out; omega)
      go_upto_if 86 with fail
      clear hl0a hl0b
      go_cut [19] (fun v19 wx => ∃ k : Int,v19 = .int .i64 k ∧ Aside0 ((0 ≤ k ∧ k < l.length) ∧ Below wy.heap.size wy wx))
      case first =>
       by_cases hp : taken < (pk.length : Int)
       ·have hp2 := decide_eq_true hp
        rw [hp2]
        obtain ⟨ad,e1,hz⟩ := Kd.at_int (Kd.C_below HCp.out HB.out) taken ht0 hp
        have hzb := HGp.out (rd pk taken) (rd_mem ht0 hp)
        obtain ⟨z,hzz⟩ : ∃ z,z = rd pk taken := ⟨_,rfl⟩
        rw [← hzz] at hz hzb
        cases e1
        have hz0 := hzb.1
        have hz1 := hzb.2
        have hp0t := eq_true ht0
        have hp1t := eq_true hp
        clear hzz hzb hp
        have s_0 : wy.cell? ⟨gs,0,none⟩ = some (.slice At l.length ct) := (blk_cell HXs.out 0).trans rfl
        have s_1 : wy.cell? ⟨gs,1,none⟩ = some (.int .i64 (-1)) := (blk_cell HXs.out 1).trans rfl
        have s_2 : wy.cell? ⟨gs,2,none⟩ = some (.int .i64 (s)) := (blk_cell HXs.out 2).trans rfl
        have s_3 : wy.cell? ⟨gs,3,none⟩ = some (.int .i64 (n)) := (blk_cell HXs.out 3).trans rfl
        have hl1 : (1 : Int) ≤ l.length := by have := HLN.out; omega
        have hl9 : (l.length : Int) ≤ 16 := by have := rt_few HRT.out; omega
        go_upto_region 24 with fail
        go_quiet (fail)
        go_wp2_with fail
        go_meet
        case rel => exact ⟨_,rfl,⟨⟨Int.emod_nonneg _ (by omega),Int.emod_lt_of_pos _ (by omega)⟩,pw_below_drewN (Below.refl _ _) _⟩⟩
       ·have hp2 := decide_eq_false hp
        rw [hp2]
        clear hp
        go_wp2_with fail
        go_meet
        case rel => exact ⟨0,rfl,⟨⟨by omega,by have := HLN.out; omega⟩,Below.refl _ _⟩⟩
      case rest =>
       obtain ⟨k,rfl,hkk⟩ := hcut
       rename World => wk
       have hb := hkk.out.2
       have HKK := Aside0.mk hkk.out.1
       replace HWs := Aside0.mk (Kd.R_below HWs.out hb)
       replace HV := Aside0.mk (Kd.R_below HV.out hb)
       replace HXs := Aside0.mk (blk_below HXs.out hb)
       replace HXt := Aside0.mk (blk_below HXt.out hb)
       replace HB := Aside0.mk (below_step HB.out hb)
       clear hb hkk
       go_upto_if 99 with fail
       go_cut [20] (fun v20 wx => ∃ mm : Int,v20 = .int .i64 mm ∧ Aside0 ((0 ≤ mm ∧ mm ≤ e) ∧ Below wk.heap.size wk wx))
       case first =>
        by_cases hp : taken < (ls.length : Int)
        ·have hp2 := decide_eq_true hp
         rw [hp2]
         obtain ⟨ad,e1,hz⟩ := Kd.at_int (Kd.C_below HCn.out HB.out) taken ht0 hp
         have hzb := HGn.out (rd ls taken) (rd_mem ht0 hp)
         obtain ⟨z,hzz⟩ : ∃ z,z = rd ls taken := ⟨_,rfl⟩
         rw [← hzz] at hz hzb
         cases e1
         have hz0 := hzb.1
         have hz1 := hzb.2
         have hp0t := eq_true ht0
         have hp1t := eq_true hp
         clear hzz hzb hp
         go_wp2_with fail
         all_goals (go_meet; case rel => exact ⟨_,rfl,⟨⟨by omega,by omega⟩,Below.refl _ _⟩⟩)
        ·have hp2 := decide_eq_false hp
         rw [hp2]
         clear hp
         go_wp2_with fail
         go_meet
         case rel => exact ⟨0,rfl,⟨⟨by omega,by omega⟩,Below.refl _ _⟩⟩
       case rest =>
        obtain ⟨mm,rfl,hmm⟩ := hcut
        rename World => wu
        have hb := hmm.out.2
        have HMM := Aside0.mk hmm.out.1
        replace HWs := Aside0.mk (Kd.R_below HWs.out hb)
        replace HV := Aside0.mk (Kd.R_below HV.out hb)
        replace HXs := Aside0.mk (blk_below HXs.out hb)
        replace HXt := Aside0.mk (blk_below HXt.out hb)
        replace HB := Aside0.mk (below_step HB.out hb)
        clear hb hmm
        obtain ⟨ad,e1,hz⟩ := Kd.at_int (Kd.R_reads' HV.out).2.2 k HKK.out.1 HKK.out.2
        have hin : rd l k ∈ l := rd_mem HKK.out.1 HKK.out.2
        obtain ⟨z,hzz⟩ : ∃ z,z = rd l k := ⟨_,rfl⟩
        rw [← hzz] at hz hin
        cases e1
        have HIN := Aside0.mk hin
        have hk0 := HKK.out.1
        have hk0t := eq_true HKK.out.1
        have hk1t := eq_true HKK.out.2
        clear hzz hin
        have hzs := rt_seg HRT.out HIN.out
        have hz0 := hzs.1
        have hz15 := hzs.2
        have hz0t := eq_true hz0
        have hz16t : (z < 16) = True := eq_true (by omega)
        have d3 : decide (z < 0) = false := decide_eq_false (by omega)
        have d4 : decide (15 < z) = false := decide_eq_false (by omega)
        clear hzs
        have hbl : bw.length = 16 := HIV.out.2.2.2.2.2.2.2.1
        obtain ⟨hw1,hw2⟩ := Kd.R_celln (enc := Value.bool) (h1 := fun _ => rfl) false HWs.out z hz0 (by omega)
        rw [HIV.out.2.2.2.2.2.2.2.2 z HIN.out] at hw1
        clear hbl
        have s_0 : wu.cell? ⟨gs,0,none⟩ = some (.slice (some ad) l.length ct) := (blk_cell HXs.out 0).trans rfl
        have s_1 : wu.cell? ⟨gs,1,none⟩ = some (.int .i64 (-1)) := (blk_cell HXs.out 1).trans rfl
        have s_2 : wu.cell? ⟨gs,2,none⟩ = some (.int .i64 (s)) := (blk_cell HXs.out 2).trans rfl
        have s_3 : wu.cell? ⟨gs,3,none⟩ = some (.int .i64 (n)) := (blk_cell HXs.out 3).trans rfl
        go_upto_region 32 with fail
        clear hk0 hk0t hk1t hz0t hz16t d3 d4 hw1 hw2 hz
        clear s_0 s_1 s_2 s_3
        obtain ⟨csw,hbw⟩ := Kd.R_typed HWs.out gw rfl
        have ngs : gs ≠ gw := blk_ne HXs.out hbw (by decide)
        have ngt : gt ≠ gw := blk_ne HXt.out hbw (by decide)
        have hwg : w.heap.size ≤ gw := Kd.R_base HWs.out gw rfl
        obtain ⟨W7,hW⟩ : ∃ W_,W_ = wu.setCell ⟨gw,z.toNat,none⟩ (.bool true) := ⟨_,rfl⟩
        rw [← hW]
        have q1 := blk_far HXs.out (p := ⟨gw,z.toNat,none⟩) ngs (.bool true)
        have q2 := blk_far HXt.out (p := ⟨gw,z.toNat,none⟩) ngt (.bool true)
        have q3 := Kd.R_set HV.out hbw (by decide) z.toNat (.bool true)
        have q4 := Kd.R_putn (enc := Value.bool) (h1 := fun _ => rfl) HWs.out z true
        have q5 := below_set (j := z.toNat) (v := .bool true) HB.out hwg
        rw [← hW] at q1 q2 q3 q4 q5
        clear hW hbw ngs ngt hwg
        replace HXs := Aside0.mk q1
        replace HXt := Aside0.mk q2
        replace HV := Aside0.mk q3
        have HWs2 : Aside0 (Kd.R Kd.bool 4 W7 w.heap.size (fun _ => True) (.slice (some ⟨gw,0,none⟩) 16 cw) (bw.set z.toNat true)) := ⟨q4⟩
        replace HB := Aside0.mk q5
        clear q1 q2 q3 q4 q5 HWs
        have HWs := HWs2
        clear HWs2
        have ht64 : taken + 1 ≤ 9223372036854775807 := by omega
        have HI2 := Aside0.mk (Inv_take HIV.out HIN.out HMM.out.1 HMM.out.2 hE1)
        have hI2b := HI2.out
        clear HI2
        obtain ⟨l2,hl2⟩ : ∃ l2,l.filter (· != z) = l2 := ⟨_,rfl⟩
        have HTK : Aside0 (sweep_Take.f 61 l (-1) s n z mm = some (l2,z,0,mm,0)) := ⟨by rw [← hl2]; exact (take_is HRT.out z mm).1.trans (congrArg some (by unfold takeR; rw [if_pos ⟨rfl,HIN.out,HMM.out.1,by have := HMM.out.2; omega⟩]))⟩
        rw [hl2] at hI2b
        have HI2 := Aside0.mk (And.intro hI2b.1 hI2b.2.1)
        clear hI2b hl2 HIN HMM HKK
        have s_0 : W7.cell? ⟨gs,0,none⟩ = some (.slice (some ad) l.length ct) := (blk_cell HXs.out 0).trans rfl
        have s_1 : W7.cell? ⟨gs,1,none⟩ = some (.int .i64 (-1)) := (blk_cell HXs.out 1).trans rfl
        have s_2 : W7.cell? ⟨gs,2,none⟩ = some (.int .i64 (s)) := (blk_cell HXs.out 2).trans rfl
        have s_3 : W7.cell? ⟨gs,3,none⟩ = some (.int .i64 (n)) := (blk_cell HXs.out 3).trans rfl
        go_wp2_with fail
        clear s_0 s_1 s_2 s_3
        refine (sweep_Take.calls 61 (some ad) ct l (-1) s n z mm l2 z 0 mm 0 _ (Kd.R_reads' HV.out).2.2 (Kd.R_reads' HV.out).2.1 HTK.out).mono ?_
        rintro e_ wt ⟨v0,rfl,hv_,hb⟩
        obtain ⟨A2,c2,hv0,_,_⟩ := Kd.R_reads hv_
        subst hv0
        have HV2 := Aside0.mk (Kd.R_lower hv_ (below_size HB.out))
        replace HWs := Aside0.mk (Kd.R_below HWs.out hb)
        replace HXs := Aside0.mk (blk_below HXs.out hb)
        replace HXt := Aside0.mk (blk_below HXt.out hb)
        replace HB := Aside0.mk (below_step HB.out hb)
        clear hv_ hb HV
        have HV := HV2
        clear HV2
        have z_0 : wt.cell? ⟨gt,0,none⟩ = some (.slice (some ad) l.length ct) := (blk_cell HXt.out 0).trans rfl
        have z_1 : wt.cell? ⟨gt,1,none⟩ = some (.int .i64 (-1)) := (blk_cell HXt.out 1).trans rfl
        have z_2 : wt.cell? ⟨gt,2,none⟩ = some (.int .i64 (s)) := (blk_cell HXt.out 2).trans rfl
        have z_3 : wt.cell? ⟨gt,3,none⟩ = some (.int .i64 (n)) := (blk_cell HXt.out 3).trans rfl
        have zf_0 := blk_frozen HXt.out 0
        have zf_1 := blk_frozen HXt.out 1
        have zf_2 := blk_frozen HXt.out 2
        have zf_3 := blk_frozen HXt.out 3
        go_upto_region 36 with fail
        clear z_0 z_1 z_2 z_3 zf_0 zf_1 zf_2 zf_3
        obtain ⟨W6,hW⟩ : ∃ W_,W_ = ((((wt.setCell ⟨gt,0,none⟩ (.slice A2 l2.length c2)).setCell ⟨gt,1,none⟩ (.int .i64 (z))).setCell ⟨gt,2,none⟩ (.int .i64 (0))).setCell ⟨gt,3,none⟩ (.int .i64 (mm))) := ⟨_,rfl⟩
        rw [← hW]
        have q1 := (blk_set (blk_set (blk_set (blk_set HXt.out 0 (.slice A2 l2.length c2)) 1 (.int .i64 (z))) 2 (.int .i64 (0))) 3 (.int .i64 (mm)))
        simp only [zxI,zxs0,zxs1] at q1
        have q2 := (Kd.R_set (Kd.R_set (Kd.R_set (Kd.R_set HV.out HXt.out (by decide) 0 (.slice A2 l2.length c2)) (blk_set HXt.out 0 (.slice A2 l2.length c2)) (by decide) 1 (.int .i64 (z))) (blk_set (blk_set HXt.out 0 (.slice A2 l2.length c2)) 1 (.int .i64 (z))) (by decide) 2 (.int .i64 (0))) (blk_set (blk_set (blk_set HXt.out 0 (.slice A2 l2.length c2)) 1 (.int .i64 (z))) 2 (.int .i64 (0))) (by decide) 3 (.int .i64 (mm)))
        have q4 := (Kd.R_set (Kd.R_set (Kd.R_set (Kd.R_set HWs.out HXt.out (by decide) 0 (.slice A2 l2.length c2)) (blk_set HXt.out 0 (.slice A2 l2.length c2)) (by decide) 1 (.int .i64 (z))) (blk_set (blk_set HXt.out 0 (.slice A2 l2.length c2)) 1 (.int .i64 (z))) (by decide) 2 (.int .i64 (0))) (blk_set (blk_set (blk_set HXt.out 0 (.slice A2 l2.length c2)) 1 (.int .i64 (z))) 2 (.int .i64 (0))) (by decide) 3 (.int .i64 (mm)))
        have q3 := (below_set (g := gt) (j := 3) (v := .int .i64 (mm)) (below_set (g := gt) (j := 2) (v := .int .i64 (0)) (below_set (g := gt) (j := 1) (v := .int .i64 (z)) (below_set (g := gt) (j := 0) (v := .slice A2 l2.length c2) HB.out HGt.out) HGt.out) HGt.out) HGt.out)
        have q5 := (blk_far (blk_far (blk_far (blk_far HXs.out (p := ⟨gt,0,none⟩) Nst.out (.slice A2 l2.length c2)) (p := ⟨gt,1,none⟩) Nst.out (.int .i64 (z))) (p := ⟨gt,2,none⟩) Nst.out (.int .i64 (0))) (p := ⟨gt,3,none⟩) Nst.out (.int .i64 (mm)))
        rw [← hW] at q1 q2 q3 q4 q5
        clear hW
        replace HXt := Aside0.mk q1
        replace HV := Aside0.mk q2
        replace HWs := Aside0.mk q4
        replace HB := Aside0.mk q3
        replace HXs := Aside0.mk q5
        clear q1 q2 q3 q4 q5
        clear HTK
        obtain ⟨L2,hL2⟩ : ∃ L2 : Int,L2 = lf l2 (z) (0) (mm) e := ⟨_,rfl⟩
        have HRT2 := Aside0.mk HI2.out.1.1
        have HLF : Aside0 (sweep_Left.f l2 (z) (0) (mm) e = some L2) := ⟨(lf_is HRT2.out hE0 hE1).trans (congrArg some hL2.symm)⟩
        have hl0 : 0 ≤ L2 := by rw [hL2]; exact lf_lo HRT2.out hE0
        have HI3 := HI2.out
        rw [← hL2] at HI3
        have hlt : L2 < L := HI3.2
        have HIV2 := Aside0.mk HI3.1
        clear HI3 hL2 HI2 HIV
        have d1 : decide (L ≤ L2) = false := decide_eq_false (by omega)
        have d2 : decide (L2 < 0) = false := decide_eq_false (by omega)
        clear hl0 hlt
        have t_0 : W6.cell? ⟨gt,0,none⟩ = some (.slice A2 l2.length c2) := (blk_cell HXt.out 0).trans rfl
        have t_1 : W6.cell? ⟨gt,1,none⟩ = some (.int .i64 (z)) := (blk_cell HXt.out 1).trans rfl
        have t_2 : W6.cell? ⟨gt,2,none⟩ = some (.int .i64 (0)) := (blk_cell HXt.out 2).trans rfl
        have t_3 : W6.cell? ⟨gt,3,none⟩ = some (.int .i64 (mm)) := (blk_cell HXt.out 3).trans rfl
        go_wp2_with fail
        clear t_0 t_1 t_2 t_3
        refine (sweep_Left.calls A2 c2 l2 (z) (0) (mm) e L2 _ (Kd.R_reads' HV.out).2.2 (Kd.R_reads' HV.out).2.1 HLF.out).mono ?_
        rintro e_ wl ⟨rfl,hb⟩
        replace HWs := Aside0.mk (Kd.R_below HWs.out hb)
        replace HV := Aside0.mk (Kd.R_below HV.out hb)
        replace HXs := Aside0.mk (blk_below HXs.out hb)
        replace HXt := Aside0.mk (blk_below HXt.out hb)
        replace HB := Aside0.mk (below_step HB.out hb)
        clear hb HLF
        have t_0 : wl.cell? ⟨gt,0,none⟩ = some (.slice A2 l2.length c2) := (blk_cell HXt.out 0).trans rfl
        have t_1 : wl.cell? ⟨gt,1,none⟩ = some (.int .i64 (z)) := (blk_cell HXt.out 1).trans rfl
        have t_2 : wl.cell? ⟨gt,2,none⟩ = some (.int .i64 (0)) := (blk_cell HXt.out 2).trans rfl
        have t_3 : wl.cell? ⟨gt,3,none⟩ = some (.int .i64 (mm)) := (blk_cell HXt.out 3).trans rfl
        go_wp2_with fail
        clear t_0 t_1 t_2 t_3
        refine (sweep_Right.calls 61 A2 c2 l2 (z) (0) (mm) true _ (Kd.R_reads' HV.out).2.2 (Kd.R_reads' HV.out).2.1 ((right_is l2 (z) (0) (mm) (by have := rt_few HRT2.out; omega) 61 (by omega)).trans (congrArg some HRT2.out))).mono ?_
        rintro e_ wq ⟨rfl,hb⟩
        replace HWs := Aside0.mk (Kd.R_below HWs.out hb)
        replace HV := Aside0.mk (Kd.R_below HV.out hb)
        replace HXs := Aside0.mk (blk_below HXs.out hb)
        replace HXt := Aside0.mk (blk_below HXt.out hb)
        replace HB := Aside0.mk (below_step HB.out hb)
        clear hb HRT2
        have t_0 : wq.cell? ⟨gt,0,none⟩ = some (.slice A2 l2.length c2) := (blk_cell HXt.out 0).trans rfl
        have t_1 : wq.cell? ⟨gt,1,none⟩ = some (.int .i64 (z)) := (blk_cell HXt.out 1).trans rfl
        have t_2 : wq.cell? ⟨gt,2,none⟩ = some (.int .i64 (0)) := (blk_cell HXt.out 2).trans rfl
        have t_3 : wq.cell? ⟨gt,3,none⟩ = some (.int .i64 (mm)) := (blk_cell HXt.out 3).trans rfl
        have n1_ := Nst.out
        have n2_ := Ne.symm Nst.out
        have z_0 : wq.cell? ⟨gs,0,none⟩ = some (.slice (some ad) l.length ct) := (blk_cell HXs.out 0).trans rfl
        have z_1 : wq.cell? ⟨gs,1,none⟩ = some (.int .i64 (-1)) := (blk_cell HXs.out 1).trans rfl
        have z_2 : wq.cell? ⟨gs,2,none⟩ = some (.int .i64 (s)) := (blk_cell HXs.out 2).trans rfl
        have z_3 : wq.cell? ⟨gs,3,none⟩ = some (.int .i64 (n)) := (blk_cell HXs.out 3).trans rfl
        have zf_0 := blk_frozen HXs.out 0
        have zf_1 := blk_frozen HXs.out 1
        have zf_2 := blk_frozen HXs.out 2
        have zf_3 := blk_frozen HXs.out 3
        go_upto_region 15 with fail
        clear z_0 z_1 z_2 z_3 zf_0 zf_1 zf_2 zf_3
        clear t_0 t_1 t_2 t_3
        clear n1_ n2_ d1 d2
        obtain ⟨W9,hW⟩ : ∃ W_,W_ = ((((wq.setCell ⟨gs,0,none⟩ (.slice A2 l2.length c2)).setCell ⟨gs,1,none⟩ (.int .i64 (z))).setCell ⟨gs,2,none⟩ (.int .i64 (0))).setCell ⟨gs,3,none⟩ (.int .i64 (mm))) := ⟨_,rfl⟩
        rw [← hW]
        have q1 := (blk_set (blk_set (blk_set (blk_set HXs.out 0 (.slice A2 l2.length c2)) 1 (.int .i64 (z))) 2 (.int .i64 (0))) 3 (.int .i64 (mm)))
        simp only [zxI,zxs0,zxs1] at q1
        have q2 := (Kd.R_set (Kd.R_set (Kd.R_set (Kd.R_set HV.out HXs.out (by decide) 0 (.slice A2 l2.length c2)) (blk_set HXs.out 0 (.slice A2 l2.length c2)) (by decide) 1 (.int .i64 (z))) (blk_set (blk_set HXs.out 0 (.slice A2 l2.length c2)) 1 (.int .i64 (z))) (by decide) 2 (.int .i64 (0))) (blk_set (blk_set (blk_set HXs.out 0 (.slice A2 l2.length c2)) 1 (.int .i64 (z))) 2 (.int .i64 (0))) (by decide) 3 (.int .i64 (mm)))
        have q4 := (Kd.R_set (Kd.R_set (Kd.R_set (Kd.R_set HWs.out HXs.out (by decide) 0 (.slice A2 l2.length c2)) (blk_set HXs.out 0 (.slice A2 l2.length c2)) (by decide) 1 (.int .i64 (z))) (blk_set (blk_set HXs.out 0 (.slice A2 l2.length c2)) 1 (.int .i64 (z))) (by decide) 2 (.int .i64 (0))) (blk_set (blk_set (blk_set HXs.out 0 (.slice A2 l2.length c2)) 1 (.int .i64 (z))) 2 (.int .i64 (0))) (by decide) 3 (.int .i64 (mm)))
        have q3 := (below_set (g := gs) (j := 3) (v := .int .i64 (mm)) (below_set (g := gs) (j := 2) (v := .int .i64 (0)) (below_set (g := gs) (j := 1) (v := .int .i64 (z)) (below_set (g := gs) (j := 0) (v := .slice A2 l2.length c2) HB.out HGs.out) HGs.out) HGs.out) HGs.out)
        have q5 := (blk_far (blk_far (blk_far (blk_far HXt.out (p := ⟨gs,0,none⟩) (Ne.symm Nst.out) (.slice A2 l2.length c2)) (p := ⟨gs,1,none⟩) (Ne.symm Nst.out) (.int .i64 (z))) (p := ⟨gs,2,none⟩) (Ne.symm Nst.out) (.int .i64 (0))) (p := ⟨gs,3,none⟩) (Ne.symm Nst.out) (.int .i64 (mm)))
        rw [← hW] at q1 q2 q3 q4 q5
        clear hW
        replace HXs := Aside0.mk q1
        replace HV := Aside0.mk q2
        replace HWs := Aside0.mk q4
        replace HB := Aside0.mk q3
        replace HXt := Aside0.mk q5
        clear q1 q2 q3 q4 q5
        have hx64 : x + 1 ≤ 9223372036854775807 := by omega
        go_wp2_with fail
        go_roundw
        case rel => exact ⟨x + 1,L2,(taken + 1),l2,z,0,mm,(bw.set z.toNat true),A2,c2,rfl,rfl,rfl,HIV2,HXs,HV,HWs,HB⟩
        case measure => simp [intOf]; omega
    ·by_cases hs : s < n
     ·skip
      have HNX : Aside0 (sweep_Next.f 61 l v s n false = some 3) := ⟨(nx_is HRT.out).trans (congrArg some (by unfold nx; rw [if_neg hv,if_pos hs]))⟩
      have HI2 := Aside0.mk (Inv_seen HIV.out hv hs)
      have HK := Aside0.mk hs
      have HV1 := Aside0.mk hv
      clear hs hv
      have s_0 : wr.cell? ⟨gs,0,none⟩ = some (.slice At l.length ct) := (blk_cell HXs.out 0).trans rfl
      have s_1 : wr.cell? ⟨gs,1,none⟩ = some (.int .i64 (v)) := (blk_cell HXs.out 1).trans rfl
      have s_2 : wr.cell? ⟨gs,2,none⟩ = some (.int .i64 (s)) := (blk_cell HXs.out 2).trans rfl
      have s_3 : wr.cell? ⟨gs,3,none⟩ = some (.int .i64 (n)) := (blk_cell HXs.out 3).trans rfl
      go_wp2_with fail
      clear s_0 s_1 s_2 s_3
      refine (sweep_Next.calls 61 At ct l (v) s n false 3 _ (Kd.R_reads' HV.out).2.2 (Kd.R_reads' HV.out).2.1 HNX.out).mono ?_
      rintro e_ wz ⟨rfl,hb⟩
      replace HWs := Aside0.mk (Kd.R_below HWs.out hb)
      replace HV := Aside0.mk (Kd.R_below HV.out hb)
      replace HXs := Aside0.mk (blk_below HXs.out hb)
      replace HB := Aside0.mk (below_step HB.out hb)
      clear hb
      have s_0 : wz.cell? ⟨gs,0,none⟩ = some (.slice At l.length ct) := (blk_cell HXs.out 0).trans rfl
      have s_1 : wz.cell? ⟨gs,1,none⟩ = some (.int .i64 (v)) := (blk_cell HXs.out 1).trans rfl
      have s_2 : wz.cell? ⟨gs,2,none⟩ = some (.int .i64 (s)) := (blk_cell HXs.out 2).trans rfl
      have s_3 : wz.cell? ⟨gs,3,none⟩ = some (.int .i64 (n)) := (blk_cell HXs.out 3).trans rfl
      go_upto_region 17 with ((with_reducible refine gate_dst (N := 17) rfl ?_); refine box_event ?hg (N := 17) ?hd (cs := #[.slice none 0 0,.int .i64 0,.int .i64 0,.int .i64 0]) (t := 25) ?hr ?_; (case hd => rfl); (case hg => rfl); (case hr => first | (go_simp; done) | (go_simp; rfl)); intro gt hgo wb hbox hbb; have HBO := Aside0.mk hbox; have HBB := Aside0.mk hbb; have HGO := Aside0.mk hgo; have y0 : wb.cell? ⟨gt,0,none⟩ = some (.slice none 0 0) := (blk_cell hbox 0).trans rfl; have y1 : wb.cell? ⟨gt,1,none⟩ = some (.int .i64 0) := (blk_cell hbox 1).trans rfl; have y2 : wb.cell? ⟨gt,2,none⟩ = some (.int .i64 0) := (blk_cell hbox 2).trans rfl; have y3 : wb.cell? ⟨gt,3,none⟩ = some (.int .i64 0) := (blk_cell hbox 3).trans rfl; have yf0 := blk_frozen hbox 0; have yf1 := blk_frozen hbox 1; have yf2 := blk_frozen hbox 2; have yf3 := blk_frozen hbox 3; clear hbox hbb hgo)
      clear y0 y1 y2 y3 yf0 yf1 yf2 yf3
      clear s_0 s_1 s_2 s_3
      obtain ⟨W3,hW⟩ : ∃ W_,W_ = ((((wb.setCell ⟨gt,0,none⟩ (.slice At l.length ct)).setCell ⟨gt,1,none⟩ (.int .i64 (v))).setCell ⟨gt,2,none⟩ (.int .i64 (s))).setCell ⟨gt,3,none⟩ (.int .i64 (n))) := ⟨_,rfl⟩
      rw [← hW]
      have q1 := (blk_set (blk_set (blk_set (blk_set HBO.out 0 (.slice At l.length ct)) 1 (.int .i64 (v))) 2 (.int .i64 (s))) 3 (.int .i64 (n)))
      simp only [zxI,zxs0,zxs1] at q1
      have q2 := (Kd.R_set (Kd.R_set (Kd.R_set (Kd.R_set (Kd.R_below HV.out HBB.out) HBO.out (by decide) 0 (.slice At l.length ct)) (blk_set HBO.out 0 (.slice At l.length ct)) (by decide) 1 (.int .i64 (v))) (blk_set (blk_set HBO.out 0 (.slice At l.length ct)) 1 (.int .i64 (v))) (by decide) 2 (.int .i64 (s))) (blk_set (blk_set (blk_set HBO.out 0 (.slice At l.length ct)) 1 (.int .i64 (v))) 2 (.int .i64 (s))) (by decide) 3 (.int .i64 (n)))
      have q4 := (Kd.R_set (Kd.R_set (Kd.R_set (Kd.R_set (Kd.R_below HWs.out HBB.out) HBO.out (by decide) 0 (.slice At l.length ct)) (blk_set HBO.out 0 (.slice At l.length ct)) (by decide) 1 (.int .i64 (v))) (blk_set (blk_set HBO.out 0 (.slice At l.length ct)) 1 (.int .i64 (v))) (by decide) 2 (.int .i64 (s))) (blk_set (blk_set (blk_set HBO.out 0 (.slice At l.length ct)) 1 (.int .i64 (v))) 2 (.int .i64 (s))) (by decide) 3 (.int .i64 (n)))
      have q3 := (below_set (g := gt) (j := 3) (v := .int .i64 (n)) (below_set (g := gt) (j := 2) (v := .int .i64 (s)) (below_set (g := gt) (j := 1) (v := .int .i64 (v)) (below_set (g := gt) (j := 0) (v := .slice At l.length ct) (below_step HB.out HBB.out) (by rw [HGO.out]; exact below_size HB.out)) (by rw [HGO.out]; exact below_size HB.out)) (by rw [HGO.out]; exact below_size HB.out)) (by rw [HGO.out]; exact below_size HB.out))
      have pHXs := (blk_far (blk_far (blk_far (blk_far (blk_below HXs.out HBB.out) (p := ⟨gt,0,none⟩) (by rw [HGO.out]; exact Nat.ne_of_lt (blk_lt HXs.out)) (.slice At l.length ct)) (p := ⟨gt,1,none⟩) (by rw [HGO.out]; exact Nat.ne_of_lt (blk_lt HXs.out)) (.int .i64 (v))) (p := ⟨gt,2,none⟩) (by rw [HGO.out]; exact Nat.ne_of_lt (blk_lt HXs.out)) (.int .i64 (s))) (p := ⟨gt,3,none⟩) (by rw [HGO.out]; exact Nat.ne_of_lt (blk_lt HXs.out)) (.int .i64 (n)))
      rw [← hW] at pHXs
      have Nst : Aside0 (gs ≠ gt) := ⟨by rw [HGO.out]; exact Nat.ne_of_lt (blk_lt HXs.out)⟩
      replace HXs := Aside0.mk pHXs
      clear pHXs
      rw [← hW] at q1 q2 q3 q4
      have HGt : Aside0 (w.heap.size ≤ gt) := ⟨by rw [HGO.out]; exact below_size HB.out⟩
      clear hW HBO HBB HGO HV HB HWs
      have HXt := Aside0.mk q1
      have HV := Aside0.mk q2
      have HB := Aside0.mk q3
      have HWs := Aside0.mk q4
      clear q1 q2 q3 q4
      have s_0 : W3.cell? ⟨gs,0,none⟩ = some (.slice At l.length ct) := (blk_cell HXs.out 0).trans rfl
      have s_1 : W3.cell? ⟨gs,1,none⟩ = some (.int .i64 (v)) := (blk_cell HXs.out 1).trans rfl
      have s_2 : W3.cell? ⟨gs,2,none⟩ = some (.int .i64 (s)) := (blk_cell HXs.out 2).trans rfl
      have s_3 : W3.cell? ⟨gs,3,none⟩ = some (.int .i64 (n)) := (blk_cell HXs.out 3).trans rfl
      go_wp2_with fail
      clear s_0 s_1 s_2 s_3
      refine (sweep_Next.calls 61 At ct l (v) s n false 3 _ (Kd.R_reads' HV.out).2.2 (Kd.R_reads' HV.out).2.1 HNX.out).mono ?_
      rintro e_ wy ⟨rfl,hb⟩
      replace HWs := Aside0.mk (Kd.R_below HWs.out hb)
      replace HV := Aside0.mk (Kd.R_below HV.out hb)
      replace HXs := Aside0.mk (blk_below HXs.out hb)
      replace HXt := Aside0.mk (blk_below HXt.out hb)
      replace HB := Aside0.mk (below_step HB.out hb)
      clear hb
      have s_0 : wy.cell? ⟨gs,0,none⟩ = some (.slice At l.length ct) := (blk_cell HXs.out 0).trans rfl
      have s_1 : wy.cell? ⟨gs,1,none⟩ = some (.int .i64 (v)) := (blk_cell HXs.out 1).trans rfl
      have s_2 : wy.cell? ⟨gs,2,none⟩ = some (.int .i64 (s)) := (blk_cell HXs.out 2).trans rfl
      have s_3 : wy.cell? ⟨gs,3,none⟩ = some (.int .i64 (n)) := (blk_cell HXs.out 3).trans rfl
      go_wp2_with fail
      clear s_0 s_1 s_2 s_3
      refine (sweep_Seen.calls 61 At ct l v s n l v (s + 1) n 0 _ (Kd.R_reads' HV.out).2.2 (Kd.R_reads' HV.out).2.1 ((seen_is HRT.out).1.trans (congrArg some (by unfold seenR; rw [if_pos ⟨HV1.out,HK.out⟩])))).mono ?_
      rintro e_ wt ⟨v0,rfl,hv_,hb⟩
      obtain ⟨A2,c2,hv0,_,_⟩ := Kd.R_reads hv_
      subst hv0
      have HV2 := Aside0.mk (Kd.R_lower hv_ (below_size HB.out))
      replace HWs := Aside0.mk (Kd.R_below HWs.out hb)
      replace HXs := Aside0.mk (blk_below HXs.out hb)
      replace HXt := Aside0.mk (blk_below HXt.out hb)
      replace HB := Aside0.mk (below_step HB.out hb)
      clear hv_ hb HV
      have HV := HV2
      clear HV2
      have z_0 : wt.cell? ⟨gt,0,none⟩ = some (.slice At l.length ct) := (blk_cell HXt.out 0).trans rfl
      have z_1 : wt.cell? ⟨gt,1,none⟩ = some (.int .i64 (v)) := (blk_cell HXt.out 1).trans rfl
      have z_2 : wt.cell? ⟨gt,2,none⟩ = some (.int .i64 (s)) := (blk_cell HXt.out 2).trans rfl
      have z_3 : wt.cell? ⟨gt,3,none⟩ = some (.int .i64 (n)) := (blk_cell HXt.out 3).trans rfl
      have zf_0 := blk_frozen HXt.out 0
      have zf_1 := blk_frozen HXt.out 1
      have zf_2 := blk_frozen HXt.out 2
      have zf_3 := blk_frozen HXt.out 3
      go_upto_region 36 with fail
      clear z_0 z_1 z_2 z_3 zf_0 zf_1 zf_2 zf_3
      obtain ⟨W6,hW⟩ : ∃ W_,W_ = ((((wt.setCell ⟨gt,0,none⟩ (.slice A2 l.length c2)).setCell ⟨gt,1,none⟩ (.int .i64 (v))).setCell ⟨gt,2,none⟩ (.int .i64 (s + 1))).setCell ⟨gt,3,none⟩ (.int .i64 (n))) := ⟨_,rfl⟩
      rw [← hW]
      have q1 := (blk_set (blk_set (blk_set (blk_set HXt.out 0 (.slice A2 l.length c2)) 1 (.int .i64 (v))) 2 (.int .i64 (s + 1))) 3 (.int .i64 (n)))
      simp only [zxI,zxs0,zxs1] at q1
      have q2 := (Kd.R_set (Kd.R_set (Kd.R_set (Kd.R_set HV.out HXt.out (by decide) 0 (.slice A2 l.length c2)) (blk_set HXt.out 0 (.slice A2 l.length c2)) (by decide) 1 (.int .i64 (v))) (blk_set (blk_set HXt.out 0 (.slice A2 l.length c2)) 1 (.int .i64 (v))) (by decide) 2 (.int .i64 (s + 1))) (blk_set (blk_set (blk_set HXt.out 0 (.slice A2 l.length c2)) 1 (.int .i64 (v))) 2 (.int .i64 (s + 1))) (by decide) 3 (.int .i64 (n)))
      have q4 := (Kd.R_set (Kd.R_set (Kd.R_set (Kd.R_set HWs.out HXt.out (by decide) 0 (.slice A2 l.length c2)) (blk_set HXt.out 0 (.slice A2 l.length c2)) (by decide) 1 (.int .i64 (v))) (blk_set (blk_set HXt.out 0 (.slice A2 l.length c2)) 1 (.int .i64 (v))) (by decide) 2 (.int .i64 (s + 1))) (blk_set (blk_set (blk_set HXt.out 0 (.slice A2 l.length c2)) 1 (.int .i64 (v))) 2 (.int .i64 (s + 1))) (by decide) 3 (.int .i64 (n)))
      have q3 := (below_set (g := gt) (j := 3) (v := .int .i64 (n)) (below_set (g := gt) (j := 2) (v := .int .i64 (s + 1)) (below_set (g := gt) (j := 1) (v := .int .i64 (v)) (below_set (g := gt) (j := 0) (v := .slice A2 l.length c2) HB.out HGt.out) HGt.out) HGt.out) HGt.out)
      have q5 := (blk_far (blk_far (blk_far (blk_far HXs.out (p := ⟨gt,0,none⟩) Nst.out (.slice A2 l.length c2)) (p := ⟨gt,1,none⟩) Nst.out (.int .i64 (v))) (p := ⟨gt,2,none⟩) Nst.out (.int .i64 (s + 1))) (p := ⟨gt,3,none⟩) Nst.out (.int .i64 (n)))
      rw [← hW] at q1 q2 q3 q4 q5
      clear hW
      replace HXt := Aside0.mk q1
      replace HV := Aside0.mk q2
      replace HWs := Aside0.mk q4
      replace HB := Aside0.mk q3
      replace HXs := Aside0.mk q5
      clear q1 q2 q3 q4 q5
      clear HK HV1
      obtain ⟨L2,hL2⟩ : ∃ L2 : Int,L2 = lf l (v) (s + 1) (n) e := ⟨_,rfl⟩
      have HRT2 := Aside0.mk HI2.out.1.1
      have HLF : Aside0 (sweep_Left.f l (v) (s + 1) (n) e = some L2) := ⟨(lf_is HRT2.out hE0 hE1).trans (congrArg some hL2.symm)⟩
      have hl0 : 0 ≤ L2 := by rw [hL2]; exact lf_lo HRT2.out hE0
      have HI3 := HI2.out
      rw [← hL2] at HI3
      have hlt : L2 < L := HI3.2
      have HIV2 := Aside0.mk HI3.1
      clear HI3 hL2 HI2 HIV
      have d1 : decide (L ≤ L2) = false := decide_eq_false (by omega)
      have d2 : decide (L2 < 0) = false := decide_eq_false (by omega)
      clear hl0 hlt
      have t_0 : W6.cell? ⟨gt,0,none⟩ = some (.slice A2 l.length c2) := (blk_cell HXt.out 0).trans rfl
      have t_1 : W6.cell? ⟨gt,1,none⟩ = some (.int .i64 (v)) := (blk_cell HXt.out 1).trans rfl
      have t_2 : W6.cell? ⟨gt,2,none⟩ = some (.int .i64 (s + 1)) := (blk_cell HXt.out 2).trans rfl
      have t_3 : W6.cell? ⟨gt,3,none⟩ = some (.int .i64 (n)) := (blk_cell HXt.out 3).trans rfl
      go_wp2_with fail
      clear t_0 t_1 t_2 t_3
      refine (sweep_Left.calls A2 c2 l (v) (s + 1) (n) e L2 _ (Kd.R_reads' HV.out).2.2 (Kd.R_reads' HV.out).2.1 HLF.out).mono ?_
      rintro e_ wl ⟨rfl,hb⟩
      replace HWs := Aside0.mk (Kd.R_below HWs.out hb)
      replace HV := Aside0.mk (Kd.R_below HV.out hb)
      replace HXs := Aside0.mk (blk_below HXs.out hb)
      replace HXt := Aside0.mk (blk_below HXt.out hb)
      replace HB := Aside0.mk (below_step HB.out hb)
      clear hb HLF
      have t_0 : wl.cell? ⟨gt,0,none⟩ = some (.slice A2 l.length c2) := (blk_cell HXt.out 0).trans rfl
      have t_1 : wl.cell? ⟨gt,1,none⟩ = some (.int .i64 (v)) := (blk_cell HXt.out 1).trans rfl
      have t_2 : wl.cell? ⟨gt,2,none⟩ = some (.int .i64 (s + 1)) := (blk_cell HXt.out 2).trans rfl
      have t_3 : wl.cell? ⟨gt,3,none⟩ = some (.int .i64 (n)) := (blk_cell HXt.out 3).trans rfl
      go_wp2_with fail
      clear t_0 t_1 t_2 t_3
      refine (sweep_Right.calls 61 A2 c2 l (v) (s + 1) (n) true _ (Kd.R_reads' HV.out).2.2 (Kd.R_reads' HV.out).2.1 ((right_is l (v) (s + 1) (n) (by have := rt_few HRT2.out; omega) 61 (by omega)).trans (congrArg some HRT2.out))).mono ?_
      rintro e_ wq ⟨rfl,hb⟩
      replace HWs := Aside0.mk (Kd.R_below HWs.out hb)
      replace HV := Aside0.mk (Kd.R_below HV.out hb)
      replace HXs := Aside0.mk (blk_below HXs.out hb)
      replace HXt := Aside0.mk (blk_below HXt.out hb)
      replace HB := Aside0.mk (below_step HB.out hb)
      clear hb HRT2
      have t_0 : wq.cell? ⟨gt,0,none⟩ = some (.slice A2 l.length c2) := (blk_cell HXt.out 0).trans rfl
      have t_1 : wq.cell? ⟨gt,1,none⟩ = some (.int .i64 (v)) := (blk_cell HXt.out 1).trans rfl
      have t_2 : wq.cell? ⟨gt,2,none⟩ = some (.int .i64 (s + 1)) := (blk_cell HXt.out 2).trans rfl
      have t_3 : wq.cell? ⟨gt,3,none⟩ = some (.int .i64 (n)) := (blk_cell HXt.out 3).trans rfl
      have n1_ := Nst.out
      have n2_ := Ne.symm Nst.out
      have z_0 : wq.cell? ⟨gs,0,none⟩ = some (.slice At l.length ct) := (blk_cell HXs.out 0).trans rfl
      have z_1 : wq.cell? ⟨gs,1,none⟩ = some (.int .i64 (v)) := (blk_cell HXs.out 1).trans rfl
      have z_2 : wq.cell? ⟨gs,2,none⟩ = some (.int .i64 (s)) := (blk_cell HXs.out 2).trans rfl
      have z_3 : wq.cell? ⟨gs,3,none⟩ = some (.int .i64 (n)) := (blk_cell HXs.out 3).trans rfl
      have zf_0 := blk_frozen HXs.out 0
      have zf_1 := blk_frozen HXs.out 1
      have zf_2 := blk_frozen HXs.out 2
      have zf_3 := blk_frozen HXs.out 3
      go_upto_region 15 with fail
      clear z_0 z_1 z_2 z_3 zf_0 zf_1 zf_2 zf_3
      clear t_0 t_1 t_2 t_3
      clear n1_ n2_ d1 d2
      obtain ⟨W9,hW⟩ : ∃ W_,W_ = ((((wq.setCell ⟨gs,0,none⟩ (.slice A2 l.length c2)).setCell ⟨gs,1,none⟩ (.int .i64 (v))).setCell ⟨gs,2,none⟩ (.int .i64 (s + 1))).setCell ⟨gs,3,none⟩ (.int .i64 (n))) := ⟨_,rfl⟩
      rw [← hW]
      have q1 := (blk_set (blk_set (blk_set (blk_set HXs.out 0 (.slice A2 l.length c2)) 1 (.int .i64 (v))) 2 (.int .i64 (s + 1))) 3 (.int .i64 (n)))
      simp only [zxI,zxs0,zxs1] at q1
      have q2 := (Kd.R_set (Kd.R_set (Kd.R_set (Kd.R_set HV.out HXs.out (by decide) 0 (.slice A2 l.length c2)) (blk_set HXs.out 0 (.slice A2 l.length c2)) (by decide) 1 (.int .i64 (v))) (blk_set (blk_set HXs.out 0 (.slice A2 l.length c2)) 1 (.int .i64 (v))) (by decide) 2 (.int .i64 (s + 1))) (blk_set (blk_set (blk_set HXs.out 0 (.slice A2 l.length c2)) 1 (.int .i64 (v))) 2 (.int .i64 (s + 1))) (by decide) 3 (.int .i64 (n)))
      have q4 := (Kd.R_set (Kd.R_set (Kd.R_set (Kd.R_set HWs.out HXs.out (by decide) 0 (.slice A2 l.length c2)) (blk_set HXs.out 0 (.slice A2 l.length c2)) (by decide) 1 (.int .i64 (v))) (blk_set (blk_set HXs.out 0 (.slice A2 l.length c2)) 1 (.int .i64 (v))) (by decide) 2 (.int .i64 (s + 1))) (blk_set (blk_set (blk_set HXs.out 0 (.slice A2 l.length c2)) 1 (.int .i64 (v))) 2 (.int .i64 (s + 1))) (by decide) 3 (.int .i64 (n)))
      have q3 := (below_set (g := gs) (j := 3) (v := .int .i64 (n)) (below_set (g := gs) (j := 2) (v := .int .i64 (s + 1)) (below_set (g := gs) (j := 1) (v := .int .i64 (v)) (below_set (g := gs) (j := 0) (v := .slice A2 l.length c2) HB.out HGs.out) HGs.out) HGs.out) HGs.out)
      have q5 := (blk_far (blk_far (blk_far (blk_far HXt.out (p := ⟨gs,0,none⟩) (Ne.symm Nst.out) (.slice A2 l.length c2)) (p := ⟨gs,1,none⟩) (Ne.symm Nst.out) (.int .i64 (v))) (p := ⟨gs,2,none⟩) (Ne.symm Nst.out) (.int .i64 (s + 1))) (p := ⟨gs,3,none⟩) (Ne.symm Nst.out) (.int .i64 (n)))
      rw [← hW] at q1 q2 q3 q4 q5
      clear hW
      replace HXs := Aside0.mk q1
      replace HV := Aside0.mk q2
      replace HWs := Aside0.mk q4
      replace HB := Aside0.mk q3
      replace HXt := Aside0.mk q5
      clear q1 q2 q3 q4 q5
      have hx64 : x + 1 ≤ 9223372036854775807 := by omega
      go_wp2_with fail
      go_roundw
      case rel => exact ⟨x + 1,L2,taken,l,v,s + 1,n,bw,A2,c2,rfl,rfl,rfl,HIV2,HXs,HV,HWs,HB⟩
      case measure => simp [intOf]; omega
     ·skip
      have HNX : Aside0 (sweep_Next.f 61 l v s n false = some 4) := ⟨(nx_is HRT.out).trans (congrArg some (by unfold nx; rw [if_neg hv,if_neg hs]))⟩
      have HI2 := Aside0.mk (Inv_give HIV.out hv hs)
      have HK := Aside0.mk hs
      have HV1 := Aside0.mk hv
      clear hs hv
      have s_0 : wr.cell? ⟨gs,0,none⟩ = some (.slice At l.length ct) := (blk_cell HXs.out 0).trans rfl
      have s_1 : wr.cell? ⟨gs,1,none⟩ = some (.int .i64 (v)) := (blk_cell HXs.out 1).trans rfl
      have s_2 : wr.cell? ⟨gs,2,none⟩ = some (.int .i64 (s)) := (blk_cell HXs.out 2).trans rfl
      have s_3 : wr.cell? ⟨gs,3,none⟩ = some (.int .i64 (n)) := (blk_cell HXs.out 3).trans rfl
      go_wp2_with fail
      clear s_0 s_1 s_2 s_3
      refine (sweep_Next.calls 61 At ct l (v) s n false 4 _ (Kd.R_reads' HV.out).2.2 (Kd.R_reads' HV.out).2.1 HNX.out).mono ?_
      rintro e_ wz ⟨rfl,hb⟩
      replace HWs := Aside0.mk (Kd.R_below HWs.out hb)
      replace HV := Aside0.mk (Kd.R_below HV.out hb)
      replace HXs := Aside0.mk (blk_below HXs.out hb)
      replace HB := Aside0.mk (below_step HB.out hb)
      clear hb
      have s_0 : wz.cell? ⟨gs,0,none⟩ = some (.slice At l.length ct) := (blk_cell HXs.out 0).trans rfl
      have s_1 : wz.cell? ⟨gs,1,none⟩ = some (.int .i64 (v)) := (blk_cell HXs.out 1).trans rfl
      have s_2 : wz.cell? ⟨gs,2,none⟩ = some (.int .i64 (s)) := (blk_cell HXs.out 2).trans rfl
      have s_3 : wz.cell? ⟨gs,3,none⟩ = some (.int .i64 (n)) := (blk_cell HXs.out 3).trans rfl
      go_upto_region 17 with ((with_reducible refine gate_dst (N := 17) rfl ?_); refine box_event ?hg (N := 17) ?hd (cs := #[.slice none 0 0,.int .i64 0,.int .i64 0,.int .i64 0]) (t := 25) ?hr ?_; (case hd => rfl); (case hg => rfl); (case hr => first | (go_simp; done) | (go_simp; rfl)); intro gt hgo wb hbox hbb; have HBO := Aside0.mk hbox; have HBB := Aside0.mk hbb; have HGO := Aside0.mk hgo; have y0 : wb.cell? ⟨gt,0,none⟩ = some (.slice none 0 0) := (blk_cell hbox 0).trans rfl; have y1 : wb.cell? ⟨gt,1,none⟩ = some (.int .i64 0) := (blk_cell hbox 1).trans rfl; have y2 : wb.cell? ⟨gt,2,none⟩ = some (.int .i64 0) := (blk_cell hbox 2).trans rfl; have y3 : wb.cell? ⟨gt,3,none⟩ = some (.int .i64 0) := (blk_cell hbox 3).trans rfl; have yf0 := blk_frozen hbox 0; have yf1 := blk_frozen hbox 1; have yf2 := blk_frozen hbox 2; have yf3 := blk_frozen hbox 3; clear hbox hbb hgo)
      clear y0 y1 y2 y3 yf0 yf1 yf2 yf3
      clear s_0 s_1 s_2 s_3
      obtain ⟨W3,hW⟩ : ∃ W_,W_ = ((((wb.setCell ⟨gt,0,none⟩ (.slice At l.length ct)).setCell ⟨gt,1,none⟩ (.int .i64 (v))).setCell ⟨gt,2,none⟩ (.int .i64 (s))).setCell ⟨gt,3,none⟩ (.int .i64 (n))) := ⟨_,rfl⟩
      rw [← hW]
      have q1 := (blk_set (blk_set (blk_set (blk_set HBO.out 0 (.slice At l.length ct)) 1 (.int .i64 (v))) 2 (.int .i64 (s))) 3 (.int .i64 (n)))
      simp only [zxI,zxs0,zxs1] at q1
      have q2 := (Kd.R_set (Kd.R_set (Kd.R_set (Kd.R_set (Kd.R_below HV.out HBB.out) HBO.out (by decide) 0 (.slice At l.length ct)) (blk_set HBO.out 0 (.slice At l.length ct)) (by decide) 1 (.int .i64 (v))) (blk_set (blk_set HBO.out 0 (.slice At l.length ct)) 1 (.int .i64 (v))) (by decide) 2 (.int .i64 (s))) (blk_set (blk_set (blk_set HBO.out 0 (.slice At l.length ct)) 1 (.int .i64 (v))) 2 (.int .i64 (s))) (by decide) 3 (.int .i64 (n)))
      have q4 := (Kd.R_set (Kd.R_set (Kd.R_set (Kd.R_set (Kd.R_below HWs.out HBB.out) HBO.out (by decide) 0 (.slice At l.length ct)) (blk_set HBO.out 0 (.slice At l.length ct)) (by decide) 1 (.int .i64 (v))) (blk_set (blk_set HBO.out 0 (.slice At l.length ct)) 1 (.int .i64 (v))) (by decide) 2 (.int .i64 (s))) (blk_set (blk_set (blk_set HBO.out 0 (.slice At l.length ct)) 1 (.int .i64 (v))) 2 (.int .i64 (s))) (by decide) 3 (.int .i64 (n)))
      have q3 := (below_set (g := gt) (j := 3) (v := .int .i64 (n)) (below_set (g := gt) (j := 2) (v := .int .i64 (s)) (below_set (g := gt) (j := 1) (v := .int .i64 (v)) (below_set (g := gt) (j := 0) (v := .slice At l.length ct) (below_step HB.out HBB.out) (by rw [HGO.out]; exact below_size HB.out)) (by rw [HGO.out]; exact below_size HB.out)) (by rw [HGO.out]; exact below_size HB.out)) (by rw [HGO.out]; exact below_size HB.out))
      have pHXs := (blk_far (blk_far (blk_far (blk_far (blk_below HXs.out HBB.out) (p := ⟨gt,0,none⟩) (by rw [HGO.out]; exact Nat.ne_of_lt (blk_lt HXs.out)) (.slice At l.length ct)) (p := ⟨gt,1,none⟩) (by rw [HGO.out]; exact Nat.ne_of_lt (blk_lt HXs.out)) (.int .i64 (v))) (p := ⟨gt,2,none⟩) (by rw [HGO.out]; exact Nat.ne_of_lt (blk_lt HXs.out)) (.int .i64 (s))) (p := ⟨gt,3,none⟩) (by rw [HGO.out]; exact Nat.ne_of_lt (blk_lt HXs.out)) (.int .i64 (n)))
      rw [← hW] at pHXs
      have Nst : Aside0 (gs ≠ gt) := ⟨by rw [HGO.out]; exact Nat.ne_of_lt (blk_lt HXs.out)⟩
      replace HXs := Aside0.mk pHXs
      clear pHXs
      rw [← hW] at q1 q2 q3 q4
      have HGt : Aside0 (w.heap.size ≤ gt) := ⟨by rw [HGO.out]; exact below_size HB.out⟩
      clear hW HBO HBB HGO HV HB HWs
      have HXt := Aside0.mk q1
      have HV := Aside0.mk q2
      have HB := Aside0.mk q3
      have HWs := Aside0.mk q4
      clear q1 q2 q3 q4
      have s_0 : W3.cell? ⟨gs,0,none⟩ = some (.slice At l.length ct) := (blk_cell HXs.out 0).trans rfl
      have s_1 : W3.cell? ⟨gs,1,none⟩ = some (.int .i64 (v)) := (blk_cell HXs.out 1).trans rfl
      have s_2 : W3.cell? ⟨gs,2,none⟩ = some (.int .i64 (s)) := (blk_cell HXs.out 2).trans rfl
      have s_3 : W3.cell? ⟨gs,3,none⟩ = some (.int .i64 (n)) := (blk_cell HXs.out 3).trans rfl
      go_wp2_with fail
      clear s_0 s_1 s_2 s_3
      refine (sweep_Next.calls 61 At ct l (v) s n false 4 _ (Kd.R_reads' HV.out).2.2 (Kd.R_reads' HV.out).2.1 HNX.out).mono ?_
      rintro e_ wy ⟨rfl,hb⟩
      replace HWs := Aside0.mk (Kd.R_below HWs.out hb)
      replace HV := Aside0.mk (Kd.R_below HV.out hb)
      replace HXs := Aside0.mk (blk_below HXs.out hb)
      replace HXt := Aside0.mk (blk_below HXt.out hb)
      replace HB := Aside0.mk (below_step HB.out hb)
      clear hb
      have s_0 : wy.cell? ⟨gs,0,none⟩ = some (.slice At l.length ct) := (blk_cell HXs.out 0).trans rfl
      have s_1 : wy.cell? ⟨gs,1,none⟩ = some (.int .i64 (v)) := (blk_cell HXs.out 1).trans rfl
      have s_2 : wy.cell? ⟨gs,2,none⟩ = some (.int .i64 (s)) := (blk_cell HXs.out 2).trans rfl
      have s_3 : wy.cell? ⟨gs,3,none⟩ = some (.int .i64 (n)) := (blk_cell HXs.out 3).trans rfl
      go_wp2_with fail
      clear s_0 s_1 s_2 s_3
      refine (sweep_Given.calls 61 At ct l v s n l (-1) 0 0 0 _ (Kd.R_reads' HV.out).2.2 (Kd.R_reads' HV.out).2.1 ((given_is HRT.out).1.trans (congrArg some (by unfold givenR; rw [if_pos ⟨HV1.out,by have := HK.out; omega⟩])))).mono ?_
      rintro e_ wt ⟨v0,rfl,hv_,hb⟩
      obtain ⟨A2,c2,hv0,_,_⟩ := Kd.R_reads hv_
      subst hv0
      have HV2 := Aside0.mk (Kd.R_lower hv_ (below_size HB.out))
      replace HWs := Aside0.mk (Kd.R_below HWs.out hb)
      replace HXs := Aside0.mk (blk_below HXs.out hb)
      replace HXt := Aside0.mk (blk_below HXt.out hb)
      replace HB := Aside0.mk (below_step HB.out hb)
      clear hv_ hb HV
      have HV := HV2
      clear HV2
      have z_0 : wt.cell? ⟨gt,0,none⟩ = some (.slice At l.length ct) := (blk_cell HXt.out 0).trans rfl
      have z_1 : wt.cell? ⟨gt,1,none⟩ = some (.int .i64 (v)) := (blk_cell HXt.out 1).trans rfl
      have z_2 : wt.cell? ⟨gt,2,none⟩ = some (.int .i64 (s)) := (blk_cell HXt.out 2).trans rfl
      have z_3 : wt.cell? ⟨gt,3,none⟩ = some (.int .i64 (n)) := (blk_cell HXt.out 3).trans rfl
      have zf_0 := blk_frozen HXt.out 0
      have zf_1 := blk_frozen HXt.out 1
      have zf_2 := blk_frozen HXt.out 2
      have zf_3 := blk_frozen HXt.out 3
      go_upto_region 36 with fail
      clear z_0 z_1 z_2 z_3 zf_0 zf_1 zf_2 zf_3
      obtain ⟨W6,hW⟩ : ∃ W_,W_ = ((((wt.setCell ⟨gt,0,none⟩ (.slice A2 l.length c2)).setCell ⟨gt,1,none⟩ (.int .i64 (-1))).setCell ⟨gt,2,none⟩ (.int .i64 (0))).setCell ⟨gt,3,none⟩ (.int .i64 (0))) := ⟨_,rfl⟩
      rw [← hW]
      have q1 := (blk_set (blk_set (blk_set (blk_set HXt.out 0 (.slice A2 l.length c2)) 1 (.int .i64 (-1))) 2 (.int .i64 (0))) 3 (.int .i64 (0)))
      simp only [zxI,zxs0,zxs1] at q1
      have q2 := (Kd.R_set (Kd.R_set (Kd.R_set (Kd.R_set HV.out HXt.out (by decide) 0 (.slice A2 l.length c2)) (blk_set HXt.out 0 (.slice A2 l.length c2)) (by decide) 1 (.int .i64 (-1))) (blk_set (blk_set HXt.out 0 (.slice A2 l.length c2)) 1 (.int .i64 (-1))) (by decide) 2 (.int .i64 (0))) (blk_set (blk_set (blk_set HXt.out 0 (.slice A2 l.length c2)) 1 (.int .i64 (-1))) 2 (.int .i64 (0))) (by decide) 3 (.int .i64 (0)))
      have q4 := (Kd.R_set (Kd.R_set (Kd.R_set (Kd.R_set HWs.out HXt.out (by decide) 0 (.slice A2 l.length c2)) (blk_set HXt.out 0 (.slice A2 l.length c2)) (by decide) 1 (.int .i64 (-1))) (blk_set (blk_set HXt.out 0 (.slice A2 l.length c2)) 1 (.int .i64 (-1))) (by decide) 2 (.int .i64 (0))) (blk_set (blk_set (blk_set HXt.out 0 (.slice A2 l.length c2)) 1 (.int .i64 (-1))) 2 (.int .i64 (0))) (by decide) 3 (.int .i64 (0)))
      have q3 := (below_set (g := gt) (j := 3) (v := .int .i64 (0)) (below_set (g := gt) (j := 2) (v := .int .i64 (0)) (below_set (g := gt) (j := 1) (v := .int .i64 (-1)) (below_set (g := gt) (j := 0) (v := .slice A2 l.length c2) HB.out HGt.out) HGt.out) HGt.out) HGt.out)
      have q5 := (blk_far (blk_far (blk_far (blk_far HXs.out (p := ⟨gt,0,none⟩) Nst.out (.slice A2 l.length c2)) (p := ⟨gt,1,none⟩) Nst.out (.int .i64 (-1))) (p := ⟨gt,2,none⟩) Nst.out (.int .i64 (0))) (p := ⟨gt,3,none⟩) Nst.out (.int .i64 (0)))
      rw [← hW] at q1 q2 q3 q4 q5
      clear hW
      replace HXt := Aside0.mk q1
      replace HV := Aside0.mk q2
      replace HWs := Aside0.mk q4
      replace HB := Aside0.mk q3
      replace HXs := Aside0.mk q5
      clear q1 q2 q3 q4 q5
      clear HK HV1
      obtain ⟨L2,hL2⟩ : ∃ L2 : Int,L2 = lf l (-1) (0) (0) e := ⟨_,rfl⟩
      have HRT2 := Aside0.mk HI2.out.1.1
      have HLF : Aside0 (sweep_Left.f l (-1) (0) (0) e = some L2) := ⟨(lf_is HRT2.out hE0 hE1).trans (congrArg some hL2.symm)⟩
      have hl0 : 0 ≤ L2 := by rw [hL2]; exact lf_lo HRT2.out hE0
      have HI3 := HI2.out
      rw [← hL2] at HI3
      have hlt : L2 < L := HI3.2
      have HIV2 := Aside0.mk HI3.1
      clear HI3 hL2 HI2 HIV
      have d1 : decide (L ≤ L2) = false := decide_eq_false (by omega)
      have d2 : decide (L2 < 0) = false := decide_eq_false (by omega)
      clear hl0 hlt
      have t_0 : W6.cell? ⟨gt,0,none⟩ = some (.slice A2 l.length c2) := (blk_cell HXt.out 0).trans rfl
      have t_1 : W6.cell? ⟨gt,1,none⟩ = some (.int .i64 (-1)) := (blk_cell HXt.out 1).trans rfl
      have t_2 : W6.cell? ⟨gt,2,none⟩ = some (.int .i64 (0)) := (blk_cell HXt.out 2).trans rfl
      have t_3 : W6.cell? ⟨gt,3,none⟩ = some (.int .i64 (0)) := (blk_cell HXt.out 3).trans rfl
      go_wp2_with fail
      clear t_0 t_1 t_2 t_3
      refine (sweep_Left.calls A2 c2 l (-1) (0) (0) e L2 _ (Kd.R_reads' HV.out).2.2 (Kd.R_reads' HV.out).2.1 HLF.out).mono ?_
      rintro e_ wl ⟨rfl,hb⟩
      replace HWs := Aside0.mk (Kd.R_below HWs.out hb)
      replace HV := Aside0.mk (Kd.R_below HV.out hb)
      replace HXs := Aside0.mk (blk_below HXs.out hb)
      replace HXt := Aside0.mk (blk_below HXt.out hb)
      replace HB := Aside0.mk (below_step HB.out hb)
      clear hb HLF
      have t_0 : wl.cell? ⟨gt,0,none⟩ = some (.slice A2 l.length c2) := (blk_cell HXt.out 0).trans rfl
      have t_1 : wl.cell? ⟨gt,1,none⟩ = some (.int .i64 (-1)) := (blk_cell HXt.out 1).trans rfl
      have t_2 : wl.cell? ⟨gt,2,none⟩ = some (.int .i64 (0)) := (blk_cell HXt.out 2).trans rfl
      have t_3 : wl.cell? ⟨gt,3,none⟩ = some (.int .i64 (0)) := (blk_cell HXt.out 3).trans rfl
      go_wp2_with fail
      clear t_0 t_1 t_2 t_3
      refine (sweep_Right.calls 61 A2 c2 l (-1) (0) (0) true _ (Kd.R_reads' HV.out).2.2 (Kd.R_reads' HV.out).2.1 ((right_is l (-1) (0) (0) (by have := rt_few HRT2.out; omega) 61 (by omega)).trans (congrArg some HRT2.out))).mono ?_
      rintro e_ wq ⟨rfl,hb⟩
      replace HWs := Aside0.mk (Kd.R_below HWs.out hb)
      replace HV := Aside0.mk (Kd.R_below HV.out hb)
      replace HXs := Aside0.mk (blk_below HXs.out hb)
      replace HXt := Aside0.mk (blk_below HXt.out hb)
      replace HB := Aside0.mk (below_step HB.out hb)
      clear hb HRT2
      have t_0 : wq.cell? ⟨gt,0,none⟩ = some (.slice A2 l.length c2) := (blk_cell HXt.out 0).trans rfl
      have t_1 : wq.cell? ⟨gt,1,none⟩ = some (.int .i64 (-1)) := (blk_cell HXt.out 1).trans rfl
      have t_2 : wq.cell? ⟨gt,2,none⟩ = some (.int .i64 (0)) := (blk_cell HXt.out 2).trans rfl
      have t_3 : wq.cell? ⟨gt,3,none⟩ = some (.int .i64 (0)) := (blk_cell HXt.out 3).trans rfl
      have n1_ := Nst.out
      have n2_ := Ne.symm Nst.out
      have z_0 : wq.cell? ⟨gs,0,none⟩ = some (.slice At l.length ct) := (blk_cell HXs.out 0).trans rfl
      have z_1 : wq.cell? ⟨gs,1,none⟩ = some (.int .i64 (v)) := (blk_cell HXs.out 1).trans rfl
      have z_2 : wq.cell? ⟨gs,2,none⟩ = some (.int .i64 (s)) := (blk_cell HXs.out 2).trans rfl
      have z_3 : wq.cell? ⟨gs,3,none⟩ = some (.int .i64 (n)) := (blk_cell HXs.out 3).trans rfl
      have zf_0 := blk_frozen HXs.out 0
      have zf_1 := blk_frozen HXs.out 1
      have zf_2 := blk_frozen HXs.out 2
      have zf_3 := blk_frozen HXs.out 3
      go_upto_region 15 with fail
      clear z_0 z_1 z_2 z_3 zf_0 zf_1 zf_2 zf_3
      clear t_0 t_1 t_2 t_3
      clear n1_ n2_ d1 d2
      obtain ⟨W9,hW⟩ : ∃ W_,W_ = ((((wq.setCell ⟨gs,0,none⟩ (.slice A2 l.length c2)).setCell ⟨gs,1,none⟩ (.int .i64 (-1))).setCell ⟨gs,2,none⟩ (.int .i64 (0))).setCell ⟨gs,3,none⟩ (.int .i64 (0))) := ⟨_,rfl⟩
      rw [← hW]
      have q1 := (blk_set (blk_set (blk_set (blk_set HXs.out 0 (.slice A2 l.length c2)) 1 (.int .i64 (-1))) 2 (.int .i64 (0))) 3 (.int .i64 (0)))
      simp only [zxI,zxs0,zxs1] at q1
      have q2 := (Kd.R_set (Kd.R_set (Kd.R_set (Kd.R_set HV.out HXs.out (by decide) 0 (.slice A2 l.length c2)) (blk_set HXs.out 0 (.slice A2 l.length c2)) (by decide) 1 (.int .i64 (-1))) (blk_set (blk_set HXs.out 0 (.slice A2 l.length c2)) 1 (.int .i64 (-1))) (by decide) 2 (.int .i64 (0))) (blk_set (blk_set (blk_set HXs.out 0 (.slice A2 l.length c2)) 1 (.int .i64 (-1))) 2 (.int .i64 (0))) (by decide) 3 (.int .i64 (0)))
      have q4 := (Kd.R_set (Kd.R_set (Kd.R_set (Kd.R_set HWs.out HXs.out (by decide) 0 (.slice A2 l.length c2)) (blk_set HXs.out 0 (.slice A2 l.length c2)) (by decide) 1 (.int .i64 (-1))) (blk_set (blk_set HXs.out 0 (.slice A2 l.length c2)) 1 (.int .i64 (-1))) (by decide) 2 (.int .i64 (0))) (blk_set (blk_set (blk_set HXs.out 0 (.slice A2 l.length c2)) 1 (.int .i64 (-1))) 2 (.int .i64 (0))) (by decide) 3 (.int .i64 (0)))
      have q3 := (below_set (g := gs) (j := 3) (v := .int .i64 (0)) (below_set (g := gs) (j := 2) (v := .int .i64 (0)) (below_set (g := gs) (j := 1) (v := .int .i64 (-1)) (below_set (g := gs) (j := 0) (v := .slice A2 l.length c2) HB.out HGs.out) HGs.out) HGs.out) HGs.out)
      have q5 := (blk_far (blk_far (blk_far (blk_far HXt.out (p := ⟨gs,0,none⟩) (Ne.symm Nst.out) (.slice A2 l.length c2)) (p := ⟨gs,1,none⟩) (Ne.symm Nst.out) (.int .i64 (-1))) (p := ⟨gs,2,none⟩) (Ne.symm Nst.out) (.int .i64 (0))) (p := ⟨gs,3,none⟩) (Ne.symm Nst.out) (.int .i64 (0)))
      rw [← hW] at q1 q2 q3 q4 q5
      clear hW
      replace HXs := Aside0.mk q1
      replace HV := Aside0.mk q2
      replace HWs := Aside0.mk q4
      replace HB := Aside0.mk q3
      replace HXt := Aside0.mk q5
      clear q1 q2 q3 q4 q5
      have hx64 : x + 1 ≤ 9223372036854775807 := by omega
      go_wp2_with fail
      go_roundw
      case rel => exact ⟨x + 1,L2,taken,l,-1,0,0,bw,A2,c2,rfl,rfl,rfl,HIV2,HXs,HV,HWs,HB⟩
      case measure => simp [intOf]; omega
end Go.Proofs.Ytbcmjbjhjnojjaa.H
