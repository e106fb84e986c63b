/-
TopTorn: part of its walk (Ad, Fm, An, Do).
-/
import Derived.Test.YtokfjbbjkiilmaaGreatDoorTS
set_option linter.unusedVariables false
set_option linter.unusedSimpArgs false
namespace Go.Proofs.YtokfjbbjkiilmaaGreatDoor.H
open Go.RowKit Go.Proofs.YtokfjbbjkiilmaaGreatDoorW.PrintWords Go.Proofs.YtokfjbbjkiilmaaGreatDoorW.PrintLast Go.Proofs.YtokfjbbjkiilmaaGreatDoorW.PrintMore
set_option maxHeartbeats 8000000
set_option maxRecDepth 100000
attribute [local go_sem] max2_int min2_int min_two max_two
def adm.T4 : Bool × List (List Nat × List Nat) := (true,[([],[]),([0],[0]),([1],[1]),([2],[2]),([],[]),([4],[4]),([3,5],[3,5]),([6],[6]),([7],[7]),([7],[7]),([],[]),([10,8,6,0,1,2,3,4,5,6,7,8,10],[8,10]),([9,11,0,1,2,3,4,5,6,7,8,9,10,11],[9])])
def adm.B4 : List Nat := [0,1,3,7,0,16,63,127,255,255,0,1535,4095]
theorem adm.tab4 : rtab .any (opsOf Tryz.f28 4) = adm.T4 := by kernel_rfl
theorem adm.bits4 : waitsOk adm.T4.2 adm.B4 = true := by kernel_rfl
def adm.T8 : Bool × List (List Nat × List Nat) := (true,[([],[]),([0],[0]),([1],[1]),([2,1],[1,2]),([3,1],[1,3]),([4,1],[1,4]),([5,1],[1,5]),([6,1],[1,6]),([7,1],[1,7]),([8,1,1],[1,8]),([1],[1]),([10,1],[1,10]),([11,1],[1,11]),([12,1],[1,12]),([13,9,1],[1,13]),([9,14,1],[1,9,14]),([1,15],[1,15]),([16,14],[16])])
def adm.B8 : List Nat := [0,1,3,7,15,31,63,127,255,511,3,1027,3075,7171,16383,32767,65535,131071]
theorem adm.tab8 : rtab .any (opsOf Tryz.f28 8) = adm.T8 := by kernel_rfl
theorem adm.bits8 : waitsOk adm.T8.2 adm.B8 = true := by kernel_rfl
theorem admit_calls (k cl co ix d l wh : Nat) (ver kd a3 r : Int) (v a1 a2 : ByteArray) (x : Nat) (b ch : Bool) (w : World) (hk : w.heap[k]? = some (.cells (dsc co cl) 76 (0,0))) (hc : w.heap[co]? = some (.cells (coc ix d l wh ver) 132 (0,0))) (hval : ∀ W : World,Below w.heap.size w W → Calls Tryz.prog 58 #[.agg #[.int .i64 kd,.string idA,.string v,.float .f64 x]] W fun e w' => e = .returned (.int .i64 0) ∧ Below W.heap.size W w') (hses : ∀ W : World,Below w.heap.size w W → Calls Tryz.prog 59 #[.pointer (some ⟨co,0,none⟩),.string idA] W fun e w' => e = .returned (.tuple #[.agg #[.string a1,.string a2,.int .u64 a3],.bool b]) ∧ Below W.heap.size W w') (hch : ∀ W : World,Below w.heap.size w W → Calls Tryz.prog 31 #[.agg #[.int .i64 kd,.string idA,.string v,.float .f64 x]] W fun e w' => e = .returned (.bool ch) ∧ Below W.heap.size W w') (hlv : kd = 0 → ∀ W : World,Below w.heap.size w W → Calls Tryz.prog 60 #[.pointer (some ⟨ix,0,none⟩)] W fun e w' => e = .returned (.int .i64 0) ∧ Below W.heap.size W w') (hroom : ch = true → ∀ W : World,Below w.heap.size w W → Calls Tryz.prog 62 #[.pointer (some ⟨co,0,none⟩)] W fun e w' => e = .returned (.int .i64 r) ∧ Below W.heap.size W w') (hneed : ch = true → ∀ W : World,Below w.heap.size w W → Calls Tryz.prog 63 #[.pointer (some ⟨k,0,none⟩)] W fun e w' => e = .returned (.int .i64 2) ∧ Below W.heap.size W w') (hr : 2 < r) (hkd : (kd = 0 ∧ b = false ∧ ch = true) ∨ (kd = 3 ∧ b = true ∧ ch = true) ∨ (kd = 1 ∧ b = true ∧ ch = false)) :
 Calls Tryz.prog 28 #[.pointer (some ⟨k,0,none⟩),.agg #[.int .i64 kd,.string idA,.string v,.float .f64 x]] w fun e w' => e = .returned .nilIface ∧ Below w.heap.size w w' := by
 have HK := Aside0.mk hk
 have HC := Aside0.mk hc
 have HVAL := Aside0.mk hval
 have HSES := Aside0.mk hses
 have HCH := Aside0.mk hch
 have HLV := Aside0.mk hlv
 have HROOM := Aside0.mk hroom
 have HNEED := Aside0.mk hneed
 have HKD := Aside0.mk hkd
 have tr : decide (r ≤ 2) = false := decide_eq_false (by omega)
 clear hk hc hval hses hch hlv hroom hneed hkd hr
 go_enter Tryz.func28,Tryz.ntmps28
 go_upto_region 1 with fail
 obtain ⟨W1,g3,hW_,hg3,H3,hb_⟩ := new1 w #[.int .i64 kd,.string idA,.string v,.float .f64 x] 43
 rw [← hW_,← hg3.out]
 replace HK := mb HK hb_
 replace HC := mb HC hb_
 have HB := Aside0.mk hb_
 clear hW_ hb_
 go_wp2_with (refine lr_ 3 H3.out Tryz.underlying43 ?_)
 refine (HVAL.out _ HB.out).mono ?_
 rintro e_ W2 ⟨rfl,hb⟩
 replace H3 := mb H3 hb
 replace HK := mb HK hb
 replace HC := mb HC hb
 replace HB := mS HB hb
 clear hb
 go_upto_region 4 with fail
 refine st_ 13 (fun w' => w'.cell? ⟨k,0,none⟩ = some (.pointer (some ⟨co,0,none⟩)) ∧ w'.cell? ⟨g3,1,none⟩ = some (.string idA)) [11] ⟨(cD HK 0 rfl),(cD H3 1 rfl)⟩ fun hHeld => ?_
 refine with_tabW adm.tab4 adm.bits4 (fun HT_ HW_ => ?_)
 replace HK := mD HK
 replace HC := mD HC
 replace H3 := mD H3
 replace HB := bD HB
 generalize W2.drew = wd1 at *
 refine pa_ 0 19 HT_ ?_
 refine pa_ 1 20 HT_ ?_
 refine pa_ 2 21 HT_ ?_
 refine pa_ 4 23 HT_ ?_
 refine ta_ 3 22 HT_ HW_ hHeld ?_
 refine ta_ 5 24 HT_ HW_ hHeld ?_
 refine jn_ (σ := Nat) 2 [11,2] (fun s_ => [(25,.tuple #[.agg #[.string a1,.string a2,.int .u64 a3],.bool b]),(6,.pointer (some ⟨s_,0,none⟩)),(18,.tuple #[.agg #[.string a1,.string a2,.int .u64 a3],.bool b]),(26,.agg #[.string a1,.string a2,.int .u64 a3]),(27,.bool b)]) (fun s_ w' => w'.heap[k]? = some (.cells (dsc co cl) 76 (0,0)) ∧ w'.heap[co]? = some (.cells (coc ix d l wh ver) 132 (0,0)) ∧ w'.heap[g3]? = some (.cells #[.int .i64 kd,.string idA,.string v,.float .f64 x] 43 (0,0)) ∧ w'.heap[s_]? = some (.cells #[.string { data := #[] },.string { data := #[] },.int .u64 0] 124 (0,0)) ∧ w.heap.size ≤ s_ ∧ s_ ≠ k ∧ s_ ≠ co ∧ s_ ≠ g3 ∧ Below w.heap.size w w') ?_ ?_
 rotate_left
 ·intro hJ6_10
  refine jn_ (σ := Unit) 3 [10,3] (fun s_ => [(25,.tuple #[.agg #[.string a1,.string a2,.int .u64 a3],.bool b]),(18,.tuple #[.agg #[.string a1,.string a2,.int .u64 a3],.bool b]),(26,.agg #[.string a1,.string a2,.int .u64 a3]),(27,.bool b)]) (fun s_ w' => w'.heap[k]? = some (.cells (dsc co cl) 76 (0,0)) ∧ w'.heap[co]? = some (.cells (coc ix d l wh ver) 132 (0,0)) ∧ w'.heap[g3]? = some (.cells #[.int .i64 kd,.string idA,.string v,.float .f64 x] 43 (0,0)) ∧ Below w.heap.size w w') ?_ ?_
  rotate_left
  ·intro hJ6
   refine jn_ (σ := Nat) 6 [6,4,1,2] (fun s_ => [(6,.pointer (some ⟨s_,0,none⟩))]) (fun s_ w' => w'.heap[k]? = some (.cells (dsc co cl) 76 (0,0)) ∧ w'.heap[co]? = some (.cells (coc ix d l wh ver) 132 (0,0)) ∧ w'.heap[g3]? = some (.cells #[.int .i64 kd,.string idA,.string v,.float .f64 x] 43 (0,0)) ∧ w'.heap[s_]? = some (.cells #[.string { data := #[] },.string { data := #[] },.int .u64 0] 124 (0,0)) ∧ w.heap.size ≤ s_ ∧ s_ ≠ k ∧ s_ ≠ co ∧ s_ ≠ g3 ∧ Below w.heap.size w w') ?_ ?_
   rotate_left
   ·intro hJ10
    refine tw_ 6 10 HT_ (fun K hK => ?_) fun K hK => ?_
    ·skip
     refine gc_ Tryz.func59 #[.pointer (some ⟨co,0,none⟩),.string idA] ?_
     with_reducible refine (HSES.out _ HB.out).mono ?_
     rintro e_ wk ⟨rfl,hb⟩
     refine ⟨_,rfl,?_⟩
     replace HK := mb HK hb
     replace HC := mb HC hb
     replace H3 := mb H3 hb
     replace HB := mS HB hb
     clear hb
     refine hK.out _ _ ⟨(cL HK 0 rfl),(cL H3 1 rfl)⟩ (fun hHeld => ?_)
     clear hK K
     refine no_ 25 ?_
     refine pa_ 7 18 HT_ ?_
     refine pa_ 8 26 HT_ ?_
     refine pa_ 9 27 HT_ ?_
     exact nx_ (hJ6 () _ ⟨HK.out,HC.out,H3.out,HB.out⟩)
    ·skip
     refine va_ ?_
     obtain ⟨wk,hW⟩ : ∃ W_,W_ = wd1.alloc (.cells #[.string { data := #[] },.string { data := #[] },.int .u64 0] 124) := ⟨_,rfl⟩
     obtain ⟨b6,hh⟩ : ∃ g_,g_ = wd1.heap.size := ⟨_,rfl⟩
     rw [← hW,← hh]
     have HGb6 : Aside0 (w.heap.size ≤ b6) := ⟨by rw [hh]; exact HB.out.size⟩
     have HAb6_k : Aside0 (b6 ≠ k) := ⟨by rw [hh]; exact (Nat.ne_of_lt (blk_lt HK.out)).symm⟩
     have HAb6_co : Aside0 (b6 ≠ co) := ⟨by rw [hh]; exact (Nat.ne_of_lt (blk_lt HC.out)).symm⟩
     have HAb6_g3 : Aside0 (b6 ≠ g3) := ⟨by rw [hh]; exact (Nat.ne_of_lt (blk_lt H3.out)).symm⟩
     have hb_ : Below wd1.heap.size wd1 wk := by rw [hW]; exact below_alloc (Below.refl _ _) _
     replace HK := mb HK hb_
     replace HC := mb HC hb_
     replace H3 := mb H3 hb_
     replace HB := mS HB hb_
     have HRb6 : Aside0 (wk.heap[b6]? = some (.cells #[.string { data := #[] },.string { data := #[] },.int .u64 0] 124 (0,0))) := ⟨by rw [hW,hh]; exact blk_new _ _⟩
     clear hW hh hb_
     refine hK.out _ _ ⟨(cL HK 0 rfl),(cL H3 1 rfl)⟩ (fun hHeld => ?_)
     clear hK K
     refine no_ 6 ?_
     exact nx_ (hJ10 b6 _ ⟨HK.out,HC.out,H3.out,HRb6.out,HGb6.out,HAb6_k.out,HAb6_co.out,HAb6_g3.out,HB.out⟩)
   ·skip
    rintro b6 wj ⟨h_0,h_1,h_2,h_3,h_4,h_5,h_6,h_7,h_8⟩
    try dsimp only at h_0 h_1 h_2 h_3 h_4 h_5 h_6 h_7 h_8
    clear HK HC H3 HB
    have HK := Aside0.mk h_0
    have HC := Aside0.mk h_1
    have H3 := Aside0.mk h_2
    have HRb6 := Aside0.mk h_3
    have HGb6 := Aside0.mk h_4
    have HAb6_k := Aside0.mk h_5
    have HAb6_co := Aside0.mk h_6
    have HAb6_g3 := Aside0.mk h_7
    have HB := Aside0.mk h_8
    clear h_0 h_1 h_2 h_3 h_4 h_5 h_6 h_7 h_8
    refine hd_ ⟨(cL HK 0 rfl),(cL H3 1 rfl)⟩ fun hHeld => ?_
    refine na_ ?_
    refine on_ 6 HT_ fun K hK => ?_
    refine gc_ Tryz.func59 #[.pointer (some ⟨co,0,none⟩),.string idA] ?_
    with_reducible refine (HSES.out _ HB.out).mono ?_
    rintro e_ wk ⟨rfl,hb⟩
    refine ⟨_,rfl,?_⟩
    replace HK := mb HK hb
    replace HC := mb HC hb
    replace H3 := mb H3 hb
    replace HRb6 := mb HRb6 hb
    replace HB := mS HB hb
    clear hb
    refine hK.out _ _ ⟨(cL HK 0 rfl),(cL H3 1 rfl)⟩ (fun hHeld => ?_)
    clear hK K
    refine no_ 25 ?_
    refine pa_ 7 18 HT_ ?_
    refine pa_ 8 26 HT_ ?_
    refine pa_ 9 27 HT_ ?_
    exact nx_ (hJ6_10 b6 _ ⟨HK.out,HC.out,H3.out,HRb6.out,HGb6.out,HAb6_k.out,HAb6_co.out,HAb6_g3.out,HB.out⟩)
  ·skip
   rintro ⟨⟩ wj ⟨h_0,h_1,h_2,h_3⟩
   try dsimp only at h_0 h_1 h_2 h_3
   clear HK HC H3 HB
   have HK := Aside0.mk h_0
   have HC := Aside0.mk h_1
   have H3 := Aside0.mk h_2
   have HB := Aside0.mk h_3
   clear h_0 h_1 h_2 h_3
   refine hd_ ⟨(cL HK 0 rfl),(cL H3 1 rfl)⟩ fun hHeld => ?_
   refine na_ ?_
   refine on_ 10 HT_ fun K hK => ?_
   refine va_ ?_
   obtain ⟨wk,hW⟩ : ∃ W_,W_ = wj.alloc (.cells #[.string { data := #[] },.string { data := #[] },.int .u64 0] 124) := ⟨_,rfl⟩
   obtain ⟨b6,hh⟩ : ∃ g_,g_ = wj.heap.size := ⟨_,rfl⟩
   rw [← hW,← hh]
   have HGb6 : Aside0 (w.heap.size ≤ b6) := ⟨by rw [hh]; exact HB.out.size⟩
   have HAb6_k : Aside0 (b6 ≠ k) := ⟨by rw [hh]; exact (Nat.ne_of_lt (blk_lt HK.out)).symm⟩
   have HAb6_co : Aside0 (b6 ≠ co) := ⟨by rw [hh]; exact (Nat.ne_of_lt (blk_lt HC.out)).symm⟩
   have HAb6_g3 : Aside0 (b6 ≠ g3) := ⟨by rw [hh]; exact (Nat.ne_of_lt (blk_lt H3.out)).symm⟩
   have hb_ : Below wj.heap.size wj wk := by rw [hW]; exact below_alloc (Below.refl _ _) _
   replace HK := mb HK hb_
   replace HC := mb HC hb_
   replace H3 := mb H3 hb_
   replace HB := mS HB hb_
   have HRb6 : Aside0 (wk.heap[b6]? = some (.cells #[.string { data := #[] },.string { data := #[] },.int .u64 0] 124 (0,0))) := ⟨by rw [hW,hh]; exact blk_new _ _⟩
   clear hW hh hb_
   refine hK.out _ _ ⟨(cL HK 0 rfl),(cL H3 1 rfl)⟩ (fun hHeld => ?_)
   clear hK K
   refine no_ 6 ?_
   exact nx_ (hJ6_10 b6 _ ⟨HK.out,HC.out,H3.out,HRb6.out,HGb6.out,HAb6_k.out,HAb6_co.out,HAb6_g3.out,HB.out⟩)
 rintro b6 wj ⟨h_0,h_1,h_2,h_3,h_4,h_5,h_6,h_7,h_8⟩
 try dsimp only at h_0 h_1 h_2 h_3 h_4 h_5 h_6 h_7 h_8
 clear HK HC H3 HB
 have HK := Aside0.mk h_0
 have HC := Aside0.mk h_1
 have H3 := Aside0.mk h_2
 have HRb6 := Aside0.mk h_3
 have HGb6 := Aside0.mk h_4
 have HAb6_k := Aside0.mk h_5
 have HAb6_co := Aside0.mk h_6
 have HAb6_g3 := Aside0.mk h_7
 have HB := Aside0.mk h_8
 clear h_0 h_1 h_2 h_3 h_4 h_5 h_6 h_7 h_8
 refine hd_ ⟨(cL HK 0 rfl),(cL H3 1 rfl)⟩ fun hHeld => ?_
 refine na_ ?_
 refine la_ 11 HT_ fun K hK => ?_
 refine sR_ 6 26 #[.string a1,.string a2,.int .u64 a3] HRb6.out ?_
 refine hK.out _ _ ?_
 clear hK K
 refine pa_ 12 7 HT_ ?_
 refine dn_ HT_ ?_
 clear HT_ HW_ hHeld
 obtain ⟨W3,hW⟩ : ∃ W_,W_ = wj.setRow b6 #[.string a1,.string a2,.int .u64 a3] := ⟨_,rfl⟩
 rw [← hW]
 have q_ := mR #[.string a1,.string a2,.int .u64 a3] HK.out HAb6_k.out.symm
 rw [← hW] at q_
 replace HK := Aside0.mk q_
 clear q_
 have q_ := mR #[.string a1,.string a2,.int .u64 a3] HC.out HAb6_co.out.symm
 rw [← hW] at q_
 replace HC := Aside0.mk q_
 clear q_
 have q_ := mR #[.string a1,.string a2,.int .u64 a3] H3.out HAb6_g3.out.symm
 rw [← hW] at q_
 replace H3 := Aside0.mk q_
 clear q_
 have q_ := below_setRow HB.out HGb6.out #[.string a1,.string a2,.int .u64 a3]
 rw [← hW] at q_
 replace HB := Aside0.mk q_
 clear q_
 clear hW
 rcases HKD.out with ⟨rfl,rfl,rfl⟩ | ⟨rfl,rfl,rfl⟩ | ⟨rfl,rfl,rfl⟩
 ·have z0 : W3.cell? ⟨g3,0,none⟩ = some (.int .i64 0) := cL H3 0 rfl
  go_upto_region 8 with fail
  clear z0
  refine st_ 18 (fun w' => w'.cell? ⟨k,0,none⟩ = some (.pointer (some ⟨co,0,none⟩)) ∧ w'.cell? ⟨k,1,none⟩ = some (.int .i64 4) ∧ w'.cell? ⟨k,2,none⟩ = some (.int .i64 2) ∧ w'.cell? ⟨k,3,none⟩ = some (.float .f64 4607182418800017408) ∧ w'.cell? ⟨k,4,none⟩ = some (.int .i64 0) ∧ w'.cell? ⟨co,0,none⟩ = some (.pointer (some ⟨ix,0,none⟩))) [] ⟨(cD HK 0 rfl),(cD HK 1 rfl),(cD HK 2 rfl),(cD HK 3 rfl),(cD HK 4 rfl),(cD HC 0 rfl)⟩ fun hHeld => ?_
  refine with_tabW adm.tab8 adm.bits8 (fun HT_ HW_ => ?_)
  replace HK := mD HK
  replace HC := mD HC
  replace H3 := mD H3
  replace HB := bD HB
  generalize W3.drew = wd2 at *
  refine pa_ 0 41 HT_ ?_
  refine pa_ 1 42 HT_ ?_
  refine pa_ 2 43 HT_ ?_
  refine pa_ 3 44 HT_ ?_
  refine pa_ 4 45 HT_ ?_
  refine pa_ 10 51 HT_ ?_
  refine pa_ 11 52 HT_ ?_
  refine pa_ 12 53 HT_ ?_
  refine ta_ 5 46 HT_ HW_ hHeld ?_
  refine pa_ 6 47 HT_ ?_
  refine pa_ 7 48 HT_ ?_
  refine ta_ 8 49 HT_ HW_ hHeld ?_
  refine ta_ 13 54 HT_ HW_ hHeld ?_
  refine on_ 9 HT_ fun K hK => ?_
  refine gc_ Tryz.func60 #[.pointer (some ⟨ix,0,none⟩)] ?_
  with_reducible refine (HLV.out (by trivial) _ HB.out).mono ?_
  rintro e_ wa ⟨rfl,hb⟩
  refine ⟨_,rfl,?_⟩
  replace HK := mb HK hb
  replace HC := mb HC hb
  replace H3 := mb H3 hb
  replace HB := mS HB hb
  clear hb
  refine hK.out _ _ ⟨(cL HK 0 rfl),(cL HK 1 rfl),(cL HK 2 rfl),(cL HK 3 rfl),(cL HK 4 rfl),(cL HC 0 rfl)⟩ (fun hHeld => ?_)
  clear hK K
  refine no_ 50 ?_
  refine on_ 14 HT_ fun K hK => ?_
  refine gc_ Tryz.func61 #[.agg cnf] ?_
  with_reducible refine (quota_calls _).mono ?_
  rintro e_ wb ⟨rfl,hb⟩
  refine ⟨_,rfl,?_⟩
  replace HK := mb HK hb
  replace HC := mb HC hb
  replace H3 := mb H3 hb
  replace HB := mS HB hb
  clear hb
  refine hK.out _ _ ⟨(cL HK 0 rfl),(cL HK 1 rfl),(cL HK 2 rfl),(cL HK 3 rfl),(cL HK 4 rfl),(cL HC 0 rfl)⟩ (fun hHeld => ?_)
  clear hK K
  refine no_ 55 ?_
  refine pa_ 15 56 HT_ ?_
  refine pa_ 16 57 HT_ ?_
  refine pa_ 17 40 HT_ ?_
  refine dn_ HT_ ?_
  clear HT_ HW_ hHeld
  go_wp2_with (refine lr_ 3 H3.out Tryz.underlying43 ?_)
  refine (HCH.out _ HB.out).mono ?_
  rintro e_ Wq ⟨rfl,hb⟩
  replace HK := mb HK hb
  replace HC := mb HC hb
  replace H3 := mb H3 hb
  replace HB := mS HB hb
  clear hb
  have y0 : Wq.cell? ⟨k,0,none⟩ = some (.pointer (some ⟨co,0,none⟩)) := cL HK 0 rfl
  go_wp2_with fail
  refine (HROOM.out (by trivial) _ HB.out).mono ?_
  rintro e_ Wr ⟨rfl,hb⟩
  clear y0
  replace HK := mb HK hb
  replace HC := mb HC hb
  replace H3 := mb H3 hb
  replace HB := mS HB hb
  clear hb
  go_wp2_with fail
  refine (HNEED.out (by trivial) _ HB.out).mono ?_
  rintro e_ Ws ⟨rfl,hb⟩
  replace HK := mb HK hb
  replace HC := mb HC hb
  replace H3 := mb H3 hb
  replace HB := mS HB hb
  clear hb
  go_wp2_with fail
  go_ret
  exact ⟨rfl,HB.out⟩
 ·have z0 : W3.cell? ⟨g3,0,none⟩ = some (.int .i64 3) := cL H3 0 rfl
  go_upto_region 8 with fail
  clear z0
  refine st_ 18 (fun w' => True) [] trivial fun hHeld => ?_
  refine with_tabW adm.tab8 adm.bits8 (fun HT_ HW_ => ?_)
  replace HK := mD HK
  replace HC := mD HC
  replace H3 := mD H3
  replace HB := bD HB
  generalize W3.drew = wd2 at *
  refine pa_ 0 41 HT_ ?_
  refine pa_ 1 42 HT_ ?_
  refine po_ 2 43 HT_ ?_
  refine po_ 3 44 HT_ ?_
  refine po_ 4 45 HT_ ?_
  refine po_ 5 46 HT_ ?_
  refine po_ 6 47 HT_ ?_
  refine po_ 7 48 HT_ ?_
  refine po_ 8 49 HT_ ?_
  refine po_ 9 50 HT_ ?_
  refine po_ 10 51 HT_ ?_
  refine po_ 11 52 HT_ ?_
  refine po_ 12 53 HT_ ?_
  refine po_ 13 54 HT_ ?_
  refine po_ 14 55 HT_ ?_
  refine po_ 15 56 HT_ ?_
  refine pa_ 16 57 HT_ ?_
  refine pa_ 17 40 HT_ ?_
  refine dn_ HT_ ?_
  clear HT_ HW_ hHeld
  go_wp2_with (refine lr_ 3 H3.out Tryz.underlying43 ?_)
  refine (HCH.out _ HB.out).mono ?_
  rintro e_ Wq ⟨rfl,hb⟩
  replace HK := mb HK hb
  replace HC := mb HC hb
  replace H3 := mb H3 hb
  replace HB := mS HB hb
  clear hb
  have y0 : Wq.cell? ⟨k,0,none⟩ = some (.pointer (some ⟨co,0,none⟩)) := cL HK 0 rfl
  go_wp2_with fail
  refine (HROOM.out (by trivial) _ HB.out).mono ?_
  rintro e_ Wr ⟨rfl,hb⟩
  clear y0
  replace HK := mb HK hb
  replace HC := mb HC hb
  replace H3 := mb H3 hb
  replace HB := mS HB hb
  clear hb
  go_wp2_with fail
  refine (HNEED.out (by trivial) _ HB.out).mono ?_
  rintro e_ Ws ⟨rfl,hb⟩
  replace HK := mb HK hb
  replace HC := mb HC hb
  replace H3 := mb H3 hb
  replace HB := mS HB hb
  clear hb
  go_wp2_with fail
  go_ret
  exact ⟨rfl,HB.out⟩
 ·have z0 : W3.cell? ⟨g3,0,none⟩ = some (.int .i64 1) := cL H3 0 rfl
  go_upto_region 8 with fail
  clear z0
  refine st_ 18 (fun w' => True) [] trivial fun hHeld => ?_
  refine with_tabW adm.tab8 adm.bits8 (fun HT_ HW_ => ?_)
  replace HK := mD HK
  replace HC := mD HC
  replace H3 := mD H3
  replace HB := bD HB
  generalize W3.drew = wd2 at *
  refine pa_ 0 41 HT_ ?_
  refine pa_ 1 42 HT_ ?_
  refine po_ 2 43 HT_ ?_
  refine po_ 3 44 HT_ ?_
  refine po_ 4 45 HT_ ?_
  refine po_ 5 46 HT_ ?_
  refine po_ 6 47 HT_ ?_
  refine po_ 7 48 HT_ ?_
  refine po_ 8 49 HT_ ?_
  refine po_ 9 50 HT_ ?_
  refine po_ 10 51 HT_ ?_
  refine po_ 11 52 HT_ ?_
  refine po_ 12 53 HT_ ?_
  refine po_ 13 54 HT_ ?_
  refine po_ 14 55 HT_ ?_
  refine po_ 15 56 HT_ ?_
  refine pa_ 16 57 HT_ ?_
  refine pa_ 17 40 HT_ ?_
  refine dn_ HT_ ?_
  clear HT_ HW_ hHeld
  go_wp2_with (refine lr_ 3 H3.out Tryz.underlying43 ?_)
  refine (HCH.out _ HB.out).mono ?_
  rintro e_ Wq ⟨rfl,hb⟩
  replace HK := mb HK hb
  replace HC := mb HC hb
  replace H3 := mb H3 hb
  replace HB := mS HB hb
  clear hb
  go_wp2_with fail
  go_ret
  exact ⟨rfl,HB.out⟩
end Go.Proofs.YtokfjbbjkiilmaaGreatDoor.H
namespace Go.Proofs.YtokfjbbjkiilmaaGreatDoor.H
open Go.RowKit Go.Proofs.YtokfjbbjkiilmaaGreatDoorW.PrintWords Go.Proofs.YtokfjbbjkiilmaaGreatDoorW.PrintLast Go.Proofs.YtokfjbbjkiilmaaGreatDoorW.PrintMore
def TT : List TypeId := [24,39,43,48,59,63,76,98,117,124]
/-- Rows of the types TT stay. -/
structure Frm (w w' : World) : Prop where
 size : w.heap.size ≤ w'.heap.size
 row : ∀ (g t : Nat) (cs : Array Value),t ∈ TT → w.heap[g]? = some (.cells cs t (0,0)) → w'.heap[g]? = some (.cells cs t (0,0))
theorem Frm.refl (w : World) : Frm w w := ⟨Nat.le_refl _,fun _ _ _ _ h => h⟩
theorem Frm.trans {a b c : World} (h : Frm a b) (k : Frm b c) : Frm a c := ⟨Nat.le_trans h.size k.size,fun g t cs ht hr => k.row g t cs ht (h.row g t cs ht hr)⟩
theorem Frm.below {w w' : World} (h : Below w.heap.size w w') : Frm w w' := ⟨h.size,fun _ _ _ _ hr => blk_below hr h⟩
theorem Frm.keep {w w' : World} {L : List Nat} (k : Keep L w w') (h : ∀ q ∈ L,(∃ es c,w.heap[q]? = some (.map es c)) ∨ ∃ cs t,t ∉ TT ∧ w.heap[q]? = some (.cells cs t (0,0))) : Frm w w' :=
 ⟨k.size,fun g t cs ht hr => blk_keep hr k (fun hm => by
  rcases h g hm with ⟨_,_,h2⟩ | ⟨_,t2,h3,h2⟩
  ·rw [hr] at h2; cases h2
  ·rw [hr] at h2; cases h2; exact h3 ht)⟩
theorem Frm.new {w0 w : World} {g : Nat} (cs : Array Value) (h : Frm w0 w) (hg : w0.heap.size ≤ g) : Frm w0 (w.setRow g cs) :=
 ⟨by rw [setRow_size]; exact h.size,fun a t c ht hr => mR cs (h.row a t c ht hr) (by have := blk_lt hr; omega)⟩
/-- A predicate of a store that asks nothing of rows of the types TT, from a block on. -/
structure Stab (B : Nat) (P : World → Prop) : Prop where
 below : ∀ W W' : World,P W → Below W.heap.size W W' → P W'
 row : ∀ (W W' : World) (g t : Nat) (cs : Array Value),P W → B ≤ g → t ∈ TT → W.heap[g]? = some (.cells cs t (0,0)) → Keep [g] W W' → P W'
theorem Stab.set {B : Nat} {P : World → Prop} (h : Stab B P) {W : World} {g t : Nat} {cs : Array Value} (hP : P W) (hg : B ≤ g) (ht : t ∈ TT) (hr : W.heap[g]? = some (.cells cs t (0,0))) (row : Array Value) : P (W.setRow g row) :=
 h.row W _ g t cs hP hg ht hr ((Keep.refl [g] W).setRow (g := g) row (.inl (by simp)))
end Go.Proofs.YtokfjbbjkiilmaaGreatDoor.H
namespace Go.Proofs.YtokfjbbjkiilmaaGreatDoor.H
open Go.RowKit Go.Proofs.YtokfjbbjkiilmaaGreatDoorW.PrintWords Go.Proofs.YtokfjbbjkiilmaaGreatDoorW.PrintLast Go.Proofs.YtokfjbbjkiilmaaGreatDoorW.PrintMore
set_option maxHeartbeats 8000000
set_option maxRecDepth 100000
attribute [local go_sem] max2_int min2_int min_two max_two
def answer.T1 : Bool × List (List Nat × List Nat) := (true,[([],[]),([0],[0]),([1],[1]),([2],[2]),([],[]),([4],[4]),([3,5],[3,5]),([6],[6]),([7],[7]),([7],[7]),([],[]),([10,8,6,0,1,2,3,4,5,6,7,8,10],[8,10]),([9,11,0,1,2,3,4,5,6,7,8,9,10,11],[9])])
def answer.B1 : List Nat := [0,1,3,7,0,16,63,127,255,255,0,1535,4095]
theorem answer.tab1 : rtab .any (opsOf Tryz.f30 1) = answer.T1 := by kernel_rfl
theorem answer.bits1 : waitsOk answer.T1.2 answer.B1 = true := by kernel_rfl
def answer.T10 : Bool × List (List Nat × List Nat) := (true,[([],[]),([0],[0]),([1],[1]),([2],[2]),([],[]),([4],[4]),([],[]),([6],[6]),([],[]),([3,5,7,8],[3,5,7,8]),([],[]),([9,10],[9,10]),([11,9,0,1,2,3,4,5,6,7,8,9,10,11],[11])])
def answer.B10 : List Nat := [0,1,3,7,0,16,0,64,0,511,0,2047,4095]
theorem answer.tab10 : rtab .any (opsOf Tryz.f30 10) = answer.T10 := by kernel_rfl
theorem answer.bits10 : waitsOk answer.T10.2 answer.B10 = true := by kernel_rfl
def answer.T14 : Bool × List (List Nat × List Nat) := (true,[([],[]),([0],[0]),([1],[1]),([2],[2]),([],[]),([4],[4]),([],[]),([6],[6]),([],[]),([8],[8]),([3,5,7,9],[3,5,7,9]),([10],[10]),([11,10,0,1,2,3,4,5,6,7,8,9,10,11],[11])])
def answer.B14 : List Nat := [0,1,3,7,0,16,0,64,0,256,1023,2047,4095]
theorem answer.tab14 : rtab .any (opsOf Tryz.f30 14) = answer.T14 := by kernel_rfl
theorem answer.bits14 : waitsOk answer.T14.2 answer.B14 = true := by kernel_rfl
theorem answer_calls (B : Nat) (P : World → Prop) (k cl co ix d l wh : Nat) (ver kd a3 n te dx rd : Int) (v a1 a2 rs : ByteArray) (x : Nat) (b : Bool) (w : World) (hst : Stab B P) (hBB : B ≤ w.heap.size) (hk : w.heap[k]? = some (.cells (dsc co cl) 76 (0,0))) (hc : w.heap[co]? = some (.cells (coc ix d l wh ver) 132 (0,0))) (hw : w.cell? ⟨wh,0,none⟩ = some (.int .u64 0)) (hses : ∀ W : World,Below w.heap.size w W → Calls Tryz.prog 59 #[.pointer (some ⟨co,0,none⟩),.string idA] W fun e w' => e = .returned (.tuple #[.agg #[.string a1,.string a2,.int .u64 a3],.bool b]) ∧ Below W.heap.size W w') (htk : ∀ W : World,Calls Tryz.prog 65 #[.float .f64 x] W fun e w' => e = .returned (.tuple #[.int .u64 n,.int .i64 te]) ∧ w' = W) (hn : 0 ≤ n ∧ n < 18446744073709551616) (hlive : kd ≠ 1 → ∀ W : World,Below w.heap.size w W → Calls Tryz.prog 68 #[.pointer (some ⟨co,0,none⟩),.string idA,.string v,.int .u64 dx] W fun e w' => e = .returned (.int .i64 0) ∧ P w' ∧ Frm W w') (hget : kd = 1 → ∀ W : World,Below w.heap.size w W → P W) (hkd : (kd = 0 ∧ dx = n ∧ rs = { data := #[] } ∧ rd = n) ∨ (kd = 3 ∧ dx = a3 ∧ rs = { data := #[] } ∧ rd = 0) ∨ (kd = 1 ∧ rs = a2 ∧ rd = a3)) :
 Calls Tryz.prog 30 #[.pointer (some ⟨k,0,none⟩),.agg #[.int .i64 kd,.string idA,.string v,.float .f64 x]] w fun e w' => e = .returned (.agg #[.int .i64 0,.string rs,.int .u64 rd]) ∧ P w' ∧ Frm w w' := by
 have HST := Aside0.mk hst
 have HBB := Aside0.mk hBB
 have HK := Aside0.mk hk
 have HC := Aside0.mk hc
 have HW := Aside0.mk hw
 have HSES := Aside0.mk hses
 have HTK := Aside0.mk htk
 have HN := Aside0.mk hn
 have HLIVE := Aside0.mk hlive
 have HGET := Aside0.mk hget
 have HKD := Aside0.mk hkd
 clear hst hBB hk hc hw hses htk hn hlive hget hkd
 go_enter Tryz.func30,Tryz.ntmps30
 go_upto_region 1 with fail
 obtain ⟨W1,g3,g4,hW_,hg3,hg4,H3,H4,hb_⟩ := new2 w #[.int .i64 kd,.string idA,.string v,.float .f64 x] 43 #[.int .i64 0,.string { data := #[] },.int .u64 0] 48
 rw [← hW_,← hg4.out,← hg3.out]
 replace HK := mb HK hb_
 replace HC := mb HC hb_
 have HB := Aside0.mk hb_
 clear hW_ hb_
 have G4 : Aside0 (w.heap.size ≤ g4) := ⟨by have := hg4.out; omega⟩
 refine st_ 13 (fun w' => w'.cell? ⟨k,0,none⟩ = some (.pointer (some ⟨co,0,none⟩)) ∧ w'.cell? ⟨g3,1,none⟩ = some (.string idA)) [11] ⟨(cD HK 0 rfl),(cD H3 1 rfl)⟩ fun hHeld => ?_
 refine with_tabW answer.tab1 answer.bits1 (fun HT_ HW_ => ?_)
 replace HK := mD HK
 replace HC := mD HC
 replace H3 := mD H3
 replace H4 := mD H4
 replace HB := bD HB
 generalize W1.drew = wd1 at *
 refine pa_ 0 12 HT_ ?_
 refine pa_ 1 13 HT_ ?_
 refine pa_ 2 14 HT_ ?_
 refine pa_ 4 16 HT_ ?_
 refine ta_ 3 15 HT_ HW_ hHeld ?_
 refine ta_ 5 17 HT_ HW_ hHeld ?_
 refine jn_ (σ := Nat) 2 [11,2] (fun s_ => [(18,.tuple #[.agg #[.string a1,.string a2,.int .u64 a3],.bool b]),(5,.pointer (some ⟨s_,0,none⟩)),(11,.tuple #[.agg #[.string a1,.string a2,.int .u64 a3],.bool b]),(19,.agg #[.string a1,.string a2,.int .u64 a3]),(20,.bool b)]) (fun s_ w' => w'.heap[k]? = some (.cells (dsc co cl) 76 (0,0)) ∧ w'.heap[co]? = some (.cells (coc ix d l wh ver) 132 (0,0)) ∧ w'.heap[g3]? = some (.cells #[.int .i64 kd,.string idA,.string v,.float .f64 x] 43 (0,0)) ∧ w'.heap[g4]? = some (.cells #[.int .i64 0,.string { data := #[] },.int .u64 0] 48 (0,0)) ∧ w'.heap[s_]? = some (.cells #[.string { data := #[] },.string { data := #[] },.int .u64 0] 124 (0,0)) ∧ w.heap.size ≤ s_ ∧ s_ ≠ k ∧ s_ ≠ co ∧ s_ ≠ g3 ∧ s_ ≠ g4 ∧ Below w.heap.size w w') ?_ ?_
 rotate_left
 ·intro hJ6_10
  refine jn_ (σ := Unit) 3 [10,3] (fun s_ => [(18,.tuple #[.agg #[.string a1,.string a2,.int .u64 a3],.bool b]),(11,.tuple #[.agg #[.string a1,.string a2,.int .u64 a3],.bool b]),(19,.agg #[.string a1,.string a2,.int .u64 a3]),(20,.bool b)]) (fun s_ w' => w'.heap[k]? = some (.cells (dsc co cl) 76 (0,0)) ∧ w'.heap[co]? = some (.cells (coc ix d l wh ver) 132 (0,0)) ∧ w'.heap[g3]? = some (.cells #[.int .i64 kd,.string idA,.string v,.float .f64 x] 43 (0,0)) ∧ w'.heap[g4]? = some (.cells #[.int .i64 0,.string { data := #[] },.int .u64 0] 48 (0,0)) ∧ Below w.heap.size w w') ?_ ?_
  rotate_left
  ·intro hJ6
   refine jn_ (σ := Nat) 6 [6,4,1,2] (fun s_ => [(5,.pointer (some ⟨s_,0,none⟩))]) (fun s_ w' => w'.heap[k]? = some (.cells (dsc co cl) 76 (0,0)) ∧ w'.heap[co]? = some (.cells (coc ix d l wh ver) 132 (0,0)) ∧ w'.heap[g3]? = some (.cells #[.int .i64 kd,.string idA,.string v,.float .f64 x] 43 (0,0)) ∧ w'.heap[g4]? = some (.cells #[.int .i64 0,.string { data := #[] },.int .u64 0] 48 (0,0)) ∧ w'.heap[s_]? = some (.cells #[.string { data := #[] },.string { data := #[] },.int .u64 0] 124 (0,0)) ∧ w.heap.size ≤ s_ ∧ s_ ≠ k ∧ s_ ≠ co ∧ s_ ≠ g3 ∧ s_ ≠ g4 ∧ Below w.heap.size w w') ?_ ?_
   rotate_left
   ·intro hJ10
    refine tw_ 6 10 HT_ (fun K hK => ?_) fun K hK => ?_
    ·skip
     refine gc_ Tryz.func59 #[.pointer (some ⟨co,0,none⟩),.string idA] ?_
     with_reducible refine (HSES.out _ HB.out).mono ?_
     rintro e_ wk ⟨rfl,hb⟩
     refine ⟨_,rfl,?_⟩
     replace HK := mb HK hb
     replace HC := mb HC hb
     replace H3 := mb H3 hb
     replace H4 := mb H4 hb
     replace HB := mS HB hb
     clear hb
     refine hK.out _ _ ⟨(cL HK 0 rfl),(cL H3 1 rfl)⟩ (fun hHeld => ?_)
     clear hK K
     refine no_ 18 ?_
     refine pa_ 7 11 HT_ ?_
     refine pa_ 8 19 HT_ ?_
     refine pa_ 9 20 HT_ ?_
     exact nx_ (hJ6 () _ ⟨HK.out,HC.out,H3.out,H4.out,HB.out⟩)
    ·skip
     refine va_ ?_
     obtain ⟨wk,hW⟩ : ∃ W_,W_ = wd1.alloc (.cells #[.string { data := #[] },.string { data := #[] },.int .u64 0] 124) := ⟨_,rfl⟩
     obtain ⟨b5,hh⟩ : ∃ g_,g_ = wd1.heap.size := ⟨_,rfl⟩
     rw [← hW,← hh]
     have HGb5 : Aside0 (w.heap.size ≤ b5) := ⟨by rw [hh]; exact HB.out.size⟩
     have HAb5_k : Aside0 (b5 ≠ k) := ⟨by rw [hh]; exact (Nat.ne_of_lt (blk_lt HK.out)).symm⟩
     have HAb5_co : Aside0 (b5 ≠ co) := ⟨by rw [hh]; exact (Nat.ne_of_lt (blk_lt HC.out)).symm⟩
     have HAb5_g3 : Aside0 (b5 ≠ g3) := ⟨by rw [hh]; exact (Nat.ne_of_lt (blk_lt H3.out)).symm⟩
     have HAb5_g4 : Aside0 (b5 ≠ g4) := ⟨by rw [hh]; exact (Nat.ne_of_lt (blk_lt H4.out)).symm⟩
     have hb_ : Below wd1.heap.size wd1 wk := by rw [hW]; exact below_alloc (Below.refl _ _) _
     replace HK := mb HK hb_
     replace HC := mb HC hb_
     replace H3 := mb H3 hb_
     replace H4 := mb H4 hb_
     replace HB := mS HB hb_
     have HRb5 : Aside0 (wk.heap[b5]? = some (.cells #[.string { data := #[] },.string { data := #[] },.int .u64 0] 124 (0,0))) := ⟨by rw [hW,hh]; exact blk_new _ _⟩
     clear hW hh hb_
     refine hK.out _ _ ⟨(cL HK 0 rfl),(cL H3 1 rfl)⟩ (fun hHeld => ?_)
     clear hK K
     refine no_ 5 ?_
     exact nx_ (hJ10 b5 _ ⟨HK.out,HC.out,H3.out,H4.out,HRb5.out,HGb5.out,HAb5_k.out,HAb5_co.out,HAb5_g3.out,HAb5_g4.out,HB.out⟩)
   ·skip
    rintro b5 wj ⟨h_0,h_1,h_2,h_3,h_4,h_5,h_6,h_7,h_8,h_9,h_10⟩
    try dsimp only at h_0 h_1 h_2 h_3 h_4 h_5 h_6 h_7 h_8 h_9 h_10
    clear HK HC H3 H4 HB
    have HK := Aside0.mk h_0
    have HC := Aside0.mk h_1
    have H3 := Aside0.mk h_2
    have H4 := Aside0.mk h_3
    have HRb5 := Aside0.mk h_4
    have HGb5 := Aside0.mk h_5
    have HAb5_k := Aside0.mk h_6
    have HAb5_co := Aside0.mk h_7
    have HAb5_g3 := Aside0.mk h_8
    have HAb5_g4 := Aside0.mk h_9
    have HB := Aside0.mk h_10
    clear h_0 h_1 h_2 h_3 h_4 h_5 h_6 h_7 h_8 h_9 h_10
    refine hd_ ⟨(cL HK 0 rfl),(cL H3 1 rfl)⟩ fun hHeld => ?_
    refine na_ ?_
    refine on_ 6 HT_ fun K hK => ?_
    refine gc_ Tryz.func59 #[.pointer (some ⟨co,0,none⟩),.string idA] ?_
    with_reducible refine (HSES.out _ HB.out).mono ?_
    rintro e_ wk ⟨rfl,hb⟩
    refine ⟨_,rfl,?_⟩
    replace HK := mb HK hb
    replace HC := mb HC hb
    replace H3 := mb H3 hb
    replace H4 := mb H4 hb
    replace HRb5 := mb HRb5 hb
    replace HB := mS HB hb
    clear hb
    refine hK.out _ _ ⟨(cL HK 0 rfl),(cL H3 1 rfl)⟩ (fun hHeld => ?_)
    clear hK K
    refine no_ 18 ?_
    refine pa_ 7 11 HT_ ?_
    refine pa_ 8 19 HT_ ?_
    refine pa_ 9 20 HT_ ?_
    exact nx_ (hJ6_10 b5 _ ⟨HK.out,HC.out,H3.out,H4.out,HRb5.out,HGb5.out,HAb5_k.out,HAb5_co.out,HAb5_g3.out,HAb5_g4.out,HB.out⟩)
  ·skip
   rintro ⟨⟩ wj ⟨h_0,h_1,h_2,h_3,h_4⟩
   try dsimp only at h_0 h_1 h_2 h_3 h_4
   clear HK HC H3 H4 HB
   have HK := Aside0.mk h_0
   have HC := Aside0.mk h_1
   have H3 := Aside0.mk h_2
   have H4 := Aside0.mk h_3
   have HB := Aside0.mk h_4
   clear h_0 h_1 h_2 h_3 h_4
   refine hd_ ⟨(cL HK 0 rfl),(cL H3 1 rfl)⟩ fun hHeld => ?_
   refine na_ ?_
   refine on_ 10 HT_ fun K hK => ?_
   refine va_ ?_
   obtain ⟨wk,hW⟩ : ∃ W_,W_ = wj.alloc (.cells #[.string { data := #[] },.string { data := #[] },.int .u64 0] 124) := ⟨_,rfl⟩
   obtain ⟨b5,hh⟩ : ∃ g_,g_ = wj.heap.size := ⟨_,rfl⟩
   rw [← hW,← hh]
   have HGb5 : Aside0 (w.heap.size ≤ b5) := ⟨by rw [hh]; exact HB.out.size⟩
   have HAb5_k : Aside0 (b5 ≠ k) := ⟨by rw [hh]; exact (Nat.ne_of_lt (blk_lt HK.out)).symm⟩
   have HAb5_co : Aside0 (b5 ≠ co) := ⟨by rw [hh]; exact (Nat.ne_of_lt (blk_lt HC.out)).symm⟩
   have HAb5_g3 : Aside0 (b5 ≠ g3) := ⟨by rw [hh]; exact (Nat.ne_of_lt (blk_lt H3.out)).symm⟩
   have HAb5_g4 : Aside0 (b5 ≠ g4) := ⟨by rw [hh]; exact (Nat.ne_of_lt (blk_lt H4.out)).symm⟩
   have hb_ : Below wj.heap.size wj wk := by rw [hW]; exact below_alloc (Below.refl _ _) _
   replace HK := mb HK hb_
   replace HC := mb HC hb_
   replace H3 := mb H3 hb_
   replace H4 := mb H4 hb_
   replace HB := mS HB hb_
   have HRb5 : Aside0 (wk.heap[b5]? = some (.cells #[.string { data := #[] },.string { data := #[] },.int .u64 0] 124 (0,0))) := ⟨by rw [hW,hh]; exact blk_new _ _⟩
   clear hW hh hb_
   refine hK.out _ _ ⟨(cL HK 0 rfl),(cL H3 1 rfl)⟩ (fun hHeld => ?_)
   clear hK K
   refine no_ 5 ?_
   exact nx_ (hJ6_10 b5 _ ⟨HK.out,HC.out,H3.out,H4.out,HRb5.out,HGb5.out,HAb5_k.out,HAb5_co.out,HAb5_g3.out,HAb5_g4.out,HB.out⟩)
 rintro b5 wj ⟨h_0,h_1,h_2,h_3,h_4,h_5,h_6,h_7,h_8,h_9,h_10⟩
 try dsimp only at h_0 h_1 h_2 h_3 h_4 h_5 h_6 h_7 h_8 h_9 h_10
 clear HK HC H3 H4 HB
 have HK := Aside0.mk h_0
 have HC := Aside0.mk h_1
 have H3 := Aside0.mk h_2
 have H4 := Aside0.mk h_3
 have HRb5 := Aside0.mk h_4
 have HGb5 := Aside0.mk h_5
 have HAb5_k := Aside0.mk h_6
 have HAb5_co := Aside0.mk h_7
 have HAb5_g3 := Aside0.mk h_8
 have HAb5_g4 := Aside0.mk h_9
 have HB := Aside0.mk h_10
 clear h_0 h_1 h_2 h_3 h_4 h_5 h_6 h_7 h_8 h_9 h_10
 refine hd_ ⟨(cL HK 0 rfl),(cL H3 1 rfl)⟩ fun hHeld => ?_
 refine na_ ?_
 refine la_ 11 HT_ fun K hK => ?_
 refine sR_ 5 19 #[.string a1,.string a2,.int .u64 a3] HRb5.out ?_
 refine hK.out _ _ ?_
 clear hK K
 refine pa_ 12 6 HT_ ?_
 refine dn_ HT_ ?_
 clear HT_ HW_ hHeld
 obtain ⟨W2,hW⟩ : ∃ W_,W_ = wj.setRow b5 #[.string a1,.string a2,.int .u64 a3] := ⟨_,rfl⟩
 rw [← hW]
 have q_ := mR #[.string a1,.string a2,.int .u64 a3] HK.out HAb5_k.out.symm
 rw [← hW] at q_
 replace HK := Aside0.mk q_
 clear q_
 have q_ := mR #[.string a1,.string a2,.int .u64 a3] HC.out HAb5_co.out.symm
 rw [← hW] at q_
 replace HC := Aside0.mk q_
 clear q_
 have q_ := mR #[.string a1,.string a2,.int .u64 a3] H3.out HAb5_g3.out.symm
 rw [← hW] at q_
 replace H3 := Aside0.mk q_
 clear q_
 have q_ := mR #[.string a1,.string a2,.int .u64 a3] H4.out HAb5_g4.out.symm
 rw [← hW] at q_
 replace H4 := Aside0.mk q_
 clear q_
 have q_ := below_setRow HB.out HGb5.out #[.string a1,.string a2,.int .u64 a3]
 rw [← hW] at q_
 replace HB := Aside0.mk q_
 clear q_
 have q_ := setRow_heap wj b5 _ #[.string a1,.string a2,.int .u64 a3] _ _ HRb5.out
 rw [← hW] at q_
 replace HRb5 := Aside0.mk q_
 clear q_
 clear hW
 have y3 : W2.cell? ⟨g3,3,none⟩ = some (.float .f64 x) := cL H3 3 rfl
 have y0 : W2.cell? ⟨k,0,none⟩ = some (.pointer (some ⟨co,0,none⟩)) := cL HK 0 rfl
 go_wp2_with fail
 refine (HTK.out _).mono ?_
 rintro e_ Wq ⟨rfl,rfl⟩
 go_wp2_with fail
 refine (now_calls co ix d l wh ver 0 _ HC.out (cell_below HB.out HW.out)).mono ?_
 rintro e_ Wr ⟨rfl,rfl⟩
 go_wp2_with fail
 refine (later_calls 0 n _ (by decide) HN.out.1 (by have := HN.out; omega)).mono ?_
 rintro e_ Ws ⟨rfl,rfl⟩
 have hz : 0 + n = n := Int.zero_add n
 rw [hz]
 clear hz y3 y0
 go_upto_region 5 with fail
 have LT4 := Aside0.mk (blk_lt H4.out)
 have SZ := Aside0.mk HB.out.size
 obtain ⟨W3,g10,hW_,hg10,H10,hb_⟩ := new1 Ws #[.int .i64 0,.string { data := #[] },.int .u64 0] 48
 rw [← hW_,← hg10.out]
 replace HK := mb HK hb_
 replace HC := mb HC hb_
 replace H3 := mb H3 hb_
 replace H4 := mb H4 hb_
 replace HRb5 := mb HRb5 hb_
 replace HB := Aside0.mk (below_step (HB.out) hb_)
 clear hW_ hb_
 have N410 : Aside0 (g4 ≠ g10) := ⟨by rw [hg10.out]; exact Nat.ne_of_lt LT4.out⟩
 have G10 : Aside0 (w.heap.size ≤ g10) := ⟨by rw [hg10.out]; exact SZ.out⟩
 rcases HKD.out with ⟨rfl,rfl,rfl,rfl⟩ | ⟨rfl,rfl,rfl,rfl⟩ | ⟨rfl,rfl,rfl⟩
 ·have z0 : W3.cell? ⟨g3,0,none⟩ = some (.int .i64 0) := cL H3 0 rfl
  go_wp2_with fail
  clear z0
  refine st_ 13 (fun w' => w'.cell? ⟨k,0,none⟩ = some (.pointer (some ⟨co,0,none⟩)) ∧ w'.cell? ⟨g3,1,none⟩ = some (.string idA) ∧ w'.cell? ⟨g3,2,none⟩ = some (.string v) ∧ w'.cell? ⟨b5,2,none⟩ = some (.int .u64 a3)) [12] ⟨(cD HK 0 rfl),(cD H3 1 rfl),(cD H3 2 rfl),(cD HRb5 2 rfl)⟩ fun hHeld => ?_
  refine with_tabW answer.tab10 answer.bits10 (fun HT_ HW_ => ?_)
  replace HK := mD HK
  replace HC := mD HC
  replace H3 := mD H3
  replace H4 := mD H4
  replace HRb5 := mD HRb5
  replace H10 := mD H10
  replace HB := bD HB
  generalize W3.drew = wd2 at *
  refine pa_ 0 53 HT_ ?_
  refine pa_ 1 54 HT_ ?_
  refine pa_ 2 55 HT_ ?_
  refine pa_ 4 57 HT_ ?_
  refine pa_ 6 59 HT_ ?_
  refine pa_ 8 61 HT_ ?_
  refine pa_ 10 63 HT_ ?_
  refine ta_ 3 56 HT_ HW_ hHeld ?_
  refine ta_ 5 58 HT_ HW_ hHeld ?_
  refine ta_ 7 60 HT_ HW_ hHeld ?_
  refine on_ 9 HT_ fun K hK => ?_
  refine gc_ Tryz.func68 #[.pointer (some ⟨co,0,none⟩),.string idA,.string v,.int .u64 rd] ?_
  with_reducible refine (HLIVE.out (by decide) _ HB.out).mono ?_
  rintro e_ wa ⟨rfl,hp,hf⟩
  refine ⟨_,rfl,?_⟩
  replace HK := Aside0.mk (hf.row _ _ _ (by decide) HK.out)
  replace H3 := Aside0.mk (hf.row _ _ _ (by decide) H3.out)
  replace H4 := Aside0.mk (hf.row _ _ _ (by decide) H4.out)
  replace HRb5 := Aside0.mk (hf.row _ _ _ (by decide) HRb5.out)
  replace H10 := Aside0.mk (hf.row _ _ _ (by decide) H10.out)
  have HPW := Aside0.mk hp
  have HFR : Aside0 (Frm w wa) := ⟨(Frm.below HB.out).trans hf⟩
  clear hp hf HC HB
  refine hK.out _ _ ⟨(cL HK 0 rfl),(cL H3 1 rfl),(cL H3 2 rfl),(cL HRb5 2 rfl)⟩ (fun hHeld => ?_)
  clear hK K
  refine no_ 62 ?_
  refine pa_ 11 64 HT_ ?_
  refine la_ 12 HT_ fun K hK => ?_
  refine sR_ 10 64 #[.int .i64 0,.string { data := #[] },.int .u64 rd] H10.out ?_
  refine hK.out _ _ ?_
  clear hK K
  refine dn_ HT_ ?_
  clear HT_ HW_ hHeld
  obtain ⟨W4,hW⟩ : ∃ W_,W_ = wa.setRow g10 #[.int .i64 0,.string { data := #[] },.int .u64 rd] := ⟨_,rfl⟩
  rw [← hW]
  have q_ := HST.out.set HPW.out (Nat.le_trans HBB.out G10.out) (by decide) H10.out #[.int .i64 0,.string { data := #[] },.int .u64 rd]
  rw [← hW] at q_
  replace HPW := Aside0.mk q_
  clear q_
  have q_ := HFR.out.new #[.int .i64 0,.string { data := #[] },.int .u64 rd] G10.out
  rw [← hW] at q_
  replace HFR := Aside0.mk q_
  clear q_
  have q_ := mR #[.int .i64 0,.string { data := #[] },.int .u64 rd] H4.out N410.out
  rw [← hW] at q_
  replace H4 := Aside0.mk q_
  clear q_
  have q_ := setRow_heap wa g10 _ #[.int .i64 0,.string { data := #[] },.int .u64 rd] _ _ H10.out
  rw [← hW] at q_
  replace H10 := Aside0.mk q_
  clear q_
  clear hW
  have y0 : W4.cell? ⟨g10,0,none⟩ = some (.int .i64 0) := cL H10 0 rfl
  go_wp2_with (first | (refine lr_ 10 H10.out Tryz.underlying48 ?_) | (refine sr_ 4 102 #[.int .i64 0,.string { data := #[] },.int .u64 rd] H4.out ?_))
  refine rr_ (setRow_heap _ _ _ _ _ _ H4.out) Tryz.underlying48 ?_
  exact ⟨rfl,HST.out.set HPW.out (Nat.le_trans HBB.out G4.out) (by decide) H4.out _,HFR.out.new _ G4.out⟩
 ·have z0 : W3.cell? ⟨g3,0,none⟩ = some (.int .i64 3) := cL H3 0 rfl
  go_wp2_with fail
  clear z0
  refine st_ 13 (fun w' => w'.cell? ⟨k,0,none⟩ = some (.pointer (some ⟨co,0,none⟩)) ∧ w'.cell? ⟨g3,1,none⟩ = some (.string idA) ∧ w'.cell? ⟨g3,2,none⟩ = some (.string v) ∧ w'.cell? ⟨b5,2,none⟩ = some (.int .u64 dx)) [12] ⟨(cD HK 0 rfl),(cD H3 1 rfl),(cD H3 2 rfl),(cD HRb5 2 rfl)⟩ fun hHeld => ?_
  refine with_tabW answer.tab14 answer.bits14 (fun HT_ HW_ => ?_)
  replace HK := mD HK
  replace HC := mD HC
  replace H3 := mD H3
  replace H4 := mD H4
  replace HRb5 := mD HRb5
  replace H10 := mD H10
  replace HB := bD HB
  generalize W3.drew = wd2 at *
  refine pa_ 0 81 HT_ ?_
  refine pa_ 1 82 HT_ ?_
  refine pa_ 2 83 HT_ ?_
  refine pa_ 4 85 HT_ ?_
  refine pa_ 6 87 HT_ ?_
  refine pa_ 8 89 HT_ ?_
  refine ta_ 3 84 HT_ HW_ hHeld ?_
  refine ta_ 5 86 HT_ HW_ hHeld ?_
  refine ta_ 7 88 HT_ HW_ hHeld ?_
  refine ta_ 9 90 HT_ HW_ hHeld ?_
  refine on_ 10 HT_ fun K hK => ?_
  refine gc_ Tryz.func68 #[.pointer (some ⟨co,0,none⟩),.string idA,.string v,.int .u64 dx] ?_
  with_reducible refine (HLIVE.out (by decide) _ HB.out).mono ?_
  rintro e_ wa ⟨rfl,hp,hf⟩
  refine ⟨_,rfl,?_⟩
  replace HK := Aside0.mk (hf.row _ _ _ (by decide) HK.out)
  replace H3 := Aside0.mk (hf.row _ _ _ (by decide) H3.out)
  replace H4 := Aside0.mk (hf.row _ _ _ (by decide) H4.out)
  replace HRb5 := Aside0.mk (hf.row _ _ _ (by decide) HRb5.out)
  replace H10 := Aside0.mk (hf.row _ _ _ (by decide) H10.out)
  have HPW := Aside0.mk hp
  have HFR : Aside0 (Frm w wa) := ⟨(Frm.below HB.out).trans hf⟩
  clear hp hf HC HB
  refine hK.out _ _ ⟨(cL HK 0 rfl),(cL H3 1 rfl),(cL H3 2 rfl),(cL HRb5 2 rfl)⟩ (fun hHeld => ?_)
  clear hK K
  refine no_ 91 ?_
  refine pa_ 11 92 HT_ ?_
  refine la_ 12 HT_ fun K hK => ?_
  refine sR_ 10 92 #[.int .i64 0,.string { data := #[] },.int .u64 0] H10.out ?_
  refine hK.out _ _ ?_
  clear hK K
  refine dn_ HT_ ?_
  clear HT_ HW_ hHeld
  obtain ⟨W4,hW⟩ : ∃ W_,W_ = wa.setRow g10 #[.int .i64 0,.string { data := #[] },.int .u64 0] := ⟨_,rfl⟩
  rw [← hW]
  have q_ := HST.out.set HPW.out (Nat.le_trans HBB.out G10.out) (by decide) H10.out #[.int .i64 0,.string { data := #[] },.int .u64 0]
  rw [← hW] at q_
  replace HPW := Aside0.mk q_
  clear q_
  have q_ := HFR.out.new #[.int .i64 0,.string { data := #[] },.int .u64 0] G10.out
  rw [← hW] at q_
  replace HFR := Aside0.mk q_
  clear q_
  have q_ := mR #[.int .i64 0,.string { data := #[] },.int .u64 0] H4.out N410.out
  rw [← hW] at q_
  replace H4 := Aside0.mk q_
  clear q_
  have q_ := setRow_heap wa g10 _ #[.int .i64 0,.string { data := #[] },.int .u64 0] _ _ H10.out
  rw [← hW] at q_
  replace H10 := Aside0.mk q_
  clear q_
  clear hW
  have y0 : W4.cell? ⟨g10,0,none⟩ = some (.int .i64 0) := cL H10 0 rfl
  go_wp2_with (first | (refine lr_ 10 H10.out Tryz.underlying48 ?_) | (refine sr_ 4 102 #[.int .i64 0,.string { data := #[] },.int .u64 0] H4.out ?_))
  refine rr_ (setRow_heap _ _ _ _ _ _ H4.out) Tryz.underlying48 ?_
  exact ⟨rfl,HST.out.set HPW.out (Nat.le_trans HBB.out G4.out) (by decide) H4.out _,HFR.out.new _ G4.out⟩
 ·have z0 : W3.cell? ⟨g3,0,none⟩ = some (.int .i64 1) := cL H3 0 rfl
  have y1 : W3.cell? ⟨b5,1,none⟩ = some (.string rs) := cL HRb5 1 rfl
  have y2 : W3.cell? ⟨b5,2,none⟩ = some (.int .u64 rd) := cL HRb5 2 rfl
  go_wp2_with (refine sr_ 4 50 #[.int .i64 0,.string rs,.int .u64 rd] H4.out ?_)
  refine rr_ (setRow_heap _ _ _ _ _ _ H4.out) Tryz.underlying48 ?_
  have hq := below_setRow HB.out G4.out #[.int .i64 0,.string rs,.int .u64 rd]
  exact ⟨rfl,HGET.out (by trivial) _ hq,Frm.below hq⟩
end Go.Proofs.YtokfjbbjkiilmaaGreatDoor.H
namespace Go.Proofs.YtokfjbbjkiilmaaGreatDoor.H
open Go.RowKit Go.Proofs.YtokfjbbjkiilmaaGreatDoorW.PrintWords Go.Proofs.YtokfjbbjkiilmaaGreatDoorW.PrintLast Go.Proofs.YtokfjbbjkiilmaaGreatDoorW.PrintMore
set_option maxHeartbeats 8000000
set_option maxRecDepth 100000
attribute [local go_sem] max2_int min2_int min_two max_two
theorem Frm.same {w0 w : World} {k t j : Nat} {cs : Array Value} {v : Value} (h : Frm w0 w) (hk : w.heap[k]? = some (.cells cs t (0,0))) (hv : cs[j]? = some v) : Frm w0 (w.setCell ⟨k,j,none⟩ v) :=
 ⟨Nat.le_trans h.size (Nat.le_of_eq (by simp [World.setCell])),fun a t' c ht hr => by
  have h1 := h.row a t' c ht hr
  rcases Nat.decEq a k with hn | rfl
  ·exact blk_far h1 (p := ⟨k,j,none⟩) hn v
  ·rw [hk] at h1
   cases h1
   have h2 := blk_set hk j v
   rw [show cs.setIfInBounds j v = cs from by
    apply Array.ext_getElem?
    intro i
    rw [Array.getElem?_setIfInBounds]
    split
    ·next hi =>
     subst hi
     split
     ·exact hv.symm
     ·next hl => rw [Array.getElem?_eq_none (by omega)]
    ·rfl] at h2
   exact h2⟩
theorem Stab.cell {B : Nat} {P : World → Prop} (h : Stab B P) {W : World} {g t : Nat} {cs : Array Value} (hP : P W) (hg : B ≤ g) (ht : t ∈ TT) (hr : W.heap[g]? = some (.cells cs t (0,0))) (j : Nat) (v : Value) : P (W.setCell ⟨g,j,none⟩ v) :=
 h.row W _ g t cs hP hg ht hr ((Keep.refl [g] W).setCell (a := ⟨g,j,none⟩) v (.inl (by simp)))
theorem csync_calls (co ix d l wh : Nat) (ver : Int) (Q : World → Prop) (w : World) (hc : w.heap[co]? = some (.cells (coc ix d l wh ver) 132 (0,0))) (hfl : Calls Tryz.prog 190 #[.pointer (some ⟨d,0,none⟩)] w fun e w' => e = .returned (.int .i64 0) ∧ Q w') :
 Calls Tryz.prog 183 #[.pointer (some ⟨co,0,none⟩)] w fun e w' => e = .returned (.int .i64 0) ∧ Q w' := by
 have HC := Aside0.mk hc
 have HF := Aside0.mk hfl
 clear hc hfl
 have y0 : w.cell? ⟨co,0,none⟩ = some (.pointer (some ⟨ix,0,none⟩)) := cL HC 0 rfl
 have y1 : w.cell? ⟨co,1,none⟩ = some (.pointer (some ⟨d,0,none⟩)) := cL HC 1 rfl
 have y2 : w.cell? ⟨co,2,none⟩ = some (.pointer (some ⟨l,0,none⟩)) := cL HC 2 rfl
 have y3 : w.cell? ⟨co,3,none⟩ = some (.pointer (some ⟨wh,0,none⟩)) := cL HC 3 rfl
 have y4 : w.cell? ⟨co,4,none⟩ = some (.int .u64 ver) := cL HC 4 rfl
 go_enter Tryz.func183,Tryz.ntmps183
 go_wp2_with fail
 refine HF.out.mono ?_
 rintro e_ w2 ⟨rfl,hq⟩
 have HQ := Aside0.mk hq
 clear hq y0 y1 y2 y3 y4
 go_wp2_with fail
 go_ret
 exact ⟨rfl,HQ.out⟩
theorem dsync_calls (B : Nat) (P : World → Prop) (k co cl : Nat) (w : World) (hst : Stab B P) (hkB : B ≤ k) (hk : w.heap[k]? = some (.cells (dsc co cl) 76 (0,0))) (hs : Calls Tryz.prog 183 #[.pointer (some ⟨co,0,none⟩)] w fun e w' => e = .returned (.int .i64 0) ∧ P w' ∧ Frm w w') :
 Calls Tryz.prog 134 #[.pointer (some ⟨k,0,none⟩)] w fun e w' => e = .returned (.int .i64 0) ∧ P w' ∧ Frm w w' := by
 have HST := Aside0.mk hst
 have HK := Aside0.mk hk
 have HKB := Aside0.mk hkB
 have HS := Aside0.mk hs
 clear hst hk hkB hs
 have y0 : w.cell? ⟨k,0,none⟩ = some (.pointer (some ⟨co,0,none⟩)) := cL HK 0 rfl
 have y7 : w.cell? ⟨k,7,none⟩ = some (.bool false) := cL HK 7 rfl
 go_enter Tryz.func134,Tryz.ntmps134
 go_wp2_with fail
 refine HS.out.mono ?_
 rintro e_ w2 ⟨rfl,hp,hf⟩
 replace HK := Aside0.mk (hf.row _ _ _ (by decide) HK.out)
 have HP := Aside0.mk hp
 have HF := Aside0.mk hf
 clear hp hf y0 y7
 have y7 : w2.cell? ⟨k,7,none⟩ = some (.bool false) := cL HK 7 rfl
 have f7 := blk_frozen HK.out 7
 go_wp2_with fail
 go_ret
 exact ⟨rfl,HST.out.cell HP.out HKB.out (by decide) HK.out _ _,HF.out.same HK.out rfl⟩
theorem ddesk_calls (B : Nat) (P : World → Prop) (k co cl : Nat) (kd rd : Int) (v rs : ByteArray) (x : Nat) (ch : Bool) (w : World) (hst : Stab B P) (hBB : B ≤ w.heap.size) (hkB : B ≤ k) (hk : w.heap[k]? = some (.cells (dsc co cl) 76 (0,0))) (hadm : ∀ W : World,Below w.heap.size w W → Calls Tryz.prog 28 #[.pointer (some ⟨k,0,none⟩),.agg #[.int .i64 kd,.string idA,.string v,.float .f64 x]] W fun e w' => e = .returned .nilIface ∧ Below W.heap.size W w') (hans : ∀ W : World,Below w.heap.size w W → Calls Tryz.prog 30 #[.pointer (some ⟨k,0,none⟩),.agg #[.int .i64 kd,.string idA,.string v,.float .f64 x]] W fun e w' => e = .returned (.agg #[.int .i64 0,.string rs,.int .u64 rd]) ∧ P w' ∧ Frm W w') (hch : ∀ W : World,Calls Tryz.prog 31 #[.agg #[.int .i64 kd,.string idA,.string v,.float .f64 x]] W fun e w' => e = .returned (.bool ch) ∧ Below W.heap.size W w') :
 Calls Tryz.prog 14 #[.pointer (some ⟨k,0,none⟩),.agg #[.int .i64 kd,.string idA,.string v,.float .f64 x],.int .i64 0] w fun e w' => e = .returned (.agg #[.int .i64 0,.string rs,.int .u64 rd]) ∧ P w' ∧ Frm w w' := by
 have HST := Aside0.mk hst
 have HK := Aside0.mk hk
 have HKB := Aside0.mk hkB
 have HBB := Aside0.mk hBB
 have HADM := Aside0.mk hadm
 have HANS := Aside0.mk hans
 have HCH := Aside0.mk hch
 clear hst hk hkB hBB hadm hans hch
 go_enter Tryz.func14,Tryz.ntmps14
 go_upto_region 1 with fail
 obtain ⟨W1,g4,g6,hW_,hg4,hg6,H4,H6,hb_⟩ := new2 w #[.int .i64 kd,.string idA,.string v,.float .f64 x] 43 #[.int .i64 0,.string { data := #[] },.int .u64 0] 48
 rw [← hW_,← hg6.out,← hg4.out]
 replace HK := mb HK hb_
 have HB := Aside0.mk hb_
 clear hW_ hb_
 have G6 : Aside0 (w.heap.size ≤ g6) := ⟨by have := hg6.out; omega⟩
 have y7 : W1.cell? ⟨k,7,none⟩ = some (.bool false) := cL HK 7 rfl
 go_wp2_with (refine lr_ 4 H4.out Tryz.underlying43 ?_)
 clear y7
 refine (HADM.out _ HB.out).mono ?_
 rintro e_ W2 ⟨rfl,hb⟩
 replace HK := mb HK hb
 replace H4 := mb H4 hb
 replace H6 := mb H6 hb
 replace HB := mS HB hb
 clear hb
 go_wp2_with fail
 refine (dnumber_calls _).mono ?_
 rintro e_ W3 ⟨rfl,hb⟩
 replace HK := mb HK hb
 replace H4 := mb H4 hb
 replace H6 := mb H6 hb
 replace HB := mS HB hb
 clear hb
 go_upto_region 5 with (refine sr_ 8 21 #[.int .i64 0,.string { data := #[] },.int .u64 0] (blk_new W3 (.cells #[.int .i64 0,.string { data := #[] },.int .u64 0] 48)) ?_)
 have L6 := H6
 obtain ⟨W4,g8,hW_,hgg8,H8,hb_⟩ := newR W3 #[.int .i64 0,.string { data := #[] },.int .u64 0] #[.int .i64 0,.string { data := #[] },.int .u64 0] 48
 rw [← hW_,← hgg8.out]
 replace HK := mb HK hb_
 replace H4 := mb H4 hb_
 replace H6 := mb H6 hb_
 have N68 : Aside0 (g6 ≠ g8) := ⟨by rw [hgg8.out]; exact Nat.ne_of_lt (blk_lt L6.out)⟩
 clear L6
 have HGg8 : Aside0 (w.heap.size ≤ g8) := ⟨by rw [hgg8.out]; exact HB.out.size⟩
 replace HB := mS HB hb_
 clear hW_ hb_
 go_wp2_with (refine lr_ 4 H4.out Tryz.underlying43 ?_)
 refine (HANS.out _ HB.out).mono ?_
 rintro e_ W5 ⟨rfl,hp,hf⟩
 replace HK := Aside0.mk (hf.row _ _ _ (by decide) HK.out)
 replace H4 := Aside0.mk (hf.row _ _ _ (by decide) H4.out)
 replace H6 := Aside0.mk (hf.row _ _ _ (by decide) H6.out)
 replace H8 := Aside0.mk (hf.row _ _ _ (by decide) H8.out)
 have HP := Aside0.mk hp
 have HFR : Aside0 (Frm w W5) := ⟨(Frm.below HB.out).trans hf⟩
 clear hp hf HB
 go_upto_region 8 with (refine sr_ 8 27 #[.int .i64 0,.string rs,.int .u64 rd] H8.out ?_)
 obtain ⟨W6,hW⟩ : ∃ W_,W_ = W5.setRow g8 #[.int .i64 0,.string rs,.int .u64 rd] := ⟨_,rfl⟩
 rw [← hW]
 have q_ := HST.out.set HP.out (Nat.le_trans HBB.out HGg8.out) (by decide) H8.out #[.int .i64 0,.string rs,.int .u64 rd]
 rw [← hW] at q_
 replace HP := Aside0.mk q_
 clear q_
 have q_ := HFR.out.new #[.int .i64 0,.string rs,.int .u64 rd] HGg8.out
 rw [← hW] at q_
 replace HFR := Aside0.mk q_
 clear q_
 have q_ := mR #[.int .i64 0,.string rs,.int .u64 rd] HK.out (tne HK.out H8.out (by decide))
 rw [← hW] at q_
 replace HK := Aside0.mk q_
 clear q_
 have q_ := mR #[.int .i64 0,.string rs,.int .u64 rd] H4.out (tne H4.out H8.out (by decide))
 rw [← hW] at q_
 replace H4 := Aside0.mk q_
 clear q_
 have q_ := mR #[.int .i64 0,.string rs,.int .u64 rd] H6.out N68.out
 rw [← hW] at q_
 replace H6 := Aside0.mk q_
 clear q_
 have q_ := setRow_heap W5 g8 _ #[.int .i64 0,.string rs,.int .u64 rd] _ _ H8.out
 rw [← hW] at q_
 replace H8 := Aside0.mk q_
 clear q_
 clear hW
 go_wp2_with (refine lr_ 4 H4.out Tryz.underlying43 ?_)
 refine (HCH.out _).mono ?_
 rintro e_ W7 ⟨rfl,hb⟩
 replace HP := Aside0.mk (HST.out.below _ _ HP.out hb)
 replace HFR := Aside0.mk (HFR.out.trans (Frm.below hb))
 replace HK := mb HK hb
 replace H4 := mb H4 hb
 replace H6 := mb H6 hb
 replace H8 := mb H8 hb
 clear hb
 cases ch
 ·have y4 : W7.cell? ⟨k,4,none⟩ = some (.int .i64 0) := cL HK 4 rfl
  have y6 : W7.cell? ⟨k,6,none⟩ = some (.int .i64 0) := cL HK 6 rfl
  have y7 : W7.cell? ⟨k,7,none⟩ = some (.bool false) := cL HK 7 rfl
  have f6 := blk_frozen HK.out 6
  go_wp2_with fail
  refine (Earn0 _).mono ?_
  rintro e_ Wa ⟨rfl,rfl⟩
  go_upto_region 16 with fail
  clear y4 y6 y7 f6
  obtain ⟨W8,hW⟩ : ∃ W_,W_ = Wa.setCell ⟨k,6,none⟩ (.int .i64 0) := ⟨_,rfl⟩
  rw [← hW]
  have q_ := HST.out.cell (j := 6) (v := .int .i64 0) HP.out HKB.out (by decide) HK.out
  rw [← hW] at q_
  replace HP := Aside0.mk q_
  clear q_
  have q_ := HFR.out.same (j := 6) (v := .int .i64 0) HK.out rfl
  rw [← hW] at q_
  replace HFR := Aside0.mk q_
  clear q_
  have q_ := blk_far H8.out (p := ⟨k,6,none⟩) (tne H8.out HK.out (by decide)) (.int .i64 0)
  rw [← hW] at q_
  replace H8 := Aside0.mk q_
  clear q_
  have q_ := blk_far H6.out (p := ⟨k,6,none⟩) (tne H6.out HK.out (by decide)) (.int .i64 0)
  rw [← hW] at q_
  replace H6 := Aside0.mk q_
  clear q_
  have q_ := (show (Wa.setCell ⟨k,6,none⟩ (.int .i64 0)).heap[k]? = some (.cells (dsc co cl) 76 (0,0)) from blk_set HK.out 6 (.int .i64 0))
  rw [← hW] at q_
  replace HK := Aside0.mk q_
  clear q_
  clear hW
  have y4 : W8.cell? ⟨k,4,none⟩ = some (.int .i64 0) := cL HK 4 rfl
  have y6 : W8.cell? ⟨k,6,none⟩ = some (.int .i64 0) := cL HK 6 rfl
  have y7 : W8.cell? ⟨k,7,none⟩ = some (.bool false) := cL HK 7 rfl
  have f6 := blk_frozen HK.out 6
  go_wp2_with fail
  refine (steps0 k _).mono ?_
  rintro e_ Wb ⟨rfl,rfl⟩
  go_wp2_with fail
  refine (Take0 _).mono ?_
  rintro e_ Wc ⟨rfl,rfl⟩
  go_upto_region 18 with fail
  clear y4 y6 y7 f6
  obtain ⟨W9,hW⟩ : ∃ W_,W_ = Wc.setCell ⟨k,6,none⟩ (.int .i64 0) := ⟨_,rfl⟩
  rw [← hW]
  have q_ := HST.out.cell (j := 6) (v := .int .i64 0) HP.out HKB.out (by decide) HK.out
  rw [← hW] at q_
  replace HP := Aside0.mk q_
  clear q_
  have q_ := HFR.out.same (j := 6) (v := .int .i64 0) HK.out rfl
  rw [← hW] at q_
  replace HFR := Aside0.mk q_
  clear q_
  have q_ := blk_far H8.out (p := ⟨k,6,none⟩) (tne H8.out HK.out (by decide)) (.int .i64 0)
  rw [← hW] at q_
  replace H8 := Aside0.mk q_
  clear q_
  have q_ := blk_far H6.out (p := ⟨k,6,none⟩) (tne H6.out HK.out (by decide)) (.int .i64 0)
  rw [← hW] at q_
  replace H6 := Aside0.mk q_
  clear q_
  have q_ := (show (Wc.setCell ⟨k,6,none⟩ (.int .i64 0)).heap[k]? = some (.cells (dsc co cl) 76 (0,0)) from blk_set HK.out 6 (.int .i64 0))
  rw [← hW] at q_
  replace HK := Aside0.mk q_
  clear q_
  clear hW
  have y4 : W9.cell? ⟨k,4,none⟩ = some (.int .i64 0) := cL HK 4 rfl
  have y6 : W9.cell? ⟨k,6,none⟩ = some (.int .i64 0) := cL HK 6 rfl
  have y7 : W9.cell? ⟨k,7,none⟩ = some (.bool false) := cL HK 7 rfl
  have f6 := blk_frozen HK.out 6
  go_wp2_with fail
  refine (steps0 k _).mono ?_
  rintro e_ Wd ⟨rfl,rfl⟩
  clear y4 y6 y7 f6
  go_wp2_with (first | (refine lr_ 8 H8.out Tryz.underlying48 ?_) | (refine sr_ 6 80 #[.int .i64 0,.string rs,.int .u64 rd] H6.out ?_))
  refine rr_ (setRow_heap _ _ _ _ _ _ H6.out) Tryz.underlying48 ?_
  exact ⟨rfl,HST.out.set HP.out (Nat.le_trans HBB.out G6.out) (by decide) H6.out _,HFR.out.new _ G6.out⟩
 ·have y4 : W7.cell? ⟨k,4,none⟩ = some (.int .i64 0) := cL HK 4 rfl
  have y6 : W7.cell? ⟨k,6,none⟩ = some (.int .i64 0) := cL HK 6 rfl
  have y7 : W7.cell? ⟨k,7,none⟩ = some (.bool false) := cL HK 7 rfl
  have f6 := blk_frozen HK.out 6
  go_wp2_with fail
  refine (Earn0 _).mono ?_
  rintro e_ Wa ⟨rfl,rfl⟩
  go_upto_region 16 with fail
  clear y4 y6 y7 f6
  obtain ⟨W8,hW⟩ : ∃ W_,W_ = Wa.setCell ⟨k,6,none⟩ (.int .i64 0) := ⟨_,rfl⟩
  rw [← hW]
  have q_ := HST.out.cell (j := 6) (v := .int .i64 0) HP.out HKB.out (by decide) HK.out
  rw [← hW] at q_
  replace HP := Aside0.mk q_
  clear q_
  have q_ := HFR.out.same (j := 6) (v := .int .i64 0) HK.out rfl
  rw [← hW] at q_
  replace HFR := Aside0.mk q_
  clear q_
  have q_ := blk_far H8.out (p := ⟨k,6,none⟩) (tne H8.out HK.out (by decide)) (.int .i64 0)
  rw [← hW] at q_
  replace H8 := Aside0.mk q_
  clear q_
  have q_ := blk_far H6.out (p := ⟨k,6,none⟩) (tne H6.out HK.out (by decide)) (.int .i64 0)
  rw [← hW] at q_
  replace H6 := Aside0.mk q_
  clear q_
  have q_ := (show (Wa.setCell ⟨k,6,none⟩ (.int .i64 0)).heap[k]? = some (.cells (dsc co cl) 76 (0,0)) from blk_set HK.out 6 (.int .i64 0))
  rw [← hW] at q_
  replace HK := Aside0.mk q_
  clear q_
  clear hW
  have y4 : W8.cell? ⟨k,4,none⟩ = some (.int .i64 0) := cL HK 4 rfl
  have y6 : W8.cell? ⟨k,6,none⟩ = some (.int .i64 0) := cL HK 6 rfl
  have y7 : W8.cell? ⟨k,7,none⟩ = some (.bool false) := cL HK 7 rfl
  have f6 := blk_frozen HK.out 6
  go_wp2_with fail
  refine (steps0 k _).mono ?_
  rintro e_ Wb ⟨rfl,rfl⟩
  go_wp2_with fail
  refine (Take0 _).mono ?_
  rintro e_ Wc ⟨rfl,rfl⟩
  go_upto_region 18 with fail
  clear y4 y6 y7 f6
  obtain ⟨W9,hW⟩ : ∃ W_,W_ = Wc.setCell ⟨k,6,none⟩ (.int .i64 0) := ⟨_,rfl⟩
  rw [← hW]
  have q_ := HST.out.cell (j := 6) (v := .int .i64 0) HP.out HKB.out (by decide) HK.out
  rw [← hW] at q_
  replace HP := Aside0.mk q_
  clear q_
  have q_ := HFR.out.same (j := 6) (v := .int .i64 0) HK.out rfl
  rw [← hW] at q_
  replace HFR := Aside0.mk q_
  clear q_
  have q_ := blk_far H8.out (p := ⟨k,6,none⟩) (tne H8.out HK.out (by decide)) (.int .i64 0)
  rw [← hW] at q_
  replace H8 := Aside0.mk q_
  clear q_
  have q_ := blk_far H6.out (p := ⟨k,6,none⟩) (tne H6.out HK.out (by decide)) (.int .i64 0)
  rw [← hW] at q_
  replace H6 := Aside0.mk q_
  clear q_
  have q_ := (show (Wc.setCell ⟨k,6,none⟩ (.int .i64 0)).heap[k]? = some (.cells (dsc co cl) 76 (0,0)) from blk_set HK.out 6 (.int .i64 0))
  rw [← hW] at q_
  replace HK := Aside0.mk q_
  clear q_
  clear hW
  have y4 : W9.cell? ⟨k,4,none⟩ = some (.int .i64 0) := cL HK 4 rfl
  have y6 : W9.cell? ⟨k,6,none⟩ = some (.int .i64 0) := cL HK 6 rfl
  have y7 : W9.cell? ⟨k,7,none⟩ = some (.bool false) := cL HK 7 rfl
  have f6 := blk_frozen HK.out 6
  go_wp2_with fail
  refine (steps0 k _).mono ?_
  rintro e_ Wd ⟨rfl,rfl⟩
  clear y4 y6 y7 f6
  go_wp2_with (first | (refine lr_ 8 H8.out Tryz.underlying48 ?_) | (refine sr_ 6 80 #[.int .i64 0,.string rs,.int .u64 rd] H6.out ?_))
  refine rr_ (setRow_heap _ _ _ _ _ _ H6.out) Tryz.underlying48 ?_
  exact ⟨rfl,HST.out.set HP.out (Nat.le_trans HBB.out G6.out) (by decide) H6.out _,HFR.out.new _ G6.out⟩
end Go.Proofs.YtokfjbbjkiilmaaGreatDoor.H
