/-
TopTorn: part of its walk (Sc, Pr, Rec).
-/
import Derived.Test.YtokfjbbjkiilmaaGreatDoorTB
import Derived.Test.YtokfjbbjkiilmaaGreatDoorTA
set_option linter.unusedVariables false
set_option linter.unusedSimpArgs false
namespace Go.Proofs.YtokfjbbjkiilmaaGreatDoor.H
open Go.RowKit Go.Proofs.YtokfjbbjkiilmaaGreatDoorW.PrintWords Go.Proofs.YtokfjbbjkiilmaaGreatDoorW.PrintLast Go.Proofs.YtokfjbbjkiilmaaGreatDoorW.PrintMore
set_option maxHeartbeats 8000000
set_option maxRecDepth 100000
attribute [local go_sem] max2_int min2_int min_two max_two
theorem run47x (x : Nat) (w : World) : (callFunc 47 #[.float .f64 x]).run Tryz.prog w = .ok (.value (.int .u64 x)) w := by
 rw [run_callFunc_extern Tryz.func47 (by kernel_rfl) (by kernel_rfl) (by kernel_rfl) (e := Extern.MathFloatBits.float64bits) (by kernel_rfl) _ w]
 rfl
attribute [local go_sem] run47x
theorem swithin_calls (n m : Int) (w : World) (h0 : 0 ≤ n) (h1 : n ≤ m) :
 Calls Tryz.prog 86 #[.int .i64 n,.int .i64 m] w fun e w' => e = .returned (.bool true) ∧ w' = w := by
 have t0 : decide (n < 0) = false := decide_eq_false (by omega)
 have t1 : decide (m < n) = false := decide_eq_false (by omega)
 have t2 : decide (0 ≤ n) = true := decide_eq_true h0
 have t3 : decide (n ≤ m) = true := decide_eq_true h1
 clear h0 h1
 go_enter Tryz.func86,Tryz.ntmps86
 go_wp2_with fail
 go_ret
 exact ⟨rfl,rfl⟩
theorem eqnil_calls (w : World) :
 Calls Tryz.prog 132 #[.slice none 0 0,.slice none 0 0] w fun e w' => e = .returned (.bool true) ∧ w' = w := by
 go_enter Tryz.func132,Tryz.ntmps132
 go_wp2_with fail
 go_loopw [13] (fun v wr => v = .int .i64 0 ∧ wr = w) (fun v _ => 1 - (intOf v).toNat)
 case atStart => exact ⟨rfl,rfl⟩
 case round =>
  obtain ⟨rfl,rfl⟩ := hrel
  go_wp2_with fail
  go_ret
  exact ⟨rfl,rfl⟩
theorem only_ask (rk : Int) (i v : ByteArray) (x : Nat) (w : World) :
 Calls Tryz.prog 85 #[.agg #[.int .i64 0,.int .i64 rk,.string i,.string v,.float .f64 x,.int .i64 0,.int .u64 0,.slice none 0 0,.int .i64 0,.int .i64 0]] w fun e w' => e = .returned (.agg #[.int .i64 0,.int .i64 rk,.string i,.string v,.float .f64 x,.int .i64 0,.int .u64 0,.slice none 0 0,.int .i64 0,.int .i64 0]) ∧ Below w.heap.size w w' := by
 go_enter Tryz.func85,Tryz.ntmps85
 go_upto_region 1 with fail
 obtain ⟨W1,g,gr,hW_,hg,hgr,HX,HR,hb_⟩ := new2 w #[.int .i64 0,.int .i64 rk,.string i,.string v,.float .f64 x,.int .i64 0,.int .u64 0,.slice none 0 0,.int .i64 0,.int .i64 0] 63 #[.int .i64 0,.int .i64 0,.string { data := #[] },.string { data := #[] },.float .f64 0,.int .i64 0,.int .u64 0,.slice none 0 0,.int .i64 0,.int .i64 0] 63
 rw [← hW_,← hgr.out,← hg.out]
 have HB := Aside0.mk hb_
 clear hW_ hb_
 have y0 : W1.cell? ⟨g,0,none⟩ = some (.int .i64 0) := cL HX 0 rfl
 have y1 : W1.cell? ⟨g,1,none⟩ = some (.int .i64 rk) := cL HX 1 rfl
 have y2 : W1.cell? ⟨g,2,none⟩ = some (.string i) := cL HX 2 rfl
 have y3 : W1.cell? ⟨g,3,none⟩ = some (.string v) := cL HX 3 rfl
 have y4 : W1.cell? ⟨g,4,none⟩ = some (.float .f64 x) := cL HX 4 rfl
 have y5 : W1.cell? ⟨g,5,none⟩ = some (.int .i64 0) := cL HX 5 rfl
 have y6 : W1.cell? ⟨g,6,none⟩ = some (.int .u64 0) := cL HX 6 rfl
 have y7 : W1.cell? ⟨g,7,none⟩ = some (.slice none 0 0) := cL HX 7 rfl
 have y8 : W1.cell? ⟨g,8,none⟩ = some (.int .i64 0) := cL HX 8 rfl
 have y9 : W1.cell? ⟨g,9,none⟩ = some (.int .i64 0) := cL HX 9 rfl
 go_wp2_with (refine sr_ 2 11 #[.int .i64 0,.int .i64 rk,.string i,.string v,.float .f64 x,.int .i64 0,.int .u64 0,.slice none 0 0,.int .i64 0,.int .i64 0] HR.out ?_)
 refine rr_ (setRow_heap _ _ _ _ _ _ HR.out) Tryz.underlying63 ?_
 exact ⟨rfl,below_setRow HB.out (by have := hgr.out; omega) _⟩
theorem only_sync  (w : World) :
 Calls Tryz.prog 85 #[.agg #[.int .i64 3,.int .i64 0,.string { data := #[] },.string { data := #[] },.float .f64 0,.int .i64 0,.int .u64 0,.slice none 0 0,.int .i64 0,.int .i64 0]] w fun e w' => e = .returned (.agg #[.int .i64 3,.int .i64 0,.string { data := #[] },.string { data := #[] },.float .f64 0,.int .i64 0,.int .u64 0,.slice none 0 0,.int .i64 0,.int .i64 0]) ∧ Below w.heap.size w w' := by
 go_enter Tryz.func85,Tryz.ntmps85
 go_upto_region 1 with fail
 obtain ⟨W1,g,gr,hW_,hg,hgr,HX,HR,hb_⟩ := new2 w #[.int .i64 3,.int .i64 0,.string { data := #[] },.string { data := #[] },.float .f64 0,.int .i64 0,.int .u64 0,.slice none 0 0,.int .i64 0,.int .i64 0] 63 #[.int .i64 0,.int .i64 0,.string { data := #[] },.string { data := #[] },.float .f64 0,.int .i64 0,.int .u64 0,.slice none 0 0,.int .i64 0,.int .i64 0] 63
 rw [← hW_,← hgr.out,← hg.out]
 have HB := Aside0.mk hb_
 clear hW_ hb_
 have y0 : W1.cell? ⟨g,0,none⟩ = some (.int .i64 3) := cL HX 0 rfl
 have y1 : W1.cell? ⟨g,1,none⟩ = some (.int .i64 0) := cL HX 1 rfl
 have y2 : W1.cell? ⟨g,2,none⟩ = some (.string { data := #[] }) := cL HX 2 rfl
 have y3 : W1.cell? ⟨g,3,none⟩ = some (.string { data := #[] }) := cL HX 3 rfl
 have y4 : W1.cell? ⟨g,4,none⟩ = some (.float .f64 0) := cL HX 4 rfl
 have y5 : W1.cell? ⟨g,5,none⟩ = some (.int .i64 0) := cL HX 5 rfl
 have y6 : W1.cell? ⟨g,6,none⟩ = some (.int .u64 0) := cL HX 6 rfl
 have y7 : W1.cell? ⟨g,7,none⟩ = some (.slice none 0 0) := cL HX 7 rfl
 have y8 : W1.cell? ⟨g,8,none⟩ = some (.int .i64 0) := cL HX 8 rfl
 have y9 : W1.cell? ⟨g,9,none⟩ = some (.int .i64 0) := cL HX 9 rfl
 go_wp2_with (refine sr_ 2 34 #[.int .i64 3,.int .i64 0,.string { data := #[] },.string { data := #[] },.float .f64 0,.int .i64 0,.int .u64 0,.slice none 0 0,.int .i64 0,.int .i64 0] HR.out ?_)
 refine rr_ (setRow_heap _ _ _ _ _ _ HR.out) Tryz.underlying63 ?_
 exact ⟨rfl,below_setRow HB.out (by have := hgr.out; omega) _⟩
theorem only_crash (kp : Option Addr) (kl : Nat) (at_ : Int) (w : World) :
 Calls Tryz.prog 85 #[.agg #[.int .i64 5,.int .i64 0,.string { data := #[] },.string { data := #[] },.float .f64 0,.int .i64 0,.int .u64 0,(.slice kp kl kl),.int .i64 0,.int .i64 at_]] w fun e w' => e = .returned (.agg #[.int .i64 5,.int .i64 0,.string { data := #[] },.string { data := #[] },.float .f64 0,.int .i64 0,.int .u64 0,(.slice kp kl kl),.int .i64 0,.int .i64 at_]) ∧ Below w.heap.size w w' := by
 go_enter Tryz.func85,Tryz.ntmps85
 go_upto_region 1 with fail
 obtain ⟨W1,g,gr,hW_,hg,hgr,HX,HR,hb_⟩ := new2 w #[.int .i64 5,.int .i64 0,.string { data := #[] },.string { data := #[] },.float .f64 0,.int .i64 0,.int .u64 0,(.slice kp kl kl),.int .i64 0,.int .i64 at_] 63 #[.int .i64 0,.int .i64 0,.string { data := #[] },.string { data := #[] },.float .f64 0,.int .i64 0,.int .u64 0,.slice none 0 0,.int .i64 0,.int .i64 0] 63
 rw [← hW_,← hgr.out,← hg.out]
 have HB := Aside0.mk hb_
 clear hW_ hb_
 have y0 : W1.cell? ⟨g,0,none⟩ = some (.int .i64 5) := cL HX 0 rfl
 have y1 : W1.cell? ⟨g,1,none⟩ = some (.int .i64 0) := cL HX 1 rfl
 have y2 : W1.cell? ⟨g,2,none⟩ = some (.string { data := #[] }) := cL HX 2 rfl
 have y3 : W1.cell? ⟨g,3,none⟩ = some (.string { data := #[] }) := cL HX 3 rfl
 have y4 : W1.cell? ⟨g,4,none⟩ = some (.float .f64 0) := cL HX 4 rfl
 have y5 : W1.cell? ⟨g,5,none⟩ = some (.int .i64 0) := cL HX 5 rfl
 have y6 : W1.cell? ⟨g,6,none⟩ = some (.int .u64 0) := cL HX 6 rfl
 have y7 : W1.cell? ⟨g,7,none⟩ = some ((.slice kp kl kl)) := cL HX 7 rfl
 have y8 : W1.cell? ⟨g,8,none⟩ = some (.int .i64 0) := cL HX 8 rfl
 have y9 : W1.cell? ⟨g,9,none⟩ = some (.int .i64 at_) := cL HX 9 rfl
 go_wp2_with (refine sr_ 2 31 #[.int .i64 5,.int .i64 0,.string { data := #[] },.string { data := #[] },.float .f64 0,.int .i64 0,.int .u64 0,(.slice kp kl kl),.int .i64 0,.int .i64 at_] HR.out ?_)
 refine rr_ (setRow_heap _ _ _ _ _ _ HR.out) Tryz.underlying63 ?_
 exact ⟨rfl,below_setRow HB.out (by have := hgr.out; omega) _⟩
def same.T1 : Bool × List (List Nat × List Nat) := (true,[([],[]),([0],[0]),([],[]),([2],[2]),([],[]),([],[]),([4,1,0,1,4,5],[1,4]),([5,3,6,0,1,2,3,4,5,6],[3,5])])
def same.B1 : List Nat := [0,1,0,4,0,0,51,127]
theorem same.tab1 : rtab .any (opsOf Tryz.f84 1) = same.T1 := by kernel_rfl
theorem same.bits1 : waitsOk same.T1.2 same.B1 = true := by kernel_rfl
theorem same_calls (kd rk : Int) (i v : ByteArray) (x : Nat) (kp : Option Addr) (kl : Nat) (at_ : Int) (w : World) (hke : ∀ W,Below w.heap.size w W → Calls Tryz.prog 132 #[.slice kp kl kl,.slice kp kl kl] W fun e w' => e = .returned (.bool true) ∧ ∃ m,w' = W.drewN m) :
 Calls Tryz.prog 84 #[.agg #[.int .i64 kd,.int .i64 rk,.string i,.string v,.float .f64 x,.int .i64 0,.int .u64 0,(.slice kp kl kl),.int .i64 0,.int .i64 at_],.agg #[.int .i64 kd,.int .i64 rk,.string i,.string v,.float .f64 x,.int .i64 0,.int .u64 0,(.slice kp kl kl),.int .i64 0,.int .i64 at_]] w fun e w' => e = .returned (.bool true) ∧ Below w.heap.size w w' := by
 have HKE := Aside0.mk hke
 clear hke
 go_enter Tryz.func84,Tryz.ntmps84
 go_upto_region 1 with fail
 obtain ⟨W1,ga,gb,hW_,hga,hgb,HXa,HXb,hb_⟩ := new2 w #[.int .i64 kd,.int .i64 rk,.string i,.string v,.float .f64 x,.int .i64 0,.int .u64 0,(.slice kp kl kl),.int .i64 0,.int .i64 at_] 63 #[.int .i64 kd,.int .i64 rk,.string i,.string v,.float .f64 x,.int .i64 0,.int .u64 0,(.slice kp kl kl),.int .i64 0,.int .i64 at_] 63
 rw [← hW_,← hgb.out,← hga.out]
 have HB := Aside0.mk hb_
 clear hW_ hb_
 refine st_ 8 (fun w' => w'.cell? ⟨ga,1,none⟩ = some (.int .i64 rk) ∧ w'.cell? ⟨ga,2,none⟩ = some (.string i) ∧ w'.cell? ⟨ga,3,none⟩ = some (.string v) ∧ w'.cell? ⟨ga,4,none⟩ = some (.float .f64 x) ∧ w'.cell? ⟨gb,1,none⟩ = some (.int .i64 rk) ∧ w'.cell? ⟨gb,2,none⟩ = some (.string i) ∧ w'.cell? ⟨gb,3,none⟩ = some (.string v) ∧ w'.cell? ⟨gb,4,none⟩ = some (.float .f64 x)) [] ⟨(cD HXa 1 rfl),(cD HXa 2 rfl),(cD HXa 3 rfl),(cD HXa 4 rfl),(cD HXb 1 rfl),(cD HXb 2 rfl),(cD HXb 3 rfl),(cD HXb 4 rfl)⟩ fun hHeld => ?_
 refine with_tabW same.tab1 same.bits1 (fun HT_ HW_ => ?_)
 replace HXa := mD HXa
 replace HXb := mD HXb
 replace HB := bD HB
 generalize W1.drew = wd1 at *
 refine pa_ 0 7 HT_ ?_
 refine pa_ 2 9 HT_ ?_
 refine ta_ 1 8 HT_ HW_ hHeld ?_
 refine ta_ 3 10 HT_ HW_ hHeld ?_
 refine jn_ (σ := Nat × Nat) 2 [6,2] (fun s_ => [(5,.pointer (some ⟨s_.1,0,none⟩)),(6,.pointer (some ⟨s_.2,0,none⟩))]) (fun s_ w' => w'.heap[s_.1]? = some (.cells #[.int .i64 0,.string { data := #[] },.string { data := #[] },.float .f64 0] 43 (0,0)) ∧ w'.heap[s_.2]? = some (.cells #[.int .i64 0,.string { data := #[] },.string { data := #[] },.float .f64 0] 43 (0,0)) ∧ s_.1 ≠ s_.2 ∧ w'.heap[ga]? = some (.cells #[.int .i64 kd,.int .i64 rk,.string i,.string v,.float .f64 x,.int .i64 0,.int .u64 0,(.slice kp kl kl),.int .i64 0,.int .i64 at_] 63 (0,0)) ∧ w'.heap[gb]? = some (.cells #[.int .i64 kd,.int .i64 rk,.string i,.string v,.float .f64 x,.int .i64 0,.int .u64 0,(.slice kp kl kl),.int .i64 0,.int .i64 at_] 63 (0,0)) ∧ Below w.heap.size w w' ∧ w.heap.size ≤ s_.1 ∧ w.heap.size ≤ s_.2) ?_ ?_
 rotate_left
 ·intro hCont
  refine tw_ 4 5 HT_ (fun K hK => ?_) fun K hK => ?_
  ·skip
   refine allocR_ #[.int .i64 0,.string { data := #[] },.string { data := #[] },.float .f64 0] 43 (by rfl) rfl (by first | (go_simp; done) | (go_simp; rfl)) ?_
   intro gx wf1 hge hxgx hb
   have HGgx : Aside0 (w.heap.size ≤ gx) := ⟨Nat.le_trans HB.out.size hge⟩
   have HXgx := Aside0.mk hxgx
   replace HXa := mb HXa hb
   replace HXb := mb HXb hb
   replace HB := mS HB hb
   clear hb hge hxgx
   refine hK.out _ _ ⟨(cL HXa 1 rfl),(cL HXa 2 rfl),(cL HXa 3 rfl),(cL HXa 4 rfl),(cL HXb 1 rfl),(cL HXb 2 rfl),(cL HXb 3 rfl),(cL HXb 4 rfl)⟩ (fun hHeld => ?_)
   clear hK K
   refine no_ 5 ?_
   refine on_ 5 HT_ fun K hK => ?_
   refine allocR_ #[.int .i64 0,.string { data := #[] },.string { data := #[] },.float .f64 0] 43 (by rfl) rfl (by first | (go_simp; done) | (go_simp; rfl)) ?_
   intro gy wf2 hge hxgy hb
   have HGgy : Aside0 (w.heap.size ≤ gy) := ⟨Nat.le_trans HB.out.size hge⟩
   have HN : Aside0 (gx ≠ gy) := ⟨new_ne HXgx.out hge⟩
   replace HXgx := mb HXgx hb
   have HXgy := Aside0.mk hxgy
   replace HXa := mb HXa hb
   replace HXb := mb HXb hb
   replace HB := mS HB hb
   clear hb hge hxgy
   refine hK.out _ _ ⟨(cL HXa 1 rfl),(cL HXa 2 rfl),(cL HXa 3 rfl),(cL HXa 4 rfl),(cL HXb 1 rfl),(cL HXb 2 rfl),(cL HXb 3 rfl),(cL HXb 4 rfl)⟩ (fun hHeld => ?_)
   clear hK K
   refine no_ 6 ?_
   exact nx_ (hCont (gx,gy) _ ⟨HXgx.out,HXgy.out,HN.out,HXa.out,HXb.out,HB.out,HGgx.out,HGgy.out⟩)
  ·skip
   refine allocR_ #[.int .i64 0,.string { data := #[] },.string { data := #[] },.float .f64 0] 43 (by rfl) rfl (by first | (go_simp; done) | (go_simp; rfl)) ?_
   intro gy wf1 hge hxgy hb
   have HGgy : Aside0 (w.heap.size ≤ gy) := ⟨Nat.le_trans HB.out.size hge⟩
   have HXgy := Aside0.mk hxgy
   replace HXa := mb HXa hb
   replace HXb := mb HXb hb
   replace HB := mS HB hb
   clear hb hge hxgy
   refine hK.out _ _ ⟨(cL HXa 1 rfl),(cL HXa 2 rfl),(cL HXa 3 rfl),(cL HXa 4 rfl),(cL HXb 1 rfl),(cL HXb 2 rfl),(cL HXb 3 rfl),(cL HXb 4 rfl)⟩ (fun hHeld => ?_)
   clear hK K
   refine no_ 6 ?_
   refine on_ 4 HT_ fun K hK => ?_
   refine allocR_ #[.int .i64 0,.string { data := #[] },.string { data := #[] },.float .f64 0] 43 (by rfl) rfl (by first | (go_simp; done) | (go_simp; rfl)) ?_
   intro gx wf2 hge hxgx hb
   have HGgx : Aside0 (w.heap.size ≤ gx) := ⟨Nat.le_trans HB.out.size hge⟩
   have HN : Aside0 (gx ≠ gy) := ⟨(new_ne HXgy.out hge).symm⟩
   replace HXgy := mb HXgy hb
   have HXgx := Aside0.mk hxgx
   replace HXa := mb HXa hb
   replace HXb := mb HXb hb
   replace HB := mS HB hb
   clear hb hge hxgx
   refine hK.out _ _ ⟨(cL HXa 1 rfl),(cL HXa 2 rfl),(cL HXa 3 rfl),(cL HXa 4 rfl),(cL HXb 1 rfl),(cL HXb 2 rfl),(cL HXb 3 rfl),(cL HXb 4 rfl)⟩ (fun hHeld => ?_)
   clear hK K
   refine no_ 5 ?_
   exact nx_ (hCont (gx,gy) _ ⟨HXgx.out,HXgy.out,HN.out,HXa.out,HXb.out,HB.out,HGgx.out,HGgy.out⟩)
 rintro ⟨gx,gy⟩ w3 ⟨h1,h2,h3,h4,h5,h6,h7,h8⟩
 dsimp only at h1 h2 h3 h7 h8
 clear HXa HXb HB
 have HXx := Aside0.mk h1
 have HXy := Aside0.mk h2
 have HN := Aside0.mk h3
 have HXa := Aside0.mk h4
 have HXb := Aside0.mk h5
 have HB := Aside0.mk h6
 have HGx := Aside0.mk h7
 have HGy := Aside0.mk h8
 clear h1 h2 h3 h4 h5 h6 h7 h8
 refine hd_ ⟨(cL HXa 1 rfl),(cL HXa 2 rfl),(cL HXa 3 rfl),(cL HXa 4 rfl),(cL HXb 1 rfl),(cL HXb 2 rfl),(cL HXb 3 rfl),(cL HXb 4 rfl)⟩ fun hHeld => ?_
 refine na_ ?_
 refine on_ 6 HT_ fun K hK => ?_
 refine sR_ 5 8 #[.int .i64 rk,.string i,.string v,.float .f64 x] HXx.out ?_
 obtain ⟨w4,hw_⟩ : ∃ w_,w_ = w3.setRow gx #[.int .i64 rk,.string i,.string v,.float .f64 x] := ⟨_,rfl⟩
 rw [← hw_]
 have q1 : Aside0 (w4.heap[gx]? = some (.cells #[.int .i64 rk,.string i,.string v,.float .f64 x] 43 (0,0))) := ⟨by rw [hw_]; exact setRow_heap _ _ _ _ _ _ HXx.out⟩
 have q2 : Aside0 (w4.heap[gy]? = some (.cells #[.int .i64 0,.string { data := #[] },.string { data := #[] },.float .f64 0] 43 (0,0))) := ⟨by rw [hw_]; exact mR _ HXy.out HN.out.symm⟩
 have q3 : Aside0 (w4.heap[ga]? = some (.cells #[.int .i64 kd,.int .i64 rk,.string i,.string v,.float .f64 x,.int .i64 0,.int .u64 0,(.slice kp kl kl),.int .i64 0,.int .i64 at_] 63 (0,0))) := ⟨by rw [hw_]; exact mR _ HXa.out (tne HXa.out HXx.out (by decide))⟩
 have q4 : Aside0 (w4.heap[gb]? = some (.cells #[.int .i64 kd,.int .i64 rk,.string i,.string v,.float .f64 x,.int .i64 0,.int .u64 0,(.slice kp kl kl),.int .i64 0,.int .i64 at_] 63 (0,0))) := ⟨by rw [hw_]; exact mR _ HXb.out (tne HXb.out HXx.out (by decide))⟩
 have q5 := Aside0.mk (show Below w.heap.size w w4 by rw [hw_]; exact below_setRow HB.out HGx.out _)
 clear hw_ HXx HXy HXa HXb HB
 have HXx := q1
 have HXy := q2
 have HXa := q3
 have HXb := q4
 have HB := q5
 clear q1 q2 q3 q4 q5
 refine hK.out _ _ ⟨(cL HXa 1 rfl),(cL HXa 2 rfl),(cL HXa 3 rfl),(cL HXa 4 rfl),(cL HXb 1 rfl),(cL HXb 2 rfl),(cL HXb 3 rfl),(cL HXb 4 rfl)⟩ (fun hHeld => ?_)
 clear hK K
 refine on_ 7 HT_ fun K hK => ?_
 refine sR_ 6 10 #[.int .i64 rk,.string i,.string v,.float .f64 x] HXy.out ?_
 obtain ⟨w5,hw_⟩ : ∃ w_,w_ = w4.setRow gy #[.int .i64 rk,.string i,.string v,.float .f64 x] := ⟨_,rfl⟩
 rw [← hw_]
 have q1 : Aside0 (w5.heap[gy]? = some (.cells #[.int .i64 rk,.string i,.string v,.float .f64 x] 43 (0,0))) := ⟨by rw [hw_]; exact setRow_heap _ _ _ _ _ _ HXy.out⟩
 have q2 : Aside0 (w5.heap[gx]? = some (.cells #[.int .i64 rk,.string i,.string v,.float .f64 x] 43 (0,0))) := ⟨by rw [hw_]; exact mR _ HXx.out HN.out⟩
 have q3 : Aside0 (w5.heap[ga]? = some (.cells #[.int .i64 kd,.int .i64 rk,.string i,.string v,.float .f64 x,.int .i64 0,.int .u64 0,(.slice kp kl kl),.int .i64 0,.int .i64 at_] 63 (0,0))) := ⟨by rw [hw_]; exact mR _ HXa.out (tne HXa.out HXy.out (by decide))⟩
 have q4 : Aside0 (w5.heap[gb]? = some (.cells #[.int .i64 kd,.int .i64 rk,.string i,.string v,.float .f64 x,.int .i64 0,.int .u64 0,(.slice kp kl kl),.int .i64 0,.int .i64 at_] 63 (0,0))) := ⟨by rw [hw_]; exact mR _ HXb.out (tne HXb.out HXy.out (by decide))⟩
 have q5 := Aside0.mk (show Below w.heap.size w w5 by rw [hw_]; exact below_setRow HB.out HGy.out _)
 clear hw_ HXx HXy HXa HXb HB
 have HXy := q1
 have HXx := q2
 have HXa := q3
 have HXb := q4
 have HB := q5
 clear q1 q2 q3 q4 q5
 refine hK.out _ _ ⟨(cL HXa 1 rfl),(cL HXa 2 rfl),(cL HXa 3 rfl),(cL HXa 4 rfl),(cL HXb 1 rfl),(cL HXb 2 rfl),(cL HXb 3 rfl),(cL HXb 4 rfl)⟩ (fun hHeld => ?_)
 clear hK K
 refine dn_ HT_ ?_
 clear HT_ HW_ hHeld
 have a0 : w5.cell? ⟨ga,0,none⟩ = some (.int .i64 kd) := cL HXa 0 rfl
 have a1 : w5.cell? ⟨ga,1,none⟩ = some (.int .i64 rk) := cL HXa 1 rfl
 have a2 : w5.cell? ⟨ga,2,none⟩ = some (.string i) := cL HXa 2 rfl
 have a3 : w5.cell? ⟨ga,3,none⟩ = some (.string v) := cL HXa 3 rfl
 have a4 : w5.cell? ⟨ga,4,none⟩ = some (.float .f64 x) := cL HXa 4 rfl
 have a5 : w5.cell? ⟨ga,5,none⟩ = some (.int .i64 0) := cL HXa 5 rfl
 have a6 : w5.cell? ⟨ga,6,none⟩ = some (.int .u64 0) := cL HXa 6 rfl
 have a7 : w5.cell? ⟨ga,7,none⟩ = some ((.slice kp kl kl)) := cL HXa 7 rfl
 have a8 : w5.cell? ⟨ga,8,none⟩ = some (.int .i64 0) := cL HXa 8 rfl
 have a9 : w5.cell? ⟨ga,9,none⟩ = some (.int .i64 at_) := cL HXa 9 rfl
 have b0 : w5.cell? ⟨gb,0,none⟩ = some (.int .i64 kd) := cL HXb 0 rfl
 have b1 : w5.cell? ⟨gb,1,none⟩ = some (.int .i64 rk) := cL HXb 1 rfl
 have b2 : w5.cell? ⟨gb,2,none⟩ = some (.string i) := cL HXb 2 rfl
 have b3 : w5.cell? ⟨gb,3,none⟩ = some (.string v) := cL HXb 3 rfl
 have b4 : w5.cell? ⟨gb,4,none⟩ = some (.float .f64 x) := cL HXb 4 rfl
 have b5 : w5.cell? ⟨gb,5,none⟩ = some (.int .i64 0) := cL HXb 5 rfl
 have b6 : w5.cell? ⟨gb,6,none⟩ = some (.int .u64 0) := cL HXb 6 rfl
 have b7 : w5.cell? ⟨gb,7,none⟩ = some ((.slice kp kl kl)) := cL HXb 7 rfl
 have b8 : w5.cell? ⟨gb,8,none⟩ = some (.int .i64 0) := cL HXb 8 rfl
 have b9 : w5.cell? ⟨gb,9,none⟩ = some (.int .i64 at_) := cL HXb 9 rfl
 have x0 : w5.cell? ⟨gx,0,none⟩ = some (.int .i64 rk) := cL HXx 0 rfl
 have x1 : w5.cell? ⟨gx,1,none⟩ = some (.string i) := cL HXx 1 rfl
 have x2 : w5.cell? ⟨gx,2,none⟩ = some (.string v) := cL HXx 2 rfl
 have x3 : w5.cell? ⟨gx,3,none⟩ = some (.float .f64 x) := cL HXx 3 rfl
 have y0 : w5.cell? ⟨gy,0,none⟩ = some (.int .i64 rk) := cL HXy 0 rfl
 have y1 : w5.cell? ⟨gy,1,none⟩ = some (.string i) := cL HXy 1 rfl
 have y2 : w5.cell? ⟨gy,2,none⟩ = some (.string v) := cL HXy 2 rfl
 have y3 : w5.cell? ⟨gy,3,none⟩ = some (.float .f64 x) := cL HXy 3 rfl
 go_wp2_with fail
 go_quiet (first | (go_at_call 132; refine Calls.quiet_of (HKE.out _ (below_drewN HB.out _))))
 go_wp2_with fail
 go_ret
 exact ⟨rfl,below_drewN HB.out _⟩
def right.T1 : Bool × List (List Nat × List Nat) := (true,[([],[]),([],[]),([1],[1]),([0,2,2],[0,2]),([3],[3])])
def right.B1 : List Nat := [0,0,2,7,15]
theorem right.tab1 : rtab .any (opsOf Tryz.f43 1) = right.T1 := by kernel_rfl
theorem right.bits1 : waitsOk right.T1.2 right.B1 = true := by kernel_rfl
theorem right_ask (rk : Int) (i v : ByteArray) (x : Nat) (w : World) (hr : 0 ≤ rk ∧ rk ≤ 255) (hi : i.size ≤ 255) (hv : v.size ≤ 255) :
 Calls Tryz.prog 43 #[.agg #[.int .i64 0,.int .i64 rk,.string i,.string v,.float .f64 x,.int .i64 0,.int .u64 0,.slice none 0 0,.int .i64 0,.int .i64 0]] w fun e w' => e = .returned (.bool true) ∧ Below w.heap.size w w' := by
 have HH := Aside0.mk hr
 have t1 : decide ((i.size : Int) ≤ 255) = true := decide_eq_true (by omega)
 have t2 : decide ((v.size : Int) ≤ 255) = true := decide_eq_true (by omega)
 have t3 : decide (i.size ≤ 255) = true := decide_eq_true hi
 have t4 : decide (v.size ≤ 255) = true := decide_eq_true hv
 clear hr hi hv
 go_enter Tryz.func43,Tryz.ntmps43
 go_upto_region 1 with fail
 obtain ⟨W1,g,hW_,hg,HX,hb_⟩ := new1 w #[.int .i64 0,.int .i64 rk,.string i,.string v,.float .f64 x,.int .i64 0,.int .u64 0,.slice none 0 0,.int .i64 0,.int .i64 0] 63
 rw [← hW_,← hg.out]
 have HB := Aside0.mk hb_
 clear hW_ hb_
 refine st_ 5 (fun w' => w'.cell? ⟨g,0,none⟩ = some (.int .i64 0) ∧ w'.cell? ⟨g,1,none⟩ = some (.int .i64 rk) ∧ w'.cell? ⟨g,2,none⟩ = some (.string i) ∧ w'.cell? ⟨g,3,none⟩ = some (.string v) ∧ w'.cell? ⟨g,4,none⟩ = some (.float .f64 x) ∧ w'.cell? ⟨g,5,none⟩ = some (.int .i64 0) ∧ w'.cell? ⟨g,6,none⟩ = some (.int .u64 0) ∧ w'.cell? ⟨g,7,none⟩ = some (.slice none 0 0) ∧ w'.cell? ⟨g,8,none⟩ = some (.int .i64 0) ∧ w'.cell? ⟨g,9,none⟩ = some (.int .i64 0)) [] ⟨(cD HX 0 rfl),(cD HX 1 rfl),(cD HX 2 rfl),(cD HX 3 rfl),(cD HX 4 rfl),(cD HX 5 rfl),(cD HX 6 rfl),(cD HX 7 rfl),(cD HX 8 rfl),(cD HX 9 rfl)⟩ fun hHeld => ?_
 refine with_tabW right.tab1 right.bits1 (fun HT_ HW_ => ?_)
 replace HX := mD HX
 replace HB := bD HB
 generalize W1.drew = wd1 at *
 refine ta_ 0 3 HT_ HW_ hHeld ?_
 refine ta_ 1 4 HT_ HW_ hHeld ?_
 refine on_ 2 HT_ fun K hK => ?_
 refine gc_ Tryz.func85 #[.agg #[.int .i64 0,.int .i64 rk,.string i,.string v,.float .f64 x,.int .i64 0,.int .u64 0,.slice none 0 0,.int .i64 0,.int .i64 0]] ?_
 with_reducible refine (only_ask rk i v x _).mono ?_
 rintro e_ w3 ⟨rfl,hb⟩
 refine ⟨_,rfl,?_⟩
 replace HX := mb HX hb
 replace HB := mS HB hb
 clear hb
 refine hK.out _ _ ⟨(cL HX 0 rfl),(cL HX 1 rfl),(cL HX 2 rfl),(cL HX 3 rfl),(cL HX 4 rfl),(cL HX 5 rfl),(cL HX 6 rfl),(cL HX 7 rfl),(cL HX 8 rfl),(cL HX 9 rfl)⟩ (fun hHeld => ?_)
 clear hK K
 refine no_ 5 ?_
 refine on_ 3 HT_ fun K hK => ?_
 refine gc_ Tryz.func84 #[.agg #[.int .i64 0,.int .i64 rk,.string i,.string v,.float .f64 x,.int .i64 0,.int .u64 0,.slice none 0 0,.int .i64 0,.int .i64 0],.agg #[.int .i64 0,.int .i64 rk,.string i,.string v,.float .f64 x,.int .i64 0,.int .u64 0,.slice none 0 0,.int .i64 0,.int .i64 0]] ?_
 with_reducible refine (same_calls 0 rk i v x none 0 0 _ (fun W _ => (eqnil_calls W).mono (fun e w' h => ⟨h.1,0,h.2.trans (World.drewN_zero W).symm⟩))).mono ?_
 rintro e_ w4 ⟨rfl,hb⟩
 refine ⟨_,rfl,?_⟩
 replace HX := mb HX hb
 replace HB := mS HB hb
 clear hb
 refine hK.out _ _ ⟨(cL HX 0 rfl),(cL HX 1 rfl),(cL HX 2 rfl),(cL HX 3 rfl),(cL HX 4 rfl),(cL HX 5 rfl),(cL HX 6 rfl),(cL HX 7 rfl),(cL HX 8 rfl),(cL HX 9 rfl)⟩ (fun hHeld => ?_)
 clear hK K
 refine no_ 6 ?_
 refine pa_ 4 7 HT_ ?_
 refine dn_ HT_ ?_
 clear HT_ HW_ hHeld
 have y0 : w4.cell? ⟨g,0,none⟩ = some (.int .i64 0) := cL HX 0 rfl
 have y1 : w4.cell? ⟨g,1,none⟩ = some (.int .i64 rk) := cL HX 1 rfl
 have y2 : w4.cell? ⟨g,2,none⟩ = some (.string i) := cL HX 2 rfl
 have y3 : w4.cell? ⟨g,3,none⟩ = some (.string v) := cL HX 3 rfl
 have y4 : w4.cell? ⟨g,4,none⟩ = some (.float .f64 x) := cL HX 4 rfl
 have y5 : w4.cell? ⟨g,5,none⟩ = some (.int .i64 0) := cL HX 5 rfl
 have y6 : w4.cell? ⟨g,6,none⟩ = some (.int .u64 0) := cL HX 6 rfl
 have y7 : w4.cell? ⟨g,7,none⟩ = some (.slice none 0 0) := cL HX 7 rfl
 have y8 : w4.cell? ⟨g,8,none⟩ = some (.int .i64 0) := cL HX 8 rfl
 have y9 : w4.cell? ⟨g,9,none⟩ = some (.int .i64 0) := cL HX 9 rfl
 go_wp2_with fail
 refine (swithin_calls _ _ _ HH.out.1 HH.out.2).mono ?_
 rintro e_ w2 ⟨rfl,rfl⟩
 go_wp2_with fail
 refine (swithin_calls 0 255 _ (by decide) (by decide)).mono ?_
 rintro e_ w2 ⟨rfl,rfl⟩
 go_wp2_with fail
 go_ret
 refine ⟨rfl,?_⟩
 first | exact HB.out | (rw [hg.out]; exact HB.out)
theorem right_sync  (w : World) :
 Calls Tryz.prog 43 #[.agg #[.int .i64 3,.int .i64 0,.string { data := #[] },.string { data := #[] },.float .f64 0,.int .i64 0,.int .u64 0,.slice none 0 0,.int .i64 0,.int .i64 0]] w fun e w' => e = .returned (.bool true) ∧ Below w.heap.size w w' := by
 go_enter Tryz.func43,Tryz.ntmps43
 go_upto_region 1 with fail
 obtain ⟨W1,g,hW_,hg,HX,hb_⟩ := new1 w #[.int .i64 3,.int .i64 0,.string { data := #[] },.string { data := #[] },.float .f64 0,.int .i64 0,.int .u64 0,.slice none 0 0,.int .i64 0,.int .i64 0] 63
 rw [← hW_,← hg.out]
 have HB := Aside0.mk hb_
 clear hW_ hb_
 refine st_ 5 (fun w' => w'.cell? ⟨g,0,none⟩ = some (.int .i64 3) ∧ w'.cell? ⟨g,1,none⟩ = some (.int .i64 0) ∧ w'.cell? ⟨g,2,none⟩ = some (.string { data := #[] }) ∧ w'.cell? ⟨g,3,none⟩ = some (.string { data := #[] }) ∧ w'.cell? ⟨g,4,none⟩ = some (.float .f64 0) ∧ w'.cell? ⟨g,5,none⟩ = some (.int .i64 0) ∧ w'.cell? ⟨g,6,none⟩ = some (.int .u64 0) ∧ w'.cell? ⟨g,7,none⟩ = some (.slice none 0 0) ∧ w'.cell? ⟨g,8,none⟩ = some (.int .i64 0) ∧ w'.cell? ⟨g,9,none⟩ = some (.int .i64 0)) [] ⟨(cD HX 0 rfl),(cD HX 1 rfl),(cD HX 2 rfl),(cD HX 3 rfl),(cD HX 4 rfl),(cD HX 5 rfl),(cD HX 6 rfl),(cD HX 7 rfl),(cD HX 8 rfl),(cD HX 9 rfl)⟩ fun hHeld => ?_
 refine with_tabW right.tab1 right.bits1 (fun HT_ HW_ => ?_)
 replace HX := mD HX
 replace HB := bD HB
 generalize W1.drew = wd1 at *
 refine ta_ 0 3 HT_ HW_ hHeld ?_
 refine ta_ 1 4 HT_ HW_ hHeld ?_
 refine on_ 2 HT_ fun K hK => ?_
 refine gc_ Tryz.func85 #[.agg #[.int .i64 3,.int .i64 0,.string { data := #[] },.string { data := #[] },.float .f64 0,.int .i64 0,.int .u64 0,.slice none 0 0,.int .i64 0,.int .i64 0]] ?_
 with_reducible refine (only_sync _).mono ?_
 rintro e_ w3 ⟨rfl,hb⟩
 refine ⟨_,rfl,?_⟩
 replace HX := mb HX hb
 replace HB := mS HB hb
 clear hb
 refine hK.out _ _ ⟨(cL HX 0 rfl),(cL HX 1 rfl),(cL HX 2 rfl),(cL HX 3 rfl),(cL HX 4 rfl),(cL HX 5 rfl),(cL HX 6 rfl),(cL HX 7 rfl),(cL HX 8 rfl),(cL HX 9 rfl)⟩ (fun hHeld => ?_)
 clear hK K
 refine no_ 5 ?_
 refine on_ 3 HT_ fun K hK => ?_
 refine gc_ Tryz.func84 #[.agg #[.int .i64 3,.int .i64 0,.string { data := #[] },.string { data := #[] },.float .f64 0,.int .i64 0,.int .u64 0,.slice none 0 0,.int .i64 0,.int .i64 0],.agg #[.int .i64 3,.int .i64 0,.string { data := #[] },.string { data := #[] },.float .f64 0,.int .i64 0,.int .u64 0,.slice none 0 0,.int .i64 0,.int .i64 0]] ?_
 with_reducible refine (same_calls 3 0 { data := #[] } { data := #[] } 0 none 0 0 _ (fun W _ => (eqnil_calls W).mono (fun e w' h => ⟨h.1,0,h.2.trans (World.drewN_zero W).symm⟩))).mono ?_
 rintro e_ w4 ⟨rfl,hb⟩
 refine ⟨_,rfl,?_⟩
 replace HX := mb HX hb
 replace HB := mS HB hb
 clear hb
 refine hK.out _ _ ⟨(cL HX 0 rfl),(cL HX 1 rfl),(cL HX 2 rfl),(cL HX 3 rfl),(cL HX 4 rfl),(cL HX 5 rfl),(cL HX 6 rfl),(cL HX 7 rfl),(cL HX 8 rfl),(cL HX 9 rfl)⟩ (fun hHeld => ?_)
 clear hK K
 refine no_ 6 ?_
 refine pa_ 4 7 HT_ ?_
 refine dn_ HT_ ?_
 clear HT_ HW_ hHeld
 have y0 : w4.cell? ⟨g,0,none⟩ = some (.int .i64 3) := cL HX 0 rfl
 have y1 : w4.cell? ⟨g,1,none⟩ = some (.int .i64 0) := cL HX 1 rfl
 have y2 : w4.cell? ⟨g,2,none⟩ = some (.string { data := #[] }) := cL HX 2 rfl
 have y3 : w4.cell? ⟨g,3,none⟩ = some (.string { data := #[] }) := cL HX 3 rfl
 have y4 : w4.cell? ⟨g,4,none⟩ = some (.float .f64 0) := cL HX 4 rfl
 have y5 : w4.cell? ⟨g,5,none⟩ = some (.int .i64 0) := cL HX 5 rfl
 have y6 : w4.cell? ⟨g,6,none⟩ = some (.int .u64 0) := cL HX 6 rfl
 have y7 : w4.cell? ⟨g,7,none⟩ = some (.slice none 0 0) := cL HX 7 rfl
 have y8 : w4.cell? ⟨g,8,none⟩ = some (.int .i64 0) := cL HX 8 rfl
 have y9 : w4.cell? ⟨g,9,none⟩ = some (.int .i64 0) := cL HX 9 rfl
 go_wp2_with fail
 go_ret
 refine ⟨rfl,?_⟩
 first | exact HB.out | (rw [hg.out]; exact HB.out)
theorem right_crash (kp : Option Addr) (kl : Nat) (at_ : Int) (w : World) (hl : kl ≤ 255) (ha : 0 ≤ at_ ∧ at_ ≤ 128) (hke : ∀ W,Below w.heap.size w W → Calls Tryz.prog 132 #[.slice kp kl kl,.slice kp kl kl] W fun e w' => e = .returned (.bool true) ∧ ∃ m,w' = W.drewN m) :
 Calls Tryz.prog 43 #[.agg #[.int .i64 5,.int .i64 0,.string { data := #[] },.string { data := #[] },.float .f64 0,.int .i64 0,.int .u64 0,(.slice kp kl kl),.int .i64 0,.int .i64 at_]] w fun e w' => e = .returned (.bool true) ∧ Below w.heap.size w w' := by
 have HH := Aside0.mk ha
 have HKE := Aside0.mk hke
 have t1 : decide ((kl : Int) ≤ 255) = true := decide_eq_true (by omega)
 have t3 : decide (kl ≤ 255) = true := decide_eq_true hl
 clear hl ha hke
 go_enter Tryz.func43,Tryz.ntmps43
 go_upto_region 1 with fail
 obtain ⟨W1,g,hW_,hg,HX,hb_⟩ := new1 w #[.int .i64 5,.int .i64 0,.string { data := #[] },.string { data := #[] },.float .f64 0,.int .i64 0,.int .u64 0,(.slice kp kl kl),.int .i64 0,.int .i64 at_] 63
 rw [← hW_,← hg.out]
 have HB := Aside0.mk hb_
 clear hW_ hb_
 refine st_ 5 (fun w' => w'.cell? ⟨g,0,none⟩ = some (.int .i64 5) ∧ w'.cell? ⟨g,1,none⟩ = some (.int .i64 0) ∧ w'.cell? ⟨g,2,none⟩ = some (.string { data := #[] }) ∧ w'.cell? ⟨g,3,none⟩ = some (.string { data := #[] }) ∧ w'.cell? ⟨g,4,none⟩ = some (.float .f64 0) ∧ w'.cell? ⟨g,5,none⟩ = some (.int .i64 0) ∧ w'.cell? ⟨g,6,none⟩ = some (.int .u64 0) ∧ w'.cell? ⟨g,7,none⟩ = some ((.slice kp kl kl)) ∧ w'.cell? ⟨g,8,none⟩ = some (.int .i64 0) ∧ w'.cell? ⟨g,9,none⟩ = some (.int .i64 at_)) [] ⟨(cD HX 0 rfl),(cD HX 1 rfl),(cD HX 2 rfl),(cD HX 3 rfl),(cD HX 4 rfl),(cD HX 5 rfl),(cD HX 6 rfl),(cD HX 7 rfl),(cD HX 8 rfl),(cD HX 9 rfl)⟩ fun hHeld => ?_
 refine with_tabW right.tab1 right.bits1 (fun HT_ HW_ => ?_)
 replace HX := mD HX
 replace HB := bD HB
 generalize W1.drew = wd1 at *
 refine ta_ 0 3 HT_ HW_ hHeld ?_
 refine ta_ 1 4 HT_ HW_ hHeld ?_
 refine on_ 2 HT_ fun K hK => ?_
 refine gc_ Tryz.func85 #[.agg #[.int .i64 5,.int .i64 0,.string { data := #[] },.string { data := #[] },.float .f64 0,.int .i64 0,.int .u64 0,(.slice kp kl kl),.int .i64 0,.int .i64 at_]] ?_
 with_reducible refine (only_crash kp kl at_ _).mono ?_
 rintro e_ w3 ⟨rfl,hb⟩
 refine ⟨_,rfl,?_⟩
 replace HX := mb HX hb
 replace HB := mS HB hb
 clear hb
 refine hK.out _ _ ⟨(cL HX 0 rfl),(cL HX 1 rfl),(cL HX 2 rfl),(cL HX 3 rfl),(cL HX 4 rfl),(cL HX 5 rfl),(cL HX 6 rfl),(cL HX 7 rfl),(cL HX 8 rfl),(cL HX 9 rfl)⟩ (fun hHeld => ?_)
 clear hK K
 refine no_ 5 ?_
 refine on_ 3 HT_ fun K hK => ?_
 refine gc_ Tryz.func84 #[.agg #[.int .i64 5,.int .i64 0,.string { data := #[] },.string { data := #[] },.float .f64 0,.int .i64 0,.int .u64 0,(.slice kp kl kl),.int .i64 0,.int .i64 at_],.agg #[.int .i64 5,.int .i64 0,.string { data := #[] },.string { data := #[] },.float .f64 0,.int .i64 0,.int .u64 0,(.slice kp kl kl),.int .i64 0,.int .i64 at_]] ?_
 with_reducible refine (same_calls 5 0 { data := #[] } { data := #[] } 0 kp kl at_ _ (fun W hW => HKE.out W (below_step HB.out hW))).mono ?_
 rintro e_ w4 ⟨rfl,hb⟩
 refine ⟨_,rfl,?_⟩
 replace HX := mb HX hb
 replace HB := mS HB hb
 clear hb
 refine hK.out _ _ ⟨(cL HX 0 rfl),(cL HX 1 rfl),(cL HX 2 rfl),(cL HX 3 rfl),(cL HX 4 rfl),(cL HX 5 rfl),(cL HX 6 rfl),(cL HX 7 rfl),(cL HX 8 rfl),(cL HX 9 rfl)⟩ (fun hHeld => ?_)
 clear hK K
 refine no_ 6 ?_
 refine pa_ 4 7 HT_ ?_
 refine dn_ HT_ ?_
 clear HT_ HW_ hHeld
 have y0 : w4.cell? ⟨g,0,none⟩ = some (.int .i64 5) := cL HX 0 rfl
 have y1 : w4.cell? ⟨g,1,none⟩ = some (.int .i64 0) := cL HX 1 rfl
 have y2 : w4.cell? ⟨g,2,none⟩ = some (.string { data := #[] }) := cL HX 2 rfl
 have y3 : w4.cell? ⟨g,3,none⟩ = some (.string { data := #[] }) := cL HX 3 rfl
 have y4 : w4.cell? ⟨g,4,none⟩ = some (.float .f64 0) := cL HX 4 rfl
 have y5 : w4.cell? ⟨g,5,none⟩ = some (.int .i64 0) := cL HX 5 rfl
 have y6 : w4.cell? ⟨g,6,none⟩ = some (.int .u64 0) := cL HX 6 rfl
 have y7 : w4.cell? ⟨g,7,none⟩ = some ((.slice kp kl kl)) := cL HX 7 rfl
 have y8 : w4.cell? ⟨g,8,none⟩ = some (.int .i64 0) := cL HX 8 rfl
 have y9 : w4.cell? ⟨g,9,none⟩ = some (.int .i64 at_) := cL HX 9 rfl
 go_wp2_with fail
 refine (swithin_calls 0 65535 _ (by decide) (by decide)).mono ?_
 rintro e_ w2 ⟨rfl,rfl⟩
 go_wp2_with fail
 refine (swithin_calls _ _ _ HH.out.1 HH.out.2).mono ?_
 rintro e_ w2 ⟨rfl,rfl⟩
 go_wp2_with fail
 go_ret
 refine ⟨rfl,?_⟩
 first | exact HB.out | (rw [hg.out]; exact HB.out)
end Go.Proofs.YtokfjbbjkiilmaaGreatDoor.H
namespace Go.Proofs.YtokfjbbjkiilmaaGreatDoor.H
open Go.RowKit Go.Proofs.YtokfjbbjkiilmaaGreatDoorW.PrintWords Go.Proofs.YtokfjbbjkiilmaaGreatDoorW.PrintLast Go.Proofs.YtokfjbbjkiilmaaGreatDoorW.PrintMore
theorem ba_ext {a b : ByteArray} (h : a.data.toList = b.data.toList) : a = b := by
 cases a; cases b
 simp only [ByteArray.mk.injEq]
 exact Array.toList_inj.1 h
theorem ba_app (a b : ByteArray) : (a ++ b).data.toList = a.data.toList ++ b.data.toList := by simp [ByteArray.data_append]
theorem ba_len (a : ByteArray) : a.data.toList.length = a.size := by simp
/-- The first n bytes of a text, and what is behind them. -/
def tk (s : ByteArray) (n : Nat) : ByteArray := s.extract 0 (min n s.size)
def dr (s : ByteArray) (n : Nat) : ByteArray := s.extract (min n s.size) s.size
theorem tk_list (s : ByteArray) (n : Nat) : (tk s n).data.toList = s.data.toList.take n := by
 unfold tk
 rw [ByteArray.data_extract,Array.toList_extract]
 simp [List.extract]
theorem dr_list (s : ByteArray) (n : Nat) : (dr s n).data.toList = s.data.toList.drop n := by
 unfold dr
 rw [ByteArray.data_extract,Array.toList_extract]
 simp only [List.extract,← ba_len]
 rcases Nat.le_total n s.data.toList.length with h | h
 ·rw [Nat.min_eq_left h,List.take_of_length_le (by simp)]
 ·rw [Nat.min_eq_right h,List.drop_eq_nil_of_le h]
  simp
theorem tk_app (a b : ByteArray) (n : Nat) (h : a.size = n) : tk (a ++ b) n = a := ba_ext (by rw [tk_list,ba_app,← h,← ba_len]; simp)
theorem dr_app (a b : ByteArray) (n : Nat) (h : a.size = n) : dr (a ++ b) n = b := ba_ext (by rw [dr_list,ba_app,← h,← ba_len]; simp)
theorem tk_size (s : ByteArray) (n : Nat) : (tk s n).size ≤ n := by rw [← ba_len,tk_list]; simp; omega
theorem sb_big (s : ByteArray) (j : Nat) (h : s.size ≤ j) : sb s j = 0 := by
 unfold sb
 rw [List.getD,List.getElem?_eq_none (by rw [ba_len]; exact h)]
 rfl
theorem acc_small (s : ByteArray) (k : Nat) (h : s.size ≤ k) : ∀ n,acc s (k + n) = acc s k
 | 0 => rfl
 | n + 1 => by
  show acc s (k + n) + sb s (k + n) * 256 ^ (k + n) = _
  rw [sb_big s _ (by omega),acc_small s k h n]
  simp
theorem acc_tk (s : ByteArray) (n : Nat) (h : n ≤ 8) : 0 ≤ acc (tk s n) 8 ∧ acc (tk s n) 8 < 256 ^ n := by
 rw [show (8 : Nat) = n + (8 - n) by omega,acc_small (tk s n) n (tk_size s n)]
 exact acc_lt _ _
theorem le_size (n : Int) (k : Nat) : (strOfNums (le n k)).size = k := by rw [strOfNums_size]; simp [le]
theorem sb_le (n : Int) (k j : Nat) (h : j < k) : sb (strOfNums (le n k)) j = byt n j := by
 unfold sb
 rw [strOfNums_data]
 have hl : ((le n k).map fun n => UInt8.ofNat n.toNat).getD j 0 = UInt8.ofNat (byt n j).toNat := by
  simp [le,h]
 rw [hl]
 have := byt_lt n j
 simp
 omega
theorem acc8 (n : Int) (hn : 0 ≤ n ∧ n < 18446744073709551616) : acc (strOfNums (le n 8)) 8 = n := by
 simp only [acc,sb_le n 8 _ (by decide : 0 < 8),sb_le n 8 _ (by decide : 1 < 8),sb_le n 8 _ (by decide : 2 < 8),sb_le n 8 _ (by decide : 3 < 8),sb_le n 8 _ (by decide : 4 < 8),sb_le n 8 _ (by decide : 5 < 8),sb_le n 8 _ (by decide : 6 < 8),sb_le n 8 _ (by decide : 7 < 8),byt]
 omega
theorem acc4 (n : Int) (hn : 0 ≤ n ∧ n < 4294967296) : acc (strOfNums (le n 4)) 8 = n := by
 rw [show (8 : Nat) = 4 + 4 from rfl,acc_small _ 4 (by rw [le_size]; exact Nat.le_refl _)]
 simp only [acc,sb_le n 4 _ (by decide : 0 < 4),sb_le n 4 _ (by decide : 1 < 4),sb_le n 4 _ (by decide : 2 < 4),sb_le n 4 _ (by decide : 3 < 4),byt]
 omega
theorem acc1 (n : Int) (hn : 0 ≤ n ∧ n < 256) : acc (strOfNums [n]) 8 = n := by
 rw [show (8 : Nat) = 1 + 7 from rfl,acc_small _ 1 (by rw [strOfNums_size]; exact Nat.le_refl _)]
 show 0 + sb _ 0 * 256 ^ 0 = n
 unfold sb
 rw [strOfNums_data]
 simp
 omega
/-- Zeros. -/
def zer (k : Nat) : ByteArray := ⟨(List.replicate k (0 : UInt8)).toArray⟩
theorem zer_size (k : Nat) : (zer k).size = k := by simp [zer,ByteArray.size]
/-- A record. -/
structure Rec where
 (lsn ep kd ver dl : Int) (id v : ByteArray)
def Rec.cells (r : Rec) : Array Value := #[.int .u64 r.lsn,.int .u32 r.ep,.int .i64 r.kd,.int .u64 r.ver,.int .u64 r.dl,.string r.id,.string r.v]
/-- Its first bytes, its bytes ahead of the sum, its sector. -/
def Rec.head (r : Rec) : ByteArray := strOfNums (le r.lsn 8) ++ strOfNums (le r.ep 4) ++ strOfNums [r.kd,(r.id.size : Int),(r.v.size : Int)] ++ strOfNums (le r.ver 8) ++ strOfNums (le r.dl 8) ++ r.id ++ r.v
def Rec.body (r : Rec) : ByteArray := r.head ++ zer (112 - r.head.size)
def Rec.enc (r : Rec) : ByteArray := r.body ++ strOfNums (le (crcSum r.body) 4) ++ strOfNums (le r.lsn 8) ++ strOfNums (le r.ep 4)
theorem Rec.head_size (r : Rec) : r.head.size = 31 + r.id.size + r.v.size := by
 unfold Rec.head
 simp only [ByteArray.size_append,strOfNums_size,le,List.length_map,List.length_range,List.length_cons,List.length_nil]
theorem Rec.body_size (r : Rec) (h : r.id.size + r.v.size ≤ 81) : r.body.size = 112 := by
 unfold Rec.body
 rw [ByteArray.size_append,zer_size,Rec.head_size]
 omega
theorem Rec.enc_size (r : Rec) (h : r.id.size + r.v.size ≤ 81) : r.enc.size = 128 := by
 unfold Rec.enc
 simp only [ByteArray.size_append,le_size,Rec.body_size r h]
/-- The record that a sector tells. -/
def decRec (s : ByteArray) : Rec :=
 let s1 := dr s 8; let s2 := dr s1 4; let s3 := dr s2 1; let s4 := dr s3 1; let s5 := dr s4 1; let s6 := dr s5 8; let s7 := dr s6 8
 let i := (acc (tk s3 1) 8).toNat
 ⟨acc (tk s 8) 8,acc (tk s1 4) 8,acc (tk s2 1) 8,acc (tk s5 8) 8,acc (tk s6 8) 8,tk s7 i,tk (dr s7 i) (acc (tk s4 1) 8).toNat⟩
/-- What a record's numbers may be. -/
structure Rec.ok (r : Rec) : Prop where
 lsn : 0 ≤ r.lsn ∧ r.lsn < 18446744073709551616
 ep : 0 ≤ r.ep ∧ r.ep < 4294967296
 kd : 0 ≤ r.kd ∧ r.kd < 256
 ver : 0 ≤ r.ver ∧ r.ver < 18446744073709551616
 dl : 0 ≤ r.dl ∧ r.dl < 18446744073709551616
 len : r.id.size + r.v.size ≤ 81
theorem nums_cons (n : Int) (l : List Int) : strOfNums (n :: l) = strOfNums [n] ++ strOfNums l := ba_ext (by rw [ba_app,strOfNums_data,strOfNums_data,strOfNums_data]; rfl)
theorem Rec.nest (r : Rec) (z x : ByteArray) : r.head ++ z ++ x ++ strOfNums (le r.lsn 8) ++ strOfNums (le r.ep 4) = strOfNums (le r.lsn 8) ++ (strOfNums (le r.ep 4) ++ (strOfNums [r.kd] ++ (strOfNums [(r.id.size : Int)] ++ (strOfNums [(r.v.size : Int)] ++ (strOfNums (le r.ver 8) ++ (strOfNums (le r.dl 8) ++ (r.id ++ (r.v ++ (z ++ (x ++ (strOfNums (le r.lsn 8) ++ strOfNums (le r.ep 4)))))))))))) := by
 unfold Rec.head
 rw [nums_cons r.kd,nums_cons (r.id.size : Int)]
 simp only [ByteArray.append_assoc]
theorem num1_size (n : Int) : (strOfNums [n]).size = 1 := strOfNums_size _
theorem decRec_enc (r : Rec) (h : r.ok) : decRec r.enc = r := by
 have e := r.nest (zer (112 - r.head.size)) (strOfNums (le (crcSum r.body) 4))
 have hl := h.len
 rw [show r.enc = _ from e]
 unfold decRec
 simp only [dr_app _ _ 8 (le_size _ _),tk_app _ _ 8 (le_size _ _),dr_app _ _ 4 (le_size _ _),tk_app _ _ 4 (le_size _ _),dr_app _ _ 1 (num1_size _),tk_app _ _ 1 (num1_size _),acc8 _ h.lsn,acc8 _ h.ver,acc8 _ h.dl,acc4 _ h.ep,acc1 _ h.kd,acc1 (r.id.size : Int) (by omega),acc1 (r.v.size : Int) (by omega),Int.toNat_natCast,tk_app r.id _ _ rfl,dr_app r.id _ _ rfl,tk_app r.v _ _ rfl]
theorem sb_app2 (a b : ByteArray) (j : Nat) : sb (a ++ b) (a.size + j) = sb b j := by
 unfold sb
 rw [ba_app,← ba_len,List.getD,List.getElem?_append_right (by omega),Nat.add_sub_cancel_left]
 rfl
theorem enc_tail (r : Rec) (h : r.id.size + r.v.size ≤ 81) (j : Nat) (hj : j < 4) : sb r.enc (124 + j) = byt r.ep j := by
 have e : 124 = (r.body ++ strOfNums (le (crcSum r.body) 4) ++ strOfNums (le r.lsn 8)).size := by
  simp only [ByteArray.size_append,le_size,Rec.body_size r h]
 rw [e]
 unfold Rec.enc
 rw [sb_app2,sb_le _ _ _ hj]
/-- A sector of which the first bytes were written over zeros. -/
def tornS (s : ByteArray) (k : Nat) : ByteArray := tk s k ++ zer (128 - k)
theorem torn_size (s : ByteArray) (k : Nat) (hs : s.size = 128) (hk : k ≤ 128) : (tornS s k).size = 128 := by
 unfold tornS
 rw [ByteArray.size_append,zer_size,← ba_len,tk_list]
 simp [hs]
 omega
theorem torn_124 (s : ByteArray) (k : Nat) (hs : s.size = 128) (hk : k ≤ 124) : sb (tornS s k) 124 = 0 := by
 have e : (tk s k).size = k := by rw [← ba_len,tk_list]; simp [hs]; omega
 have := sb_app2 (tk s k) (zer (128 - k)) (124 - k)
 rw [e,show k + (124 - k) = 124 by omega] at this
 unfold tornS
 rw [this]
 unfold sb zer
 simp
 rw [List.getElem?_replicate]
 split <;> rfl
theorem sb_zero {s : ByteArray} {j : Nat} (h : j < s.size) (hz : sb s j = 0) : s.data.toList[j]? = some 0 := by
 unfold sb at hz
 rw [← ba_len] at h
 rw [List.getD,List.getElem?_eq_getElem h] at hz
 rw [List.getElem?_eq_getElem h]
 simp only [Option.getD_some] at hz
 congr 1
 exact UInt8.toNat_inj.1 (by simpa using hz)
theorem torn_whole (s : ByteArray) (k : Nat) (hs : s.size = 128) (hk : 125 ≤ k ∧ k ≤ 128) (h0 : ∀ j,125 ≤ j → j < 128 → sb s j = 0) : tornS s k = s := by
 refine ba_ext ?_
 unfold tornS
 rw [ba_app,tk_list]
 refine List.ext_getElem? fun i => ?_
 have hl : s.data.toList.length = 128 := by rw [ba_len,hs]
 rcases Nat.lt_or_ge i k with h | h
 ·rw [List.getElem?_append_left (by simp [hs]; omega),List.getElem?_take_of_lt h]
 ·rcases Nat.lt_or_ge i 128 with h2 | h2
  ·rw [List.getElem?_append_right (by simp; omega),sb_zero (by omega) (h0 i (by omega) h2)]
   have e : (List.take k s.data.toList).length = k := by simp [hs]; omega
   rw [e]
   simp only [zer]
   rw [List.getElem?_replicate,if_pos (by omega)]
  ·have e : (List.take k s.data.toList).length = k := by simp [hs]; omega
   have e2 : (zer (128 - k)).data.toList.length = 128 - k := by rw [ba_len,zer_size]
   rw [List.getElem?_eq_none (by rw [List.length_append]; omega),List.getElem?_eq_none (by omega)]
theorem ex_list (s : ByteArray) (a b : Nat) : (s.extract a b).data.toList = (s.data.toList.drop a).take (b - a) := by
 rw [ByteArray.data_extract,Array.toList_extract]
theorem ex_mid (a b c : ByteArray) {i j : Nat} (hi : a.size = i) (hj : i + b.size = j) : (a ++ (b ++ c)).extract i j = b := ba_ext (by
 rw [ex_list,ba_app,ba_app,← hj,← hi,← ba_len,← ba_len]
 simp)
theorem sb_app1 (a b : ByteArray) (j : Nat) (h : j < a.size) : sb (a ++ b) j = sb a j := by
 unfold sb
 rw [← ba_len] at h
 rw [ba_app,List.getD,List.getElem?_append_left h]
 rfl
theorem sb_mid (a b c : ByteArray) {i j : Nat} (hi : a.size = i) (hj : j < b.size) : sb (a ++ (b ++ c)) (i + j) = sb b j := by
 rw [← hi,sb_app2,sb_app1 _ _ _ hj]
theorem acc_app (a b : ByteArray) : ∀ j,j ≤ a.size → acc (a ++ b) j = acc a j
 | 0,_ => rfl
 | j + 1,h => by
  show acc _ j + sb _ j * 256 ^ j = acc a j + sb a j * 256 ^ j
  rw [acc_app a b j (by omega),sb_app1 _ _ _ (by omega)]
theorem zer_app (a b : Nat) : zer (a + b) = zer a ++ zer b := ba_ext (by rw [ba_app]; simp only [zer]; rw [← List.replicate_append_replicate])
/-- A text, of which the bytes from a place on are other ones. -/
def ovr (s : ByteArray) (i : Nat) (x : ByteArray) : ByteArray := tk s i ++ (x ++ dr s (i + x.size))
theorem ovr_at (a m c x : ByteArray) {i : Nat} (hi : a.size = i) (hx : x.size = m.size) : ovr (a ++ (m ++ c)) i x = a ++ (x ++ c) := by
 unfold ovr
 rw [tk_app _ _ _ hi,hx,show a ++ (m ++ c) = (a ++ m) ++ c from ByteArray.append_assoc.symm,dr_app _ _ _ (by rw [ByteArray.size_append,hi])]
theorem ovr_size (s : ByteArray) (i : Nat) (x : ByteArray) (h : i + x.size ≤ s.size) : (ovr s i x).size = s.size := by
 unfold ovr
 simp only [ByteArray.size_append]
 rw [← ba_len (tk s i),← ba_len (dr s _),tk_list,dr_list]
 rw [← ba_len s] at *
 simp only [List.length_take,List.length_drop]
 omega
/-- A checkpoint's bytes ahead of the sum, and its sector. -/
def ckB (g e l v k : Int) : ByteArray := strOfNums (le g 8) ++ (strOfNums (le e 4) ++ (strOfNums (le l 8) ++ (strOfNums (le v 8) ++ (strOfNums [1,0,k] ++ zer 85))))
def ckS (g e l v k : Int) : ByteArray := ckB g e l v k ++ (strOfNums (le (crcSum (ckB g e l v k)) 4) ++ strOfNums (le g 8))
theorem ckB_size (g e l v k : Int) : (ckB g e l v k).size = 116 := by
 unfold ckB
 simp only [ByteArray.size_append,strOfNums_size,zer_size,le,List.length_map,List.length_range,List.length_cons,List.length_nil]
theorem ckS_size (g e l v k : Int) : (ckS g e l v k).size = 128 := by
 unfold ckS
 simp only [ByteArray.size_append,ckB_size,le_size]
theorem ckS_is (g e l v k : Int) : ckS g e l v k = strOfNums (le g 8) ++ (strOfNums (le e 4) ++ (strOfNums (le l 8) ++ (strOfNums (le v 8) ++ (strOfNums [1,0,k] ++ (zer 85 ++ (strOfNums (le (crcSum (ckB g e l v k)) 4) ++ strOfNums (le g 8))))))) := by
 have h : ∀ x,ckB g e l v k ++ x = strOfNums (le g 8) ++ (strOfNums (le e 4) ++ (strOfNums (le l 8) ++ (strOfNums (le v 8) ++ (strOfNums [1,0,k] ++ (zer 85 ++ x))))) := by
  intro x
  unfold ckB
  simp only [ByteArray.append_assoc]
 exact h _
theorem ck_gen (g e l v k : Int) (h : 0 ≤ g ∧ g < 18446744073709551616) : acc (ckS g e l v k) 8 = g := by
 rw [ckS_is,acc_app _ _ 8 (by rw [le_size]; exact Nat.le_refl _),acc8 g h]
theorem ck_ep (g e l v k : Int) : (ckS g e l v k).extract 8 12 = strOfNums (le e 4) := by
 rw [ckS_is]
 exact ex_mid _ _ _ (le_size _ _) (by rw [le_size])
theorem ck_lsn (g e l v k : Int) : (ckS g e l v k).extract 12 20 = strOfNums (le l 8) := by
 rw [ckS_is,← ByteArray.append_assoc]
 exact ex_mid _ _ _ (by simp only [ByteArray.size_append,le_size]) (by rw [le_size])
theorem ck_ver (g e l v k : Int) : (ckS g e l v k).extract 20 28 = strOfNums (le v 8) := by
 rw [ckS_is,← ByteArray.append_assoc,← ByteArray.append_assoc]
 exact ex_mid _ _ _ (by simp only [ByteArray.size_append,le_size]) (by rw [le_size])
theorem ck_at (g e l v k : Int) (j : Nat) (hj : j < 3) : sb (ckS g e l v k) (28 + j) = sb (strOfNums [1,0,k]) j := by
 rw [ckS_is,← ByteArray.append_assoc,← ByteArray.append_assoc,← ByteArray.append_assoc]
 exact sb_mid _ _ _ (by simp only [ByteArray.size_append,le_size]) (by rw [strOfNums_size]; exact hj)
theorem sb_num (l : List Int) (j : Nat) (n : Int) (h : l[j]? = some n) (hn : 0 ≤ n ∧ n < 256) : sb (strOfNums l) j = n := by
 unfold sb
 rw [strOfNums_data,List.getD,List.getElem?_map,h]
 simp
 omega
/-- The fields, laid over zeros one behind the other. -/
def ck1 (g : Int) := ovr (zer 128) 0 (strOfNums (le g 8))
def ck2 (g e : Int) := ovr (ck1 g) 8 (strOfNums (le e 4))
def ck3 (g e l : Int) := ovr (ck2 g e) 12 (strOfNums (le l 8))
def ck4 (g e l v : Int) := ovr (ck3 g e l) 20 (strOfNums (le v 8))
theorem ck4_is (g e l v : Int) : ck4 g e l v = strOfNums (le g 8) ++ (strOfNums (le e 4) ++ (strOfNums (le l 8) ++ (strOfNums (le v 8) ++ zer 100))) := by
 have h1 : ck1 g = strOfNums (le g 8) ++ zer 120 := by
  unfold ck1
  rw [show zer 128 = zer 0 ++ (zer 8 ++ zer 120) by rw [← zer_app,← zer_app],ovr_at (zer 0) (zer 8) (zer 120) _ (zer_size 0) (by rw [le_size,zer_size])]
  exact ba_ext (by rw [ba_app]; rfl)
 have h2 : ck2 g e = strOfNums (le g 8) ++ (strOfNums (le e 4) ++ zer 116) := by
  unfold ck2
  rw [h1,show zer 120 = zer 4 ++ zer 116 from zer_app 4 116,ovr_at _ _ _ _ (le_size _ _) (by rw [le_size,zer_size])]
 have h3 : ck3 g e l = strOfNums (le g 8) ++ (strOfNums (le e 4) ++ (strOfNums (le l 8) ++ zer 108)) := by
  unfold ck3
  rw [h2,show zer 116 = zer 8 ++ zer 108 from zer_app 8 108,← ByteArray.append_assoc,ovr_at _ _ _ _ (by simp only [ByteArray.size_append,le_size]) (by rw [le_size,zer_size]),ByteArray.append_assoc]
 unfold ck4
 rw [h3,show zer 108 = zer 8 ++ zer 100 from zer_app 8 100,← ByteArray.append_assoc,← ByteArray.append_assoc,ovr_at _ _ _ _ (by simp only [ByteArray.size_append,le_size]) (by rw [le_size,zer_size])]
 simp only [ByteArray.append_assoc]
/-- .. and the number of segments, a segment, how many it has; then the sum, and the number again. -/
def ck5 (g e l v k : Int) := strOfNums (le g 8) ++ (strOfNums (le e 4) ++ (strOfNums (le l 8) ++ (strOfNums (le v 8) ++ (strOfNums [1,0,k] ++ zer 97))))
theorem ck5_is (g e l v k : Int) : ck5 g e l v k = ckB g e l v k ++ zer 12 := by
 unfold ck5 ckB
 rw [show zer 97 = zer 85 ++ zer 12 from zer_app 85 12]
 simp only [ByteArray.append_assoc]
theorem ck5_last (g e l v k : Int) : ovr (ovr (ck5 g e l v k) 116 (strOfNums (le (crcSum (ckB g e l v k)) 4))) 120 (strOfNums (le g 8)) = ckS g e l v k := by
 rw [ck5_is,show zer 12 = zer 4 ++ zer 8 from zer_app 4 8,ovr_at _ _ _ _ (ckB_size ..) (by rw [le_size,zer_size]),show zer 8 = zer 8 ++ zer 0 from zer_app 8 0,← ByteArray.append_assoc,ovr_at _ _ _ _ (by simp only [ByteArray.size_append,le_size,ckB_size]) (by rw [le_size,zer_size])]
 unfold ckS
 have : ∀ a,a ++ zer 0 = a := fun a => ba_ext (by rw [ba_app]; simp [zer])
 rw [this,ByteArray.append_assoc]
end Go.Proofs.YtokfjbbjkiilmaaGreatDoor.H
namespace Go.Proofs.YtokfjbbjkiilmaaGreatDoor.H
open Go.RowKit Go.Proofs.YtokfjbbjkiilmaaGreatDoorW.PrintWords Go.Proofs.YtokfjbbjkiilmaaGreatDoorW.PrintLast Go.Proofs.YtokfjbbjkiilmaaGreatDoorW.PrintMore
set_option maxHeartbeats 8000000
set_option maxRecDepth 100000
attribute [local go_sem] max2_int min2_int min_two max_two
theorem empty_size {s : ByteArray} (h : s.toList.isEmpty = true) : s.size = 0 := by
 rw [← decide_eq_emptyBytes s] at h
 rw [of_decide_eq_true h]
 rfl
theorem idany_calls (s : ByteArray) (w : World) (hs : s.size ≤ 1000) :
 Calls Tryz.prog 115 #[.string s] w fun e w' => (e = .returned (.bool false) ∧ w' = w) ∨ (e = .returned (.bool true) ∧ w' = w ∧ s.size ≤ 16) := by
 go_enter Tryz.func115,Tryz.ntmps115
 go_wp2_with fail
 go_loopw [7] (fun v wr => (∃ i : Nat,i ≤ s.size ∧ v = .int .i64 (i : Int)) ∧ wr = w) (fun v _ => s.size - (intOf v).toNat)
 case atStart => exact ⟨⟨0,Nat.zero_le _,rfl⟩,rfl⟩
 case round =>
  obtain ⟨⟨i,hi,rfl⟩,rfl⟩ := hrel
  by_cases hlt : i < s.size
  ·have t0 : decide ((i : Int) < (s.size : Int)) = true := decide_eq_true (by omega)
   have hlt2 : ((i : Int) < (s.size : Int)) = True := eq_true (by omega)
   go_wp2_with fail
   all_goals first | (go_ret; exact .inl ⟨rfl,rfl⟩) | exact ⟨⟨⟨i + 1,by omega,congrArg _ (by omega : (i : Int) + 1 = ((i + 1 : Nat) : Int))⟩,trivial⟩,by simp [intOf]; omega⟩
  ·have t0 : decide ((i : Int) < (s.size : Int)) = false := decide_eq_false (by omega)
   have hlt2 : ((i : Int) < (s.size : Int)) = False := eq_false (by omega)
   rcases h2 : decide ((s.size : Int) ≤ 16) with _ | _
   all_goals rcases h1 : s.toList.isEmpty with _ | _
   all_goals go_wp2_with fail
   all_goals go_ret
   all_goals first | exact .inl ⟨rfl,rfl⟩ | exact .inr ⟨rfl,rfl,by have := of_decide_eq_true h2; omega⟩
theorem valany_calls (s : ByteArray) (w : World) :
 Calls Tryz.prog 116 #[.string s] w fun e w' => (e = .returned (.bool false) ∧ w' = w) ∨ (e = .returned (.bool true) ∧ w' = w ∧ s.size ≤ 64) := by
 rcases h2 : decide ((s.size : Int) ≤ 64) with _ | _
 ·go_enter Tryz.func116,Tryz.ntmps116
  go_wp2_with fail
  go_ret
  exact .inl ⟨rfl,rfl⟩
 ·go_enter Tryz.func116,Tryz.ntmps116
  go_wp2_with fail
  go_ret
  exact .inr ⟨rfl,rfl,by have := of_decide_eq_true h2; omega⟩
/-- What a record has that may be. -/
def Rec.may (r : Rec) : Prop := (1 ≤ r.kd ∧ r.kd ≤ 3) ∧ r.id.size ≤ 16 ∧ r.v.size ≤ 64
theorem rightany_calls (r : Rec) (w : World) (hs : r.id.size ≤ 1000 ∧ r.v.size ≤ 1000) :
 Calls Tryz.prog 227 #[.agg #[.int .u64 r.lsn,.int .u32 r.ep,.int .i64 r.kd,.int .u64 r.ver,.int .u64 r.dl,.string r.id,.string r.v]] w fun e w' => (e = .returned (.bool false) ∧ Below w.heap.size w w') ∨ (e = .returned (.bool true) ∧ Below w.heap.size w w' ∧ (1 ≤ r.kd ∧ r.kd ≤ 3) ∧ r.id.size ≤ 16 ∧ r.v.size ≤ 64) := by
 have HS := Aside0.mk hs
 clear hs
 go_enter Tryz.func227,Tryz.ntmps227
 go_upto_region 1 with fail
 obtain ⟨W1,g,hW_,hg,HX,hb_⟩ := new1 w #[.int .u64 r.lsn,.int .u32 r.ep,.int .i64 r.kd,.int .u64 r.ver,.int .u64 r.dl,.string r.id,.string r.v] 188
 rw [← hW_,← hg.out]
 have HB := Aside0.mk hb_
 clear hW_ hb_
 have y0 : W1.cell? ⟨g,0,none⟩ = some (.int .u64 r.lsn) := cL HX 0 rfl
 have y1 : W1.cell? ⟨g,1,none⟩ = some (.int .u32 r.ep) := cL HX 1 rfl
 have y2 : W1.cell? ⟨g,2,none⟩ = some (.int .i64 r.kd) := cL HX 2 rfl
 have y3 : W1.cell? ⟨g,3,none⟩ = some (.int .u64 r.ver) := cL HX 3 rfl
 have y4 : W1.cell? ⟨g,4,none⟩ = some (.int .u64 r.dl) := cL HX 4 rfl
 have y5 : W1.cell? ⟨g,5,none⟩ = some (.string r.id) := cL HX 5 rfl
 have y6 : W1.cell? ⟨g,6,none⟩ = some (.string r.v) := cL HX 6 rfl
 rcases h0 : (r.lsn == 0) with _ | _
 ·rcases h1 : (r.kd == 1) with _ | _
  ·rcases h2 : (r.kd == 2) with _ | _
   ·rcases h3 : (r.kd == 3) with _ | _
    ·go_wp2_with fail
     go_ret
     exact .inl ⟨rfl,HB.out⟩
    ·have HK : Aside0 (1 ≤ r.kd ∧ r.kd ≤ 3) := ⟨by have := eq_of_beq h3; omega⟩
     rcases h0 : r.id.toList.isEmpty with _ | _
     ·go_wp2_with fail
      go_ret
      exact .inl ⟨rfl,HB.out⟩
     ·have HI : Aside0 (r.id.size ≤ 16) := ⟨by rw [empty_size h0]; decide⟩
      rcases h1 : r.v.toList.isEmpty with _ | _
      ·go_wp2_with fail
       go_ret
       exact .inl ⟨rfl,HB.out⟩
      ·have HV : Aside0 (r.v.size ≤ 64) := ⟨by rw [empty_size h1]; decide⟩
       rcases h2 : (r.ver == 0) with _ | _
       ·go_wp2_with fail
        go_ret
        exact .inl ⟨rfl,HB.out⟩
       ·rcases h3 : decide (r.dl < 16) with _ | _
        ·go_wp2_with fail
         go_ret
         exact .inl ⟨rfl,HB.out⟩
        ·go_wp2_with fail
         go_ret
         exact .inr ⟨rfl,HB.out,HK.out,HI.out,HV.out⟩
   ·have HK : Aside0 (1 ≤ r.kd ∧ r.kd ≤ 3) := ⟨by have := eq_of_beq h2; omega⟩
    go_wp2_with fail
    refine (idany_calls r.id _ HS.out.1).mono ?_
    rintro e_ w2 (⟨rfl,rfl⟩ | ⟨rfl,rfl,hid⟩)
    ·go_wp2_with fail
     go_ret
     exact .inl ⟨rfl,HB.out⟩
    ·have HI := Aside0.mk hid
     clear hid
     rcases h1 : r.v.toList.isEmpty with _ | _
     ·go_wp2_with fail
      go_ret
      exact .inl ⟨rfl,HB.out⟩
     ·have HV : Aside0 (r.v.size ≤ 64) := ⟨by rw [empty_size h1]; decide⟩
      rcases h2 : (r.dl == 0) with _ | _
      ·go_wp2_with fail
       go_ret
       exact .inl ⟨rfl,HB.out⟩
      ·go_wp2_with fail
       go_ret
       exact .inr ⟨rfl,HB.out,HK.out,HI.out,HV.out⟩
  ·have HK : Aside0 (1 ≤ r.kd ∧ r.kd ≤ 3) := ⟨by have := eq_of_beq h1; omega⟩
   go_wp2_with fail
   refine (idany_calls r.id _ HS.out.1).mono ?_
   rintro e_ w2 (⟨rfl,rfl⟩ | ⟨rfl,rfl,hid⟩)
   ·go_wp2_with fail
    go_ret
    exact .inl ⟨rfl,HB.out⟩
   ·have HI := Aside0.mk hid
    clear hid
    go_wp2_with fail
    refine (valany_calls r.v _).mono ?_
    rintro e_ w3 (⟨rfl,rfl⟩ | ⟨rfl,rfl,hv⟩)
    ·go_wp2_with fail
     go_ret
     exact .inl ⟨rfl,HB.out⟩
    ·have HV := Aside0.mk hv
     clear hv
     go_wp2_with fail
     go_ret
     exact .inr ⟨rfl,HB.out,HK.out,HI.out,HV.out⟩
 ·go_wp2_with fail
  go_ret
  exact .inl ⟨rfl,HB.out⟩
theorem rightlive_calls (lsn ep ver dl : Int) (v : ByteArray) (w : World) (hl : lsn ≠ 0) (hv : v.size ≤ 64) :
 Calls Tryz.prog 227 #[.agg #[.int .u64 lsn,.int .u32 ep,.int .i64 1,.int .u64 ver,.int .u64 dl,.string idA,.string v]] w fun e w' => e = .returned (.bool true) ∧ Below w.heap.size w w' := by
 have HV := Aside0.mk hv
 have h0 : (lsn == 0) = false := by simp; omega
 clear hv hl
 go_enter Tryz.func227,Tryz.ntmps227
 go_upto_region 1 with fail
 obtain ⟨W1,g,hW_,hg,HX,hb_⟩ := new1 w #[.int .u64 lsn,.int .u32 ep,.int .i64 1,.int .u64 ver,.int .u64 dl,.string idA,.string v] 188
 rw [← hW_,← hg.out]
 have HB := Aside0.mk hb_
 clear hW_ hb_
 have y0 : W1.cell? ⟨g,0,none⟩ = some (.int .u64 lsn) := cL HX 0 rfl
 have y1 : W1.cell? ⟨g,1,none⟩ = some (.int .u32 ep) := cL HX 1 rfl
 have y2 : W1.cell? ⟨g,2,none⟩ = some (.int .i64 1) := cL HX 2 rfl
 have y3 : W1.cell? ⟨g,3,none⟩ = some (.int .u64 ver) := cL HX 3 rfl
 have y4 : W1.cell? ⟨g,4,none⟩ = some (.int .u64 dl) := cL HX 4 rfl
 have y5 : W1.cell? ⟨g,5,none⟩ = some (.string idA) := cL HX 5 rfl
 have y6 : W1.cell? ⟨g,6,none⟩ = some (.string v) := cL HX 6 rfl
 go_wp2_with fail
 refine (id_calls _).mono ?_
 rintro e_ w2 ⟨rfl,rfl⟩
 go_wp2_with fail
 refine (value_calls v _ HV.out).mono ?_
 rintro e_ w2 ⟨rfl,rfl⟩
 go_wp2_with fail
 go_ret
 exact ⟨rfl,HB.out⟩
end Go.Proofs.YtokfjbbjkiilmaaGreatDoor.H
