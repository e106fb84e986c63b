/-
TopTorn: part of its walk (Fl, Ck, Pl).
-/
import Derived.Test.YtokfjbbjkiilmaaGreatDoorTA
import Derived.Laws.Externs
import Derived.Laws.FloatArith
set_option linter.unusedVariables false
set_option linter.unusedSimpArgs false
namespace Go.Proofs.YtokfjbbjkiilmaaGreatDoor.H
open Go.RowKit Go.Proofs.YtokfjbbjkiilmaaGreatDoorW.PrintWords Go.Proofs.YtokfjbbjkiilmaaGreatDoorW.PrintLast Go.Proofs.YtokfjbbjkiilmaaGreatDoorW.PrintMore
attribute [local go_sem] max2_int min2_int min_two max_two
theorem run180 (x y : Int) (hx : 0 ≤ x) (hy : 0 ≤ y) (w : World) : (callFunc 180 #[.int .u64 x,.int .u64 y,.int .u64 0]).run Tryz.prog w = .ok (.value (.tuple #[.int .u64 ((x + y + 0) % 18446744073709551616),.int .u64 ((x + y + 0) / 18446744073709551616)])) w := by
 rw [run_callFunc_extern Tryz.func180 (by kernel_rfl) (by kernel_rfl) (by kernel_rfl) (e := add64Entry) (by kernel_rfl) _ w,run_add64 x y 0 hx hy (by decide) (by decide) w]
 rfl
/-- The numbers that are met: 1, 4, 5, 99. -/
def met (x : Nat) : Prop := x = 4607182418800017408 ∨ x = 4616189618054758400 ∨ x = 4617315517961601024 ∨ x = 4636666922610458624
theorem met_eq {x : Nat} (h : met x) : (FloatKind.f64.format.order x x != some .eq) = false := by
 rcases h with rfl | rfl | rfl | rfl <;> kernel_rfl
set_option maxHeartbeats 4000000 in
set_option maxRecDepth 100000 in
theorem isnan_calls (x : Nat) (w : World) (hx : met x) : Calls Tryz.prog 175 #[.float .f64 x] w fun e w' => e = .returned (.bool false) ∧ w' = w := by
 have h1 := met_eq hx
 clear hx
 go_enter Tryz.func175,Tryz.ntmps175
 go_wp2_with fail
 go_ret
 exact ⟨rfl,rfl⟩
set_option maxHeartbeats 4000000 in
set_option maxRecDepth 100000 in
theorem add_calls (x y : Int) (w : World) (hx : 0 ≤ x) (hy : 0 ≤ y) (hxy : x + y < 18446744073709551616) : Calls Tryz.prog 127 #[.int .u64 x,.int .u64 y] w fun e w' => e = .returned (.tuple #[.int .u64 (x + y),.bool false]) ∧ w' = w := by
 have hc := run180 x y hx hy w
 have h1 : (x + y + 0) % 18446744073709551616 = x + y := by omega
 have h2 : (x + y + 0) / 18446744073709551616 = 0 := by omega
 rw [h1,h2] at hc
 clear hx hy hxy h1 h2
 go_enter Tryz.func127,Tryz.ntmps127
 go_wp2_with fail
 exact ret2 rfl rfl ⟨rfl,rfl⟩
set_option maxHeartbeats 4000000 in
theorem later_calls (x y : Int) (w : World) (hx : 0 ≤ x) (hy : 0 ≤ y) (hxy : x + y < 18446744073709551616) : Calls Tryz.prog 66 #[.int .u64 x,.int .u64 y] w fun e w' => e = .returned (.int .u64 (x + y)) ∧ w' = w := by
 have H := Aside0.mk (⟨hx,hy,hxy⟩ : 0 ≤ x ∧ 0 ≤ y ∧ x + y < 18446744073709551616)
 clear hx hy hxy
 go_enter Tryz.func66,Tryz.ntmps66
 go_wp2_with fail
 refine (add_calls _ _ _ H.out.1 H.out.2.1 H.out.2.2).mono ?_
 rintro e_ w2 ⟨rfl,rfl⟩
 go_wp2_with fail
 go_ret
 exact ⟨rfl,rfl⟩
theorem run178 (x : Nat) (hx : met x) (w : World) : (callFunc 178 #[.float .f64 x]).run Tryz.prog w = .ok (.value (.float .f64 x)) w := by
 rw [run_callFunc_extern Tryz.func178 (by kernel_rfl) (by kernel_rfl) (by kernel_rfl) (e := Extern.MathFloor.toIntegral "math.archFloor" .down) (by kernel_rfl) _ w]
 rcases hx with rfl | rfl | rfl | rfl <;> kernel_rfl
set_option maxHeartbeats 4000000 in
set_option maxRecDepth 100000 in
theorem floor_calls (x : Nat) (w : World) (hx : met x) : Calls Tryz.prog 126 #[.float .f64 x] w fun e w' => e = .returned (.float .f64 x) ∧ w' = w := by
 have hc := run178 x hx w
 clear hx
 go_enter Tryz.func126,Tryz.ntmps126
 go_wp2_with fail
 go_ret
 exact ⟨rfl,rfl⟩
set_option maxHeartbeats 4000000 in
set_option maxRecDepth 100000 in
theorem isinf_calls (x : Nat) (n : Int) (w : World) (hx : met x) (hn : n = 1 ∨ n = -1) : Calls Tryz.prog 176 #[.float .f64 x,.int .i64 n] w fun e w' => e = .returned (.bool false) ∧ w' = w := by
 rcases hn with rfl | rfl
 ·have h1 : (FloatKind.f64.format.order x 9218868437227405311 == some .gt) = false := by rcases hx with rfl | rfl | rfl | rfl <;> kernel_rfl
  clear hx
  go_enter Tryz.func176,Tryz.ntmps176
  go_wp2_with fail
  go_ret
  exact ⟨rfl,rfl⟩
 ·have hc : ∀ w : World,(Op.unary .neg (.float .f64 x)).run Tryz.prog w = .ok (.float .f64 (x + 9223372036854775808)) w := by intro w; rcases hx with rfl | rfl | rfl | rfl <;> kernel_rfl
  have h1 : (FloatKind.f64.format.order (x + 9223372036854775808) 9218868437227405311 == some .gt) = false := by rcases hx with rfl | rfl | rfl | rfl <;> kernel_rfl
  clear hx
  go_enter Tryz.func176,Tryz.ntmps176
  go_wp2_with fail
  go_ret
  exact ⟨rfl,rfl⟩
set_option maxHeartbeats 4000000 in
set_option maxRecDepth 100000 in
theorem kind_calls (x : Nat) (w : World) (hx : met x) : Calls Tryz.prog 125 #[.float .f64 x] w fun e w' => e = .returned (.int .i64 5) ∧ w' = w := by
 have h1 : (FloatKind.f64.format.order x 0 == some .lt) = false := by rcases hx with rfl | rfl | rfl | rfl <;> kernel_rfl
 have h2 : (FloatKind.f64.format.order x 0 == some .gt) = true := by rcases hx with rfl | rfl | rfl | rfl <;> kernel_rfl
 have H := Aside0.mk hx
 clear hx
 go_enter Tryz.func125,Tryz.ntmps125
 go_wp2_with fail
 refine (isnan_calls x _ H.out).mono ?_
 rintro e_ w2 ⟨rfl,rfl⟩
 go_wp2_with fail
 refine (isinf_calls x (-1) _ H.out (.inr rfl)).mono ?_
 rintro e_ w2 ⟨rfl,rfl⟩
 go_wp2_with fail
 refine (isinf_calls x 1 _ H.out (.inl rfl)).mono ?_
 rintro e_ w2 ⟨rfl,rfl⟩
 go_wp2_with fail
 go_ret
 exact ⟨rfl,rfl⟩
/-- A time's ticks. -/
def tick (x : Nat) : Int := if x = 4607182418800017408 then 1 else if x = 4616189618054758400 then 4 else if x = 4617315517961601024 then 5 else 99
theorem tick_to {x : Nat} (h : met x) (k : IntKind) (hk : k = .u64 ∨ k = .i64) : floatToIntVal .f64 x k = some (tick x) := by
 rcases hk with rfl | rfl <;> rcases h with rfl | rfl | rfl | rfl <;> kernel_rfl
set_option maxHeartbeats 4000000 in
set_option maxRecDepth 100000 in
theorem ticks_calls (x : Nat) (w : World) (hx : met x) : Calls Tryz.prog 65 #[.float .f64 x] w fun e w' => e = .returned (.tuple #[.int .u64 (tick x),.int .i64 0]) ∧ w' = w := by
 have h1 : (FloatKind.f64.format.order x 4607182418800017408 == some .lt) = false := by rcases hx with rfl | rfl | rfl | rfl <;> kernel_rfl
 have h2 : (FloatKind.f64.format.order x 4895412794951729152 == some .gt) = false := by rcases hx with rfl | rfl | rfl | rfl <;> kernel_rfl
 have h3 : (FloatKind.f64.format.order x 4895412794951729152 == some .eq) = false := by rcases hx with rfl | rfl | rfl | rfl <;> kernel_rfl
 have hc : ∀ w : World,(convert 22 35 (.float .f64 x)).run Tryz.prog w = .ok (.int .u64 (tick x)) w := fun w => run_convert_float_int w 22 35 .f64 .u64 x _ (by kernel_rfl) (by kernel_rfl) (tick_to hx _ (.inl rfl))
 have H := Aside0.mk hx
 clear hx
 go_enter Tryz.func65,Tryz.ntmps65
 go_wp2_with fail
 refine (kind_calls x _ H.out).mono ?_
 rintro e_ w2 ⟨rfl,rfl⟩
 go_wp2_with fail
 refine (floor_calls x _ H.out).mono ?_
 rintro e_ w2 ⟨rfl,rfl⟩
 go_wp2_with fail
 exact ret2 rfl rfl ⟨rfl,rfl⟩
set_option maxHeartbeats 4000000 in
set_option maxRecDepth 100000 in
/-- The share 1 of 1, and of 4. -/
theorem share_calls (n : Int) (w : World) (hn : n = 1 ∨ n = 4) : Calls Tryz.prog 83 #[.float .f64 4607182418800017408,.int .i64 n] w fun e w' => e = .returned (.tuple #[.int .i64 n,.int .i64 0]) ∧ w' = w := by
 obtain ⟨x,hx,hf,ht⟩ : ∃ x : Nat,met x ∧ floatOfInt .f64 n = x ∧ tick x = n := by
  rcases hn with rfl | rfl
  ·exact ⟨4607182418800017408,.inl rfl,by kernel_rfl,rfl⟩
  ·exact ⟨4616189618054758400,.inr (.inl rfl),by kernel_rfl,rfl⟩
 have h1 : (FloatKind.f64.format.order 4607182418800017408 4607182418800017408 == some .gt) = false := by kernel_rfl
 have h2 : decide (n < 0) = false := by rcases hn with rfl | rfl <;> rfl
 have h3 : decide (100000 < n) = false := by rcases hn with rfl | rfl <;> rfl
 have hm : ∀ w : World,(binOp .mul 22 (.float .f64 4607182418800017408) (.float .f64 x)).run Tryz.prog w = .ok (.float .f64 x) w := fun w => run_float_arith w .mul 22 .f64 _ x x (by rcases hx with rfl | rfl | rfl | rfl <;> kernel_rfl)
 have hc : ∀ w : World,(convert 22 3 (.float .f64 x)).run Tryz.prog w = .ok (.int .i64 n) w := fun w => by rw [← ht]; exact run_convert_float_int w 22 3 .f64 .i64 x _ (by kernel_rfl) (by kernel_rfl) (tick_to hx _ (.inr rfl))
 have H := Aside0.mk hx
 clear hx ht hn
 go_enter Tryz.func83,Tryz.ntmps83
 go_wp2_with fail
 refine (kind_calls _ _ (.inl rfl)).mono ?_
 rintro e_ w2 ⟨rfl,rfl⟩
 go_wp2_with fail
 refine (floor_calls x _ H.out).mono ?_
 rintro e_ w2 ⟨rfl,rfl⟩
 go_wp2_with fail
 exact ret2 rfl rfl ⟨rfl,rfl⟩
end Go.Proofs.YtokfjbbjkiilmaaGreatDoor.H
namespace Go.Proofs.YtokfjbbjkiilmaaGreatDoor.H
open Go.RowKit Go.Proofs.YtokfjbbjkiilmaaGreatDoorW.PrintWords Go.Proofs.YtokfjbbjkiilmaaGreatDoorW.PrintLast Go.Proofs.YtokfjbbjkiilmaaGreatDoorW.PrintMore
set_option maxHeartbeats 8000000
set_option maxRecDepth 100000
attribute [local go_sem] max2_int min2_int min_two max_two
/-- The conf: 4 segments of 2, share 1, rate 0. -/
def cnf : Array Value := #[.int .i64 4,.int .i64 2,.float .f64 4607182418800017408,.int .i64 0]
theorem conf0_calls (w : World) :
 Calls Tryz.prog 80 #[.agg cnf] w fun e w' => e = .returned (.int .i64 4) ∧ Below w.heap.size w w' := by
 unfold cnf
 go_enter Tryz.func80,Tryz.ntmps80
 go_wp2_with fail
 go_ret
 exact ⟨rfl,below_alloc (Below.refl _ _) _⟩
theorem conf1_calls (w : World) :
 Calls Tryz.prog 81 #[.agg cnf] w fun e w' => e = .returned (.int .i64 2) ∧ Below w.heap.size w w' := by
 unfold cnf
 go_enter Tryz.func81,Tryz.ntmps81
 go_wp2_with fail
 go_ret
 exact ⟨rfl,below_alloc (Below.refl _ _) _⟩
theorem conf2_calls (w : World) :
 Calls Tryz.prog 82 #[.agg cnf] w fun e w' => e = .returned (.int .i64 0) ∧ Below w.heap.size w w' := by
 unfold cnf
 go_enter Tryz.func82,Tryz.ntmps82
 go_wp2_with fail
 go_ret
 exact ⟨rfl,below_alloc (Below.refl _ _) _⟩
def wrong.T1 : Bool × List (List Nat × List Nat) := (true,[([],[]),([0],[0]),([],[]),([1,2],[1,2]),([],[]),([4],[4]),([3,5],[3,5]),([6,3],[6]),([7],[7]),([8,7],[7,8]),([7],[7]),([9,10,7,7],[7,9,10]),([7],[7]),([12,7],[7,12]),([11,13,7],[7,11,13]),([7,14],[7,14]),([15,11,0,1,2,3,4,5,6,7,8,9,10,11,12,13,14,15],[15])])
def wrong.B1 : List Nat := [0,1,0,7,0,16,63,127,255,511,255,2047,255,4351,16383,32767,65535]
theorem wrong.tab1 : rtab .any (opsOf Tryz.f79 1) = wrong.T1 := by kernel_rfl
theorem wrong.bits1 : waitsOk wrong.T1.2 wrong.B1 = true := by kernel_rfl
theorem wrong0_calls (w : World) (g : Nat) (hg : w.heap[g]? = some (.cells cnf 24 (0,0))) :
 Calls Tryz.prog 79 #[.agg #[.func (.func 80) #[] #[],.int .i64 4,.int .i64 16],.pointer (some ⟨g,0,none⟩)] w fun e w' => e = .returned (.bool false) ∧ Below w.heap.size w w' := by
 have HX : Aside0 (w.heap[g]? = some (.cells #[.int .i64 4,.int .i64 2,.float .f64 4607182418800017408,.int .i64 0] 24 (0,0))) := ⟨hg⟩
 clear hg
 go_enter Tryz.func79,Tryz.ntmps79
 go_wp2_with fail
 obtain ⟨W1,hW1⟩ : ∃ W1,W1 = w.alloc (.cells #[.func (.func 80) #[] #[],.int .i64 4,.int .i64 16] 146) := ⟨_,rfl⟩
 rw [← hW1]
 obtain ⟨g2,hg2⟩ : ∃ g,g = w.heap.size := ⟨_,rfl⟩
 replace HX : Aside0 (W1.heap[g]? = some (.cells #[.int .i64 4,.int .i64 2,.float .f64 4607182418800017408,.int .i64 0] 24 (0,0))) := ⟨by rw [hW1]; exact blk_alloc HX.out _⟩
 have HF : Aside0 (W1.heap[g2]? = some (.cells #[.func (.func 80) #[] #[],.int .i64 4,.int .i64 16] 146 (0,0))) := ⟨by rw [hW1,hg2]; exact blk_new _ _⟩
 have HB : Aside0 (Below w.heap.size w W1) := ⟨by rw [hW1]; exact below_alloc (Below.refl _ _) _⟩
 rw [← hg2]
 clear hW1 hg2
 have t1 : decide ((4 : Int) < 4) = false := by decide
 have t2 : decide ((16 : Int) < 4) = false := by decide
 refine st_ 17 (fun w' => w'.cell? ⟨g,0,none⟩ = some (.int .i64 4) ∧ w'.cell? ⟨g,1,none⟩ = some (.int .i64 2) ∧ w'.cell? ⟨g,2,none⟩ = some (.float .f64 4607182418800017408) ∧ w'.cell? ⟨g,3,none⟩ = some (.int .i64 0) ∧ w'.cell? ⟨g2,0,none⟩ = some (.func (.func 80) #[] #[]) ∧ w'.cell? ⟨g2,1,none⟩ = some (.int .i64 4) ∧ w'.cell? ⟨g2,2,none⟩ = some (.int .i64 16)) [] ⟨(cD HX 0 rfl),(cD HX 1 rfl),(cD HX 2 rfl),(cD HX 3 rfl),(cD HF 0 rfl),(cD HF 1 rfl),(cD HF 2 rfl)⟩ fun hHeld => ?_
 refine with_tabW wrong.tab1 wrong.bits1 (fun HT_ HW_ => ?_)
 replace HX := mD HX
 replace HF := mD HF
 replace HB := bD HB
 generalize W1.drew = wd1 at *
 refine pa_ 0 4 HT_ ?_
 refine pa_ 4 8 HT_ ?_
 refine ta_ 1 5 HT_ HW_ hHeld ?_
 refine ta_ 2 6 HT_ HW_ hHeld ?_
 refine ta_ 5 9 HT_ HW_ hHeld ?_
 refine on_ 3 HT_ fun K hK => ?_
 refine goesv_ #[] #[] Tryz.func80 (by kernel_rfl) rfl #[.agg cnf] (by rfl) rfl rfl rfl (by first | rfl | (simp; done) | (simp; rfl)) ?_
 with_reducible refine (conf0_calls _).mono ?_
 rintro e_ w3 ⟨rfl,hb⟩
 refine ⟨_,rfl,?_⟩
 replace HX := mb HX hb
 replace HF := mb HF hb
 replace HB := mS HB hb
 clear hb
 refine hK.out _ _ ⟨(cL HX 0 rfl),(cL HX 1 rfl),(cL HX 2 rfl),(cL HX 3 rfl),(cL HF 0 rfl),(cL HF 1 rfl),(cL HF 2 rfl)⟩ (fun hHeld => ?_)
 clear hK K
 refine no_ 7 ?_
 refine pa_ 6 10 HT_ ?_
 refine pa_ 7 11 HT_ ?_
 refine pa_ 8 12 HT_ ?_
 refine pa_ 12 16 HT_ ?_
 refine ta_ 9 13 HT_ HW_ hHeld ?_
 refine ta_ 10 14 HT_ HW_ hHeld ?_
 refine ta_ 13 17 HT_ HW_ hHeld ?_
 refine on_ 11 HT_ fun K hK => ?_
 refine goesv_ #[] #[] Tryz.func80 (by kernel_rfl) rfl #[.agg cnf] (by rfl) rfl rfl rfl (by first | rfl | (simp; done) | (simp; rfl)) ?_
 with_reducible refine (conf0_calls _).mono ?_
 rintro e_ w4 ⟨rfl,hb⟩
 refine ⟨_,rfl,?_⟩
 replace HX := mb HX hb
 replace HF := mb HF hb
 replace HB := mS HB hb
 clear hb
 refine hK.out _ _ ⟨(cL HX 0 rfl),(cL HX 1 rfl),(cL HX 2 rfl),(cL HX 3 rfl),(cL HF 0 rfl),(cL HF 1 rfl),(cL HF 2 rfl)⟩ (fun hHeld => ?_)
 clear hK K
 refine no_ 15 ?_
 refine pa_ 14 18 HT_ ?_
 refine pa_ 15 19 HT_ ?_
 refine pa_ 16 3 HT_ ?_
 refine dn_ HT_ ?_
 clear HT_ HW_ hHeld
 go_wp2_with fail
 go_ret
 exact ⟨rfl,HB.out⟩
theorem wrong1_calls (w : World) (g : Nat) (hg : w.heap[g]? = some (.cells cnf 24 (0,0))) :
 Calls Tryz.prog 79 #[.agg #[.func (.func 81) #[] #[],.int .i64 1,.int .i64 30],.pointer (some ⟨g,0,none⟩)] w fun e w' => e = .returned (.bool false) ∧ Below w.heap.size w w' := by
 have HX : Aside0 (w.heap[g]? = some (.cells #[.int .i64 4,.int .i64 2,.float .f64 4607182418800017408,.int .i64 0] 24 (0,0))) := ⟨hg⟩
 clear hg
 go_enter Tryz.func79,Tryz.ntmps79
 go_wp2_with fail
 obtain ⟨W1,hW1⟩ : ∃ W1,W1 = w.alloc (.cells #[.func (.func 81) #[] #[],.int .i64 1,.int .i64 30] 146) := ⟨_,rfl⟩
 rw [← hW1]
 obtain ⟨g2,hg2⟩ : ∃ g,g = w.heap.size := ⟨_,rfl⟩
 replace HX : Aside0 (W1.heap[g]? = some (.cells #[.int .i64 4,.int .i64 2,.float .f64 4607182418800017408,.int .i64 0] 24 (0,0))) := ⟨by rw [hW1]; exact blk_alloc HX.out _⟩
 have HF : Aside0 (W1.heap[g2]? = some (.cells #[.func (.func 81) #[] #[],.int .i64 1,.int .i64 30] 146 (0,0))) := ⟨by rw [hW1,hg2]; exact blk_new _ _⟩
 have HB : Aside0 (Below w.heap.size w W1) := ⟨by rw [hW1]; exact below_alloc (Below.refl _ _) _⟩
 rw [← hg2]
 clear hW1 hg2
 have t1 : decide ((2 : Int) < 1) = false := by decide
 have t2 : decide ((30 : Int) < 2) = false := by decide
 refine st_ 17 (fun w' => w'.cell? ⟨g,0,none⟩ = some (.int .i64 4) ∧ w'.cell? ⟨g,1,none⟩ = some (.int .i64 2) ∧ w'.cell? ⟨g,2,none⟩ = some (.float .f64 4607182418800017408) ∧ w'.cell? ⟨g,3,none⟩ = some (.int .i64 0) ∧ w'.cell? ⟨g2,0,none⟩ = some (.func (.func 81) #[] #[]) ∧ w'.cell? ⟨g2,1,none⟩ = some (.int .i64 1) ∧ w'.cell? ⟨g2,2,none⟩ = some (.int .i64 30)) [] ⟨(cD HX 0 rfl),(cD HX 1 rfl),(cD HX 2 rfl),(cD HX 3 rfl),(cD HF 0 rfl),(cD HF 1 rfl),(cD HF 2 rfl)⟩ fun hHeld => ?_
 refine with_tabW wrong.tab1 wrong.bits1 (fun HT_ HW_ => ?_)
 replace HX := mD HX
 replace HF := mD HF
 replace HB := bD HB
 generalize W1.drew = wd1 at *
 refine pa_ 0 4 HT_ ?_
 refine pa_ 4 8 HT_ ?_
 refine ta_ 1 5 HT_ HW_ hHeld ?_
 refine ta_ 2 6 HT_ HW_ hHeld ?_
 refine ta_ 5 9 HT_ HW_ hHeld ?_
 refine on_ 3 HT_ fun K hK => ?_
 refine goesv_ #[] #[] Tryz.func81 (by kernel_rfl) rfl #[.agg cnf] (by rfl) rfl rfl rfl (by first | rfl | (simp; done) | (simp; rfl)) ?_
 with_reducible refine (conf1_calls _).mono ?_
 rintro e_ w3 ⟨rfl,hb⟩
 refine ⟨_,rfl,?_⟩
 replace HX := mb HX hb
 replace HF := mb HF hb
 replace HB := mS HB hb
 clear hb
 refine hK.out _ _ ⟨(cL HX 0 rfl),(cL HX 1 rfl),(cL HX 2 rfl),(cL HX 3 rfl),(cL HF 0 rfl),(cL HF 1 rfl),(cL HF 2 rfl)⟩ (fun hHeld => ?_)
 clear hK K
 refine no_ 7 ?_
 refine pa_ 6 10 HT_ ?_
 refine pa_ 7 11 HT_ ?_
 refine pa_ 8 12 HT_ ?_
 refine pa_ 12 16 HT_ ?_
 refine ta_ 9 13 HT_ HW_ hHeld ?_
 refine ta_ 10 14 HT_ HW_ hHeld ?_
 refine ta_ 13 17 HT_ HW_ hHeld ?_
 refine on_ 11 HT_ fun K hK => ?_
 refine goesv_ #[] #[] Tryz.func81 (by kernel_rfl) rfl #[.agg cnf] (by rfl) rfl rfl rfl (by first | rfl | (simp; done) | (simp; rfl)) ?_
 with_reducible refine (conf1_calls _).mono ?_
 rintro e_ w4 ⟨rfl,hb⟩
 refine ⟨_,rfl,?_⟩
 replace HX := mb HX hb
 replace HF := mb HF hb
 replace HB := mS HB hb
 clear hb
 refine hK.out _ _ ⟨(cL HX 0 rfl),(cL HX 1 rfl),(cL HX 2 rfl),(cL HX 3 rfl),(cL HF 0 rfl),(cL HF 1 rfl),(cL HF 2 rfl)⟩ (fun hHeld => ?_)
 clear hK K
 refine no_ 15 ?_
 refine pa_ 14 18 HT_ ?_
 refine pa_ 15 19 HT_ ?_
 refine pa_ 16 3 HT_ ?_
 refine dn_ HT_ ?_
 clear HT_ HW_ hHeld
 go_wp2_with fail
 go_ret
 exact ⟨rfl,HB.out⟩
theorem wrong2_calls (w : World) (g : Nat) (hg : w.heap[g]? = some (.cells cnf 24 (0,0))) :
 Calls Tryz.prog 79 #[.agg #[.func (.func 82) #[] #[],.int .i64 0,.int .i64 8],.pointer (some ⟨g,0,none⟩)] w fun e w' => e = .returned (.bool false) ∧ Below w.heap.size w w' := by
 have HX : Aside0 (w.heap[g]? = some (.cells #[.int .i64 4,.int .i64 2,.float .f64 4607182418800017408,.int .i64 0] 24 (0,0))) := ⟨hg⟩
 clear hg
 go_enter Tryz.func79,Tryz.ntmps79
 go_wp2_with fail
 obtain ⟨W1,hW1⟩ : ∃ W1,W1 = w.alloc (.cells #[.func (.func 82) #[] #[],.int .i64 0,.int .i64 8] 146) := ⟨_,rfl⟩
 rw [← hW1]
 obtain ⟨g2,hg2⟩ : ∃ g,g = w.heap.size := ⟨_,rfl⟩
 replace HX : Aside0 (W1.heap[g]? = some (.cells #[.int .i64 4,.int .i64 2,.float .f64 4607182418800017408,.int .i64 0] 24 (0,0))) := ⟨by rw [hW1]; exact blk_alloc HX.out _⟩
 have HF : Aside0 (W1.heap[g2]? = some (.cells #[.func (.func 82) #[] #[],.int .i64 0,.int .i64 8] 146 (0,0))) := ⟨by rw [hW1,hg2]; exact blk_new _ _⟩
 have HB : Aside0 (Below w.heap.size w W1) := ⟨by rw [hW1]; exact below_alloc (Below.refl _ _) _⟩
 rw [← hg2]
 clear hW1 hg2
 have t1 : decide ((0 : Int) < 0) = false := by decide
 have t2 : decide ((8 : Int) < 0) = false := by decide
 refine st_ 17 (fun w' => w'.cell? ⟨g,0,none⟩ = some (.int .i64 4) ∧ w'.cell? ⟨g,1,none⟩ = some (.int .i64 2) ∧ w'.cell? ⟨g,2,none⟩ = some (.float .f64 4607182418800017408) ∧ w'.cell? ⟨g,3,none⟩ = some (.int .i64 0) ∧ w'.cell? ⟨g2,0,none⟩ = some (.func (.func 82) #[] #[]) ∧ w'.cell? ⟨g2,1,none⟩ = some (.int .i64 0) ∧ w'.cell? ⟨g2,2,none⟩ = some (.int .i64 8)) [] ⟨(cD HX 0 rfl),(cD HX 1 rfl),(cD HX 2 rfl),(cD HX 3 rfl),(cD HF 0 rfl),(cD HF 1 rfl),(cD HF 2 rfl)⟩ fun hHeld => ?_
 refine with_tabW wrong.tab1 wrong.bits1 (fun HT_ HW_ => ?_)
 replace HX := mD HX
 replace HF := mD HF
 replace HB := bD HB
 generalize W1.drew = wd1 at *
 refine pa_ 0 4 HT_ ?_
 refine pa_ 4 8 HT_ ?_
 refine ta_ 1 5 HT_ HW_ hHeld ?_
 refine ta_ 2 6 HT_ HW_ hHeld ?_
 refine ta_ 5 9 HT_ HW_ hHeld ?_
 refine on_ 3 HT_ fun K hK => ?_
 refine goesv_ #[] #[] Tryz.func82 (by kernel_rfl) rfl #[.agg cnf] (by rfl) rfl rfl rfl (by first | rfl | (simp; done) | (simp; rfl)) ?_
 with_reducible refine (conf2_calls _).mono ?_
 rintro e_ w3 ⟨rfl,hb⟩
 refine ⟨_,rfl,?_⟩
 replace HX := mb HX hb
 replace HF := mb HF hb
 replace HB := mS HB hb
 clear hb
 refine hK.out _ _ ⟨(cL HX 0 rfl),(cL HX 1 rfl),(cL HX 2 rfl),(cL HX 3 rfl),(cL HF 0 rfl),(cL HF 1 rfl),(cL HF 2 rfl)⟩ (fun hHeld => ?_)
 clear hK K
 refine no_ 7 ?_
 refine pa_ 6 10 HT_ ?_
 refine pa_ 7 11 HT_ ?_
 refine pa_ 8 12 HT_ ?_
 refine pa_ 12 16 HT_ ?_
 refine ta_ 9 13 HT_ HW_ hHeld ?_
 refine ta_ 10 14 HT_ HW_ hHeld ?_
 refine ta_ 13 17 HT_ HW_ hHeld ?_
 refine on_ 11 HT_ fun K hK => ?_
 refine goesv_ #[] #[] Tryz.func82 (by kernel_rfl) rfl #[.agg cnf] (by rfl) rfl rfl rfl (by first | rfl | (simp; done) | (simp; rfl)) ?_
 with_reducible refine (conf2_calls _).mono ?_
 rintro e_ w4 ⟨rfl,hb⟩
 refine ⟨_,rfl,?_⟩
 replace HX := mb HX hb
 replace HF := mb HF hb
 replace HB := mS HB hb
 clear hb
 refine hK.out _ _ ⟨(cL HX 0 rfl),(cL HX 1 rfl),(cL HX 2 rfl),(cL HX 3 rfl),(cL HF 0 rfl),(cL HF 1 rfl),(cL HF 2 rfl)⟩ (fun hHeld => ?_)
 clear hK K
 refine no_ 15 ?_
 refine pa_ 14 18 HT_ ?_
 refine pa_ 15 19 HT_ ?_
 refine pa_ 16 3 HT_ ?_
 refine dn_ HT_ ?_
 clear HT_ HW_ hHeld
 go_wp2_with fail
 go_ret
 exact ⟨rfl,HB.out⟩
theorem conf_calls (w : World) :
 Calls Tryz.prog 41 #[.agg cnf] w fun e w' => e = .returned (.int .i64 0) ∧ Below w.heap.size w w' := by
 unfold cnf
 go_enter Tryz.func41,Tryz.ntmps41
 go_wp2_with fail
 obtain ⟨W1,g,g2,hW_,hg,hg2,HX,HF,hb_⟩ := new2 w #[.int .i64 4,.int .i64 2,.float .f64 4607182418800017408,.int .i64 0] 24 #[.func (.func 80) #[] #[],.int .i64 4,.int .i64 16,.func (.func 81) #[] #[],.int .i64 1,.int .i64 30,.func (.func 82) #[] #[],.int .i64 0,.int .i64 8] 146
 rw [← hW_,← hg2.out,← hg.out]
 have HB := Aside0.mk hb_
 clear hW_ hb_
 go_loopw [14] (fun v wr => ∃ i : Nat,Aside0 (i ≤ 3) ∧ v = .int .i64 (i : Int) ∧ Aside0 (wr.heap[g]? = some (.cells #[.int .i64 4,.int .i64 2,.float .f64 4607182418800017408,.int .i64 0] 24 (0,0))) ∧ Aside0 (wr.heap[g2]? = some (.cells #[.func (.func 80) #[] #[],.int .i64 4,.int .i64 16,.func (.func 81) #[] #[],.int .i64 1,.int .i64 30,.func (.func 82) #[] #[],.int .i64 0,.int .i64 8] 146 (0,0))) ∧ Aside0 (Below w.heap.size w wr)) (fun v _ => 3 - (intOf v).toNat)
 case atStart => exact ⟨0,⟨by omega⟩,rfl,HX,HF,HB⟩
 case round =>
  clear HX HF HB
  obtain ⟨i,hi,rfl,HX,HF,HB⟩ := hrel
  rcases (show i = 0 ∨ i = 1 ∨ i = 2 ∨ i = 3 by have := hi.out; omega) with rfl | rfl | rfl | rfl
  ·have y0 : wr.cell? ⟨g2,0,none⟩ = some (.func (.func 80) #[] #[]) := cL HF 0 rfl
   have y1 : wr.cell? ⟨g2,1,none⟩ = some (.int .i64 4) := cL HF 1 rfl
   have y2 : wr.cell? ⟨g2,2,none⟩ = some (.int .i64 16) := cL HF 2 rfl
   go_wp2_with (first | (refine sr_ 5 17 #[.func (.func 80) #[] #[],.int .i64 4,.int .i64 16] (blk_new wr (.cells #[.nilFunc,.int .i64 0,.int .i64 0] 146)) ?_) | (refine lr_ 5 (setRow_heap _ _ _ _ _ _ (blk_new wr (.cells #[.nilFunc,.int .i64 0,.int .i64 0] 146))) Tryz.underlying146 ?_))
   have hb0 : Below wr.heap.size wr ((wr.alloc (.cells #[.nilFunc,.int .i64 0,.int .i64 0] 146)).setRow wr.heap.size #[.func (.func 80) #[] #[],.int .i64 4,.int .i64 16]) := below_setRow (below_alloc (Below.refl _ _) _) (Nat.le_refl _) _
   refine (wrong0_calls _ g (blk_below HX.out hb0)).mono ?_
   rintro e_ w2 ⟨rfl,hb⟩
   replace hb := below_step hb0 hb
   replace HX := mB HX hb
   replace HF := mB HF hb
   replace HB := mS HB hb
   clear hb0 hb
   go_wp2_with fail
   exact ⟨⟨1,⟨by omega⟩,rfl,HX,HF,HB⟩,by simp [intOf]⟩
  ·have y0 : wr.cell? ⟨g2,3,none⟩ = some (.func (.func 81) #[] #[]) := cL HF 3 rfl
   have y1 : wr.cell? ⟨g2,4,none⟩ = some (.int .i64 1) := cL HF 4 rfl
   have y2 : wr.cell? ⟨g2,5,none⟩ = some (.int .i64 30) := cL HF 5 rfl
   go_wp2_with (first | (refine sr_ 5 17 #[.func (.func 81) #[] #[],.int .i64 1,.int .i64 30] (blk_new wr (.cells #[.nilFunc,.int .i64 0,.int .i64 0] 146)) ?_) | (refine lr_ 5 (setRow_heap _ _ _ _ _ _ (blk_new wr (.cells #[.nilFunc,.int .i64 0,.int .i64 0] 146))) Tryz.underlying146 ?_))
   have hb0 : Below wr.heap.size wr ((wr.alloc (.cells #[.nilFunc,.int .i64 0,.int .i64 0] 146)).setRow wr.heap.size #[.func (.func 81) #[] #[],.int .i64 1,.int .i64 30]) := below_setRow (below_alloc (Below.refl _ _) _) (Nat.le_refl _) _
   refine (wrong1_calls _ g (blk_below HX.out hb0)).mono ?_
   rintro e_ w2 ⟨rfl,hb⟩
   replace hb := below_step hb0 hb
   replace HX := mB HX hb
   replace HF := mB HF hb
   replace HB := mS HB hb
   clear hb0 hb
   go_wp2_with fail
   exact ⟨⟨2,⟨by omega⟩,rfl,HX,HF,HB⟩,by simp [intOf]⟩
  ·have y0 : wr.cell? ⟨g2,6,none⟩ = some (.func (.func 82) #[] #[]) := cL HF 6 rfl
   have y1 : wr.cell? ⟨g2,7,none⟩ = some (.int .i64 0) := cL HF 7 rfl
   have y2 : wr.cell? ⟨g2,8,none⟩ = some (.int .i64 8) := cL HF 8 rfl
   go_wp2_with (first | (refine sr_ 5 17 #[.func (.func 82) #[] #[],.int .i64 0,.int .i64 8] (blk_new wr (.cells #[.nilFunc,.int .i64 0,.int .i64 0] 146)) ?_) | (refine lr_ 5 (setRow_heap _ _ _ _ _ _ (blk_new wr (.cells #[.nilFunc,.int .i64 0,.int .i64 0] 146))) Tryz.underlying146 ?_))
   have hb0 : Below wr.heap.size wr ((wr.alloc (.cells #[.nilFunc,.int .i64 0,.int .i64 0] 146)).setRow wr.heap.size #[.func (.func 82) #[] #[],.int .i64 0,.int .i64 8]) := below_setRow (below_alloc (Below.refl _ _) _) (Nat.le_refl _) _
   refine (wrong2_calls _ g (blk_below HX.out hb0)).mono ?_
   rintro e_ w2 ⟨rfl,hb⟩
   replace hb := below_step hb0 hb
   replace HX := mB HX hb
   replace HF := mB HF hb
   replace HB := mS HB hb
   clear hb0 hb
   go_wp2_with fail
   exact ⟨⟨3,⟨by omega⟩,rfl,HX,HF,HB⟩,by simp [intOf]⟩
  ·have z0 : wr.cell? ⟨g,2,none⟩ = some (.float .f64 4607182418800017408) := cL HX 2 rfl
   go_wp2_with fail
   refine (share_calls 1 _ (.inl rfl)).mono ?_
   rintro e_ w2 ⟨rfl,rfl⟩
   go_wp2_with fail
   go_ret
   exact ⟨rfl,HB.out⟩
theorem sectors_calls (w : World) :
 Calls Tryz.prog 42 #[.agg cnf] w fun e w' => e = .returned (.int .i64 14) ∧ Below w.heap.size w w' := by
 unfold cnf
 go_enter Tryz.func42,Tryz.ntmps42
 go_wp2_with (refine lr_ 1 (blk_new w (.cells #[.int .i64 4,.int .i64 2,.float .f64 4607182418800017408,.int .i64 0] 24)) Tryz.underlying24 ?_)
 have hb0 : Below w.heap.size w (w.alloc (.cells #[.int .i64 4,.int .i64 2,.float .f64 4607182418800017408,.int .i64 0] 24)) := below_alloc (Below.refl _ _) _
 refine (conf_calls _).mono ?_
 rintro e_ w2 ⟨rfl,hb⟩
 have HX : Aside0 (w2.heap[w.heap.size]? = some (.cells #[.int .i64 4,.int .i64 2,.float .f64 4607182418800017408,.int .i64 0] 24 (0,0))) := ⟨blk_below (blk_new w _) hb⟩
 have HB : Aside0 (Below w.heap.size w w2) := ⟨below_step hb0 hb⟩
 clear hb0 hb
 have y0 : w2.cell? ⟨w.heap.size,0,none⟩ = some (.int .i64 4) := cL HX 0 rfl
 have y1 : w2.cell? ⟨w.heap.size,1,none⟩ = some (.int .i64 2) := cL HX 1 rfl
 have y2 : w2.cell? ⟨w.heap.size,2,none⟩ = some (.float .f64 4607182418800017408) := cL HX 2 rfl
 have y3 : w2.cell? ⟨w.heap.size,3,none⟩ = some (.int .i64 0) := cL HX 3 rfl
 go_wp2_with fail
 go_ret
 exact ⟨rfl,HB.out⟩
theorem quota_calls (w : World) :
 Calls Tryz.prog 61 #[.agg cnf] w fun e w' => e = .returned (.int .i64 4) ∧ Below w.heap.size w w' := by
 unfold cnf
 go_enter Tryz.func61,Tryz.ntmps61
 go_wp2_with (refine lr_ 1 (blk_new w (.cells #[.int .i64 4,.int .i64 2,.float .f64 4607182418800017408,.int .i64 0] 24)) Tryz.underlying24 ?_)
 have hb0 : Below w.heap.size w (w.alloc (.cells #[.int .i64 4,.int .i64 2,.float .f64 4607182418800017408,.int .i64 0] 24)) := below_alloc (Below.refl _ _) _
 refine (conf_calls _).mono ?_
 rintro e_ w2 ⟨rfl,hb⟩
 have HX : Aside0 (w2.heap[w.heap.size]? = some (.cells #[.int .i64 4,.int .i64 2,.float .f64 4607182418800017408,.int .i64 0] 24 (0,0))) := ⟨blk_below (blk_new w _) hb⟩
 have HB : Aside0 (Below w.heap.size w w2) := ⟨below_step hb0 hb⟩
 clear hb0 hb
 have y0 : w2.cell? ⟨w.heap.size,0,none⟩ = some (.int .i64 4) := cL HX 0 rfl
 have y1 : w2.cell? ⟨w.heap.size,1,none⟩ = some (.int .i64 2) := cL HX 1 rfl
 have y2 : w2.cell? ⟨w.heap.size,2,none⟩ = some (.float .f64 4607182418800017408) := cL HX 2 rfl
 have y3 : w2.cell? ⟨w.heap.size,3,none⟩ = some (.int .i64 0) := cL HX 3 rfl
 go_wp2_with fail
 refine (share_calls 4 _ (.inr rfl)).mono ?_
 rintro e_ w3 ⟨rfl,rfl⟩
 go_wp2_with fail
 go_ret
 exact ⟨rfl,HB.out⟩
theorem bound_calls (w : World) :
 Calls Tryz.prog 22 #[.agg cnf] w fun e w' => e = .returned (.int .i64 39) ∧ Below w.heap.size w w' := by
 unfold cnf
 go_enter Tryz.func22,Tryz.ntmps22
 go_wp2_with (refine lr_ 1 (blk_new w (.cells #[.int .i64 4,.int .i64 2,.float .f64 4607182418800017408,.int .i64 0] 24)) Tryz.underlying24 ?_)
 have hb0 : Below w.heap.size w (w.alloc (.cells #[.int .i64 4,.int .i64 2,.float .f64 4607182418800017408,.int .i64 0] 24)) := below_alloc (Below.refl _ _) _
 refine (conf_calls _).mono ?_
 rintro e_ w2 ⟨rfl,hb⟩
 have HX : Aside0 (w2.heap[w.heap.size]? = some (.cells #[.int .i64 4,.int .i64 2,.float .f64 4607182418800017408,.int .i64 0] 24 (0,0))) := ⟨blk_below (blk_new w _) hb⟩
 have HB : Aside0 (Below w.heap.size w w2) := ⟨below_step hb0 hb⟩
 clear hb0 hb
 have y0 : w2.cell? ⟨w.heap.size,0,none⟩ = some (.int .i64 4) := cL HX 0 rfl
 have y1 : w2.cell? ⟨w.heap.size,1,none⟩ = some (.int .i64 2) := cL HX 1 rfl
 have y2 : w2.cell? ⟨w.heap.size,2,none⟩ = some (.float .f64 4607182418800017408) := cL HX 2 rfl
 have y3 : w2.cell? ⟨w.heap.size,3,none⟩ = some (.int .i64 0) := cL HX 3 rfl
 go_wp2_with fail
 go_ret
 exact ⟨rfl,HB.out⟩
end Go.Proofs.YtokfjbbjkiilmaaGreatDoor.H
namespace Go.Proofs.YtokfjbbjkiilmaaGreatDoor.H
open Go.RowKit Go.Proofs.YtokfjbbjkiilmaaGreatDoorW.PrintWords Go.Proofs.YtokfjbbjkiilmaaGreatDoorW.PrintLast Go.Proofs.YtokfjbbjkiilmaaGreatDoorW.PrintMore
set_option maxHeartbeats 8000000
set_option maxRecDepth 100000
attribute [local go_sem] max2_int min2_int min_two max_two
def idA : ByteArray := { data := #[97] }
theorem run47 (w : World) : (callFunc 47 #[.float .f64 0]).run Tryz.prog w = .ok (.value (.int .u64 0)) w := by
 rw [run_callFunc_extern Tryz.func47 (by kernel_rfl) (by kernel_rfl) (by kernel_rfl) (e := Extern.MathFloatBits.float64bits) (by kernel_rfl) _ w]
 kernel_rfl
theorem isnan0_calls (w : World) :
 Calls Tryz.prog 175 #[.float .f64 0] w fun e w' => e = .returned (.bool false) ∧ w' = w := by
 have h1 : (FloatKind.f64.format.order 0 0 != some .eq) = false := by kernel_rfl
 go_enter Tryz.func175,Tryz.ntmps175
 go_wp2_with fail
 go_ret
 exact ⟨rfl,rfl⟩
theorem isinf0_calls (n : Int) (w : World) (hn : n = 1 ∨ n = -1) :
 Calls Tryz.prog 176 #[.float .f64 0,.int .i64 n] w fun e w' => e = .returned (.bool false) ∧ w' = w := by
 rcases hn with rfl | rfl
 ·have h1 : (FloatKind.f64.format.order 0 9218868437227405311 == some .gt) = false := by kernel_rfl
  go_enter Tryz.func176,Tryz.ntmps176
  go_wp2_with fail
  go_ret
  exact ⟨rfl,rfl⟩
 ·have hc : ∀ w : World,(Op.unary .neg (.float .f64 0)).run Tryz.prog w = .ok (.float .f64 9223372036854775808) w := by intro w; kernel_rfl
  have h1 : (FloatKind.f64.format.order 9223372036854775808 9218868437227405311 == some .gt) = false := by kernel_rfl
  go_enter Tryz.func176,Tryz.ntmps176
  go_wp2_with fail
  go_ret
  exact ⟨rfl,rfl⟩
theorem signbit0_calls (w : World) :
 Calls Tryz.prog 177 #[.float .f64 0] w fun e w' => e = .returned (.bool false) ∧ w' = w := by
 have hc := run47 w
 go_enter Tryz.func177,Tryz.ntmps177
 go_wp2_with fail
 go_ret
 exact ⟨rfl,rfl⟩
theorem kind0_calls (w : World) :
 Calls Tryz.prog 125 #[.float .f64 0] w fun e w' => e = .returned (.int .i64 4) ∧ w' = w := by
 have h1 : (FloatKind.f64.format.order 0 0 == some .lt) = false := by kernel_rfl
 have h2 : (FloatKind.f64.format.order 0 0 == some .gt) = false := by kernel_rfl
 go_enter Tryz.func125,Tryz.ntmps125
 go_wp2_with fail
 refine (isnan0_calls _).mono ?_
 rintro e_ w2 ⟨rfl,rfl⟩
 go_wp2_with fail
 refine (isinf0_calls (-1) _ (.inr rfl)).mono ?_
 rintro e_ w2 ⟨rfl,rfl⟩
 go_wp2_with fail
 refine (isinf0_calls 1 _ (.inl rfl)).mono ?_
 rintro e_ w2 ⟨rfl,rfl⟩
 go_wp2_with fail
 refine (signbit0_calls _).mono ?_
 rintro e_ w2 ⟨rfl,rfl⟩
 go_wp2_with fail
 go_ret
 exact ⟨rfl,rfl⟩
theorem ticks0_calls (w : World) :
 Calls Tryz.prog 65 #[.float .f64 0] w fun e w' => e = .returned (.tuple #[.int .u64 0,.int .i64 1]) ∧ w' = w := by
 have h1 : (FloatKind.f64.format.order 0 4607182418800017408 == some .lt) = true := by kernel_rfl
 go_enter Tryz.func65,Tryz.ntmps65
 go_wp2_with fail
 refine (kind0_calls _).mono ?_
 rintro e_ w2 ⟨rfl,rfl⟩
 go_wp2_with fail
 exact ret2 rfl rfl ⟨rfl,rfl⟩
theorem value_calls (s : ByteArray) (w : World) (hs : s.size ≤ 64) :
 Calls Tryz.prog 116 #[.string s] w fun e w' => e = .returned (.bool true) ∧ w' = w := by
 have ht : decide ((s.size : Int) ≤ 64) = true := decide_eq_true (by omega)
 have ht2 : decide (s.size ≤ 64) = true := decide_eq_true hs
 clear hs
 go_enter Tryz.func116,Tryz.ntmps116
 go_wp2_with fail
 go_ret
 exact ⟨rfl,rfl⟩
theorem id_calls (w : World) :
 Calls Tryz.prog 115 #[.string idA] w fun e w' => e = .returned (.bool true) ∧ w' = w := by
 unfold idA
 go_enter Tryz.func115,Tryz.ntmps115
 go_wp2_with fail
 go_loopw [7] (fun v wr => (v = .int .i64 0 ∨ v = .int .i64 1) ∧ wr = w) (fun v _ => 1 - (intOf v).toNat)
 case atStart => exact ⟨.inl rfl,rfl⟩
 case round =>
  obtain ⟨hv,rfl⟩ := hrel
  rcases hv with rfl | rfl
  ·have hb : ((({ data := #[97] } : ByteArray)[0]).toNat : Int) = 97 := rfl
   go_wp2_with fail
   exact ⟨⟨.inr rfl,trivial⟩,by decide⟩
  ·go_wp2_with fail
   go_ret
   exact ⟨rfl,rfl⟩
theorem valid_create (v : ByteArray) (x : Nat) (w : World) (hv : v.size ≤ 64) (hx : met x) :
 Calls Tryz.prog 58 #[.agg #[.int .i64 0,.string idA,.string v,.float .f64 x]] w fun e w' => e = .returned (.int .i64 0) ∧ Below w.heap.size w w' := by
 have HV := Aside0.mk hv
 clear hv
 have HX0 := Aside0.mk hx
 clear hx
 go_enter Tryz.func58,Tryz.ntmps58
 go_wp2_with fail
 obtain ⟨W1,g,hW_,hg,HX,hb_⟩ := new1 w #[.int .i64 0,.string idA,.string v,.float .f64 x] 43
 rw [← hW_,← hg.out]
 have HB := Aside0.mk hb_
 clear hW_ hb_
 have y0 : W1.cell? ⟨g,0,none⟩ = some (.int .i64 0) := cL HX 0 rfl
 have y1 : W1.cell? ⟨g,1,none⟩ = some (.string idA) := cL HX 1 rfl
 have y2 : W1.cell? ⟨g,2,none⟩ = some (.string v) := cL HX 2 rfl
 have y3 : W1.cell? ⟨g,3,none⟩ = some (.float .f64 x) := cL HX 3 rfl
 go_wp2_with fail
 refine (ticks_calls x _ HX0.out).mono ?_
 rintro e_ w2 ⟨rfl,rfl⟩
 go_wp2_with fail
 refine (id_calls _).mono ?_
 rintro e_ w2 ⟨rfl,rfl⟩
 go_wp2_with fail
 refine (value_calls _ _ HV.out).mono ?_
 rintro e_ w2 ⟨rfl,rfl⟩
 go_wp2_with fail
 go_ret
 refine ⟨rfl,?_⟩
 first | exact HB.out | (rw [hg.out]; exact HB.out)
theorem changes_create (v : ByteArray) (x : Nat) (w : World) :
 Calls Tryz.prog 31 #[.agg #[.int .i64 0,.string idA,.string v,.float .f64 x]] w fun e w' => e = .returned (.bool true) ∧ Below w.heap.size w w' := by
 go_enter Tryz.func31,Tryz.ntmps31
 go_wp2_with fail
 obtain ⟨W1,g,hW_,hg,HX,hb_⟩ := new1 w #[.int .i64 0,.string idA,.string v,.float .f64 x] 43
 rw [← hW_,← hg.out]
 have HB := Aside0.mk hb_
 clear hW_ hb_
 have y0 : W1.cell? ⟨g,0,none⟩ = some (.int .i64 0) := cL HX 0 rfl
 have y1 : W1.cell? ⟨g,1,none⟩ = some (.string idA) := cL HX 1 rfl
 have y2 : W1.cell? ⟨g,2,none⟩ = some (.string v) := cL HX 2 rfl
 have y3 : W1.cell? ⟨g,3,none⟩ = some (.float .f64 x) := cL HX 3 rfl
 go_wp2_with fail
 go_ret
 refine ⟨rfl,?_⟩
 first | exact HB.out | (rw [hg.out]; exact HB.out)
theorem valid_get (v : ByteArray) (w : World) (hv : v.size ≤ 64) :
 Calls Tryz.prog 58 #[.agg #[.int .i64 1,.string idA,.string v,.float .f64 0]] w fun e w' => e = .returned (.int .i64 0) ∧ Below w.heap.size w w' := by
 have HV := Aside0.mk hv
 clear hv
 go_enter Tryz.func58,Tryz.ntmps58
 go_wp2_with fail
 obtain ⟨W1,g,hW_,hg,HX,hb_⟩ := new1 w #[.int .i64 1,.string idA,.string v,.float .f64 0] 43
 rw [← hW_,← hg.out]
 have HB := Aside0.mk hb_
 clear hW_ hb_
 have y0 : W1.cell? ⟨g,0,none⟩ = some (.int .i64 1) := cL HX 0 rfl
 have y1 : W1.cell? ⟨g,1,none⟩ = some (.string idA) := cL HX 1 rfl
 have y2 : W1.cell? ⟨g,2,none⟩ = some (.string v) := cL HX 2 rfl
 have y3 : W1.cell? ⟨g,3,none⟩ = some (.float .f64 0) := cL HX 3 rfl
 go_wp2_with fail
 refine (ticks0_calls _).mono ?_
 rintro e_ w2 ⟨rfl,rfl⟩
 go_wp2_with fail
 refine (id_calls _).mono ?_
 rintro e_ w2 ⟨rfl,rfl⟩
 go_wp2_with fail
 go_ret
 refine ⟨rfl,?_⟩
 first | exact HB.out | (rw [hg.out]; exact HB.out)
theorem changes_get (v : ByteArray) (x : Nat) (w : World) :
 Calls Tryz.prog 31 #[.agg #[.int .i64 1,.string idA,.string v,.float .f64 x]] w fun e w' => e = .returned (.bool false) ∧ Below w.heap.size w w' := by
 go_enter Tryz.func31,Tryz.ntmps31
 go_wp2_with fail
 obtain ⟨W1,g,hW_,hg,HX,hb_⟩ := new1 w #[.int .i64 1,.string idA,.string v,.float .f64 x] 43
 rw [← hW_,← hg.out]
 have HB := Aside0.mk hb_
 clear hW_ hb_
 have y0 : W1.cell? ⟨g,0,none⟩ = some (.int .i64 1) := cL HX 0 rfl
 have y1 : W1.cell? ⟨g,1,none⟩ = some (.string idA) := cL HX 1 rfl
 have y2 : W1.cell? ⟨g,2,none⟩ = some (.string v) := cL HX 2 rfl
 have y3 : W1.cell? ⟨g,3,none⟩ = some (.float .f64 x) := cL HX 3 rfl
 go_wp2_with fail
 go_ret
 refine ⟨rfl,?_⟩
 first | exact HB.out | (rw [hg.out]; exact HB.out)
theorem valid_put (v : ByteArray) (w : World) (hv : v.size ≤ 64) :
 Calls Tryz.prog 58 #[.agg #[.int .i64 3,.string idA,.string v,.float .f64 0]] w fun e w' => e = .returned (.int .i64 0) ∧ Below w.heap.size w w' := by
 have HV := Aside0.mk hv
 clear hv
 go_enter Tryz.func58,Tryz.ntmps58
 go_wp2_with fail
 obtain ⟨W1,g,hW_,hg,HX,hb_⟩ := new1 w #[.int .i64 3,.string idA,.string v,.float .f64 0] 43
 rw [← hW_,← hg.out]
 have HB := Aside0.mk hb_
 clear hW_ hb_
 have y0 : W1.cell? ⟨g,0,none⟩ = some (.int .i64 3) := cL HX 0 rfl
 have y1 : W1.cell? ⟨g,1,none⟩ = some (.string idA) := cL HX 1 rfl
 have y2 : W1.cell? ⟨g,2,none⟩ = some (.string v) := cL HX 2 rfl
 have y3 : W1.cell? ⟨g,3,none⟩ = some (.float .f64 0) := cL HX 3 rfl
 go_wp2_with fail
 refine (ticks0_calls _).mono ?_
 rintro e_ w2 ⟨rfl,rfl⟩
 go_wp2_with fail
 refine (id_calls _).mono ?_
 rintro e_ w2 ⟨rfl,rfl⟩
 go_wp2_with fail
 refine (value_calls _ _ HV.out).mono ?_
 rintro e_ w2 ⟨rfl,rfl⟩
 go_wp2_with fail
 go_ret
 refine ⟨rfl,?_⟩
 first | exact HB.out | (rw [hg.out]; exact HB.out)
theorem changes_put (v : ByteArray) (x : Nat) (w : World) :
 Calls Tryz.prog 31 #[.agg #[.int .i64 3,.string idA,.string v,.float .f64 x]] w fun e w' => e = .returned (.bool true) ∧ Below w.heap.size w w' := by
 go_enter Tryz.func31,Tryz.ntmps31
 go_wp2_with fail
 obtain ⟨W1,g,hW_,hg,HX,hb_⟩ := new1 w #[.int .i64 3,.string idA,.string v,.float .f64 x] 43
 rw [← hW_,← hg.out]
 have HB := Aside0.mk hb_
 clear hW_ hb_
 have y0 : W1.cell? ⟨g,0,none⟩ = some (.int .i64 3) := cL HX 0 rfl
 have y1 : W1.cell? ⟨g,1,none⟩ = some (.string idA) := cL HX 1 rfl
 have y2 : W1.cell? ⟨g,2,none⟩ = some (.string v) := cL HX 2 rfl
 have y3 : W1.cell? ⟨g,3,none⟩ = some (.float .f64 x) := cL HX 3 rfl
 go_wp2_with fail
 go_ret
 refine ⟨rfl,?_⟩
 first | exact HB.out | (rw [hg.out]; exact HB.out)
end Go.Proofs.YtokfjbbjkiilmaaGreatDoor.H
