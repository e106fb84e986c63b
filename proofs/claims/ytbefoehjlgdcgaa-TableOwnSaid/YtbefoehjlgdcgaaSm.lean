/-
lodgerref08.Same of two tables that are the same.
-/
import Derived.Test.YtbefoehjlgdcgaaTk
namespace Go.Proofs.Ytbefoehjlgdcgaa.H
open Go.RowKit Go.Proofs.YtbefoehjlgdcgaaW.PrintWords Go.Proofs.YtbefoehjlgdcgaaW.PrintLast Go.Proofs.YtbefoehjlgdcgaaW.PrintMore
attribute [local go_sem] min2_int min_two
set_option linter.unusedVariables false
set_option linter.unusedSimpArgs false
set_option maxHeartbeats 8000000 in
set_option maxRecDepth 100000 in
theorem same_calls (g s : Int) (Ao : Option Addr) (co : Nat) (o : List Int) (Al : Option Addr) (cl : Nat) (l : List Int) (Af : Option Addr) (cf : Nat) (f : List Int) (Bo : Option Addr) (co2 : Nat) (Bl : Option Addr) (cl2 : Nat) (Bf : Option Addr) (cf2 : Nat) (w : World) (hT : TC w Ao co o Al cl l Af cf f) (hS : TC w Bo co2 o Bl cl2 l Bf cf2 f) (hl : o.length ≤ 1000 ∧ l.length ≤ 1000 ∧ f.length ≤ 1000) :
  Calls Try.prog 11 #[.agg #[.int .i64 g,.int .i64 s,.slice Ao o.length co,.slice Al l.length cl,.slice Af f.length cf],.agg #[.int .i64 g,.int .i64 s,.slice Bo o.length co2,.slice Bl l.length cl2,.slice Bf f.length cf2]] w fun e w' => e = .returned (.bool true) ∧ Below w.heap.size w w' := by
 have HT := Aside0.mk hT
 have HS := Aside0.mk hS
 have HL := Aside0.mk hl
 clear hT hS hl
 go_enter Try.func11,Try.ntmps11
 go_upto_region 1 with fail
 obtain ⟨w0_,hW1⟩ : ∃ W1,W1 = (w.alloc (.cells #[.int .i64 g,.int .i64 s,.slice Ao o.length co,.slice Al l.length cl,.slice Af f.length cf] 32)).alloc (.cells #[.int .i64 g,.int .i64 s,.slice Bo o.length co2,.slice Bl l.length cl2,.slice Bf f.length cf2] 32) := ⟨_,rfl⟩
 rw [← hW1]
 obtain ⟨g2,hg2⟩ : ∃ g,g = w.heap.size + 1 := ⟨_,rfl⟩
 obtain ⟨g1,hg1⟩ : ∃ g,g = w.heap.size := ⟨_,rfl⟩
 have HX1 : Aside0 (w0_.heap[g1]? = some (.cells #[.int .i64 g,.int .i64 s,.slice Ao o.length co,.slice Al l.length cl,.slice Af f.length cf] 32 (0,0))) := ⟨by rw [hW1,hg1]; exact blk_alloc (blk_new _ _) _⟩
 have HX2 : Aside0 (w0_.heap[g2]? = some (.cells #[.int .i64 g,.int .i64 s,.slice Bo o.length co2,.slice Bl l.length cl2,.slice Bf f.length cf2] 32 (0,0))) := ⟨by rw [hW1,hg2]; have := blk_new (w.alloc (.cells #[.int .i64 g,.int .i64 s,.slice Ao o.length co,.slice Al l.length cl,.slice Af f.length cf] 32)) (.cells #[.int .i64 g,.int .i64 s,.slice Bo o.length co2,.slice Bl l.length cl2,.slice Bf f.length cf2] 32); simpa using this⟩
 have HB : Aside0 (Below w.heap.size w w0_) := ⟨by rw [hW1]; exact below_alloc (below_alloc (Below.refl _ _) _) _⟩
 rw [← hg2,← hg1]
 clear hW1 hg2 hg1
 replace HT := Aside0.mk (TC_below HT.out HB.out)
 replace HS := Aside0.mk (TC_below HS.out HB.out)
 have s_0 : w0_.cell? ⟨g1,0,none⟩ = some (.int .i64 g) := cL HX1 0 rfl
 have s_1 : w0_.cell? ⟨g1,1,none⟩ = some (.int .i64 s) := cL HX1 1 rfl
 have s_2 : w0_.cell? ⟨g1,2,none⟩ = some (.slice Ao o.length co) := cL HX1 2 rfl
 have s_3 : w0_.cell? ⟨g1,3,none⟩ = some (.slice Al l.length cl) := cL HX1 3 rfl
 have s_4 : w0_.cell? ⟨g1,4,none⟩ = some (.slice Af f.length cf) := cL HX1 4 rfl
 have t_0 : w0_.cell? ⟨g2,0,none⟩ = some (.int .i64 g) := cL HX2 0 rfl
 have t_1 : w0_.cell? ⟨g2,1,none⟩ = some (.int .i64 s) := cL HX2 1 rfl
 have t_2 : w0_.cell? ⟨g2,2,none⟩ = some (.slice Bo o.length co2) := cL HX2 2 rfl
 have t_3 : w0_.cell? ⟨g2,3,none⟩ = some (.slice Bl l.length cl2) := cL HX2 3 rfl
 have t_4 : w0_.cell? ⟨g2,4,none⟩ = some (.slice Bf f.length cf2) := cL HX2 4 rfl
 go_upto_region 3 with fail
 go_wp2_with fail
 clear s_0 s_1 s_2 s_3 s_4 t_0 t_1 t_2 t_3 t_4
 go_loopw [5] (fun v wr => ∃ i : Nat,v = .int .i64 (i : Int) ∧ Aside0 (i ≤ o.length) ∧ Aside0 (Below w0_.heap.size w0_ wr)) (fun v _ => o.length - (intOf v).toNat)
 case atStart => exact ⟨0,rfl,⟨Nat.zero_le _⟩,⟨Below.refl _ _⟩⟩
 case round =>
  rename World => w1_
  obtain ⟨i,rfl,HI,HBR⟩ := hrel
  replace HT := Aside0.mk (TC_below HT.out HBR.out)
  replace HS := Aside0.mk (TC_below HS.out HBR.out)
  replace HX1 := Aside0.mk (blk_below HX1.out HBR.out)
  replace HX2 := Aside0.mk (blk_below HX2.out HBR.out)
  replace HB := Aside0.mk (below_step HB.out HBR.out)
  have s_0 : w1_.cell? ⟨g1,0,none⟩ = some (.int .i64 g) := cL HX1 0 rfl
  have s_1 : w1_.cell? ⟨g1,1,none⟩ = some (.int .i64 s) := cL HX1 1 rfl
  have s_2 : w1_.cell? ⟨g1,2,none⟩ = some (.slice Ao o.length co) := cL HX1 2 rfl
  have s_3 : w1_.cell? ⟨g1,3,none⟩ = some (.slice Al l.length cl) := cL HX1 3 rfl
  have s_4 : w1_.cell? ⟨g1,4,none⟩ = some (.slice Af f.length cf) := cL HX1 4 rfl
  have t_0 : w1_.cell? ⟨g2,0,none⟩ = some (.int .i64 g) := cL HX2 0 rfl
  have t_1 : w1_.cell? ⟨g2,1,none⟩ = some (.int .i64 s) := cL HX2 1 rfl
  have t_2 : w1_.cell? ⟨g2,2,none⟩ = some (.slice Bo o.length co2) := cL HX2 2 rfl
  have t_3 : w1_.cell? ⟨g2,3,none⟩ = some (.slice Bl l.length cl2) := cL HX2 3 rfl
  have t_4 : w1_.cell? ⟨g2,4,none⟩ = some (.slice Bf f.length cf2) := cL HX2 4 rfl
  by_cases hlt : i < o.length
  ·have HII := Aside0.mk hlt
   have hil : (i : Int) < (o.length : Int) := by omega
   have hi64 : (i : Int) + 1 ≤ 9223372036854775807 := by have := HL.out; omega
   have hlt2 : decide ((i : Int) < (o.length : Int)) = true := decide_eq_true hil
   have hlt3 : decide (i < o.length) = true := decide_eq_true hlt
   obtain ⟨ad,ea,hz⟩ := Kd.at_int (HT.out).1.1 (i : Int) (Int.natCast_nonneg i) hil
   obtain ⟨al,eb,hy⟩ := Kd.at_int (HS.out).1.1 (i : Int) (Int.natCast_nonneg i) hil
   rw [rd_nat,Int.toNat_natCast] at hz hy
   obtain ⟨z,hzz⟩ : ∃ z,z = o.getD i 0 := ⟨_,rfl⟩
   rw [← hzz] at hz hy
   clear hzz
   subst ea eb
   replace hil := eq_true hil
   clear hlt
   go_upto_region 6 with fail
   clear hlt2 hlt3
   go_quiet (fail)
   go_wp2_with fail
   go_roundw
   case rel => exact ⟨i + 1,by go_num,⟨HII.out⟩,⟨pw_below_drewN HBR.out _⟩⟩
   case measure => have := HII.out; simp [intOf]; omega
  ·obtain rfl : i = o.length := by have := HI.out; omega
   have hlt2 : decide ((o.length : Int) < (o.length : Int)) = false := decide_eq_false (by omega)
   have hlt3 : decide (o.length < o.length) = false := decide_eq_false (by omega)
   go_upto_region 8 with fail
   clear hlt2 hlt3
   go_wp2_with fail
   clear s_0 s_1 s_2 s_3 s_4 t_0 t_1 t_2 t_3 t_4
   clear HI HBR
   go_loopw [6] (fun v wr => ∃ i : Nat,v = .int .i64 (i : Int) ∧ Aside0 (i ≤ l.length) ∧ Aside0 (Below w1_.heap.size w1_ wr)) (fun v _ => l.length - (intOf v).toNat)
   case atStart => exact ⟨0,rfl,⟨Nat.zero_le _⟩,⟨Below.refl _ _⟩⟩
   case round =>
    rename World => w2_
    obtain ⟨i,rfl,HI,HBR⟩ := hrel
    replace HT := Aside0.mk (TC_below HT.out HBR.out)
    replace HS := Aside0.mk (TC_below HS.out HBR.out)
    replace HX1 := Aside0.mk (blk_below HX1.out HBR.out)
    replace HX2 := Aside0.mk (blk_below HX2.out HBR.out)
    replace HB := Aside0.mk (below_step HB.out HBR.out)
    have s_0 : w2_.cell? ⟨g1,0,none⟩ = some (.int .i64 g) := cL HX1 0 rfl
    have s_1 : w2_.cell? ⟨g1,1,none⟩ = some (.int .i64 s) := cL HX1 1 rfl
    have s_2 : w2_.cell? ⟨g1,2,none⟩ = some (.slice Ao o.length co) := cL HX1 2 rfl
    have s_3 : w2_.cell? ⟨g1,3,none⟩ = some (.slice Al l.length cl) := cL HX1 3 rfl
    have s_4 : w2_.cell? ⟨g1,4,none⟩ = some (.slice Af f.length cf) := cL HX1 4 rfl
    have t_0 : w2_.cell? ⟨g2,0,none⟩ = some (.int .i64 g) := cL HX2 0 rfl
    have t_1 : w2_.cell? ⟨g2,1,none⟩ = some (.int .i64 s) := cL HX2 1 rfl
    have t_2 : w2_.cell? ⟨g2,2,none⟩ = some (.slice Bo o.length co2) := cL HX2 2 rfl
    have t_3 : w2_.cell? ⟨g2,3,none⟩ = some (.slice Bl l.length cl2) := cL HX2 3 rfl
    have t_4 : w2_.cell? ⟨g2,4,none⟩ = some (.slice Bf f.length cf2) := cL HX2 4 rfl
    by_cases hlt : i < l.length
    ·have HII := Aside0.mk hlt
     have hil : (i : Int) < (l.length : Int) := by omega
     have hi64 : (i : Int) + 1 ≤ 9223372036854775807 := by have := HL.out; omega
     have hlt2 : decide ((i : Int) < (l.length : Int)) = true := decide_eq_true hil
     have hlt3 : decide (i < l.length) = true := decide_eq_true hlt
     obtain ⟨ad,ea,hz⟩ := Kd.at_int (HT.out).2.1.1 (i : Int) (Int.natCast_nonneg i) hil
     obtain ⟨al,eb,hy⟩ := Kd.at_int (HS.out).2.1.1 (i : Int) (Int.natCast_nonneg i) hil
     rw [rd_nat,Int.toNat_natCast] at hz hy
     obtain ⟨z,hzz⟩ : ∃ z,z = l.getD i 0 := ⟨_,rfl⟩
     rw [← hzz] at hz hy
     clear hzz
     subst ea eb
     replace hil := eq_true hil
     clear hlt
     go_upto_region 11 with fail
     clear hlt2 hlt3
     go_quiet (fail)
     go_wp2_with fail
     go_roundw
     case rel => exact ⟨i + 1,by go_num,⟨HII.out⟩,⟨pw_below_drewN HBR.out _⟩⟩
     case measure => have := HII.out; simp [intOf]; omega
    ·obtain rfl : i = l.length := by have := HI.out; omega
     have hlt2 : decide ((l.length : Int) < (l.length : Int)) = false := decide_eq_false (by omega)
     have hlt3 : decide (l.length < l.length) = false := decide_eq_false (by omega)
     go_upto_region 13 with fail
     clear hlt2 hlt3
     go_wp2_with fail
     clear s_0 s_1 s_2 s_3 s_4 t_0 t_1 t_2 t_3 t_4
     clear HI HBR
     go_loopw [7] (fun v wr => ∃ i : Nat,v = .int .i64 (i : Int) ∧ Aside0 (i ≤ f.length) ∧ Aside0 (Below w2_.heap.size w2_ wr)) (fun v _ => f.length - (intOf v).toNat)
     case atStart => exact ⟨0,rfl,⟨Nat.zero_le _⟩,⟨Below.refl _ _⟩⟩
     case round =>
      rename World => w3_
      obtain ⟨i,rfl,HI,HBR⟩ := hrel
      replace HT := Aside0.mk (TC_below HT.out HBR.out)
      replace HS := Aside0.mk (TC_below HS.out HBR.out)
      replace HX1 := Aside0.mk (blk_below HX1.out HBR.out)
      replace HX2 := Aside0.mk (blk_below HX2.out HBR.out)
      replace HB := Aside0.mk (below_step HB.out HBR.out)
      have s_0 : w3_.cell? ⟨g1,0,none⟩ = some (.int .i64 g) := cL HX1 0 rfl
      have s_1 : w3_.cell? ⟨g1,1,none⟩ = some (.int .i64 s) := cL HX1 1 rfl
      have s_2 : w3_.cell? ⟨g1,2,none⟩ = some (.slice Ao o.length co) := cL HX1 2 rfl
      have s_3 : w3_.cell? ⟨g1,3,none⟩ = some (.slice Al l.length cl) := cL HX1 3 rfl
      have s_4 : w3_.cell? ⟨g1,4,none⟩ = some (.slice Af f.length cf) := cL HX1 4 rfl
      have t_0 : w3_.cell? ⟨g2,0,none⟩ = some (.int .i64 g) := cL HX2 0 rfl
      have t_1 : w3_.cell? ⟨g2,1,none⟩ = some (.int .i64 s) := cL HX2 1 rfl
      have t_2 : w3_.cell? ⟨g2,2,none⟩ = some (.slice Bo o.length co2) := cL HX2 2 rfl
      have t_3 : w3_.cell? ⟨g2,3,none⟩ = some (.slice Bl l.length cl2) := cL HX2 3 rfl
      have t_4 : w3_.cell? ⟨g2,4,none⟩ = some (.slice Bf f.length cf2) := cL HX2 4 rfl
      by_cases hlt : i < f.length
      ·have HII := Aside0.mk hlt
       have hil : (i : Int) < (f.length : Int) := by omega
       have hi64 : (i : Int) + 1 ≤ 9223372036854775807 := by have := HL.out; omega
       have hlt2 : decide ((i : Int) < (f.length : Int)) = true := decide_eq_true hil
       have hlt3 : decide (i < f.length) = true := decide_eq_true hlt
       obtain ⟨ad,ea,hz⟩ := Kd.at_int (HT.out).2.2.1 (i : Int) (Int.natCast_nonneg i) hil
       obtain ⟨al,eb,hy⟩ := Kd.at_int (HS.out).2.2.1 (i : Int) (Int.natCast_nonneg i) hil
       rw [rd_nat,Int.toNat_natCast] at hz hy
       obtain ⟨z,hzz⟩ : ∃ z,z = f.getD i 0 := ⟨_,rfl⟩
       rw [← hzz] at hz hy
       clear hzz
       subst ea eb
       replace hil := eq_true hil
       clear hlt
       go_upto_region 16 with fail
       clear hlt2 hlt3
       go_quiet (fail)
       go_wp2_with fail
       go_roundw
       case rel => exact ⟨i + 1,by go_num,⟨HII.out⟩,⟨pw_below_drewN HBR.out _⟩⟩
       case measure => have := HII.out; simp [intOf]; omega
      ·obtain rfl : i = f.length := by have := HI.out; omega
       have hlt2 : decide ((f.length : Int) < (f.length : Int)) = false := decide_eq_false (by omega)
       have hlt3 : decide (f.length < f.length) = false := decide_eq_false (by omega)
       go_wp2_with fail
       go_ret
       exact ⟨rfl,HB.out⟩
end Go.Proofs.Ytbefoehjlgdcgaa.H
