/-
table.Right: whether a table may be.
-/
import Derived.Test.YtbefoehjlgdcgaaTk
namespace Go.Proofs.Ytbefoehjlgdcgaa.H
open Go.RowKit Go.Proofs.YtbefoehjlgdcgaaW.PrintWords Go.Proofs.YtbefoehjlgdcgaaW.PrintLast Go.Proofs.YtbefoehjlgdcgaaW.PrintMore
attribute [local go_sem] min2_int min_two
set_option linter.unusedVariables false
set_option linter.unusedSimpArgs false
def mayT (g s : Int) : Bool := decide (4 ≤ g ∧ g ≤ 16 ∧ 1 ≤ s ∧ s ≤ 30)
theorem may_is (g s : Int) : table_may.f g s = some (mayT g s) := by
 unfold table_may.f mayT
 by_cases h1 : g ≥ 4 <;> by_cases h2 : g ≤ 16 <;> by_cases h3 : s ≥ 1 <;> by_cases h4 : s ≤ 30 <;> simp [h1,h2,h3,h4]
theorem rmay_is (g s : Int) : lodgerref08_may.f g s = some (mayT g s) := may_is g s
/-- The i-th segment of a table may be. -/
def okT (g s : Int) (o l : List Int) (i : Nat) : Prop := (0 ≤ o.getD i 0 ∧ o.getD i 0 < g) ∧ ¬ o.getD i 0 ∈ o.take i ∧ 0 ≤ l.getD i 0 ∧ l.getD i 0 ≤ s
instance (g s : Int) (o l : List Int) (i : Nat) : Decidable (okT g s o l i) := by unfold okT; infer_instance
def upT (g s : Int) (o l : List Int) : Bool := decide (∀ i,i < o.length → okT g s o l i)
/-- A table may be. -/
def rtT (g s : Int) (o l f : List Int) : Bool := mayT g s && decide (o.length ≠ 0) && decide (l.length = o.length) && decide (f.length = o.length) && upT g s o l
theorem rtT_up {g s : Int} {o l f : List Int} (hm : mayT g s = true) (h0 : o.length ≠ 0) (hl : l.length = o.length) (hf : f.length = o.length) : rtT g s o l f = upT g s o l := by simp [rtT,hm,h0,hl,hf]
theorem rtT_may {g s : Int} {o l f : List Int} (hm : mayT g s = false) : rtT g s o l f = false := by simp [rtT,hm]
theorem rtT_zero {g s : Int} {o l f : List Int} (h : o.length = 0) : rtT g s o l f = false := by simp [rtT,h]
theorem rtT_l {g s : Int} {o l f : List Int} (h : l.length ≠ o.length) : rtT g s o l f = false := by simp [rtT,h]
theorem rtT_f {g s : Int} {o l f : List Int} (h : f.length ≠ o.length) : rtT g s o l f = false := by simp [rtT,h]
theorem up_no {g s : Int} {o l : List Int} {i : Nat} (hi : i < o.length) (h : ¬ okT g s o l i) : upT g s o l = false := decide_eq_false (fun q => h (q i hi))
theorem up_yes {g s : Int} {o l : List Int} (h : ∀ i,i < o.length → okT g s o l i) : upT g s o l = true := decide_eq_true h
theorem contains_at {W : World} {ad : Addr} {co i : Nat} {o : List Int} {z : Int} (hC : Kd.C (Kd.int .i64) W (some ad) (o.take i).length (o.take i)) (hi : i ≤ o.length) (hc : i ≤ co) (ho : o.length ≤ 1000) (n : Nat) :
  Calls Try.prog 34 #[.slice (some ad) i co,.int .i64 z] (W.drewN n) fun e w' => e = .returned (.bool (decide (z ∈ o.take i))) ∧ ∃ m,w' = W.drewN m := by
 have hl : (o.take i).length = i := by rw [List.length_take]; omega
 have h := slices_Contains_int_int.calls 1001 (some ad) co (o.take i) z (decide (z ∈ o.take i)) (W.drewN n) (Kd.C_drewN hC n) (by omega) (contains_is (o.take i) z (by omega) 1001 (by omega))
 rw [hl] at h
 refine Calls.quiet_of (h.mono ?_)
 rintro e w' ⟨rfl,hd⟩
 exact ⟨rfl,hd.out⟩
theorem int_ne {a b : Nat} (h : a ≠ b) : ((a : Int) != (b : Int)) = true ∧ ((a : Int) == (b : Int)) = false ∧ (a == b) = false ∧ (a != b) = true :=
 ⟨bne_iff_ne.2 (by omega),beq_eq_false_iff_ne.2 (by omega),beq_eq_false_iff_ne.2 h,bne_iff_ne.2 h⟩
theorem int_eq {a b : Nat} (h : a = b) : ((a : Int) != (b : Int)) = false ∧ ((a : Int) == (b : Int)) = true ∧ (a == b) = true ∧ (a != b) = false := by
 subst h
 exact ⟨bne_eq_false_iff_eq.2 rfl,beq_iff_eq.2 rfl,beq_iff_eq.2 rfl,bne_eq_false_iff_eq.2 rfl⟩
set_option maxHeartbeats 8000000 in
set_option maxRecDepth 100000 in
theorem right_calls (g s : Int) (Ao : Option Addr) (co : Nat) (o : List Int) (Al : Option Addr) (cl : Nat) (l : List Int) (Af : Option Addr) (cf : Nat) (f : List Int) (w : World) (hT : TC w Ao co o Al cl l Af cf f) (hl : o.length ≤ 1000) :
  Calls Try.prog 13 #[.agg #[.int .i64 g,.int .i64 s,.slice Ao o.length co,.slice Al l.length cl,.slice Af f.length cf]] w fun e w' => e = .returned (.bool (rtT g s o l f)) ∧ Below w.heap.size w w' := by
 have HT := Aside0.mk hT
 have HL := Aside0.mk hl
 clear hT hl
 obtain ⟨r,hr⟩ : ∃ r,r = rtT g s o l f := ⟨_,rfl⟩
 rw [← hr]
 have HR := Aside0.mk hr
 clear hr
 go_enter Try.func13,Try.ntmps13
 go_upto_region 1 with fail
 obtain ⟨W1,hW1⟩ : ∃ W1,W1 = w.alloc (.cells #[.int .i64 g,.int .i64 s,.slice Ao o.length co,.slice Al l.length cl,.slice Af f.length cf] 28) := ⟨_,rfl⟩
 rw [← hW1]
 obtain ⟨gs,hgs⟩ : ∃ g,g = w.heap.size := ⟨_,rfl⟩
 have HXs : Aside0 (W1.heap[gs]? = some (.cells #[.int .i64 g,.int .i64 s,.slice Ao o.length co,.slice Al l.length cl,.slice Af f.length cf] 28 (0,0))) := ⟨by rw [hW1,hgs]; exact blk_new _ _⟩
 have HB : Aside0 (Below w.heap.size w W1) := ⟨by rw [hW1]; exact below_alloc (Below.refl _ _) _⟩
 rw [← hgs]
 clear hW1 hgs
 have s_0 : W1.cell? ⟨gs,0,none⟩ = some (.int .i64 g) := cL HXs 0 rfl
 have s_1 : W1.cell? ⟨gs,1,none⟩ = some (.int .i64 s) := cL HXs 1 rfl
 have s_2 : W1.cell? ⟨gs,2,none⟩ = some (.slice Ao o.length co) := cL HXs 2 rfl
 have s_3 : W1.cell? ⟨gs,3,none⟩ = some (.slice Al l.length cl) := cL HXs 3 rfl
 have s_4 : W1.cell? ⟨gs,4,none⟩ = some (.slice Af f.length cf) := cL HXs 4 rfl
 go_wp2_with fail
 refine (table_may.calls g s (mayT g s) _ (may_is g s)).mono ?_
 rintro e_ w2 ⟨rfl,hb⟩
 replace hb := Drawn0.below hb
 clear s_0 s_1 s_2 s_3 s_4
 replace HXs := mB HXs hb
 replace HB := mS HB hb
 clear hb
 have s_0 : w2.cell? ⟨gs,0,none⟩ = some (.int .i64 g) := cL HXs 0 rfl
 have s_1 : w2.cell? ⟨gs,1,none⟩ = some (.int .i64 s) := cL HXs 1 rfl
 have s_2 : w2.cell? ⟨gs,2,none⟩ = some (.slice Ao o.length co) := cL HXs 2 rfl
 have s_3 : w2.cell? ⟨gs,3,none⟩ = some (.slice Al l.length cl) := cL HXs 3 rfl
 have s_4 : w2.cell? ⟨gs,4,none⟩ = some (.slice Af f.length cf) := cL HXs 4 rfl
 by_cases hm : mayT g s = false
 ·have hq : (!mayT g s) = true := by rw [hm]; rfl
  go_wp2_with fail
  go_ret
  exact ⟨by rw [HR.out,rtT_may hm]; rfl,HB.out⟩
 ·have hm := (by simpa using hm : mayT g s = true)
  have hq : (!mayT g s) = false := by rw [hm]; rfl
  by_cases h0 : o.length = 0
  ·have z1 : ((o.length : Int) == 0) = true := beq_iff_eq.2 (by omega)
   have z2 : (o.length == 0) = true := beq_iff_eq.2 h0
   go_wp2_with fail
   go_ret
   exact ⟨by rw [HR.out,rtT_zero h0]; rfl,HB.out⟩
  ·have z1 : ((o.length : Int) == 0) = false := beq_eq_false_iff_ne.2 (by omega)
   have z2 : (o.length == 0) = false := beq_eq_false_iff_ne.2 h0
   by_cases hlo : l.length = o.length
   ·obtain ⟨n1,n2,n3,n4⟩ := int_eq (a := l.length) (b := o.length) hlo
    by_cases hfo : f.length = o.length
    ·obtain ⟨m1,m2,m3,m4⟩ := int_eq (a := f.length) (b := o.length) hfo
     have HRT := Aside0.mk (HR.out.trans (rtT_up hm h0 hlo hfo))
     have HLO := Aside0.mk hlo
     clear HR hm h0 hlo hfo
     go_upto_region 3 with fail
     clear z1 z2 n1 n2 n3 n4 m1 m2 m3 m4 hq
     go_wp2_with fail
     clear s_0 s_1 s_2 s_3 s_4
     go_loopw [38] (fun v38 wr => ∃ i : Nat,v38 = .int .i64 (i : Int) ∧ Aside0 (i ≤ o.length) ∧ Aside0 (∀ j,j < i → okT g s o l j) ∧ Aside0 (Below w2.heap.size w2 wr)) (fun v _ => o.length - (intOf v).toNat)
     case atStart => exact ⟨0,rfl,⟨Nat.zero_le _⟩,⟨fun j hj => absurd hj (Nat.not_lt_zero _)⟩,⟨Below.refl _ _⟩⟩
     case round =>
      obtain ⟨i,rfl,HI,HU,HBR⟩ := hrel
      have HXr := Aside0.mk (blk_below HXs.out HBR.out)
      have HBr := Aside0.mk (below_step HB.out HBR.out)
      by_cases hlt : i < o.length
      ·have HII := Aside0.mk hlt
       have hi0 : 0 ≤ (i : Int) := Int.natCast_nonneg i
       have hil : (i : Int) < (o.length : Int) := by omega
       have hil2 : (i : Int) < (l.length : Int) := by have := HLO.out; omega
       have hi64 : (i : Int) + 1 ≤ 9223372036854775807 := by have := HL.out; omega
       have hlt2 : decide ((i : Int) < (o.length : Int)) = true := decide_eq_true hil
       obtain ⟨ad,ea,hz⟩ := Kd.at_int (TC_below (TC_below HT.out HB.out) HBR.out).1.1 (i : Int) hi0 hil
       obtain ⟨al,eb,hy⟩ := Kd.at_int (TC_below (TC_below HT.out HB.out) HBR.out).2.1.1 (i : Int) hi0 hil2
       rw [rd_nat,Int.toNat_natCast] at hz hy
       obtain ⟨z,hzz⟩ : ∃ z,z = o.getD i 0 := ⟨_,rfl⟩
       obtain ⟨y,hyy⟩ : ∃ y,y = l.getD i 0 := ⟨_,rfl⟩
       rw [← hzz] at hz
       rw [← hyy] at hy
       have hCI : Aside0 (Kd.C (Kd.int .i64) wr Ao (o.take i).length (o.take i)) := ⟨Kd.C_take (TC_below (TC_below HT.out HB.out) HBR.out).1.1 (by omega)⟩
       have HZ := Aside0.mk hzz
       have HY := Aside0.mk hyy
       have hcc : (i : Int) ≤ (co : Int) := by have := HT.out.1.2; omega
       have HCC : Aside0 (i ≤ co) := ⟨by omega⟩
       cases ea
       cases eb
       replace hi0 := eq_true hi0
       replace hil := eq_true hil
       replace hil2 := eq_true hil2
       clear hlt hzz hyy
       have s_0 : wr.cell? ⟨gs,0,none⟩ = some (.int .i64 g) := cL HXr 0 rfl
       have s_1 : wr.cell? ⟨gs,1,none⟩ = some (.int .i64 s) := cL HXr 1 rfl
       have s_2 : wr.cell? ⟨gs,2,none⟩ = some (.slice (some ad) o.length co) := cL HXr 2 rfl
       have s_3 : wr.cell? ⟨gs,3,none⟩ = some (.slice (some al) l.length cl) := cL HXr 3 rfl
       have s_4 : wr.cell? ⟨gs,4,none⟩ = some (.slice Af f.length cf) := cL HXr 4 rfl
       go_upto_region 6 with fail
       clear hlt2
       by_cases h1 : z < 0
       ·have t1 := decide_eq_true h1
        go_quiet (exact contains_at hCI.out (Nat.le_of_lt HII.out) HCC.out HL.out _)
        have hno : ¬ okT g s o l i := fun q_ => by
         obtain ⟨⟨q1,q2⟩,q3,q4,q5⟩ := q_
         rw [← HZ.out] at q1 q2 q3
         rw [← HY.out] at q4 q5
         omega
        go_wp2_with fail
        go_ret
        exact ⟨by rw [HRT.out,up_no HII.out hno]; rfl,pw_below_drewN HBr.out _⟩
       ·have t1 := decide_eq_false h1
        by_cases h2 : g ≤ z
        ·have t2 := decide_eq_true h2
         go_quiet (exact contains_at hCI.out (Nat.le_of_lt HII.out) HCC.out HL.out _)
         have hno : ¬ okT g s o l i := fun q_ => by
          obtain ⟨⟨q1,q2⟩,q3,q4,q5⟩ := q_
          rw [← HZ.out] at q1 q2 q3
          rw [← HY.out] at q4 q5
          omega
         go_wp2_with fail
         go_ret
         exact ⟨by rw [HRT.out,up_no HII.out hno]; rfl,pw_below_drewN HBr.out _⟩
        ·have t2 := decide_eq_false h2
         by_cases h3 : z ∈ o.take i
         ·have t3 := decide_eq_true h3
          go_quiet (exact contains_at hCI.out (Nat.le_of_lt HII.out) HCC.out HL.out _)
          have hno : ¬ okT g s o l i := fun q_ => by
           obtain ⟨⟨q1,q2⟩,q3,q4,q5⟩ := q_
           rw [← HZ.out] at q1 q2 q3
           rw [← HY.out] at q4 q5
           exact q3 h3
          go_wp2_with fail
          go_ret
          exact ⟨by rw [HRT.out,up_no HII.out hno]; rfl,pw_below_drewN HBr.out _⟩
         ·have t3 := decide_eq_false h3
          by_cases h4 : y < 0
          ·have t4 := decide_eq_true h4
           go_quiet (exact contains_at hCI.out (Nat.le_of_lt HII.out) HCC.out HL.out _)
           have hno : ¬ okT g s o l i := fun q_ => by
            obtain ⟨⟨q1,q2⟩,q3,q4,q5⟩ := q_
            rw [← HZ.out] at q1 q2 q3
            rw [← HY.out] at q4 q5
            omega
           go_wp2_with fail
           go_ret
           exact ⟨by rw [HRT.out,up_no HII.out hno]; rfl,pw_below_drewN HBr.out _⟩
          ·have t4 := decide_eq_false h4
           by_cases h5 : s < y
           ·have t5 := decide_eq_true h5
            go_quiet (exact contains_at hCI.out (Nat.le_of_lt HII.out) HCC.out HL.out _)
            have hno : ¬ okT g s o l i := fun q_ => by
             obtain ⟨⟨q1,q2⟩,q3,q4,q5⟩ := q_
             rw [← HZ.out] at q1 q2 q3
             rw [← HY.out] at q4 q5
             omega
            go_wp2_with fail
            go_ret
            exact ⟨by rw [HRT.out,up_no HII.out hno]; rfl,pw_below_drewN HBr.out _⟩
           ·have t5 := decide_eq_false h5
            have HOK : Aside0 (okT g s o l i) := ⟨⟨by rw [← HZ.out]; omega,by rw [← HZ.out]; exact h3,by rw [← HY.out]; omega⟩⟩
            go_quiet (exact contains_at hCI.out (Nat.le_of_lt HII.out) HCC.out HL.out _)
            clear t1 t2 t3 t4 t5 h1 h2 h3 h4 h5
            go_wp2_with fail
            go_roundw
            case rel => exact ⟨i + 1,by go_num,⟨HII.out⟩,⟨fun j hj => by rcases Nat.lt_succ_iff_lt_or_eq.1 hj with h | h; exact HU.out j h; exact h ▸ HOK.out⟩,⟨pw_below_drewN HBR.out _⟩⟩
            case measure => have := HII.out; simp [intOf]; omega
      ·obtain rfl : i = o.length := by have := HI.out; omega
       have hlt2 : decide ((o.length : Int) < (o.length : Int)) = false := decide_eq_false (by omega)
       have hlt3 : decide (o.length < o.length) = false := decide_eq_false (by omega)
       go_wp2_with fail
       go_ret
       exact ⟨by rw [HRT.out,up_yes HU.out]; rfl,HBr.out⟩
    ·obtain ⟨m1,m2,m3,m4⟩ := int_ne (a := f.length) (b := o.length) hfo
     go_wp2_with fail
     go_ret
     exact ⟨by rw [HR.out,rtT_f hfo]; rfl,HB.out⟩
   ·obtain ⟨n1,n2,n3,n4⟩ := int_ne (a := l.length) (b := o.length) hlo
    go_wp2_with fail
    go_ret
    exact ⟨by rw [HR.out,rtT_l hlo]; rfl,HB.out⟩
end Go.Proofs.Ytbefoehjlgdcgaa.H
