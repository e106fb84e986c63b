/-
The walk of TableCycle.
-/
import Derived.Test.YtbefoehjlgdcgaaFx
import Derived.Test.YtbefoehjlgdcgaaCy
namespace Go.Proofs.Ytbefoehjlgdcgaa.H
open Go.RowKit Go.Proofs.YtbefoehjlgdcgaaW.PrintWords Go.Proofs.YtbefoehjlgdcgaaW.PrintLast Go.Proofs.YtbefoehjlgdcgaaW.PrintMore
attribute [local go_sem] max2_int min2_int max_two min_two max_three min_three max_four min_four
set_option linter.unusedVariables false
set_option linter.unusedSimpArgs false
theorem zyI {α : Type} (l : List α) (i : Nat) (a : α) : l.toArray.setIfInBounds i a = (l.set i a).toArray := List.setIfInBounds_toArray l i a
theorem zys0 {α : Type} (x : α) (l : List α) (a : α) : (x :: l).set 0 a = a :: l := rfl
theorem zys1 {α : Type} (x : α) (l : List α) (i : Nat) (a : α) : (x :: l).set (i + 1) a = x :: l.set i a := rfl
set_option maxHeartbeats 8000000 in
set_option maxRecDepth 100000 in
theorem TableCycle_walk0 (su sl first : Int) (hs : 0 ≤ su ∧ su ≤ 255) (hu : 0 ≤ sl ∧ sl ≤ 255) (w : World) :
  Calls Try.prog 8 #[.int .u8 su,.int .u8 sl,.int .u64 first] w fun e w' => e = .returned (.bool true) ∧ Below w.heap.size w w' := by
 go_enter Try.func8,Try.ntmps8
 go_upto_region 2 with fail
 obtain ⟨n,hn⟩ : ∃ n : Nat,(n : Int) = 4 + su % 13 := ⟨(4 + su % 13).toNat,by omega⟩
 obtain ⟨m,hm⟩ : ∃ m,m = 1 + sl % 30 := ⟨_,rfl⟩
 rw [← hn,← hm]
 have HN : Aside0 (4 ≤ n ∧ n ≤ 16) := ⟨by omega⟩
 have HM : Aside0 (1 ≤ m ∧ m ≤ 30) := ⟨by omega⟩
 have HMY : Aside0 (mayT (n : Int) m = true) := ⟨decide_eq_true (by omega)⟩
 clear hn hm hs hu
 have HB := Aside0.mk (Below.refl w.heap.size w)
 go_wp2_with fail
 refine (new_yes n m first _ ((may_is _ _).trans (congrArg some HMY.out))).mono ?_
 rintro e_ w1 ⟨A1,c1,A2,c2,A3,c3,rfl,hr,hb⟩
 have HT := Aside0.mk hr
 have HB0 := Aside0.mk hb
 replace HB := Aside0.mk (below_step HB.out hb)
 clear hr hb
 go_upto_region 3 with ((with_reducible refine gate_dst (N := 9) rfl ?_); refine box_event ?hg (N := 9) ?hd (cs := #[.int .i64 0,.int .i64 0,.slice none 0 0,.slice none 0 0,.slice none 0 0]) (t := 28) ?hr ?_; (case hd => rfl); (case hg => rfl); (case hr => first | (go_simp; done) | (go_simp; rfl)); intro g9 hgo w2 hbox hbb; have HBO := Aside0.mk hbox; have HBB := Aside0.mk hbb; have HGO := Aside0.mk hgo; have y0 : w2.cell? ⟨g9,0,none⟩ = some (.int .i64 0) := (blk_cell hbox 0).trans rfl; have y1 : w2.cell? ⟨g9,1,none⟩ = some (.int .i64 0) := (blk_cell hbox 1).trans rfl; have y2 : w2.cell? ⟨g9,2,none⟩ = some (.slice none 0 0) := (blk_cell hbox 2).trans rfl; have y3 : w2.cell? ⟨g9,3,none⟩ = some (.slice none 0 0) := (blk_cell hbox 3).trans rfl; have y4 : w2.cell? ⟨g9,4,none⟩ = some (.slice none 0 0) := (blk_cell hbox 4).trans rfl; have yf0 := blk_frozen hbox 0; have yf1 := blk_frozen hbox 1; have yf2 := blk_frozen hbox 2; have yf3 := blk_frozen hbox 3; have yf4 := blk_frozen hbox 4; clear hbox hbb hgo)
 clear y0 y1 y2 y3 y4 yf0 yf1 yf2 yf3 yf4
 obtain ⟨w3,hW⟩ : ∃ W_,W_ = (((((w2.setCell ⟨g9,0,none⟩ (.int .i64 (n : Int))).setCell ⟨g9,1,none⟩ (.int .i64 m)).setCell ⟨g9,2,none⟩ (.slice A1 1 c1)).setCell ⟨g9,3,none⟩ (.slice A2 1 c2)).setCell ⟨g9,4,none⟩ (.slice A3 1 c3)) := ⟨_,rfl⟩
 rw [← hW]
 have HGg9 : Aside0 (w1.heap.size ≤ g9) := ⟨Nat.le_of_eq HGO.out.symm⟩
 have h_ : Below w1.heap.size w1 w3 := below5 hW HBB.out HGg9.out
 have HX9 := Aside0.mk (set5 hW HBO.out)
 clear hW HBO HBB HGO
 replace HT := Aside0.mk (TR_below HT.out h_)
 replace HB := Aside0.mk (below_step HB.out h_)
 clear h_
 have s_0 : w3.cell? ⟨g9,0,none⟩ = some (.int .i64 (n : Int)) := (blk_cell HX9.out 0).trans rfl
 have s_1 : w3.cell? ⟨g9,1,none⟩ = some (.int .i64 m) := (blk_cell HX9.out 1).trans rfl
 have s_2 : w3.cell? ⟨g9,2,none⟩ = some (.slice A1 1 c1) := (blk_cell HX9.out 2).trans rfl
 have s_3 : w3.cell? ⟨g9,3,none⟩ = some (.slice A2 1 c2) := (blk_cell HX9.out 3).trans rfl
 have s_4 : w3.cell? ⟨g9,4,none⟩ = some (.slice A3 1 c3) := (blk_cell HX9.out 4).trans rfl
 go_wp2_with fail
 clear s_0 s_1 s_2 s_3 s_4
 refine (right_calls n m _ _ [0] _ _ [0] _ _ [first] _ (TR_TC HT.out) (by decide)).mono ?_
 rintro e_ w4 ⟨he,hb⟩
 have he2 : e_ = .returned (.bool true) := he.trans (congrArg (fun b_ => Ending.returned (.bool b_)) (rt_up (a := 0) (k := 1) HMY.out (Nat.le_refl _) (by have := HN.out; omega) rfl))
 subst he2
 clear he
 replace HX9 := Aside0.mk (blk_below HX9.out hb)
 replace HT := Aside0.mk (TR_below HT.out hb)
 replace HB := Aside0.mk (below_step HB.out hb)
 clear hb
 have HG9 : Aside0 (w.heap.size ≤ g9) := ⟨Nat.le_trans (below_size HB0.out) HGg9.out⟩
 go_upto_region 5 with fail
 go_wp2_with fail
 clear HB0 HGg9
 go_loopw [11] (fun v wr => ∃ (i : Nat) (A1 : Option Addr) (c1 : Nat) (A2 : Option Addr) (c2 : Nat) (A3 : Option Addr) (c3 : Nat) (o l f : List Int),v = .int .i64 (i : Int) ∧ Aside0 (1 ≤ i ∧ i ≤ n) ∧ Aside0 (o = up 0 i ∧ l = zs i ∧ f.length = i) ∧ Aside0 (TR wr w.heap.size A1 c1 o A2 c2 l A3 c3 f) ∧ Aside0 (wr.heap[g9]? = some (.cells #[.int .i64 (n : Int),.int .i64 m,.slice A1 o.length c1,.slice A2 l.length c2,.slice A3 f.length c3] 28 (0,0))) ∧ Aside0 (Below w.heap.size w wr)) (fun v _ => n - (intOf v).toNat)
 case atStart => exact ⟨1,A1,c1,A2,c2,A3,c3,[0],[0],[first],rfl,⟨by have := HN.out; omega⟩,⟨rfl,rfl,rfl⟩,HT,HX9,HB⟩
 case round =>
  clear HX9 HT HB
  rename World => wr1
  obtain ⟨i,A1,c1,A2,c2,A3,c3,o,l,f,rfl,HI,HO,HT,HX9,HB⟩ := hrel
  have s_0 : wr1.cell? ⟨g9,0,none⟩ = some (.int .i64 (n : Int)) := (blk_cell HX9.out 0).trans rfl
  have s_1 : wr1.cell? ⟨g9,1,none⟩ = some (.int .i64 m) := (blk_cell HX9.out 1).trans rfl
  have s_2 : wr1.cell? ⟨g9,2,none⟩ = some (.slice A1 o.length c1) := (blk_cell HX9.out 2).trans rfl
  have s_3 : wr1.cell? ⟨g9,3,none⟩ = some (.slice A2 l.length c2) := (blk_cell HX9.out 3).trans rfl
  have s_4 : wr1.cell? ⟨g9,4,none⟩ = some (.slice A3 f.length c3) := (blk_cell HX9.out 4).trans rfl
  by_cases hlt : i < n
  ·have hil : (i : Int) < (n : Int) := by omega
   have hi64 : (i : Int) + 1 ≤ 9223372036854775807 := by have := HN.out; omega
   have hlt2 : decide ((i : Int) < (n : Int)) = true := decide_eq_true hil
   have hlt3 : decide (i < n) = true := decide_eq_true hlt
   have HII := Aside0.mk hlt
   have HFR : Aside0 (frk (n : Int).toNat o = (i : Int) :: up (i + 1) (n - i - 1)) := ⟨by rw [Int.toNat_natCast,HO.out.1]; exact frk_one (by have := HN.out; omega) hlt⟩
   have HLN : Aside0 (o.length = i ∧ l.length = i) := ⟨by rw [HO.out.1,HO.out.2.1,up_len,zs_len]; exact ⟨rfl,rfl⟩⟩
   clear hlt
   obtain ⟨V,hV⟩ : ∃ V,IntKind.u64.wrap (first + (i : Int)) = V := ⟨_,rfl⟩
   go_wp2_with fail
   clear hlt2 hlt3 hil
   clear s_0 s_1 s_2 s_3 s_4
   refine (roll_yes n m A1 c1 o A2 c2 l A3 c3 f V _ (TR_TC HT.out) ⟨by have := HLN.out; have := HI.out; have := HN.out; omega,by have := HLN.out; have := HI.out; have := HN.out; omega,by have := HO.out.2.2; have := HI.out; have := HN.out; omega⟩ ⟨by have := HN.out; omega,by have := HN.out; omega⟩ i _ HFR.out).mono ?_
   rintro e_ w2 ⟨B1,e1,B2,e2,B3,e3,rfl,hr,hb⟩
   obtain ⟨o2,ho2⟩ : ∃ z,z = o ++ [(i : Int)] := ⟨_,rfl⟩
   rw [← ho2] at hr ⊢
   obtain ⟨l2,hl2⟩ : ∃ z,z = l ++ [0] := ⟨_,rfl⟩
   rw [← hl2] at hr ⊢
   obtain ⟨f2,hf2⟩ : ∃ z,z = f ++ [V] := ⟨_,rfl⟩
   rw [← hf2] at hr ⊢
   have HO2 : Aside0 (o2 = up 0 (i + 1) ∧ l2 = zs (i + 1) ∧ f2.length = i + 1) := ⟨by rw [ho2,hl2,hf2,HO.out.1,HO.out.2.1]; refine ⟨?_,zs_snoc i,by rw [List.length_append,HO.out.2.2]; rfl⟩; have := up_snoc 0 i; rwa [Nat.zero_add] at this⟩
   have HVV : Aside0 (rd f2 (i : Int) = V) := ⟨by rw [hf2,rd_nat,List.getD_eq_getElem?_getD,List.getElem?_append_right (by rw [HO.out.2.2]; exact Nat.le_refl _),HO.out.2.2,Nat.sub_self]; rfl⟩
   replace HT := Aside0.mk (TR_lower hr (below_size HB.out))
   replace HX9 := Aside0.mk (blk_below HX9.out hb)
   replace HB := Aside0.mk (below_step HB.out hb)
   clear hr hb ho2 hl2 hf2 HO HLN HFR
   have HX9a := Aside0.mk HX9.out
   go_upto_region 9 with ((with_reducible refine gate_dst (N := 12) rfl ?_); refine box_event ?hg (N := 12) ?hd (cs := #[.int .i64 0,.int .i64 0,.slice none 0 0,.slice none 0 0,.slice none 0 0]) (t := 28) ?hr ?_; (case hd => rfl); (case hg => rfl); (case hr => first | (go_simp; done) | (go_simp; rfl)); intro gx hgo w3 hbox hbb; have HBO := Aside0.mk hbox; have HBB := Aside0.mk hbb; have HGO := Aside0.mk hgo; have y0 : w3.cell? ⟨gx,0,none⟩ = some (.int .i64 0) := (blk_cell hbox 0).trans rfl; have y1 : w3.cell? ⟨gx,1,none⟩ = some (.int .i64 0) := (blk_cell hbox 1).trans rfl; have y2 : w3.cell? ⟨gx,2,none⟩ = some (.slice none 0 0) := (blk_cell hbox 2).trans rfl; have y3 : w3.cell? ⟨gx,3,none⟩ = some (.slice none 0 0) := (blk_cell hbox 3).trans rfl; have y4 : w3.cell? ⟨gx,4,none⟩ = some (.slice none 0 0) := (blk_cell hbox 4).trans rfl; have yf0 := blk_frozen hbox 0; have yf1 := blk_frozen hbox 1; have yf2 := blk_frozen hbox 2; have yf3 := blk_frozen hbox 3; have yf4 := blk_frozen hbox 4; clear hbox hbb hgo)
   clear y0 y1 y2 y3 y4 yf0 yf1 yf2 yf3 yf4
   obtain ⟨w4,hW⟩ : ∃ W_,W_ = (((((w3.setCell ⟨gx,0,none⟩ (.int .i64 (n : Int))).setCell ⟨gx,1,none⟩ (.int .i64 m)).setCell ⟨gx,2,none⟩ (.slice B1 o2.length e1)).setCell ⟨gx,3,none⟩ (.slice B2 l2.length e2)).setCell ⟨gx,4,none⟩ (.slice B3 f2.length e3)) := ⟨_,rfl⟩
   rw [← hW]
   have HGgx : Aside0 (w2.heap.size ≤ gx) := ⟨Nat.le_of_eq HGO.out.symm⟩
   have h_ : Below w2.heap.size w2 w4 := below5 hW HBB.out HGgx.out
   have HXx := Aside0.mk (set5 hW HBO.out)
   clear hW HBO HBB HGO
   replace HX9 := Aside0.mk (blk_below HX9.out h_)
   replace HT := Aside0.mk (TR_below HT.out h_)
   replace HB := Aside0.mk (below_step HB.out h_)
   clear h_
   have NE : Aside0 (gx ≠ g9) := ⟨fun e_ => by have := blk_lt HX9a.out; have := HGgx.out; omega⟩
   clear HX9a
   have HL2 : Aside0 (o2.length = i + 1 ∧ l2.length = i + 1) := ⟨by rw [HO2.out.1,HO2.out.2.1,up_len,zs_len]; exact ⟨rfl,rfl⟩⟩
   have s_0 : w4.cell? ⟨gx,0,none⟩ = some (.int .i64 (n : Int)) := (blk_cell HXx.out 0).trans rfl
   have s_1 : w4.cell? ⟨gx,1,none⟩ = some (.int .i64 m) := (blk_cell HXx.out 1).trans rfl
   have s_2 : w4.cell? ⟨gx,2,none⟩ = some (.slice B1 o2.length e1) := (blk_cell HXx.out 2).trans rfl
   have s_3 : w4.cell? ⟨gx,3,none⟩ = some (.slice B2 l2.length e2) := (blk_cell HXx.out 3).trans rfl
   have s_4 : w4.cell? ⟨gx,4,none⟩ = some (.slice B3 f2.length e3) := (blk_cell HXx.out 4).trans rfl
   go_wp2_with fail
   clear s_0 s_1 s_2 s_3 s_4
   refine (right_calls n m B1 e1 o2 B2 e2 l2 B3 e3 f2 _ (TR_TC HT.out) (by have := HL2.out; have := HN.out; have := HII.out; omega)).mono ?_
   rintro e_ w5 ⟨he,hb⟩
   have he2 : e_ = .returned (.bool true) := he.trans (congrArg (fun b_ => Ending.returned (.bool b_)) (by rw [HO2.out.1,HO2.out.2.1]; exact rt_up HMY.out (by omega) (by have := HII.out; omega) HO2.out.2.2))
   subst he2
   clear he
   replace HX9 := Aside0.mk (blk_below HX9.out hb)
   replace HT := Aside0.mk (TR_below HT.out hb)
   replace HB := Aside0.mk (below_step HB.out hb)
   replace HXx := Aside0.mk (blk_below HXx.out hb)
   clear hb
   have hi0 : (0 : Int) ≤ (i : Int) := Int.natCast_nonneg i
   have hio : (i : Int) < (o2.length : Int) := by have := HL2.out.1; omega
   have hif : (i : Int) < (f2.length : Int) := by have := HO2.out.2.2; omega
   obtain ⟨ad,ea,hz⟩ := Kd.at_int (TR_TC HT.out).1.1 (i : Int) hi0 hio
   obtain ⟨al,eb,hy⟩ := Kd.at_int (TR_TC HT.out).2.2.1 (i : Int) hi0 hif
   have hz1 : rd o2 (i : Int) = (i : Int) := by rw [rd_nat,HO2.out.1,up_get (by omega),Nat.zero_add]
   rw [hz1,Int.toNat_natCast] at hz
   rw [HVV.out,Int.toNat_natCast] at hy
   clear hz1 hi0
   cases ea
   cases eb
   replace hio := eq_true hio
   replace hif := eq_true hif
   have t1 : ((o2.length : Int) != (i : Int) + 1) = false := bne_eq_false_iff_eq.2 (by have := HL2.out.1; omega)
   have t2 : ((o2.length : Int) == (i : Int) + 1) = true := beq_iff_eq.2 (by have := HL2.out.1; omega)
   have s_0 : w5.cell? ⟨gx,0,none⟩ = some (.int .i64 (n : Int)) := (blk_cell HXx.out 0).trans rfl
   have s_1 : w5.cell? ⟨gx,1,none⟩ = some (.int .i64 m) := (blk_cell HXx.out 1).trans rfl
   have s_2 : w5.cell? ⟨gx,2,none⟩ = some (.slice (some ad) o2.length e1) := (blk_cell HXx.out 2).trans rfl
   have s_3 : w5.cell? ⟨gx,3,none⟩ = some (.slice B2 l2.length e2) := (blk_cell HXx.out 3).trans rfl
   have s_4 : w5.cell? ⟨gx,4,none⟩ = some (.slice (some al) f2.length e3) := (blk_cell HXx.out 4).trans rfl
   have n_0 : w5.cell? ⟨g9,0,none⟩ = some (.int .i64 (n : Int)) := (blk_cell HX9.out 0).trans rfl
   have n_1 : w5.cell? ⟨g9,1,none⟩ = some (.int .i64 m) := (blk_cell HX9.out 1).trans rfl
   have n_2 : w5.cell? ⟨g9,2,none⟩ = some (.slice A1 o.length c1) := (blk_cell HX9.out 2).trans rfl
   have n_3 : w5.cell? ⟨g9,3,none⟩ = some (.slice A2 l.length c2) := (blk_cell HX9.out 3).trans rfl
   have n_4 : w5.cell? ⟨g9,4,none⟩ = some (.slice A3 f.length c3) := (blk_cell HX9.out 4).trans rfl
   have nf_0 := blk_frozen HX9.out 0
   have nf_1 := blk_frozen HX9.out 1
   have nf_2 := blk_frozen HX9.out 2
   have nf_3 := blk_frozen HX9.out 3
   have nf_4 := blk_frozen HX9.out 4
   go_wp2_with fail
   clear t1 t2 hio hif
   clear s_0 s_1 s_2 s_3 s_4 n_0 n_1 n_2 n_3 n_4 nf_0 nf_1 nf_2 nf_3 nf_4
   obtain ⟨W6,hW⟩ : ∃ W_,W_ = (((((w5.setCell ⟨g9,0,none⟩ (.int .i64 (n : Int))).setCell ⟨g9,1,none⟩ (.int .i64 m)).setCell ⟨g9,2,none⟩ (.slice (some ad) o2.length e1)).setCell ⟨g9,3,none⟩ (.slice B2 l2.length e2)).setCell ⟨g9,4,none⟩ (.slice (some al) f2.length e3)) := ⟨_,rfl⟩
   rw [← hW]
   refine ⟨⟨i + 1,some ad,e1,B2,e2,some al,e3,o2,l2,f2,congrArg (Value.int IntKind.i64) (by omega),⟨by have := HII.out; omega⟩,HO2,⟨tr5 hW HX9.out (by decide) (by decide) HT.out⟩,⟨set5 hW HX9.out⟩,⟨below5 hW HB.out HG9.out⟩⟩,?_⟩
   have := HII.out
   simp [intOf]
   omega
  ·obtain rfl : n = i := by have := HI.out; omega
   have hlt2 : decide ((n : Int) < (n : Int)) = false := decide_eq_false (by omega)
   have hlt3 : decide (n < n) = false := decide_eq_false (by omega)
   have HFN : Aside0 (frk (n : Int).toNat o = []) := ⟨by rw [Int.toNat_natCast,HO.out.1]; exact frk_none (by have := HN.out; omega)⟩
   have HLN : Aside0 (o.length = n ∧ l.length = n) := ⟨by rw [HO.out.1,HO.out.2.1,up_len,zs_len]; exact ⟨rfl,rfl⟩⟩
   clear hlt
   go_wp2_with fail
   clear hlt2 hlt3
   clear s_0 s_1 s_2 s_3 s_4
   refine (roll_no n m A1 c1 o A2 c2 l A3 c3 f 0 _ (TR_TC HT.out) ⟨by have := HLN.out; have := HN.out; omega,by have := HLN.out; have := HN.out; omega,by have := HO.out.2.2; have := HN.out; omega⟩ ⟨by have := HN.out; omega,by have := HN.out; omega⟩ HFN.out).mono ?_
   rintro e_ w2 ⟨rfl,hb⟩
   replace HX9 := Aside0.mk (blk_below HX9.out hb)
   replace HT := Aside0.mk (TR_below HT.out hb)
   replace HB := Aside0.mk (below_step HB.out hb)
   clear hb
   go_upto_region 13 with ((with_reducible refine gate_dst (N := 14) rfl ?_); refine box_event ?hg (N := 14) ?hd (cs := #[.int .i64 0,.int .i64 0,.slice none 0 0,.slice none 0 0,.slice none 0 0]) (t := 28) ?hr ?_; (case hd => rfl); (case hg => rfl); (case hr => first | (go_simp; done) | (go_simp; rfl)); intro gz hgo w3 hbox hbb; have HBO := Aside0.mk hbox; have HBB := Aside0.mk hbb; have HGO := Aside0.mk hgo; have y0 : w3.cell? ⟨gz,0,none⟩ = some (.int .i64 0) := (blk_cell hbox 0).trans rfl; have y1 : w3.cell? ⟨gz,1,none⟩ = some (.int .i64 0) := (blk_cell hbox 1).trans rfl; have y2 : w3.cell? ⟨gz,2,none⟩ = some (.slice none 0 0) := (blk_cell hbox 2).trans rfl; have y3 : w3.cell? ⟨gz,3,none⟩ = some (.slice none 0 0) := (blk_cell hbox 3).trans rfl; have y4 : w3.cell? ⟨gz,4,none⟩ = some (.slice none 0 0) := (blk_cell hbox 4).trans rfl; have yf0 := blk_frozen hbox 0; have yf1 := blk_frozen hbox 1; have yf2 := blk_frozen hbox 2; have yf3 := blk_frozen hbox 3; have yf4 := blk_frozen hbox 4; clear hbox hbb hgo)
   clear y0 y1 y2 y3 y4 yf0 yf1 yf2 yf3 yf4
   obtain ⟨w4,hW⟩ : ∃ W_,W_ = (((((w3.setCell ⟨gz,0,none⟩ (.int .i64 0)).setCell ⟨gz,1,none⟩ (.int .i64 0)).setCell ⟨gz,2,none⟩ (.slice none 0 0)).setCell ⟨gz,3,none⟩ (.slice none 0 0)).setCell ⟨gz,4,none⟩ (.slice none 0 0)) := ⟨_,rfl⟩
   rw [← hW]
   have HGgz : Aside0 (w2.heap.size ≤ gz) := ⟨Nat.le_of_eq HGO.out.symm⟩
   have h_ : Below w2.heap.size w2 w4 := below5 hW HBB.out HGgz.out
   have HXgz := Aside0.mk (set5 hW HBO.out)
   clear hW HBO HBB HGO
   replace HX9 := Aside0.mk (blk_below HX9.out h_)
   replace HT := Aside0.mk (TR_below HT.out h_)
   replace HB := Aside0.mk (below_step HB.out h_)
   clear h_
   clear HXgz HGgz
   have s_0 : w4.cell? ⟨g9,0,none⟩ = some (.int .i64 (n : Int)) := (blk_cell HX9.out 0).trans rfl
   have s_1 : w4.cell? ⟨g9,1,none⟩ = some (.int .i64 m) := (blk_cell HX9.out 1).trans rfl
   have s_2 : w4.cell? ⟨g9,2,none⟩ = some (.slice A1 o.length c1) := (blk_cell HX9.out 2).trans rfl
   have s_3 : w4.cell? ⟨g9,3,none⟩ = some (.slice A2 l.length c2) := (blk_cell HX9.out 3).trans rfl
   have s_4 : w4.cell? ⟨g9,4,none⟩ = some (.slice A3 f.length c3) := (blk_cell HX9.out 4).trans rfl
   go_wp2_with fail
   clear s_0 s_1 s_2 s_3 s_4
   refine (Free_calls n m A1 c1 o _ _ _ (TR_TC HT.out).1.1 (TR_TC HT.out).1.2 (by have := HN.out; omega) (by have := HN.out; omega) (by have := HLN.out; have := HN.out; omega)).mono ?_
   rintro e_ w5 ⟨v,rfl,hv,hb⟩
   rw [HFN.out] at hv
   obtain ⟨Av,cv,hv0,_,_⟩ := Kd.R_reads hv
   have hv1 : v = .slice Av 0 cv := hv0
   subst hv1
   clear hv0 hv
   replace HX9 := Aside0.mk (blk_below HX9.out hb)
   replace HT := Aside0.mk (TR_below HT.out hb)
   replace HB := Aside0.mk (below_step HB.out hb)
   clear hb
   have s_0 : w5.cell? ⟨g9,0,none⟩ = some (.int .i64 (n : Int)) := (blk_cell HX9.out 0).trans rfl
   have s_1 : w5.cell? ⟨g9,1,none⟩ = some (.int .i64 m) := (blk_cell HX9.out 1).trans rfl
   have s_2 : w5.cell? ⟨g9,2,none⟩ = some (.slice A1 o.length c1) := (blk_cell HX9.out 2).trans rfl
   have s_3 : w5.cell? ⟨g9,3,none⟩ = some (.slice A2 l.length c2) := (blk_cell HX9.out 3).trans rfl
   have s_4 : w5.cell? ⟨g9,4,none⟩ = some (.slice A3 f.length c3) := (blk_cell HX9.out 4).trans rfl
   go_wp2_with fail
   clear s_0 s_1 s_2 s_3 s_4
   refine (room_calls n m A1 c1 o A2 c2 l A3 c3 f _ (TR_TC HT.out) m (by rw [HO.out.2.1,room_is HMY.out (by have := HN.out; omega) (Int.le_refl _) HLN.out.1,Int.sub_self,Int.mul_zero,Int.add_zero])).mono ?_
   rintro e_ w6 ⟨rfl,hb⟩
   replace HX9 := Aside0.mk (blk_below HX9.out hb)
   replace HT := Aside0.mk (TR_below HT.out hb)
   replace HB := Aside0.mk (below_step HB.out hb)
   clear hb
   have tm : (m != m) = false := bne_eq_false_iff_eq.2 rfl
   go_upto_region 16 with ((with_reducible refine gate_dst (N := 112) rfl ?_); refine Kd.R_lit (Kd.int .i64) _ 3 ?hg (N := 112) ?hd (xs := ([] : List Int)) (inner := []) (ok := fun _ => True) (okp := fun _ => True) ?hr ?hp (fun _ hk => hk) trivial (Below.refl _ _) (Nat.le_refl _) (by simp) ?_; (case hd => rfl); (case hg => rfl); (case hr => first | (go_simp; done) | (go_simp; rfl)); (case hp => exact (Reps.none _ _)); intro vr w7 ho hb hg_ hnew_; clear hg_ hnew_; have HDIS := Aside0.mk (apart_lit HT.out ho); have HV := Aside0.mk (Kd.R_lower ho (below_size HB.out)); have q1 := Aside0.mk (blk_below HX9.out hb); have q2 := Aside0.mk (TR_below HT.out hb); have q3 := Aside0.mk (below_step HB.out hb); clear HB HX9 HT ho hb; have HX9 := q1; have HT := q2; have HB := q3; clear q1 q2 q3)
   clear tm
   go_wp2_with fail
   go_loopw [16,17] (fun v16 v17 wr => ∃ (i : Nat) (vf : Value) (A1 : Option Addr) (c1 : Nat) (A2 : Option Addr) (c2 : Nat) (A3 : Option Addr) (c3 : Nat) (o l f : List Int),vf = v16 ∧ v17 = .int .i64 (i : Int) ∧ Aside0 (i + 1 ≤ n) ∧ Aside0 (o = up i (n - i) ∧ l = zs (n - i) ∧ f.length = n - i) ∧ Aside0 (Kd.R (Kd.int .i64) 3 wr w.heap.size (fun _ => True) vf (up 0 i)) ∧ Aside0 (∀ k,vf.ownBlock = some k → (Value.slice A1 o.length c1).ownBlock ≠ some k ∧ (Value.slice A2 l.length c2).ownBlock ≠ some k) ∧ Aside0 (TR wr w.heap.size A1 c1 o A2 c2 l A3 c3 f) ∧ Aside0 (wr.heap[g9]? = some (.cells #[.int .i64 (n : Int),.int .i64 m,.slice A1 o.length c1,.slice A2 l.length c2,.slice A3 f.length c3] 28 (0,0))) ∧ Aside0 (Below w.heap.size w wr)) (fun _ v _ => n - (intOf v).toNat)
   case atStart => exact ⟨0,vr,A1,c1,A2,c2,A3,c3,o,l,f,rfl,rfl,⟨by have := HN.out; omega⟩,HO,HV,HDIS,HT,HX9,HB⟩
   case round =>
    clear HX9 HT HB HO HV HDIS HFN HLN HI
    rename World => wr2
    obtain ⟨i,vf,A1,c1,A2,c2,A3,c3,o,l,f,rfl,rfl,HI,HO,HV,HDIS,HT,HX9,HB⟩ := hrel
    obtain ⟨k,hk⟩ : ∃ k,n - i = k + 1 := ⟨n - i - 1,by have := HI.out; omega⟩
    rw [hk] at HO
    have s_0 : wr2.cell? ⟨g9,0,none⟩ = some (.int .i64 (n : Int)) := (blk_cell HX9.out 0).trans rfl
    have s_1 : wr2.cell? ⟨g9,1,none⟩ = some (.int .i64 m) := (blk_cell HX9.out 1).trans rfl
    have s_2 : wr2.cell? ⟨g9,2,none⟩ = some (.slice A1 o.length c1) := (blk_cell HX9.out 2).trans rfl
    have s_3 : wr2.cell? ⟨g9,3,none⟩ = some (.slice A2 l.length c2) := (blk_cell HX9.out 3).trans rfl
    have s_4 : wr2.cell? ⟨g9,4,none⟩ = some (.slice A3 f.length c3) := (blk_cell HX9.out 4).trans rfl
    have hi64 : (i : Int) + 1 ≤ 9223372036854775807 := by have := HN.out; have := HI.out; omega
    have HLN : Aside0 (o.length = k + 1 ∧ l.length = k + 1) := ⟨by rw [HO.out.1,HO.out.2.1,up_len,zs_len]; exact ⟨rfl,rfl⟩⟩
    by_cases hlt : i + 1 < n
    ·have HII : Aside0 (i + 1 < n ∧ 1 ≤ k ∧ n - (i + 1) = k ∧ k < n) := ⟨by omega⟩
     have hlt2 : decide ((i : Int) + 1 < (n : Int)) = true := decide_eq_true (by omega)
     have HP : Aside0 (pl o (i : Int) = 0) := ⟨by rw [HO.out.1]; exact pl_up i k⟩
     clear hlt hk
     go_wp2_with fail
     clear hlt2
     clear s_0 s_1 s_2 s_3 s_4
     refine (drop_yes n m A1 c1 o A2 c2 l A3 c3 f (i : Int) _ (TR_TC HT.out) ⟨by have := HLN.out; have := HII.out; have := HN.out; omega,by have := HO.out.2.2; have := HII.out; have := HN.out; omega⟩ (by have := HLN.out; omega) (by rw [HLN.out.1,HLN.out.2]) (by rw [HLN.out.1,HO.out.2.2]) (by rw [HP.out]; have := HLN.out; have := HII.out; omega)).mono ?_
     rintro e_ w2 ⟨B1,e1,B2,e2,B3,e3,rfl,hr,hb⟩
     have hpf := del_len (o := f) (p := pl o (i : Int)) (by rw [HP.out]; exact Int.le_refl _) (by rw [HP.out,HO.out.2.2]; omega)
     obtain ⟨o2,ho2⟩ : ∃ z,z = o.eraseIdx (pl o (i : Int)).toNat := ⟨_,rfl⟩
     rw [← ho2] at hr ⊢
     obtain ⟨l2,hl2⟩ : ∃ z,z = l.eraseIdx (pl o (i : Int)).toNat := ⟨_,rfl⟩
     rw [← hl2] at hr ⊢
     obtain ⟨f2,hf2⟩ : ∃ z,z = f.eraseIdx (pl o (i : Int)).toNat := ⟨_,rfl⟩
     rw [← hf2] at hr ⊢
     have HO2 : Aside0 (o2 = up (i + 1) k ∧ l2 = zs k ∧ f2.length = k) := ⟨by refine ⟨by rw [ho2,HP.out,HO.out.1]; exact up_tail i k,by rw [hl2,HP.out,HO.out.2.1]; exact zs_tail k,by rw [hf2,hpf,HO.out.2.2]; rfl⟩⟩
     replace HDIS := Aside0.mk (apart_new (B := 0) hr HV.out)
     replace HT := Aside0.mk (TR_lower hr (below_size HB.out))
     replace HX9 := Aside0.mk (blk_below HX9.out hb)
     replace HB := Aside0.mk (below_step HB.out hb)
     replace HV := Aside0.mk (Kd.R_below HV.out hb)
     clear hr hb ho2 hl2 hf2 hpf HO HP HLN
     go_upto_region 20 with ((with_reducible refine gate_dst (N := 18) rfl ?_); refine box_event ?hg (N := 18) ?hd (cs := #[.int .i64 0,.int .i64 0,.slice none 0 0,.slice none 0 0,.slice none 0 0]) (t := 28) ?hr ?_; (case hd => rfl); (case hg => rfl); (case hr => first | (go_simp; done) | (go_simp; rfl)); intro gx hgo w3 hbox hbb; have HBO := Aside0.mk hbox; have HBB := Aside0.mk hbb; have HGO := Aside0.mk hgo; have y0 : w3.cell? ⟨gx,0,none⟩ = some (.int .i64 0) := (blk_cell hbox 0).trans rfl; have y1 : w3.cell? ⟨gx,1,none⟩ = some (.int .i64 0) := (blk_cell hbox 1).trans rfl; have y2 : w3.cell? ⟨gx,2,none⟩ = some (.slice none 0 0) := (blk_cell hbox 2).trans rfl; have y3 : w3.cell? ⟨gx,3,none⟩ = some (.slice none 0 0) := (blk_cell hbox 3).trans rfl; have y4 : w3.cell? ⟨gx,4,none⟩ = some (.slice none 0 0) := (blk_cell hbox 4).trans rfl; have yf0 := blk_frozen hbox 0; have yf1 := blk_frozen hbox 1; have yf2 := blk_frozen hbox 2; have yf3 := blk_frozen hbox 3; have yf4 := blk_frozen hbox 4; clear hbox hbb hgo)
     clear y0 y1 y2 y3 y4 yf0 yf1 yf2 yf3 yf4
     obtain ⟨w4,hW⟩ : ∃ W_,W_ = (((((w3.setCell ⟨gx,0,none⟩ (.int .i64 (n : Int))).setCell ⟨gx,1,none⟩ (.int .i64 m)).setCell ⟨gx,2,none⟩ (.slice B1 o2.length e1)).setCell ⟨gx,3,none⟩ (.slice B2 l2.length e2)).setCell ⟨gx,4,none⟩ (.slice B3 f2.length e3)) := ⟨_,rfl⟩
     rw [← hW]
     have HGgx : Aside0 (w2.heap.size ≤ gx) := ⟨Nat.le_of_eq HGO.out.symm⟩
     have h_ : Below w2.heap.size w2 w4 := below5 hW HBB.out HGgx.out
     have HXx := Aside0.mk (set5 hW HBO.out)
     clear hW HBO HBB HGO
     replace HX9 := Aside0.mk (blk_below HX9.out h_)
     replace HT := Aside0.mk (TR_below HT.out h_)
     replace HB := Aside0.mk (below_step HB.out h_)
     replace HV := Aside0.mk (Kd.R_below HV.out h_)
     clear h_
     have HL2 : Aside0 (o2.length = k ∧ l2.length = k) := ⟨by rw [HO2.out.1,HO2.out.2.1,up_len,zs_len]; exact ⟨rfl,rfl⟩⟩
     have s_0 : w4.cell? ⟨gx,0,none⟩ = some (.int .i64 (n : Int)) := (blk_cell HXx.out 0).trans rfl
     have s_1 : w4.cell? ⟨gx,1,none⟩ = some (.int .i64 m) := (blk_cell HXx.out 1).trans rfl
     have s_2 : w4.cell? ⟨gx,2,none⟩ = some (.slice B1 o2.length e1) := (blk_cell HXx.out 2).trans rfl
     have s_3 : w4.cell? ⟨gx,3,none⟩ = some (.slice B2 l2.length e2) := (blk_cell HXx.out 3).trans rfl
     have s_4 : w4.cell? ⟨gx,4,none⟩ = some (.slice B3 f2.length e3) := (blk_cell HXx.out 4).trans rfl
     go_wp2_with fail
     clear s_0 s_1 s_2 s_3 s_4
     refine (right_calls n m B1 e1 o2 B2 e2 l2 B3 e3 f2 _ (TR_TC HT.out) (by have := HL2.out; have := HN.out; have := HII.out; omega)).mono ?_
     rintro e_ w5 ⟨he,hb⟩
     have he2 : e_ = .returned (.bool true) := he.trans (congrArg (fun b_ => Ending.returned (.bool b_)) (by rw [HO2.out.1,HO2.out.2.1]; exact rt_up HMY.out HII.out.2.1 (by have := HII.out; omega) HO2.out.2.2))
     subst he2
     clear he
     replace HX9 := Aside0.mk (blk_below HX9.out hb)
     replace HT := Aside0.mk (TR_below HT.out hb)
     replace HB := Aside0.mk (below_step HB.out hb)
     replace HV := Aside0.mk (Kd.R_below HV.out hb)
     replace HXx := Aside0.mk (blk_below HXx.out hb)
     clear hb
     have s_0 : w5.cell? ⟨gx,0,none⟩ = some (.int .i64 (n : Int)) := (blk_cell HXx.out 0).trans rfl
     have s_1 : w5.cell? ⟨gx,1,none⟩ = some (.int .i64 m) := (blk_cell HXx.out 1).trans rfl
     have s_2 : w5.cell? ⟨gx,2,none⟩ = some (.slice B1 o2.length e1) := (blk_cell HXx.out 2).trans rfl
     have s_3 : w5.cell? ⟨gx,3,none⟩ = some (.slice B2 l2.length e2) := (blk_cell HXx.out 3).trans rfl
     have s_4 : w5.cell? ⟨gx,4,none⟩ = some (.slice B3 f2.length e3) := (blk_cell HXx.out 4).trans rfl
     have n_0 : w5.cell? ⟨g9,0,none⟩ = some (.int .i64 (n : Int)) := (blk_cell HX9.out 0).trans rfl
     have n_1 : w5.cell? ⟨g9,1,none⟩ = some (.int .i64 m) := (blk_cell HX9.out 1).trans rfl
     have n_2 : w5.cell? ⟨g9,2,none⟩ = some (.slice A1 o.length c1) := (blk_cell HX9.out 2).trans rfl
     have n_3 : w5.cell? ⟨g9,3,none⟩ = some (.slice A2 l.length c2) := (blk_cell HX9.out 3).trans rfl
     have n_4 : w5.cell? ⟨g9,4,none⟩ = some (.slice A3 f.length c3) := (blk_cell HX9.out 4).trans rfl
     have nf_0 := blk_frozen HX9.out 0
     have nf_1 := blk_frozen HX9.out 1
     have nf_2 := blk_frozen HX9.out 2
     have nf_3 := blk_frozen HX9.out 3
     have nf_4 := blk_frozen HX9.out 4
     go_upto_region 23 with fail
     clear s_0 s_1 s_2 s_3 s_4 n_0 n_1 n_2 n_3 n_4 nf_0 nf_1 nf_2 nf_3 nf_4
     obtain ⟨W6,hW⟩ : ∃ W_,W_ = (((((w5.setCell ⟨g9,0,none⟩ (.int .i64 (n : Int))).setCell ⟨g9,1,none⟩ (.int .i64 m)).setCell ⟨g9,2,none⟩ (.slice B1 o2.length e1)).setCell ⟨g9,3,none⟩ (.slice B2 l2.length e2)).setCell ⟨g9,4,none⟩ (.slice B3 f2.length e3)) := ⟨_,rfl⟩
     rw [← hW]
     replace HT := Aside0.mk (tr5 hW HX9.out (by decide) (by decide) HT.out)
     replace HB := Aside0.mk (below5 hW HB.out HG9.out)
     replace HV := Aside0.mk (R5 hW HX9.out HV.out)
     replace HX9 := Aside0.mk (set5 hW HX9.out)
     clear hW
     go_wp2_with ((with_reducible refine gate_builtin (b := .append) (xs := #[.tmp 133,.tmp 135]) rfl ?_); at_builtin; refine Kd.R_append (Kd.int .i64) (w0 := w) w.heap.size rfl (.tmp 133) (.tmp 135) 25 3 (.int .i64 0) 8 rfl Try.underlying25 info3 rfl (by decide) (by omega) vf (up 0 i) (i : Int) [.int .i64 (i : Int)] (fun _ => True) (fun _ => False) rfl (by first | (go_simp; done) | (go_simp; rfl)) ?aP (fun _ hk => hk.elim) ?aF ?aO ?aB ?aS ?aL ?_; (case aP => exact rfl); (case aB => exact HB.out); (case aF => exact (fun _ _ => trivial)); (case aO => exact HV.out); (case aS => exact below_size HB.out); (case aL => rw [up_len]; have := HII.out; have := HN.out; omega); intro v2 w7 ho hb hg hat; have q1 := Aside0.mk ho; have q2 := Aside0.mk (blk_grown HX9.out hg (Kd.R_ne HV.out HX9.out (by decide))); have q3 := Aside0.mk hb; have q4 := Aside0.mk (TR_apart HT.out HV.out HDIS.out hg); have q5 := Aside0.mk (apart_on HT.out HDIS.out hat); clear ho hb hg hat HT HX9 HB HV HDIS; have HT := q4; have HX9 := q2; have HB := q3; have HV := q1; have HDIS := q5; clear q1 q2 q3 q4 q5)
     refine ⟨⟨i + 1,v2,B1,e1,B2,e2,B3,e3,o2,l2,f2,rfl,congrArg (Value.int IntKind.i64) (by omega),⟨by have := HII.out; omega⟩,⟨by rw [HII.out.2.2.1]; exact HO2.out⟩,⟨by have := up_snoc 0 i; rw [Nat.zero_add] at this; rw [← this]; exact HV.out⟩,HDIS,HT,HX9,HB⟩,?_⟩
     have := HII.out
     simp [intOf]
     omega
    ·clear s_0 s_1 s_2 s_3 s_4
     obtain rfl : k = 0 := by have := HI.out; omega
     have HNI : Aside0 (n = i + 1) := ⟨by have := HI.out; omega⟩
     have hlt2 : decide ((i : Int) + 1 < (n : Int)) = false := decide_eq_false (by have := HNI.out; omega)
     have ho : o = [(i : Int)] := HO.out.1
     subst ho
     have HL1 : Aside0 (l = zs 1) := ⟨HO.out.2.1⟩
     clear hlt hk HLN HO
     have HFN : Aside0 (frk (n : Int).toNat [(i : Int)] = up 0 i) := ⟨by rw [Int.toNat_natCast]; have := frk_dn n (by have := HN.out; omega) i (by have := HN.out; have := HNI.out; omega) (by have := HNI.out; omega); rwa [show n - i = 1 by have := HNI.out; omega] at this⟩
     have s_0 : wr2.cell? ⟨g9,0,none⟩ = some (.int .i64 (n : Int)) := (blk_cell HX9.out 0).trans rfl
     have s_1 : wr2.cell? ⟨g9,1,none⟩ = some (.int .i64 m) := (blk_cell HX9.out 1).trans rfl
     have s_2 : wr2.cell? ⟨g9,2,none⟩ = some (.slice A1 1 c1) := (blk_cell HX9.out 2).trans rfl
     have s_3 : wr2.cell? ⟨g9,3,none⟩ = some (.slice A2 l.length c2) := (blk_cell HX9.out 3).trans rfl
     have s_4 : wr2.cell? ⟨g9,4,none⟩ = some (.slice A3 f.length c3) := (blk_cell HX9.out 4).trans rfl
     go_wp2_with fail
     clear hlt2
     clear s_0 s_1 s_2 s_3 s_4
     refine (Free_calls n m A1 c1 [(i : Int)] _ _ _ (TR_TC HT.out).1.1 (TR_TC HT.out).1.2 (by have := HN.out; omega) (by have := HN.out; omega) (by simp)).mono ?_
     rintro e_ w5 ⟨v,rfl,hv,hb⟩
     rw [HFN.out] at hv
     obtain ⟨Av,cv,hv1,hcv,hCv⟩ := Kd.R_reads hv
     subst hv1
     have HCV := Aside0.mk hCv
     have HcV := Aside0.mk hcv
     clear hv hCv hcv
     replace HX9 := Aside0.mk (blk_below HX9.out hb)
     replace HT := Aside0.mk (TR_below HT.out hb)
     replace HB := Aside0.mk (below_step HB.out hb)
     replace HV := Aside0.mk (Kd.R_below HV.out hb)
     clear hb
     obtain ⟨Au,cu,hu1,hcu,hCu⟩ := Kd.R_reads HV.out
     subst hu1
     have HcU := Aside0.mk hcu
     clear hcu hCu
     go_wp2_with fail
     obtain ⟨K,hK⟩ := ints_same (up 0 i) (by rw [up_len]; have := HN.out; have := HNI.out; omega)
     refine (lodgerref07_Ints.calls K Av cv (up 0 i) Au cu (up 0 i) true _ HCV.out HcV.out (Kd.R_reads' HV.out).2.2 HcU.out hK).mono ?_
     rintro e_ w6 ⟨rfl,hb⟩
     replace hb := Drawn0.below hb
     clear hK HCV HcV HcU
     replace HX9 := Aside0.mk (blk_below HX9.out hb)
     replace HT := Aside0.mk (TR_below HT.out hb)
     replace HB := Aside0.mk (below_step HB.out hb)
     replace HV := Aside0.mk (Kd.R_below HV.out hb)
     clear hb
     obtain ⟨q,hq⟩ : ∃ q,(n : Int) * m = q := ⟨_,rfl⟩
     have hqb : 0 ≤ q ∧ q ≤ 16 * 30 := by rw [← hq]; exact ⟨Int.mul_nonneg (by omega) (by have := HM.out; omega),Int.mul_le_mul (by have := HN.out; omega) (by have := HM.out; omega) (by have := HM.out; omega) (by omega)⟩
     have hq0 := hqb.1
     have hq1 : q ≤ 9223372036854775807 := by omega
     have hq2 : IntKind.i64.wrap q = q := by rw [i64_w]; unfold wrap64; omega
     have HQ := Aside0.mk hq
     clear hqb
     have HRM : Aside0 (table_Room.f (n : Int) m [(i : Int)] l f = some q) := ⟨by rw [HL1.out,room_is (k := 1) HMY.out (by decide) (by have := HN.out; omega) rfl,← HQ.out]; congr 1; have h1 : m * ((n : Int) - ((1 : Nat) : Int)) = m * n - m * 1 := Int.mul_sub ..; rw [h1,Int.mul_one,Int.mul_comm m]; omega⟩
     have s_0 : w6.cell? ⟨g9,0,none⟩ = some (.int .i64 (n : Int)) := (blk_cell HX9.out 0).trans rfl
     have s_1 : w6.cell? ⟨g9,1,none⟩ = some (.int .i64 m) := (blk_cell HX9.out 1).trans rfl
     have s_2 : w6.cell? ⟨g9,2,none⟩ = some (.slice A1 1 c1) := (blk_cell HX9.out 2).trans rfl
     have s_3 : w6.cell? ⟨g9,3,none⟩ = some (.slice A2 l.length c2) := (blk_cell HX9.out 3).trans rfl
     have s_4 : w6.cell? ⟨g9,4,none⟩ = some (.slice A3 f.length c3) := (blk_cell HX9.out 4).trans rfl
     go_wp2_with fail
     clear s_0 s_1 s_2 s_3 s_4
     refine (room_calls n m A1 c1 [(i : Int)] A2 c2 l A3 c3 f _ (TR_TC HT.out) q HRM.out).mono ?_
     rintro e_ w7 ⟨rfl,hb⟩
     replace HX9 := Aside0.mk (blk_below HX9.out hb)
     replace HT := Aside0.mk (TR_below HT.out hb)
     replace HB := Aside0.mk (below_step HB.out hb)
     clear hb
     have hn3 : IntKind.i64.wrap ((n : Int) - 1) = (i : Int) := by rw [i64_w]; unfold wrap64; have := HNI.out; have := HN.out; omega
     have hn4 : (n : Int) - 1 = (i : Int) := by have := HNI.out; omega
     have hn5 : wrap64 (n : Int) = (n : Int) := by unfold wrap64; have := HN.out; omega
     have s_0 : w7.cell? ⟨g9,0,none⟩ = some (.int .i64 (n : Int)) := (blk_cell HX9.out 0).trans rfl
     have s_1 : w7.cell? ⟨g9,1,none⟩ = some (.int .i64 m) := (blk_cell HX9.out 1).trans rfl
     have s_2 : w7.cell? ⟨g9,2,none⟩ = some (.slice A1 1 c1) := (blk_cell HX9.out 2).trans rfl
     have s_3 : w7.cell? ⟨g9,3,none⟩ = some (.slice A2 l.length c2) := (blk_cell HX9.out 3).trans rfl
     have s_4 : w7.cell? ⟨g9,4,none⟩ = some (.slice A3 f.length c3) := (blk_cell HX9.out 4).trans rfl
     go_wp2_with fail
     clear s_0 s_1 s_2 s_3 s_4
     clear hq hq0 hq1 hq2 hn3 hn4 hn5
     obtain ⟨w8,hW⟩ : ∃ W_,W_ = w7.alloc (.cells #[.int .i64 (i : Int)] 3) := ⟨_,rfl⟩
     have hb : Below w7.heap.size w7 w8 := by rw [hW]; exact below_alloc (Below.refl _ _) _
     have hC2 : Kd.C (Kd.int .i64) w8 (some ⟨w7.heap.size,0,none⟩) 1 [(i : Int)] := by rw [hW]; exact Clit (xs := [(i : Int)]) (blk_new _ _) (by simp) rfl
     rw [← hW]
     replace HT := Aside0.mk (TR_below HT.out hb)
     replace HB := Aside0.mk (below_step HB.out hb)
     clear hb hW
     obtain ⟨K,hK⟩ := ints_same [(i : Int)] (by simp)
     refine (lodgerref07_Ints.calls K A1 c1 [(i : Int)] _ 1 [(i : Int)] true _ (TR_TC HT.out).1.1 (TR_TC HT.out).1.2 hC2 (by simp) hK).mono ?_
     rintro e_ w9 ⟨rfl,hb⟩
     replace hb := Drawn0.below hb
     clear hK hC2
     replace HB := Aside0.mk (below_step HB.out hb)
     clear hb HT
     go_wp2_with fail
     refine (fixed_calls _).mono ?_
     rintro e_ wz ⟨rfl,hb⟩
     replace HB := Aside0.mk (below_step HB.out hb)
     clear hb
     go_wp2_with fail
     go_ret
     exact ⟨rfl,HB.out⟩
end Go.Proofs.Ytbefoehjlgdcgaa.H
