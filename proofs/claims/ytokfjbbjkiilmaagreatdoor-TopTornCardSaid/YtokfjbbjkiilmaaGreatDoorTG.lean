/-
TopTorn: part of its walk (Dk4, Cp, Cp2, Cp3).
-/
import Derived.Test.YtokfjbbjkiilmaaGreatDoorTF
set_option linter.unusedVariables false
set_option linter.unusedSimpArgs false
namespace Go.Proofs.YtokfjbbjkiilmaaGreatDoor.H
open Go.RowKit Go.Proofs.YtokfjbbjkiilmaaGreatDoorW.PrintWords Go.Proofs.YtokfjbbjkiilmaaGreatDoorW.PrintLast Go.Proofs.YtokfjbbjkiilmaaGreatDoorW.PrintMore
set_option maxHeartbeats 8000000
set_option maxRecDepth 100000
attribute [local go_sem] max2_int min2_int min_two max_two
theorem frozen_bytes (W : World) (s : ByteArray) (j : Nat) (h : j < s.size) : (Lib.bytesWorld W 5 s).frozen? ⟨W.heap.size,j,none⟩ = false := by
 have hs : s.size ≤ (Lib.bytesCells W 5 s).size := by unfold Lib.bytesCells; rw [Array.size_append,Array.size_map]; exact Nat.le_add_right _ _
 simp only [World.frozen?,Lib.bytesWorld_at_new]
 simp
 omega
theorem sb_zsec (j : Nat) : sb zsec j = 0 := by
 unfold sb zsec
 simp only [List.getD,List.getElem?_replicate]
 split <;> rfl
theorem sb_zer (n j : Nat) : sb (zer n) j = 0 := by
 unfold sb zer
 simp only [List.getD,List.getElem?_replicate]
 split <;> rfl
theorem sb_torn (s : ByteArray) (k j : Nat) (hk : k ≤ s.size) : sb (tornS s k) j = if j < k then sb s j else 0 := by
 have e : (tk s k).size = k := by rw [← ba_len,tk_list,List.length_take,ba_len]; omega
 unfold tornS
 split
 ·rename_i h
  rw [sb_app1 _ _ _ (by omega)]
  unfold sb
  rw [tk_list,List.getD,List.getD,List.getElem?_take_of_lt h]
 ·rename_i h
  have := sb_app2 (tk s k) (zer (128 - k)) (j - k)
  rw [e,show k + (j - k) = j by omega] at this
  rw [this,sb_zer]
theorem torn_cells (s : ByteArray) (k : Nat) (W : World) (g : Nat) (hc : ∀ j,j < 128 → W.cell? ⟨g,j,none⟩ = some (.int .u8 0)) (hk : k ≤ s.size) (j : Nat) (hj : j < 128) (hk2 : k ≤ 128) :
 (W.setCells g 0 (Lib.byteCells (List.take k s.data.toList))).cell? ⟨g,0 + j,none⟩ = some (.int .u8 (if j < k then sb s j else 0)) := by
 have hl : (Lib.byteCells (List.take k s.data.toList)).length = k := by rw [Lib.byteCells_length,List.length_take,ba_len]; omega
 split
 ·rename_i h
  rw [World.cell?_setCells_in g _ 0 W (fun i hi => by rw [Nat.zero_add,hc i (by omega)]; rfl) j (by rw [hl]; exact h)]
  have h2 : j < s.data.toList.length := by rw [ba_len]; omega
  simp only [Lib.byteCells,List.getElem_map,List.getElem_take,sb,List.getD,List.getElem?_eq_getElem h2,Option.getD_some]
 ·rename_i h
  rw [World.cell?_setCells_out g _ 0 W _ (fun _ _ => .inr (by rw [hl]; simp; omega)),Nat.zero_add]
  exact hc j hj
theorem tear_calls (d m : Nat) (left : Int) (v : Value) (i : Int) (s : ByteArray) (k : Nat) (es : Array MapEntry) (c : Nat) (w : World) (hd : w.heap[d]? = some (.cells (dkc left m v) 108 (0,0))) (hm : w.heap[m]? = some (.map es c)) (hf : Instr.findNow (.int .i64) (.int .i64 i) es.toList 0 = some none) (hs : s.size = 128) (hk : k ≤ 128) :
 Calls Tryz.prog 185 #[.pointer (some ⟨d,0,none⟩),.agg #[.int .i64 i,.string s],.int .i64 (k : Int)] w fun e w' => e = .returned (.tuple #[]) ∧ w'.heap[m]? = some (.map (es.push { key := .int .i64 i,val := .agg #[.int .i64 i,.string (tornS s k)],born := c }) (c + 1)) ∧ Keep [m] w w' := by
 have HX := Aside0.mk hd
 have HM := Aside0.mk hm
 have HF := Aside0.mk hf
 have HS := Aside0.mk hs
 have HK := Aside0.mk hk
 clear hd hm hf hs
 go_enter Tryz.func185,Tryz.ntmps185
 go_upto_region 1 with fail
 obtain ⟨W1,g4,hW_,hg4,H4,hb_⟩ := new1 w #[.int .i64 i,.string s] 286
 rw [← hW_,← hg4.out]
 replace HX := mb HX hb_
 replace HM := mb HM hb_
 have HB := Aside0.mk hb_
 clear hW_ hb_
 have y0 : W1.cell? ⟨g4,0,none⟩ = some (.int .i64 i) := cL H4 0 rfl
 have y1 : W1.cell? ⟨g4,1,none⟩ = some (.string s) := cL H4 1 rfl
 have HB0 := HB
 go_wp2_with fail
 refine (dholds_no d m left v i es c _ HX.out HM.out HF.out).mono ?_
 rintro e_ W2 ⟨rfl,hb⟩
 replace HX := mb HX hb
 replace HM := mb HM hb
 replace H4 := mb H4 hb
 replace HB := mS HB hb
 replace HB0 := HB
 clear hb y0 y1
 have hcv := Lib.run_convert_string_bytes (P := Tryz.prog) W2 9 320 5 zsec (u := .string) (by kernel_rfl) (by kernel_rfl) (by kernel_rfl)
 have hzs : zsec.size = 128 := by kernel_rfl
 rw [hzs] at hcv
 go_upto_region 2 with fail
 clear hcv
 obtain ⟨cp,hcp⟩ : ∃ c_,c_ = grownCap W2 128 0 5 := ⟨_,rfl⟩
 rw [← hcp]
 clear hcp
 obtain ⟨gb,hgb⟩ : ∃ g_,g_ = W2.heap.size := ⟨_,rfl⟩
 have hb2 : Below W2.heap.size W2 (Lib.bytesWorld W2 5 zsec) := bytes_below (Below.refl _ _) (Nat.le_refl _) 5 zsec
 have hcell : ∀ j,j < 128 → (Lib.bytesWorld W2 5 zsec).cell? ⟨gb,j,none⟩ = some (.int .u8 0) := fun j hj => by rw [hgb,Lib.bytesWorld_cell W2 5 zsec j (by rw [hzs]; exact hj)]; exact congrArg (fun x => some (Value.int .u8 x)) (sb_zsec j)
 have hfro : ∀ j,j < 128 → (Lib.bytesWorld W2 5 zsec).frozen? ⟨gb,j,none⟩ = false := fun j hj => by rw [hgb]; exact frozen_bytes W2 zsec j (by rw [hzs]; exact hj)
 have hgl : W2.heap.size ≤ gb := by omega
 have HGL := Aside0.mk hgl
 have LX := Aside0.mk (blk_lt HX.out)
 have LM := Aside0.mk (blk_lt HM.out)
 have L4 := Aside0.mk (blk_lt H4.out)
 rw [← hgb]
 clear hgb
 obtain ⟨W3,hW3⟩ : ∃ W_,W_ = Lib.bytesWorld W2 5 zsec := ⟨_,rfl⟩
 rw [← hW3] at hb2 hcell hfro ⊢
 clear hW3
 replace HX := mb HX hb2
 replace HM := mb HM hb2
 replace H4 := mb H4 hb2
 replace HB := mS HB hb2
 have HG : Aside0 (w.heap.size ≤ gb) := ⟨Nat.le_trans HB0.out.size hgl⟩
 have HC := Aside0.mk hcell
 have HFR := Aside0.mk hfro
 clear hb2 hcell hfro hgl
 have y1 : W3.cell? ⟨g4,1,none⟩ = some (.string s) := cL H4 1 rfl
 have k1 : ((k : Int) < 0) = False := eq_false (by omega)
 have k2 : ((128 : Int) < (k : Int)) = False := eq_false (by omega)
 have k3 : 0 ≤ (k : Int) := by omega
 have k4 : (k : Int) ≤ 128 := by omega
 have k5 : (k ≤ s.size) = True := eq_true (by rw [HS.out]; exact HK.out)
 have k6 : ((k : Int) ≤ (s.size : Int)) = True := eq_true (by have := HS.out; omega)
 have hts : (s.extract 0 k).size = k := by have := tk_le (s := s) (n := k) (by have := HS.out; omega); rw [← this,← ba_len,tk_list,List.length_take,ba_len]; have := HS.out; omega
 have hcp := copy_str (s.extract 0 k) W3 gb 0 128 cp (by omega) (fun j hj => by rw [Nat.zero_add,HC.out j (by omega)]; rfl) (fun j hj => by rw [Nat.zero_add]; exact HFR.out j (by omega))
 rw [hts] at hcp
 have HTS := Aside0.mk hts
 clear hts hk
 go_upto_region 3 with fail
 clear hcp y1 k1 k2 k3 k4 k5 k6
 obtain ⟨W4,hW4⟩ : ∃ W_,W_ = W3.setCells gb 0 (Lib.byteCells (List.take k s.data.toList)) := ⟨_,rfl⟩
 rw [← hW4]
 have hb4 : Below W2.heap.size W3 W4 := by rw [hW4]; exact below_setCells _ 0 (Below.refl _ _) HGL.out
 have hbw : Below w.heap.size w W4 := by rw [hW4]; exact below_setCells _ 0 HB.out HG.out
 replace HB := Aside0.mk hbw
 replace HX := Aside0.mk ((hb4.block d LX.out).trans HX.out)
 replace HM := Aside0.mk ((hb4.block m LM.out).trans HM.out)
 replace H4 := Aside0.mk ((hb4.block g4 L4.out).trans H4.out)
 have hcs : ∀ j,j < 128 → W4.cell? ⟨gb,0 + j,none⟩ = some (.int .u8 (sb (tornS s k) j)) := fun j hj => by rw [hW4,sb_torn s k j (by have := HS.out; have := HK.out; omega)]; exact torn_cells s k W3 gb HC.out (by rw [HS.out]; exact HK.out) j hj HK.out
 have hstr := str_of (W := W4) (g := gb) (o := 0) (c := cp) (tornS s k) (torn_size s k HS.out HK.out) hcs
 have y0 : W4.cell? ⟨g4,0,none⟩ = some (.int .i64 i) := cL H4 0 rfl
 clear hb4 hbw hcs hW4
 go_wp2_with fail
 refine (ddo_calls d m left v i (tornS s k) es _ c _ _ HX.out HM.out (fun W hW => run_up_no (key := .int .i64 i) (k := 3) (e := 286) (kd := .int .i64) (by kernel_rfl) (by kernel_rfl) rfl hW HF.out)).mono ?_
 rintro e_ W5 ⟨rfl,hm5,hk5⟩
 go_wp2_with fail
 exact end0 rfl rfl ⟨rfl,hm5,(Keep.below HB.out).trans hk5⟩
theorem crash_torn (d m : Nat) (left : Int) (g cp : Nat) (i : Int) (s : ByteArray) (k : Nat) (es : Array MapEntry) (c : Nat) (w : World) (hd : w.heap[d]? = some (.cells (dkc left m (.slice (some ⟨g,0,none⟩) 1 cp)) 108 (0,0))) (hm : w.heap[m]? = some (.map es c)) (hf : Instr.findNow (.int .i64) (.int .i64 i) es.toList 0 = some none) (hc : w.cell? ⟨g,0,none⟩ = some (.int .i64 i) ∧ w.cell? ⟨g,1,none⟩ = some (.string s)) (hn : g ≠ d ∧ m ≠ d) (hs : s.size = 128) (hk : k ≤ 128) :
 Calls Tryz.prog 136 #[.pointer (some ⟨d,0,none⟩),.slice none 0 0,.int .i64 0,.int .i64 (k : Int)] w fun e w' => e = .returned (.tuple #[]) ∧ w'.heap[d]? = some (.cells (dkc 0 m (.slice none 0 0)) 108 (0,0)) ∧ w'.heap[m]? = some (.map (es.push { key := .int .i64 i,val := .agg #[.int .i64 i,.string (tornS s k)],born := c }) (c + 1)) ∧ Keep [d,m] w w' := by
 have HX := Aside0.mk hd
 have HM := Aside0.mk hm
 have HF := Aside0.mk hf
 have HC := Aside0.mk hc
 have HN := Aside0.mk hn
 have HS := Aside0.mk hs
 have HK := Aside0.mk hk
 have HB := Aside0.mk (Below.refl w.heap.size w)
 clear hd hm hf hc hn hk hs
 have z0 : w.cell? ⟨d,0,none⟩ = some (.bool false) := cL HX 0 rfl
 have z1 : w.cell? ⟨d,1,none⟩ = some (.int .i64 left) := cL HX 1 rfl
 have z2 : w.cell? ⟨d,2,none⟩ = some (.int .i64 14) := cL HX 2 rfl
 have z3 : w.cell? ⟨d,3,none⟩ = some (.map (some m)) := cL HX 3 rfl
 have z4 : w.cell? ⟨d,4,none⟩ = some ((.slice (some ⟨g,0,none⟩) 1 cp)) := cL HX 4 rfl
 go_enter Tryz.func136,Tryz.ntmps136
 go_wp2_with fail
 go_loopw [15] (fun v wr => (v = .int .i64 0 ∧ Aside0 (wr.heap[d]? = some (.cells (dkc left m (.slice (some ⟨g,0,none⟩) 1 cp)) 108 (0,0))) ∧ Aside0 (wr.heap[m]? = some (.map es c)) ∧ Aside0 (wr.cell? ⟨g,0,none⟩ = some (.int .i64 i) ∧ wr.cell? ⟨g,1,none⟩ = some (.string s)) ∧ Aside0 (Below w.heap.size w wr)) ∨ (v = .int .i64 1 ∧ Aside0 (wr.heap[d]? = some (.cells (dkc left m (.slice (some ⟨g,0,none⟩) 1 cp)) 108 (0,0))) ∧ Aside0 (wr.heap[m]? = some (.map (es.push { key := .int .i64 i,val := .agg #[.int .i64 i,.string (tornS s k)],born := c }) (c + 1))) ∧ Aside0 (Keep [d,m] w wr))) (fun v _ => 1 - (intOf v).toNat)
 case atStart => exact .inl ⟨rfl,HX,HM,HC,HB⟩
 case round =>
  clear HX HM HC HB z0 z1 z2 z3 z4
  rcases hrel with ⟨rfl,HX,HM,HC,HB⟩ | ⟨rfl,HX,HM,HK2⟩
  ·have y0 := HC.out.1
   have y1 := HC.out.2
   go_upto_region 3 with fail
   clear y0 y1
   obtain ⟨W1,g9,hW_,hg9,H9,hb_⟩ := new1 wr #[.int .i64 i,.string s] 286
   rw [← hW_,← hg9.out]
   replace HX := mb HX hb_
   replace HM := mb HM hb_
   replace HB := Aside0.mk (below_step (HB.out) hb_)
   clear hW_ hb_
   have y0 : W1.cell? ⟨g9,0,none⟩ = some (.int .i64 i) := cL H9 0 rfl
   have y1 : W1.cell? ⟨g9,1,none⟩ = some (.string s) := cL H9 1 rfl
   go_wp2_with (refine lr_ 9 H9.out Tryz.underlying286 ?_)
   refine (tear_calls d m left (.slice (some ⟨g,0,none⟩) 1 cp) i s k es c _ HX.out HM.out HF.out HS.out HK.out).mono ?_
   rintro e_ W5 ⟨rfl,hm5,hk5⟩
   have HM5 := Aside0.mk hm5
   replace HX := Aside0.mk (blk_keep HX.out hk5 (by simp [HN.out.2.symm]))
   have HK5 : Aside0 (Keep [d,m] w W5) := ⟨(Keep.below HB.out).trans (hk5.mono (fun q _ h => by simp at h; simp [h]))⟩
   clear hm5 hk5 HM
   go_wp2_with fail
   exact ⟨.inr ⟨rfl,HX,HM5,HK5⟩,by decide⟩
  ·have f0 := blk_frozen HX.out 0
   have f1 := blk_frozen HX.out 1
   have f4 := blk_frozen HX.out 4
   have z0 : wr.cell? ⟨d,0,none⟩ = some (.bool false) := cL HX 0 rfl
   have z1 : wr.cell? ⟨d,1,none⟩ = some (.int .i64 left) := cL HX 1 rfl
   have z2 : wr.cell? ⟨d,2,none⟩ = some (.int .i64 14) := cL HX 2 rfl
   have z3 : wr.cell? ⟨d,3,none⟩ = some (.map (some m)) := cL HX 3 rfl
   have z4 : wr.cell? ⟨d,4,none⟩ = some ((.slice (some ⟨g,0,none⟩) 1 cp)) := cL HX 4 rfl
   go_wp2_with fail
   rw [setCell_eq_setRow wr d 4 _ _ _ _ HX.out,setCell_eq_setRow _ d 0 _ _ _ _ (setRow_heap _ _ _ _ _ _ HX.out),setCell_eq_setRow _ d 1 _ _ _ _ (setRow_heap _ _ _ _ _ _ (setRow_heap _ _ _ _ _ _ HX.out))]
   exact end0 rfl rfl ⟨rfl,setRow_heap _ _ _ _ _ _ (setRow_heap _ _ _ _ _ _ (setRow_heap _ _ _ _ _ _ HX.out)),mR _ (mR _ (mR _ HM.out HN.out.2) HN.out.2) HN.out.2,((HK2.out.setRow _ (.inl (by simp))).setRow _ (.inl (by simp))).setRow _ (.inl (by simp))⟩
theorem crash_keep (d m : Nat) (left : Int) (g cp : Nat) (i : Int) (s : ByteArray) (kb : Addr) (es : Array MapEntry) (c : Nat) (w : World) (hd : w.heap[d]? = some (.cells (dkc left m (.slice (some ⟨g,0,none⟩) 1 cp)) 108 (0,0))) (hm : w.heap[m]? = some (.map es c)) (hf : Instr.findNow (.int .i64) (.int .i64 i) es.toList 0 = some none) (hc : w.cell? ⟨g,0,none⟩ = some (.int .i64 i) ∧ w.cell? ⟨g,1,none⟩ = some (.string s)) (hn : g ≠ d ∧ m ≠ d) (hk : w.cell? kb = some (.bool true)) :
 Calls Tryz.prog 136 #[.pointer (some ⟨d,0,none⟩),.slice (some kb) 1 1,.int .i64 0,.int .i64 0] w fun e w' => e = .returned (.tuple #[]) ∧ w'.heap[d]? = some (.cells (dkc 0 m (.slice none 0 0)) 108 (0,0)) ∧ w'.heap[m]? = some (.map (es.push { key := .int .i64 i,val := .agg #[.int .i64 i,.string s],born := c }) (c + 1)) ∧ Keep [d,m] w w' := by
 have HX := Aside0.mk hd
 have HM := Aside0.mk hm
 have HF := Aside0.mk hf
 have HC := Aside0.mk hc
 have HN := Aside0.mk hn
 have HKB := Aside0.mk hk
 have HB := Aside0.mk (Below.refl w.heap.size w)
 clear hd hm hf hc hn hk
 have z0 : w.cell? ⟨d,0,none⟩ = some (.bool false) := cL HX 0 rfl
 have z1 : w.cell? ⟨d,1,none⟩ = some (.int .i64 left) := cL HX 1 rfl
 have z2 : w.cell? ⟨d,2,none⟩ = some (.int .i64 14) := cL HX 2 rfl
 have z3 : w.cell? ⟨d,3,none⟩ = some (.map (some m)) := cL HX 3 rfl
 have z4 : w.cell? ⟨d,4,none⟩ = some ((.slice (some ⟨g,0,none⟩) 1 cp)) := cL HX 4 rfl
 go_enter Tryz.func136,Tryz.ntmps136
 go_wp2_with fail
 go_loopw [15] (fun v wr => (v = .int .i64 0 ∧ Aside0 (wr.heap[d]? = some (.cells (dkc left m (.slice (some ⟨g,0,none⟩) 1 cp)) 108 (0,0))) ∧ Aside0 (wr.heap[m]? = some (.map es c)) ∧ Aside0 (wr.cell? ⟨g,0,none⟩ = some (.int .i64 i) ∧ wr.cell? ⟨g,1,none⟩ = some (.string s)) ∧ Aside0 (wr.cell? kb = some (.bool true)) ∧ Aside0 (Below w.heap.size w wr)) ∨ (v = .int .i64 1 ∧ Aside0 (wr.heap[d]? = some (.cells (dkc left m (.slice (some ⟨g,0,none⟩) 1 cp)) 108 (0,0))) ∧ Aside0 (wr.heap[m]? = some (.map (es.push { key := .int .i64 i,val := .agg #[.int .i64 i,.string s],born := c }) (c + 1))) ∧ Aside0 (Keep [d,m] w wr))) (fun v _ => 1 - (intOf v).toNat)
 case atStart => exact .inl ⟨rfl,HX,HM,HC,HKB,HB⟩
 case round =>
  clear HX HM HC HB HKB z0 z1 z2 z3 z4
  rcases hrel with ⟨rfl,HX,HM,HC,HKB,HB⟩ | ⟨rfl,HX,HM,HK2⟩
  ·have y0 := HC.out.1
   have y1 := HC.out.2
   go_upto_region 3 with fail
   clear y0 y1
   obtain ⟨W1,g9,hW_,hg9,H9,hb_⟩ := new1 wr #[.int .i64 i,.string s] 286
   rw [← hW_,← hg9.out]
   have HKW : Aside0 (W1.cell? kb = some (.bool true)) := ⟨pw_cell_below hb_ HKB.out⟩
   replace HX := mb HX hb_
   replace HM := mb HM hb_
   replace HB := Aside0.mk (below_step (HB.out) hb_)
   clear hW_ hb_
   have y0 : W1.cell? ⟨g9,0,none⟩ = some (.int .i64 i) := cL H9 0 rfl
   have y1 : W1.cell? ⟨g9,1,none⟩ = some (.string s) := cL H9 1 rfl
   have yk := HKW.out
   go_wp2_with (refine lr_ 9 H9.out Tryz.underlying286 ?_)
   refine (ddo_calls d m left (.slice (some ⟨g,0,none⟩) 1 cp) i s es (es.push { key := .int .i64 i,val := .agg #[.int .i64 i,.string s],born := c }) c (c + 1) _ HX.out HM.out (fun W hW => run_up_no (key := .int .i64 i) (k := 3) (e := 286) (kd := .int .i64) (by kernel_rfl) (by kernel_rfl) rfl hW HF.out)).mono ?_
   rintro e_ W5 ⟨rfl,hm5,hk5⟩
   have HM5 := Aside0.mk hm5
   replace HX := Aside0.mk (blk_keep HX.out hk5 (by simp [HN.out.2.symm]))
   have HK5 : Aside0 (Keep [d,m] w W5) := ⟨(Keep.below HB.out).trans (hk5.mono (fun q _ h => by simp at h; simp [h]))⟩
   clear hm5 hk5 HM
   go_wp2_with fail
   exact ⟨.inr ⟨rfl,HX,HM5,HK5⟩,by decide⟩
  ·have f0 := blk_frozen HX.out 0
   have f1 := blk_frozen HX.out 1
   have f4 := blk_frozen HX.out 4
   have z0 : wr.cell? ⟨d,0,none⟩ = some (.bool false) := cL HX 0 rfl
   have z1 : wr.cell? ⟨d,1,none⟩ = some (.int .i64 left) := cL HX 1 rfl
   have z2 : wr.cell? ⟨d,2,none⟩ = some (.int .i64 14) := cL HX 2 rfl
   have z3 : wr.cell? ⟨d,3,none⟩ = some (.map (some m)) := cL HX 3 rfl
   have z4 : wr.cell? ⟨d,4,none⟩ = some ((.slice (some ⟨g,0,none⟩) 1 cp)) := cL HX 4 rfl
   go_wp2_with fail
   rw [setCell_eq_setRow wr d 4 _ _ _ _ HX.out,setCell_eq_setRow _ d 0 _ _ _ _ (setRow_heap _ _ _ _ _ _ HX.out),setCell_eq_setRow _ d 1 _ _ _ _ (setRow_heap _ _ _ _ _ _ (setRow_heap _ _ _ _ _ _ HX.out))]
   exact end0 rfl rfl ⟨rfl,setRow_heap _ _ _ _ _ _ (setRow_heap _ _ _ _ _ _ (setRow_heap _ _ _ _ _ _ HX.out)),mR _ (mR _ (mR _ HM.out HN.out.2) HN.out.2) HN.out.2,((HK2.out.setRow _ (.inl (by simp))).setRow _ (.inl (by simp))).setRow _ (.inl (by simp))⟩
end Go.Proofs.YtokfjbbjkiilmaaGreatDoor.H
namespace Go.Proofs.YtokfjbbjkiilmaaGreatDoor.H
open Go.RowKit Go.Proofs.YtokfjbbjkiilmaaGreatDoorW.PrintWords Go.Proofs.YtokfjbbjkiilmaaGreatDoorW.PrintLast Go.Proofs.YtokfjbbjkiilmaaGreatDoorW.PrintMore
set_option maxHeartbeats 8000000
set_option maxRecDepth 100000
attribute [local go_sem] max2_int min2_int min_two max_two
theorem ckright0_calls (w : World) :
 Calls Tryz.prog 220 #[.agg #[.int .u64 0,.int .u32 0,.int .u64 0,.int .u64 0,.slice none 0 0,.slice none 0 0]] w fun e w' => e = .returned (.bool false) ∧ Below w.heap.size w w' := by
 go_enter Tryz.func220,Tryz.ntmps220
 go_upto_region 1 with fail
 obtain ⟨W1,g,hW_,hg,HX,hb_⟩ := new1 w #[.int .u64 0,.int .u32 0,.int .u64 0,.int .u64 0,.slice none 0 0,.slice none 0 0] 292
 rw [← hW_,← hg.out]
 have HB := Aside0.mk hb_
 clear hW_ hb_
 have y0 : W1.cell? ⟨g,0,none⟩ = some (.int .u64 0) := cL HX 0 rfl
 have y1 : W1.cell? ⟨g,1,none⟩ = some (.int .u32 0) := cL HX 1 rfl
 have y2 : W1.cell? ⟨g,2,none⟩ = some (.int .u64 0) := cL HX 2 rfl
 have y3 : W1.cell? ⟨g,3,none⟩ = some (.int .u64 0) := cL HX 3 rfl
 have y4 : W1.cell? ⟨g,4,none⟩ = some (.slice none 0 0) := cL HX 4 rfl
 have y5 : W1.cell? ⟨g,5,none⟩ = some (.slice none 0 0) := cL HX 5 rfl
 go_wp2_with fail
 go_ret
 exact ⟨rfl,HB.out⟩
theorem ckright1_calls (gn ep ls vr k : Int) (oo co ln cl : Nat) (w : World) (hg : gn ≠ 0) (hs : ls ≠ 0) (ho : w.cell? ⟨oo,0,none⟩ = some (.int .i64 0)) (hl : w.cell? ⟨ln,0,none⟩ = some (.int .i64 k)) (hk : 0 ≤ k ∧ k ≤ 30) :
 Calls Tryz.prog 220 #[.agg #[.int .u64 gn,.int .u32 ep,.int .u64 ls,.int .u64 vr,.slice (some ⟨oo,0,none⟩) 1 co,.slice (some ⟨ln,0,none⟩) 1 cl]] w fun e w' => e = .returned (.bool true) ∧ Below w.heap.size w w' := by
 have HO := Aside0.mk ho
 have HL := Aside0.mk hl
 have t0 : (gn == 0) = false := by simp; omega
 have t1 : (ls == 0) = false := by simp; omega
 have t2 : decide (k < 0) = false := decide_eq_false (by omega)
 have t3 : decide (30 < k) = false := decide_eq_false (by omega)
 have t4 : (k < 0) = False := eq_false (by omega)
 have t5 : (30 < k) = False := eq_false (by omega)
 clear ho hl hg hs hk
 go_enter Tryz.func220,Tryz.ntmps220
 go_upto_region 1 with fail
 obtain ⟨W1,g,hW_,hg,HX,hb_⟩ := new1 w #[.int .u64 gn,.int .u32 ep,.int .u64 ls,.int .u64 vr,.slice (some ⟨oo,0,none⟩) 1 co,.slice (some ⟨ln,0,none⟩) 1 cl] 292
 rw [← hW_,← hg.out]
 have HB := Aside0.mk hb_
 clear hW_ hb_
 have y0 : W1.cell? ⟨g,0,none⟩ = some (.int .u64 gn) := cL HX 0 rfl
 have y1 : W1.cell? ⟨g,1,none⟩ = some (.int .u32 ep) := cL HX 1 rfl
 have y2 : W1.cell? ⟨g,2,none⟩ = some (.int .u64 ls) := cL HX 2 rfl
 have y3 : W1.cell? ⟨g,3,none⟩ = some (.int .u64 vr) := cL HX 3 rfl
 have y4 : W1.cell? ⟨g,4,none⟩ = some (.slice (some ⟨oo,0,none⟩) 1 co) := cL HX 4 rfl
 have y5 : W1.cell? ⟨g,5,none⟩ = some (.slice (some ⟨ln,0,none⟩) 1 cl) := cL HX 5 rfl
 have HB1 := HB
 go_upto_region 4 with fail
 obtain ⟨W2,gs,hW_,hgs,HS,hb_⟩ := new1 W1 #[.bool false,.bool false,.bool false,.bool false,.bool false,.bool false,.bool false,.bool false,.bool false,.bool false,.bool false,.bool false,.bool false,.bool false,.bool false,.bool false] 368
 rw [← hW_,← hgs.out]
 replace HX := mb HX hb_
 replace HB := Aside0.mk (below_step (HB.out) hb_)
 clear hW_ hb_
 clear y0 y1 y2 y3 y4 y5
 have y0 : W2.cell? ⟨g,0,none⟩ = some (.int .u64 gn) := cL HX 0 rfl
 have y1 : W2.cell? ⟨g,1,none⟩ = some (.int .u32 ep) := cL HX 1 rfl
 have y2 : W2.cell? ⟨g,2,none⟩ = some (.int .u64 ls) := cL HX 2 rfl
 have y3 : W2.cell? ⟨g,3,none⟩ = some (.int .u64 vr) := cL HX 3 rfl
 have y4 : W2.cell? ⟨g,4,none⟩ = some (.slice (some ⟨oo,0,none⟩) 1 co) := cL HX 4 rfl
 have y5 : W2.cell? ⟨g,5,none⟩ = some (.slice (some ⟨ln,0,none⟩) 1 cl) := cL HX 5 rfl
 have HOW : Aside0 (W2.cell? ⟨oo,0,none⟩ = some (.int .i64 0)) := ⟨pw_cell_below HB.out HO.out⟩
 have HLW : Aside0 (W2.cell? ⟨ln,0,none⟩ = some (.int .i64 k)) := ⟨pw_cell_below HB.out HL.out⟩
 go_wp2_with fail
 go_loopw [38] (fun v wr => (v = .int .i64 0 ∧ Aside0 (wr = W2)) ∨ (v = .int .i64 1 ∧ Aside0 (Below w.heap.size w wr))) (fun v _ => 1 - (intOf v).toNat)
 case atStart => exact .inl ⟨rfl,⟨rfl⟩⟩
 case round =>
  clear y0 y1 y2 y3 y4 y5
  rcases hrel with ⟨rfl,⟨hw⟩⟩ | ⟨rfl,HB2⟩
  ·subst hw
   have y0 : wr.cell? ⟨g,0,none⟩ = some (.int .u64 gn) := cL HX 0 rfl
   have y1 : wr.cell? ⟨g,1,none⟩ = some (.int .u32 ep) := cL HX 1 rfl
   have y2 : wr.cell? ⟨g,2,none⟩ = some (.int .u64 ls) := cL HX 2 rfl
   have y3 : wr.cell? ⟨g,3,none⟩ = some (.int .u64 vr) := cL HX 3 rfl
   have y4 : wr.cell? ⟨g,4,none⟩ = some (.slice (some ⟨oo,0,none⟩) 1 co) := cL HX 4 rfl
   have y5 : wr.cell? ⟨g,5,none⟩ = some (.slice (some ⟨ln,0,none⟩) 1 cl) := cL HX 5 rfl
   have s0 : wr.cell? ⟨gs,0,none⟩ = some (.bool false) := cL HS 0 rfl
   have f0 := blk_frozen HS.out 0
   have q0 := HOW.out
   have q1 := HLW.out
   go_wp2_with fail
   exact ⟨.inr ⟨rfl,⟨below_set HB.out (by have := hgs.out; have := HB1.out.size; omega)⟩⟩,by decide⟩
  ·go_wp2_with fail
   go_ret
   exact ⟨rfl,HB2.out⟩
theorem put_ck (s x : ByteArray) (g at_ : Nat) (w : World) (hr : w.heap[g]? = some (.cells (rowB s) 333 (0,0))) (hs : s.size = 128) (hx : at_ + x.size ≤ 128) (ha : at_ < 128) :
 Calls Tryz.prog 221 #[.pointer (some ⟨g,0,none⟩),.int .i64 (at_ : Int),.string x] w fun e w' => e = .returned (.tuple #[]) ∧ w' = w.setRow g (rowB (ovr s at_ x)) := by
 have HX := Aside0.mk hr
 have hsz : (rowB s).size = 128 := by rw [rowB_size]; exact hs
 have a1 : (at_ : Int) ≤ 128 := by omega
 have a2 : (128 = at_) = False := eq_false (by omega)
 have hcp := copy_str x w g at_ (128 - at_) (128 - at_) (by omega) (fun j hj => by rw [blk_cell hr]; simp [hsz]; omega) (fun j hj => blk_frozen hr _)
 rw [rowB_ovr hr (by omega)] at hcp
 clear hr ha
 go_enter Tryz.func221,Tryz.ntmps221
 go_wp2_with fail
 exact end0 rfl rfl ⟨rfl,rfl⟩
end Go.Proofs.YtokfjbbjkiilmaaGreatDoor.H
namespace Go.Proofs.YtokfjbbjkiilmaaGreatDoor.H
open Go.RowKit Go.Proofs.YtokfjbbjkiilmaaGreatDoorW.PrintWords Go.Proofs.YtokfjbbjkiilmaaGreatDoorW.PrintLast Go.Proofs.YtokfjbbjkiilmaaGreatDoorW.PrintMore
set_option maxHeartbeats 8000000
set_option maxRecDepth 100000
attribute [local go_sem] max2_int min2_int min_two max_two
theorem zc333 : Tryz.zeroCells333 = rowB (zer 128) := by kernel_rfl
theorem ck1_size (g : Int) : (ck1 g).size = 128 := by unfold ck1; rw [ovr_size _ _ _ (by rw [le_size,zer_size]; decide),zer_size]
theorem ck2_size (g e : Int) : (ck2 g e).size = 128 := by unfold ck2; rw [ovr_size _ _ _ (by rw [le_size,ck1_size]; decide),ck1_size]
theorem ck3_size (g e l : Int) : (ck3 g e l).size = 128 := by unfold ck3; rw [ovr_size _ _ _ (by rw [le_size,ck2_size]; decide),ck2_size]
theorem ck4_size (g e l v : Int) : (ck4 g e l v).size = 128 := by unfold ck4; rw [ovr_size _ _ _ (by rw [le_size,ck3_size]; decide),ck3_size]
theorem one_size (n : Int) : (strOfNums [n]).size = 1 := strOfNums_size _
theorem ck5_ovr (g e l v k : Int) : ovr (ovr (ovr (ck4 g e l v) 28 (strOfNums [1])) 29 (strOfNums [0])) 30 (strOfNums [k]) = ck5 g e l v k := by
 obtain ⟨a,ha⟩ : ∃ a,a = strOfNums (le g 8) ++ strOfNums (le e 4) ++ strOfNums (le l 8) ++ strOfNums (le v 8) := ⟨_,rfl⟩
 have hs : a.size = 28 := by rw [ha]; simp only [ByteArray.size_append,le_size]
 have e4 : ck4 g e l v = a ++ (zer 1 ++ zer 99) := by
  rw [ck4_is,← zer_app,ha]
  simp only [ByteArray.append_assoc]
 have e5 : ck5 g e l v k = a ++ (strOfNums [1] ++ (strOfNums [0] ++ (strOfNums [k] ++ zer 97))) := by
  unfold ck5
  rw [ha,nums_cons 1,nums_cons 0]
  simp only [ByteArray.append_assoc]
 rw [e4,e5,ovr_at a _ _ _ hs (by rw [one_size,zer_size]),show zer 99 = zer 1 ++ zer 98 from zer_app 1 98,← ByteArray.append_assoc,ovr_at (a ++ strOfNums [1]) _ _ _ (by rw [ByteArray.size_append,hs,one_size]) (by rw [one_size,zer_size]),show zer 98 = zer 1 ++ zer 97 from zer_app 1 97,← ByteArray.append_assoc,ovr_at (a ++ strOfNums [1] ++ strOfNums [0]) _ _ _ (by simp only [ByteArray.size_append,hs,one_size]) (by rw [one_size,zer_size])]
 simp only [ByteArray.append_assoc]
theorem ck5_size (g e l v k : Int) : (ck5 g e l v k).size = 128 := by rw [ck5_is,ByteArray.size_append,ckB_size,zer_size]
theorem ck6_size (g e l v k : Int) : (ovr (ck5 g e l v k) 116 (strOfNums (le (crcSum (ckB g e l v k)) 4))).size = 128 := by rw [ovr_size _ _ _ (by rw [le_size,ck5_size]; decide),ck5_size]
theorem ckenc0_calls (w : World) :
 Calls Tryz.prog 191 #[.agg #[.int .u64 0,.int .u32 0,.int .u64 0,.int .u64 0,.slice none 0 0,.slice none 0 0]] w fun e w' => e = .returned (.tuple #[.string { data := #[] },.int .i64 5]) ∧ Below w.heap.size w w' := by
 go_enter Tryz.func191,Tryz.ntmps191
 go_upto_region 1 with fail
 obtain ⟨W1,g,hW_,hg,HX,hb_⟩ := new1 w #[.int .u64 0,.int .u32 0,.int .u64 0,.int .u64 0,.slice none 0 0,.slice none 0 0] 292
 rw [← hW_,← hg.out]
 have HB := Aside0.mk hb_
 clear hW_ hb_
 go_wp2_with (refine lr_ 1 HX.out Tryz.underlying292 ?_)
 refine (ckright0_calls _).mono ?_
 rintro e_ W2 ⟨rfl,hb⟩
 go_wp2_with fail
 exact ret2 rfl rfl ⟨rfl,below_step HB.out hb⟩
theorem ckenc1_calls (gn ep ls vr k : Int) (oo co ln cl : Nat) (w : World) (hn : (0 < gn ∧ gn < 18446744073709551616) ∧ (0 ≤ ep ∧ ep < 4294967296) ∧ (0 < ls ∧ ls < 18446744073709551616) ∧ (0 ≤ vr ∧ vr < 18446744073709551616) ∧ (0 ≤ k ∧ k ≤ 30)) (ho : w.cell? ⟨oo,0,none⟩ = some (.int .i64 0)) (hl : w.cell? ⟨ln,0,none⟩ = some (.int .i64 k)) :
 Calls Tryz.prog 191 #[.agg #[.int .u64 gn,.int .u32 ep,.int .u64 ls,.int .u64 vr,.slice (some ⟨oo,0,none⟩) 1 co,.slice (some ⟨ln,0,none⟩) 1 cl]] w fun e w' => e = .returned (.tuple #[.string (ckS gn ep ls vr k),.int .i64 0]) ∧ Below w.heap.size w w' := by
 have HO := Aside0.mk ho
 have HL := Aside0.mk hl
 have HN := Aside0.mk hn
 clear ho hl hn
 go_enter Tryz.func191,Tryz.ntmps191
 go_upto_region 1 with fail
 obtain ⟨W1,g,hW_,hg,HX,hb_⟩ := new1 w #[.int .u64 gn,.int .u32 ep,.int .u64 ls,.int .u64 vr,.slice (some ⟨oo,0,none⟩) 1 co,.slice (some ⟨ln,0,none⟩) 1 cl] 292
 rw [← hW_,← hg.out]
 have HB := Aside0.mk hb_
 clear hW_ hb_
 go_wp2_with (refine lr_ 1 HX.out Tryz.underlying292 ?_)
 refine (ckright1_calls gn ep ls vr k oo co ln cl _ (by have := HN.out.1; omega) (by have := HN.out.2.2.1; omega) (pw_cell_below HB.out HO.out) (pw_cell_below HB.out HL.out) (by have := HN.out.2.2.2.2; omega)).mono ?_
 rintro e_ W2 ⟨rfl,hb⟩
 replace HX := mB HX hb
 replace HB := mS HB hb
 clear hb
 go_upto_region 4 with fail
 have HB0 := HB
 obtain ⟨W3,gs,hW_,hgs,HS,hb_⟩ := new1 W2 Tryz.zeroCells333 333
 rw [← hW_,← hgs.out]
 replace HX := mb HX hb_
 replace HB := Aside0.mk (below_step (HB.out) hb_)
 clear hW_ hb_
 replace HS : Aside0 (W3.heap[gs]? = some (.cells (rowB (zer 128)) 333 (0,0))) := ⟨by rw [← zc333]; exact HS.out⟩
 have HG : Aside0 (w.heap.size ≤ gs) := ⟨by rw [hgs.out]; exact HB0.out.size⟩
 have NX : Aside0 (g ≠ gs) := ⟨tne HX.out HS.out (by decide)⟩
 have e4 : IntKind.u64.wrap ep = ep := by have := HN.out.2.1; rw [IntKind.wrap_u64]; omega
 have e5 : IntKind.u8.wrap k = k := by have := HN.out.2.2.2.2; rw [IntKind.wrap_u8]; omega
 have y0 : W3.cell? ⟨g,0,none⟩ = some (.int .u64 gn) := cL HX 0 rfl
 have y1 : W3.cell? ⟨g,1,none⟩ = some (.int .u32 ep) := cL HX 1 rfl
 have y2 : W3.cell? ⟨g,2,none⟩ = some (.int .u64 ls) := cL HX 2 rfl
 have y3 : W3.cell? ⟨g,3,none⟩ = some (.int .u64 vr) := cL HX 3 rfl
 have y4 : W3.cell? ⟨g,4,none⟩ = some (.slice (some ⟨oo,0,none⟩) 1 co) := cL HX 4 rfl
 have y5 : W3.cell? ⟨g,5,none⟩ = some (.slice (some ⟨ln,0,none⟩) 1 cl) := cL HX 5 rfl
 go_wp2_with fail
 refine (put8_calls gn _ ⟨by have := HN.out.1; omega,HN.out.1.2⟩).mono ?_
 rintro e_ W4 ⟨rfl,hb⟩
 clear y0 y1 y2 y3 y4 y5
 replace HX := mb HX hb
 replace HS := mb HS hb
 replace HB := mS HB hb
 clear hb
 go_wp2_with fail
 refine (put_ck (zer 128) (strOfNums (le gn 8)) gs 0 _ HS.out (zer_size 128) (by rw [le_size]; decide) (by decide)).mono ?_
 rintro e_ W5 ⟨rfl,hw⟩
 have q_ : W5.heap[gs]? = some (.cells (rowB (ck1 gn)) 333 (0,0)) := by rw [hw]; exact setRow_heap _ _ _ _ _ _ HS.out
 replace HS := Aside0.mk q_
 clear q_
 have q_ : W5.heap[g]? = some (.cells #[.int .u64 gn,.int .u32 ep,.int .u64 ls,.int .u64 vr,.slice (some ⟨oo,0,none⟩) 1 co,.slice (some ⟨ln,0,none⟩) 1 cl] 292 (0,0)) := by rw [hw]; exact mR _ HX.out NX.out
 replace HX := Aside0.mk q_
 clear q_
 have q_ : Below w.heap.size w W5 := by rw [hw]; exact below_setRow HB.out HG.out _
 replace HB := Aside0.mk q_
 clear q_ hw
 have y0 : W5.cell? ⟨g,0,none⟩ = some (.int .u64 gn) := cL HX 0 rfl
 have y1 : W5.cell? ⟨g,1,none⟩ = some (.int .u32 ep) := cL HX 1 rfl
 have y2 : W5.cell? ⟨g,2,none⟩ = some (.int .u64 ls) := cL HX 2 rfl
 have y3 : W5.cell? ⟨g,3,none⟩ = some (.int .u64 vr) := cL HX 3 rfl
 have y4 : W5.cell? ⟨g,4,none⟩ = some (.slice (some ⟨oo,0,none⟩) 1 co) := cL HX 4 rfl
 have y5 : W5.cell? ⟨g,5,none⟩ = some (.slice (some ⟨ln,0,none⟩) 1 cl) := cL HX 5 rfl
 go_wp2_with fail
 refine (put4_calls ep _ HN.out.2.1).mono ?_
 rintro e_ W6 ⟨rfl,hb⟩
 clear y0 y1 y2 y3 y4 y5
 replace HX := mb HX hb
 replace HS := mb HS hb
 replace HB := mS HB hb
 clear hb
 go_wp2_with fail
 refine (put_ck (ck1 gn) (strOfNums (le ep 4)) gs 8 _ HS.out (ck1_size _) (by rw [le_size]; decide) (by decide)).mono ?_
 rintro e_ W7 ⟨rfl,hw⟩
 have q_ : W7.heap[gs]? = some (.cells (rowB (ck2 gn ep)) 333 (0,0)) := by rw [hw]; exact setRow_heap _ _ _ _ _ _ HS.out
 replace HS := Aside0.mk q_
 clear q_
 have q_ : W7.heap[g]? = some (.cells #[.int .u64 gn,.int .u32 ep,.int .u64 ls,.int .u64 vr,.slice (some ⟨oo,0,none⟩) 1 co,.slice (some ⟨ln,0,none⟩) 1 cl] 292 (0,0)) := by rw [hw]; exact mR _ HX.out NX.out
 replace HX := Aside0.mk q_
 clear q_
 have q_ : Below w.heap.size w W7 := by rw [hw]; exact below_setRow HB.out HG.out _
 replace HB := Aside0.mk q_
 clear q_ hw
 have y0 : W7.cell? ⟨g,0,none⟩ = some (.int .u64 gn) := cL HX 0 rfl
 have y1 : W7.cell? ⟨g,1,none⟩ = some (.int .u32 ep) := cL HX 1 rfl
 have y2 : W7.cell? ⟨g,2,none⟩ = some (.int .u64 ls) := cL HX 2 rfl
 have y3 : W7.cell? ⟨g,3,none⟩ = some (.int .u64 vr) := cL HX 3 rfl
 have y4 : W7.cell? ⟨g,4,none⟩ = some (.slice (some ⟨oo,0,none⟩) 1 co) := cL HX 4 rfl
 have y5 : W7.cell? ⟨g,5,none⟩ = some (.slice (some ⟨ln,0,none⟩) 1 cl) := cL HX 5 rfl
 go_wp2_with fail
 refine (put8_calls ls _ ⟨by have := HN.out.2.2.1; omega,HN.out.2.2.1.2⟩).mono ?_
 rintro e_ W8 ⟨rfl,hb⟩
 clear y0 y1 y2 y3 y4 y5
 replace HX := mb HX hb
 replace HS := mb HS hb
 replace HB := mS HB hb
 clear hb
 go_wp2_with fail
 refine (put_ck (ck2 gn ep) (strOfNums (le ls 8)) gs 12 _ HS.out (ck2_size _ _) (by rw [le_size]; decide) (by decide)).mono ?_
 rintro e_ W9 ⟨rfl,hw⟩
 have q_ : W9.heap[gs]? = some (.cells (rowB (ck3 gn ep ls)) 333 (0,0)) := by rw [hw]; exact setRow_heap _ _ _ _ _ _ HS.out
 replace HS := Aside0.mk q_
 clear q_
 have q_ : W9.heap[g]? = some (.cells #[.int .u64 gn,.int .u32 ep,.int .u64 ls,.int .u64 vr,.slice (some ⟨oo,0,none⟩) 1 co,.slice (some ⟨ln,0,none⟩) 1 cl] 292 (0,0)) := by rw [hw]; exact mR _ HX.out NX.out
 replace HX := Aside0.mk q_
 clear q_
 have q_ : Below w.heap.size w W9 := by rw [hw]; exact below_setRow HB.out HG.out _
 replace HB := Aside0.mk q_
 clear q_ hw
 have y0 : W9.cell? ⟨g,0,none⟩ = some (.int .u64 gn) := cL HX 0 rfl
 have y1 : W9.cell? ⟨g,1,none⟩ = some (.int .u32 ep) := cL HX 1 rfl
 have y2 : W9.cell? ⟨g,2,none⟩ = some (.int .u64 ls) := cL HX 2 rfl
 have y3 : W9.cell? ⟨g,3,none⟩ = some (.int .u64 vr) := cL HX 3 rfl
 have y4 : W9.cell? ⟨g,4,none⟩ = some (.slice (some ⟨oo,0,none⟩) 1 co) := cL HX 4 rfl
 have y5 : W9.cell? ⟨g,5,none⟩ = some (.slice (some ⟨ln,0,none⟩) 1 cl) := cL HX 5 rfl
 go_wp2_with fail
 refine (put8_calls vr _ HN.out.2.2.2.1).mono ?_
 rintro e_ W10 ⟨rfl,hb⟩
 clear y0 y1 y2 y3 y4 y5
 replace HX := mb HX hb
 replace HS := mb HS hb
 replace HB := mS HB hb
 clear hb
 go_wp2_with fail
 refine (put_ck (ck3 gn ep ls) (strOfNums (le vr 8)) gs 20 _ HS.out (ck3_size _ _ _) (by rw [le_size]; decide) (by decide)).mono ?_
 rintro e_ W11 ⟨rfl,hw⟩
 have q_ : W11.heap[gs]? = some (.cells (rowB (ck4 gn ep ls vr)) 333 (0,0)) := by rw [hw]; exact setRow_heap _ _ _ _ _ _ HS.out
 replace HS := Aside0.mk q_
 clear q_
 have q_ : W11.heap[g]? = some (.cells #[.int .u64 gn,.int .u32 ep,.int .u64 ls,.int .u64 vr,.slice (some ⟨oo,0,none⟩) 1 co,.slice (some ⟨ln,0,none⟩) 1 cl] 292 (0,0)) := by rw [hw]; exact mR _ HX.out NX.out
 replace HX := Aside0.mk q_
 clear q_
 have q_ : Below w.heap.size w W11 := by rw [hw]; exact below_setRow HB.out HG.out _
 replace HB := Aside0.mk q_
 clear q_ hw
 have y0 : W11.cell? ⟨g,0,none⟩ = some (.int .u64 gn) := cL HX 0 rfl
 have y1 : W11.cell? ⟨g,1,none⟩ = some (.int .u32 ep) := cL HX 1 rfl
 have y2 : W11.cell? ⟨g,2,none⟩ = some (.int .u64 ls) := cL HX 2 rfl
 have y3 : W11.cell? ⟨g,3,none⟩ = some (.int .u64 vr) := cL HX 3 rfl
 have y4 : W11.cell? ⟨g,4,none⟩ = some (.slice (some ⟨oo,0,none⟩) 1 co) := cL HX 4 rfl
 have y5 : W11.cell? ⟨g,5,none⟩ = some (.slice (some ⟨ln,0,none⟩) 1 cl) := cL HX 5 rfl
 have x28 : W11.cell? ⟨gs,28,none⟩ = some (.int .u8 (sb (ck4 gn ep ls vr) 28)) := (blk_cell HS.out 28).trans (rowB_at _ 28 (by rw [ck4_size]; decide))
 have f28 := blk_frozen HS.out 28
 go_wp2_with fail
 clear x28 f28 y0 y1 y2 y3 y4 y5
 rw [setCell_eq_setRow _ gs 28 _ _ _ _ HS.out,rowB_set _ 28 1 (by rw [ck4_size]; decide) (by decide)]
 obtain ⟨Wa,hw⟩ : ∃ W_,W_ = W11.setRow gs (rowB (ovr (ck4 gn ep ls vr) 28 (strOfNums [1]))) := ⟨_,rfl⟩
 rw [← hw]
 have q_ : Wa.heap[gs]? = some (.cells (rowB (ovr (ck4 gn ep ls vr) 28 (strOfNums [1]))) 333 (0,0)) := by rw [hw]; exact setRow_heap _ _ _ _ _ _ HS.out
 replace HS := Aside0.mk q_
 clear q_
 have q_ : Wa.heap[g]? = some (.cells #[.int .u64 gn,.int .u32 ep,.int .u64 ls,.int .u64 vr,.slice (some ⟨oo,0,none⟩) 1 co,.slice (some ⟨ln,0,none⟩) 1 cl] 292 (0,0)) := by rw [hw]; exact mR _ HX.out NX.out
 replace HX := Aside0.mk q_
 clear q_
 have q_ : Below w.heap.size w Wa := by rw [hw]; exact below_setRow HB.out HG.out _
 replace HB := Aside0.mk q_
 clear q_ hw
 have s5 : Aside0 ((ovr (ck4 gn ep ls vr) 28 (strOfNums [1])).size = 128) := ⟨by rw [ovr_size _ _ _ (by rw [one_size,ck4_size]; decide),ck4_size]⟩
 have HOW : Aside0 (Wa.cell? ⟨oo,0,none⟩ = some (.int .i64 0)) := ⟨pw_cell_below HB.out HO.out⟩
 have HLW : Aside0 (Wa.cell? ⟨ln,0,none⟩ = some (.int .i64 k)) := ⟨pw_cell_below HB.out HL.out⟩
 go_loopw [35] (fun v wr => (v = .int .i64 0 ∧ Aside0 (wr.heap[gs]? = some (.cells (rowB (ovr (ck4 gn ep ls vr) 28 (strOfNums [1]))) 333 (0,0))) ∧ Aside0 (wr.heap[g]? = some (.cells #[.int .u64 gn,.int .u32 ep,.int .u64 ls,.int .u64 vr,.slice (some ⟨oo,0,none⟩) 1 co,.slice (some ⟨ln,0,none⟩) 1 cl] 292 (0,0))) ∧ Aside0 (Below w.heap.size w wr) ∧ Aside0 (wr.cell? ⟨oo,0,none⟩ = some (.int .i64 0)) ∧ Aside0 (wr.cell? ⟨ln,0,none⟩ = some (.int .i64 k))) ∨ (v = .int .i64 1 ∧ Aside0 (wr.heap[gs]? = some (.cells (rowB (ck5 gn ep ls vr k)) 333 (0,0))) ∧ Aside0 (wr.heap[g]? = some (.cells #[.int .u64 gn,.int .u32 ep,.int .u64 ls,.int .u64 vr,.slice (some ⟨oo,0,none⟩) 1 co,.slice (some ⟨ln,0,none⟩) 1 cl] 292 (0,0))) ∧ Aside0 (Below w.heap.size w wr))) (fun v _ => 1 - (intOf v).toNat)
 case atStart => exact .inl ⟨rfl,HS,HX,HB,HOW,HLW⟩
 case round =>
  clear HS HX HB HOW HLW
  rcases hrel with ⟨rfl,HS,HX,HB,HOW,HLW⟩ | ⟨rfl,HS,HX,HB⟩
  ·have y0 : wr.cell? ⟨g,0,none⟩ = some (.int .u64 gn) := cL HX 0 rfl
   have y1 : wr.cell? ⟨g,1,none⟩ = some (.int .u32 ep) := cL HX 1 rfl
   have y2 : wr.cell? ⟨g,2,none⟩ = some (.int .u64 ls) := cL HX 2 rfl
   have y3 : wr.cell? ⟨g,3,none⟩ = some (.int .u64 vr) := cL HX 3 rfl
   have y4 : wr.cell? ⟨g,4,none⟩ = some (.slice (some ⟨oo,0,none⟩) 1 co) := cL HX 4 rfl
   have y5 : wr.cell? ⟨g,5,none⟩ = some (.slice (some ⟨ln,0,none⟩) 1 cl) := cL HX 5 rfl
   have x29 : wr.cell? ⟨gs,29,none⟩ = some (.int .u8 (sb (ovr (ck4 gn ep ls vr) 28 (strOfNums [1])) 29)) := (blk_cell HS.out 29).trans (rowB_at _ 29 (by rw [s5.out]; decide))
   have f29 := blk_frozen HS.out 29
   have x30 : wr.cell? ⟨gs,30,none⟩ = some (.int .u8 (sb (ovr (ck4 gn ep ls vr) 28 (strOfNums [1])) 30)) := (blk_cell HS.out 30).trans (rowB_at _ 30 (by rw [s5.out]; decide))
   have f30 := blk_frozen HS.out 30
   have q0 := HOW.out
   have q1 := HLW.out
   go_wp2_with fail
   clear x29 f29 x30 f30 y0 y1 y2 y3 y4 y5 q0 q1
   have s6 : (ovr (ovr (ck4 gn ep ls vr) 28 (strOfNums [1])) 29 (strOfNums [0])).size = 128 := by rw [ovr_size _ _ _ (by rw [one_size,s5.out]; decide),s5.out]
   have e1_ := rowB_set (ovr (ck4 gn ep ls vr) 28 (strOfNums [1])) 29 0 (by rw [s5.out]; decide) (by decide)
   have e2_ := rowB_set (ovr (ovr (ck4 gn ep ls vr) 28 (strOfNums [1])) 29 (strOfNums [0])) 30 k (by rw [s6]; decide) (by have := HN.out.2.2.2.2; omega)
   rw [setCell_eq_setRow _ gs 29 _ _ _ _ HS.out,e1_,setCell_eq_setRow _ gs 30 _ _ _ _ (setRow_heap _ _ _ _ _ _ HS.out),e2_,ck5_ovr]
   have h1 := setRow_heap wr gs _ (rowB (ovr (ovr (ck4 gn ep ls vr) 28 (strOfNums [1])) 29 (strOfNums [0]))) _ _ HS.out
   exact ⟨.inr ⟨rfl,⟨setRow_heap _ _ _ _ _ _ h1⟩,⟨mR _ (mR _ HX.out NX.out) NX.out⟩,⟨below_setRow (below_setRow HB.out HG.out _) HG.out _⟩⟩,by decide⟩
  ·have hst := str_of (W := wr) (g := gs) (o := 0) (c := 128) (ckB gn ep ls vr k) (ckB_size ..) (fun i hi => by rw [Nat.zero_add]; exact (blk_cell HS.out i).trans ((rowB_at _ i (by rw [ck5_size]; omega)).trans (by rw [ck5_is,sb_app1 _ _ _ (by rw [ckB_size]; exact hi)])))
   go_wp2_with fail
   refine (sum_calls (ckB gn ep ls vr k) _ (by rw [ckB_size]; decide)).mono ?_
   rintro e_ Wb ⟨rfl,hb⟩
   clear hst
   replace HX := mb HX hb
   replace HS := mb HS hb
   replace HB := mS HB hb
   clear hb
   have hcs : Aside0 (0 ≤ crcSum (ckB gn ep ls vr k) ∧ crcSum (ckB gn ep ls vr k) < 4294967296) := ⟨notU_lt _⟩
   have e6 : IntKind.u64.wrap (crcSum (ckB gn ep ls vr k)) = crcSum (ckB gn ep ls vr k) := by have := hcs.out; rw [IntKind.wrap_u64]; omega
   go_wp2_with fail
   refine (put4_calls (crcSum (ckB gn ep ls vr k)) _ hcs.out).mono ?_
   rintro e_ W21 ⟨rfl,hb⟩
   replace HX := mb HX hb
   replace HS := mb HS hb
   replace HB := mS HB hb
   clear hb
   go_wp2_with fail
   refine (put_ck (ck5 gn ep ls vr k) (strOfNums (le (crcSum (ckB gn ep ls vr k)) 4)) gs 116 _ HS.out (ck5_size ..) (by rw [le_size]; decide) (by decide)).mono ?_
   rintro e_ W22 ⟨rfl,hw⟩
   have q_ : W22.heap[gs]? = some (.cells (rowB (ovr (ck5 gn ep ls vr k) 116 (strOfNums (le (crcSum (ckB gn ep ls vr k)) 4)))) 333 (0,0)) := by rw [hw]; exact setRow_heap _ _ _ _ _ _ HS.out
   replace HS := Aside0.mk q_
   clear q_
   have q_ : W22.heap[g]? = some (.cells #[.int .u64 gn,.int .u32 ep,.int .u64 ls,.int .u64 vr,.slice (some ⟨oo,0,none⟩) 1 co,.slice (some ⟨ln,0,none⟩) 1 cl] 292 (0,0)) := by rw [hw]; exact mR _ HX.out NX.out
   replace HX := Aside0.mk q_
   clear q_
   have q_ : Below w.heap.size w W22 := by rw [hw]; exact below_setRow HB.out HG.out _
   replace HB := Aside0.mk q_
   clear q_ hw
   have y0 : W22.cell? ⟨g,0,none⟩ = some (.int .u64 gn) := cL HX 0 rfl
   have y1 : W22.cell? ⟨g,1,none⟩ = some (.int .u32 ep) := cL HX 1 rfl
   have y2 : W22.cell? ⟨g,2,none⟩ = some (.int .u64 ls) := cL HX 2 rfl
   have y3 : W22.cell? ⟨g,3,none⟩ = some (.int .u64 vr) := cL HX 3 rfl
   have y4 : W22.cell? ⟨g,4,none⟩ = some (.slice (some ⟨oo,0,none⟩) 1 co) := cL HX 4 rfl
   have y5 : W22.cell? ⟨g,5,none⟩ = some (.slice (some ⟨ln,0,none⟩) 1 cl) := cL HX 5 rfl
   go_wp2_with fail
   refine (put8_calls gn _ ⟨by have := HN.out.1; omega,HN.out.1.2⟩).mono ?_
   rintro e_ W23 ⟨rfl,hb⟩
   clear y0 y1 y2 y3 y4 y5
   replace HX := mb HX hb
   replace HS := mb HS hb
   replace HB := mS HB hb
   clear hb
   go_wp2_with fail
   refine (put_ck (ovr (ck5 gn ep ls vr k) 116 (strOfNums (le (crcSum (ckB gn ep ls vr k)) 4))) (strOfNums (le gn 8)) gs 120 _ HS.out (ck6_size ..) (by rw [le_size]; decide) (by decide)).mono ?_
   rintro e_ W24 ⟨rfl,hw⟩
   have q_ : W24.heap[gs]? = some (.cells (rowB (ovr (ovr (ck5 gn ep ls vr k) 116 (strOfNums (le (crcSum (ckB gn ep ls vr k)) 4))) 120 (strOfNums (le gn 8)))) 333 (0,0)) := by rw [hw]; exact setRow_heap _ _ _ _ _ _ HS.out
   replace HS := Aside0.mk q_
   clear q_
   have q_ : W24.heap[g]? = some (.cells #[.int .u64 gn,.int .u32 ep,.int .u64 ls,.int .u64 vr,.slice (some ⟨oo,0,none⟩) 1 co,.slice (some ⟨ln,0,none⟩) 1 cl] 292 (0,0)) := by rw [hw]; exact mR _ HX.out NX.out
   replace HX := Aside0.mk q_
   clear q_
   have q_ : Below w.heap.size w W24 := by rw [hw]; exact below_setRow HB.out HG.out _
   replace HB := Aside0.mk q_
   clear q_ hw
   replace HS : Aside0 (W24.heap[gs]? = some (.cells (rowB (ckS gn ep ls vr k)) 333 (0,0))) := ⟨by rw [← ck5_last]; exact HS.out⟩
   have hst := str_of (W := W24) (g := gs) (o := 0) (c := 128) (ckS gn ep ls vr k) (ckS_size ..) (fun i hi => by rw [Nat.zero_add]; exact (blk_cell HS.out i).trans ((rowB_at _ i (by rw [ckS_size]; omega)).trans (rfl)))
   go_wp2_with fail
   exact ret2 rfl rfl ⟨rfl,HB.out⟩
end Go.Proofs.YtokfjbbjkiilmaaGreatDoor.H
namespace Go.Proofs.YtokfjbbjkiilmaaGreatDoor.H
open Go.RowKit Go.Proofs.YtokfjbbjkiilmaaGreatDoorW.PrintWords Go.Proofs.YtokfjbbjkiilmaaGreatDoorW.PrintLast Go.Proofs.YtokfjbbjkiilmaaGreatDoorW.PrintMore
set_option maxHeartbeats 8000000
set_option maxRecDepth 100000
attribute [local go_sem] max2_int min2_int min_two max_two
theorem ckmust_yes (w : World) :
 Calls Tryz.prog 314 #[.bool true] w fun e w' => e = .returned (.tuple #[]) ∧ w' = w := by
 go_enter Tryz.func314,Tryz.ntmps314
 go_wp2_with fail
 exact end0 rfl rfl ⟨rfl,rfl⟩
theorem ckmust_no (w : World) :
 Calls Tryz.prog 314 #[.bool false] w fun e w' => e = .panicked [{ v := .iface 432 (.agg #[]),recovered := false }] ∧ w' = w := by
 go_enter Tryz.func314,Tryz.ntmps314
 go_wp2_with fail
 exact ⟨rfl,rfl,rfl⟩
/-- Operations one behind the other, of a deferred call. -/
def wpLS (P : Program) (ops : Array Oper) (Q : Exit → Act → List Frame → World → Prop) : List Oper → Act → List Frame → World → Prop
 | [],a,cs,w => Q .normal a cs w
 | o :: rest,a,cs,w =>
  if Region.wanted o (yielded ops a.tmps) then
   match (execOp a.eval o).run P w with
   | .ok .recover w' =>
    match recoverD cs with
    | some (v,cs') => wpLS P ops Q rest (a.put o.dst v) cs' w'
    | none => wpLS P ops Q rest (a.put o.dst .nilIface) cs w'
   | r => o.upon P a (fun a' w' => wpLS P ops Q rest a' cs w') (fun e a' w' => Q e a' cs w') r
  else wpLS P ops Q rest (a.put o.dst undef) cs w
theorem wp_monoS {P : Program} {o : Oper} {a : Act} {K K' : Act → World → Prop} {Q : Exit → Act → World → Prop} {r : Result Next} (_ : ∀ w',r = .ok .recover w' → False) (h : ∀ a w,K a w → K' a w) (hh : o.upon P a K Q r) : o.upon P a K' Q r := by
 cases r with
 | ok n w' =>
  cases n <;> simp only [Oper.upon] at hh ⊢ <;>
   first
    | exact h _ _ hh
    | (refine Calls.mono hh fun e w'' he => ?_; cases e <;> first | exact h _ _ he | exact he)
    | exact hh
    | (intro c cs hc; obtain ⟨v,w2,hr,hs⟩ := hh c cs hc; exact ⟨v,w2,h _ _ hr,hs⟩)
    | (intro c cs; obtain ⟨v,w2,hr,hs⟩ := hh c cs; exact ⟨v,w2,h _ _ hr,hs⟩)
 | halt x w' => cases x <;> exact hh
theorem wpLS_ops {P : Program} {ops : Array Oper} {Q : Exit → Act → List Frame → World → Prop} : ∀ (os : List Oper) (l : List Nat),l.map (fun i => ops[i]?) = os.map some → ∀ (a : Act) (cs : List Frame) (w : World),wpLS P ops Q os a cs w → wpOpsS P ops Q l a cs w
 | [],[],_,_,_,_,h => h
 | o :: os,i :: l,hm,a,cs,w,h => by
  simp only [List.map_cons,List.cons.injEq] at hm
  have ih := fun a cs w => wpLS_ops (P := P) (Q := Q) os l hm.2 a cs w
  simp only [wpOpsS,hm.1]
  simp only [wpLS] at h
  split at h
  ·rename_i hw
   rw [if_pos hw]
   split at h
   ·rename_i w' hr
    simp only [hr]
    split at h
    ·rename_i v cs' hq
     simp only [hq]
     exact ih _ _ _ h
    ·rename_i hq
     simp only [hq]
     exact ih _ _ _ h
   ·rename_i r hr
    split
    ·rename_i w' hr2
     exact absurd hr2 (by simpa using hr w')
    ·exact wp_monoS hr (fun a' w' h' => ih _ _ _ h') h
  ·rename_i hw
   rw [if_neg hw]
   exact ih _ _ _ h
/-- The same, closed: what unfolds would run the program. -/
structure LS (P : Program) (ops : Array Oper) (Q : Exit → Act → List Frame → World → Prop) (os : List Oper) (a : Act) (cs : List Frame) (w : World) : Prop where
 out : wpLS P ops Q os a cs w
theorem wpS_lit {P : Program} {Q : Exit → Act → List Frame → World → Prop} {a : Act} {cs : List Frame} {w : World} {id : Nat} (os : List Oper) (h : LS P os.toArray Q os a cs w) : (Code.region id os.toArray false).wpS P Q a cs w := by
 refine wpS_region (wpLS_ops os _ ?_ a cs w h.out)
 refine List.ext_getElem? fun i => ?_
 rcases Nat.lt_or_ge i os.length with hi | hi
 ·simp [hi]
 ·rw [List.getElem?_eq_none (by simpa using hi),List.getElem?_eq_none (by simpa using hi)]
section
variable {P : Program} {ops : Array Oper} {Q : Exit → Act → List Frame → World → Prop} {rest : List Oper} {oi : Oper} {a : Act} {cs : List Frame} {w w' : World} {v : Value}
theorem wpS_val (hw : Region.wanted oi (yielded ops a.tmps) = true) (hr : (execOp a.eval oi).run P w = .ok (.value v) w') (h : LS P ops Q rest (a.put oi.dst v) cs w') : LS P ops Q (oi :: rest) a cs w := by
 constructor
 simp only [wpLS]
 rw [if_pos hw,hr]
 exact h.out
theorem wpS_skip (hw : Region.wanted oi (yielded ops a.tmps) = true) (hr : (execOp a.eval oi).run P w = .ok .skip w') (h : LS P ops Q rest (a.put oi.dst undef) cs w') : LS P ops Q (oi :: rest) a cs w := by
 constructor
 simp only [wpLS]
 rw [if_pos hw,hr]
 exact h.out
theorem wpS_none (hw : Region.wanted oi (yielded ops a.tmps) = true) (hr : (execOp a.eval oi).run P w = .ok .recover w') (hn : recoverD cs = none) (h : LS P ops Q rest (a.put oi.dst .nilIface) cs w') : LS P ops Q (oi :: rest) a cs w := by
 constructor
 simp only [wpLS]
 rw [if_pos hw,hr]
 simp only [hn]
 exact h.out
theorem wpS_some {cs' : List Frame} (hw : Region.wanted oi (yielded ops a.tmps) = true) (hr : (execOp a.eval oi).run P w = .ok .recover w') (hn : recoverD cs = some (v,cs')) (h : LS P ops Q rest (a.put oi.dst v) cs' w') : LS P ops Q (oi :: rest) a cs w := by
 constructor
 simp only [wpLS]
 rw [if_pos hw,hr]
 simp only [hn]
 exact h.out
theorem wpS_row (ty : TypeId) (x y : Operand) (ho : oi.op = .store ty x y) (hw : Region.wanted oi (yielded ops a.tmps) = true) (g : Nat) (cells : Array Value) (hx : a.eval x = .pointer (some ⟨g,0,none⟩)) (hy : a.eval y = .agg cells)
 (t : TypeId) (old : Array Value) (hg : w.heap[g]? = some (.cells old t (0,0))) (hi : (P.info? ty).map (·.size) = some cells.size) (hold : old.size = cells.size) (h1 : cells.all (·.oneCell') = true) (h : LS P ops Q rest (a.put oi.dst undef) cs (w.setRow g cells)) : LS P ops Q (oi :: rest) a cs w := by
 refine wpS_skip (w' := w.setRow g cells) hw ?_ h
 unfold execOp
 simp only [ho,hx,hy,Instr.storeAt,Instr.sureAddr,Sem.run_bind,Sem.run_pure,Result.andThen_ok,run_storeVar_row w g t ty old cells hg hi hold h1]
theorem wpS_nil (h : Q .normal a cs w) : LS P ops Q [] a cs w := ⟨h⟩
end
theorem ckcatch_idle (p q : Addr) (w : World) :
 CallsD Tryz.prog 313 #[.pointer (some p),.pointer (some q)] .returning w fun e u' w' => e = .returned (.tuple #[]) ∧ u' = .returning ∧ Below w.heap.size w w' := by
 have hta : (Instr.typeAssert .nilIface 20 432 true).run Tryz.prog w = .ok (.tuple #[.agg #[],.bool false]) w := by kernel_rfl
 refine callsD_of_wpS Tryz.func313 rfl fun c₀ cs hu => ?_
 apply wpS_seq
 refine wpS_lit _ ?_
 simp only [Tryz.ntmps313]
 refine wpS_none (w' := w) (by rfl) (by rfl) (by simp [recoverD,hu]) ?_
 refine wpS_val (v := .tuple #[.agg #[],.bool false]) (w' := w) (by rfl) (by go_simp) ?_
 refine wpS_val (v := .tuple #[.agg #[],.bool false]) (w' := w) (by rfl) (by go_simp) ?_
 refine wpS_val (v := .agg #[]) (w' := w) (by rfl) (by go_simp) ?_
 refine wpS_val (v := .bool false) (w' := w) (by rfl) (by go_simp) ?_
 refine wpS_val (v := .pointer (some ⟨w.heap.size,0,none⟩)) (w' := w.alloc (.cells #[] 432)) (by rfl) (by go_simp) ?_
 refine wpS_skip (w' := w.alloc (.cells #[] 432)) (by rfl) (by go_simp) ?_
 refine wpS_val (v := .bool false) (w' := w.alloc (.cells #[] 432)) (by rfl) (by go_simp) ?_
 refine wpS_nil ?_
 simp only [Exit.thenS]
 apply wpS_seq
 refine wpS_lit _ ?_
 refine wpS_val (v := .bool false) (w' := w.alloc (.cells #[] 432)) (by rfl) (by go_simp) ?_
 refine wpS_nil ?_
 simp only [Exit.thenS]
 refine wpS_cond (t := false) (by go_simp) ?_
 simp only [Bool.false_eq_true,if_false]
 refine wpS_of_wp (wp_skip ?_)
 have hb := below_alloc (Below.refl w.heap.size w) (.cells #[] 432)
 cases c₀
 simp_all [bodyPostS,results,Tryz.results313,Act.put]
theorem ckcatch_panic (g2 g3 : Nat) (old : Array Value) (x : Int) (older : List PanicEntry) (w : World) (h2 : w.heap[g2]? = some (.cells old 292 (0,0))) (hs : old.size = 6) (h3 : w.heap[g3]? = some (.cells #[.int .i64 x] 39 (0,0))) (hn : g3 ≠ g2) :
 CallsD Tryz.prog 313 #[.pointer (some ⟨g2,0,none⟩),.pointer (some ⟨g3,0,none⟩)] (.panicking ({ v := .iface 432 (.agg #[]),recovered := false } :: older)) w fun e u' w' => e = .returned (.tuple #[]) ∧ u' = .panicking ({ v := .iface 432 (.agg #[]),recovered := true } :: older) ∧ w'.heap[g2]? = some (.cells #[.int .u64 0,.int .u32 0,.int .u64 0,.int .u64 0,.slice none 0 0,.slice none 0 0] 292 (0,0)) ∧ w'.heap[g3]? = some (.cells #[.int .i64 5] 39 (0,0)) ∧ Keep [g2,g3] w w' := by
 have hta : (Instr.typeAssert (.iface 432 (.agg #[])) 20 432 true).run Tryz.prog w = .ok (.tuple #[.agg #[],.bool true]) w := by kernel_rfl
 obtain ⟨W1,hW1⟩ : ∃ W_,W_ = w.alloc (.cells #[] 432) := ⟨_,rfl⟩
 have k2 : W1.heap[g2]? = some (.cells old 292 (0,0)) := by rw [hW1]; exact blk_alloc h2 _
 have k3 : W1.heap[g3]? = some (.cells #[.int .i64 x] 39 (0,0)) := by rw [hW1]; exact blk_alloc h3 _
 have hK : Keep [g2,g3] w W1 := by rw [hW1]; exact (Keep.refl _ _).alloc _
 obtain ⟨W2,hW2⟩ : ∃ W_,W_ = W1.setRow g2 #[.int .u64 0,.int .u32 0,.int .u64 0,.int .u64 0,.slice none 0 0,.slice none 0 0] := ⟨_,rfl⟩
 have k4 : W2.heap[g3]? = some (.cells #[.int .i64 x] 39 (0,0)) := by rw [hW2]; exact mR _ k3 hn
 have HW1 := Aside0.mk hW1
 have HW2 := Aside0.mk hW2
 have n2 := hn.symm
 clear hW1 hW2
 have c3 : W2.cell? ⟨g3,0,none⟩ = some (.int .i64 x) := (blk_cell k4 0).trans rfl
 have f3 := blk_frozen k4 0
 refine callsD_of_wpS Tryz.func313 rfl fun c₀ cs hu => ?_
 apply wpS_seq
 refine wpS_lit _ ?_
 simp only [Tryz.ntmps313]
 refine wpS_some (v := .iface 432 (.agg #[])) (cs' := { c₀ with mode := .panicking ({ v := .iface 432 (.agg #[]),recovered := true } :: older) } :: cs) (w' := w) (by rfl) (by rfl) (by simp [recoverD,hu]) ?_
 refine wpS_val (v := .tuple #[.agg #[],.bool true]) (w' := w) (by rfl) (by go_simp) ?_
 refine wpS_val (v := .tuple #[.agg #[],.bool true]) (w' := w) (by rfl) (by go_simp) ?_
 refine wpS_val (v := .agg #[]) (w' := w) (by rfl) (by go_simp) ?_
 refine wpS_val (v := .bool true) (w' := w) (by rfl) (by go_simp) ?_
 refine wpS_val (v := .pointer (some ⟨w.heap.size,0,none⟩)) (w' := W1) (by rfl) (by rw [HW1.out]; go_simp) ?_
 refine wpS_skip (w' := W1) (by rfl) (by rw [HW1.out]; go_simp) ?_
 refine wpS_val (v := .bool true) (w' := W1) (by rfl) (by go_simp) ?_
 refine wpS_nil ?_
 simp only [Exit.thenS]
 apply wpS_seq
 refine wpS_lit _ ?_
 refine wpS_val (v := .bool true) (w' := W1) (by rfl) (by go_simp) ?_
 refine wpS_nil ?_
 simp only [Exit.thenS]
 refine wpS_cond (t := true) (by go_simp) ?_
 simp only [if_true]
 refine wpS_lit _ ?_
 refine wpS_val (v := .agg #[.int .u64 0,.int .u32 0,.int .u64 0,.int .u64 0,.slice none 0 0,.slice none 0 0]) (w' := W1) (by rfl) (by go_simp) ?_
 refine wpS_row 292 (.tmp 0) (.tmp 10) rfl (by rfl) g2 #[.int .u64 0,.int .u32 0,.int .u64 0,.int .u64 0,.slice none 0 0,.slice none 0 0] (by go_simp) (by go_simp) 292 old k2 (by kernel_rfl) hs (by kernel_rfl) ?_
 rw [← HW2.out]
 refine wpS_skip (w' := W2.setCell ⟨g3,0,none⟩ (.int .i64 5)) (by rfl) (by go_simp) ?_
 refine wpS_nil ?_
 rw [setCell_eq_setRow W2 g3 0 _ _ _ _ k4]
 have q2 : W2.heap[g2]? = some (.cells #[.int .u64 0,.int .u32 0,.int .u64 0,.int .u64 0,.slice none 0 0,.slice none 0 0] 292 (0,0)) := by rw [HW2.out]; exact setRow_heap _ _ _ _ _ _ k2
 have q3 := setRow_heap W2 g3 _ #[.int .i64 5] _ _ k4
 have q4 := mR #[.int .i64 5] q2 hn.symm
 have q5 : Keep [g2,g3] w (W2.setRow g3 #[.int .i64 5]) := by rw [HW2.out]; exact (hK.setRow _ (.inl (by simp))).setRow _ (.inl (by simp))
 have q6 : #[Value.int .i64 x].setIfInBounds 0 (.int .i64 5) = #[.int .i64 5] := rfl
 rw [q6]
 clear c3 f3 hta
 simp [bodyPostS,results,Tryz.results313,Act.put,hu,q3,q4,q5]
end Go.Proofs.YtokfjbbjkiilmaaGreatDoor.H
