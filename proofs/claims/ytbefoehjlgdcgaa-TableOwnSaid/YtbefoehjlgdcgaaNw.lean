/-
New of both, and a table in the document's words.
-/
import Derived.Test.YtbefoehjlgdcgaaTb
namespace Go.Proofs.Ytbefoehjlgdcgaa.H
open Go.RowKit Go.Proofs.YtbefoehjlgdcgaaW.PrintWords Go.Proofs.YtbefoehjlgdcgaaW.PrintLast Go.Proofs.YtbefoehjlgdcgaaW.PrintMore
attribute [local go_sem] min2_int min_two
set_option linter.unusedVariables false
set_option linter.unusedSimpArgs false
set_option maxHeartbeats 8000000 in
set_option maxRecDepth 100000 in
theorem new_no (g s first : Int) (w : World) (hm : table_may.f g s = some false) :
  Calls Try.prog 9 #[.int .i64 g,.int .i64 s,.int .u64 first] w fun e w' => e = .returned (.tuple #[.agg #[.int .i64 0,.int .i64 0,.slice none 0 0,.slice none 0 0,.slice none 0 0],.int .i64 1]) ∧ Below w.heap.size w w' := by
 have HM := Aside0.mk hm
 clear hm
 go_enter Try.func9,Try.ntmps9
 go_wp2_with fail
 refine (table_may.calls g s false _ HM.out).mono ?_
 rintro e w2 ⟨rfl,hd⟩
 have hb := hd.below
 clear hd
 obtain ⟨W1,hW1⟩ : ∃ W1,W1 = w.alloc (.cells #[.int .i64 0,.int .i64 0,.slice none 0 0,.slice none 0 0,.slice none 0 0] 28) := ⟨_,rfl⟩
 rw [← hW1] at hb
 obtain ⟨gr,hgr⟩ : ∃ g,g = w.heap.size := ⟨_,rfl⟩
 have HX : Aside0 (w2.heap[gr]? = some (.cells #[.int .i64 0,.int .i64 0,.slice none 0 0,.slice none 0 0,.slice none 0 0] 28 (0,0))) := ⟨blk_below (by rw [hW1,hgr]; exact blk_new _ _) hb⟩
 have HB : Aside0 (Below w.heap.size w w2) := ⟨below_step (by rw [hW1]; exact below_alloc (Below.refl _ _) _) hb⟩
 have HG : Aside0 (w.heap.size ≤ gr) := ⟨Nat.le_of_eq hgr.symm⟩
 rw [← hgr]
 clear hW1 hgr hb
 have x0 : w2.cell? ⟨gr,0,none⟩ = some (.int .i64 0) := (blk_cell HX.out 0).trans rfl
 have x1 : w2.cell? ⟨gr,1,none⟩ = some (.int .i64 0) := (blk_cell HX.out 1).trans rfl
 have x2 : w2.cell? ⟨gr,2,none⟩ = some (.slice none 0 0) := (blk_cell HX.out 2).trans rfl
 have x3 : w2.cell? ⟨gr,3,none⟩ = some (.slice none 0 0) := (blk_cell HX.out 3).trans rfl
 have x4 : w2.cell? ⟨gr,4,none⟩ = some (.slice none 0 0) := (blk_cell HX.out 4).trans rfl
 have xf0 := blk_frozen HX.out 0
 have xf1 := blk_frozen HX.out 1
 have xf2 := blk_frozen HX.out 2
 have xf3 := blk_frozen HX.out 3
 have xf4 := blk_frozen HX.out 4
 go_wp2_with fail
 obtain ⟨W3,hW⟩ : ∃ W_,W_ = (((((w2.setCell ⟨gr,0,none⟩ (.int .i64 0)).setCell ⟨gr,1,none⟩ (.int .i64 0)).setCell ⟨gr,2,none⟩ (.slice none 0 0)).setCell ⟨gr,3,none⟩ (.slice none 0 0)).setCell ⟨gr,4,none⟩ (.slice none 0 0)) := ⟨_,rfl⟩
 rw [← hW]
 refine bodyPost_ret (results_ct rfl _ _ gr 28 _ (0,0) _ rfl (set5 hW HX.out) Try.underlying28 rfl (by kernel_rfl)) rfl ?_
 exact ⟨rfl,below5 hW HB.out HG.out⟩
set_option maxHeartbeats 8000000 in
set_option maxRecDepth 100000 in
theorem new_yes (g s first : Int) (w : World) (hm : table_may.f g s = some true) :
  Calls Try.prog 9 #[.int .i64 g,.int .i64 s,.int .u64 first] w fun e w' => ∃ A1 d1 A2 d2 A3 d3,e = .returned (.tuple #[.agg #[.int .i64 g,.int .i64 s,.slice A1 1 d1,.slice A2 1 d2,.slice A3 1 d3],.int .i64 0]) ∧ TR w' w.heap.size A1 d1 [0] A2 d2 [0] A3 d3 [first] ∧ Below w.heap.size w w' := by
 have HM := Aside0.mk hm
 clear hm
 go_enter Try.func9,Try.ntmps9
 go_wp2_with fail
 refine (table_may.calls g s true _ HM.out).mono ?_
 rintro e w2 ⟨rfl,hd⟩
 have hb := hd.below
 clear hd
 obtain ⟨W1,hW1⟩ : ∃ W1,W1 = w.alloc (.cells #[.int .i64 0,.int .i64 0,.slice none 0 0,.slice none 0 0,.slice none 0 0] 28) := ⟨_,rfl⟩
 rw [← hW1] at hb
 obtain ⟨gr,hgr⟩ : ∃ g,g = w.heap.size := ⟨_,rfl⟩
 have HX : Aside0 (w2.heap[gr]? = some (.cells #[.int .i64 0,.int .i64 0,.slice none 0 0,.slice none 0 0,.slice none 0 0] 28 (0,0))) := ⟨blk_below (by rw [hW1,hgr]; exact blk_new _ _) hb⟩
 have HB : Aside0 (Below w.heap.size w w2) := ⟨below_step (by rw [hW1]; exact below_alloc (Below.refl _ _) _) hb⟩
 have HG : Aside0 (w.heap.size ≤ gr) := ⟨Nat.le_of_eq hgr.symm⟩
 rw [← hgr]
 clear hW1 hgr hb
 obtain ⟨b1,hb1⟩ : ∃ b,b = w2.heap.size := ⟨_,rfl⟩
 have HX1 := Aside0.mk (blk_alloc HX.out (.cells #[.int .i64 0] 3))
 have HX2 := Aside0.mk (blk_alloc HX1.out (.cells #[.int .i64 0] 3))
 have HX3 := Aside0.mk (blk_alloc HX2.out (.cells #[.int .u64 first] 23))
 have HB3 := Aside0.mk (below_alloc (below_alloc (below_alloc HB.out (.cells #[.int .i64 0] 3)) (.cells #[.int .i64 0] 3)) (.cells #[.int .u64 first] 23))
 have hR1 : Kd.R (Kd.int .i64) 3 (w2.alloc (.cells #[.int .i64 0] 3)) w.heap.size (fun _ => True) (.slice (some ⟨w2.heap.size,0,none⟩) 1 1) [0] := R_one (W := w2) (x := 0) (below_size HB.out)
 have hR2 : Kd.R (Kd.int .i64) 3 ((w2.alloc (.cells #[.int .i64 0] 3)).alloc (.cells #[.int .i64 0] 3)) w.heap.size (fun _ => True) (.slice (some ⟨w2.heap.size + 1,0,none⟩) 1 1) [0] := by have h := R_one (k := .i64) (e := 3) (W := w2.alloc (.cells #[.int .i64 0] 3)) (x := 0) (below_size (below_alloc HB.out (.cells #[.int .i64 0] 3))); rwa [World.size_alloc] at h
 have hR3 : Kd.R (Kd.int .u64) 23 (((w2.alloc (.cells #[.int .i64 0] 3)).alloc (.cells #[.int .i64 0] 3)).alloc (.cells #[.int .u64 first] 23)) w.heap.size (fun _ => True) (.slice (some ⟨w2.heap.size + 1 + 1,0,none⟩) 1 1) [first] := by have h := R_one (k := .u64) (e := 23) (W := (w2.alloc (.cells #[.int .i64 0] 3)).alloc (.cells #[.int .i64 0] 3)) (x := first) (below_size (below_alloc (below_alloc HB.out (.cells #[.int .i64 0] 3)) (.cells #[.int .i64 0] 3))); rwa [World.size_alloc,World.size_alloc] at h
 have HTR : Aside0 (TR (((w2.alloc (.cells #[.int .i64 0] 3)).alloc (.cells #[.int .i64 0] 3)).alloc (.cells #[.int .u64 first] 23)) w.heap.size (some ⟨w2.heap.size,0,none⟩) 1 [0] (some ⟨w2.heap.size + 1,0,none⟩) 1 [0] (some ⟨w2.heap.size + 1 + 1,0,none⟩) 1 [first]) := ⟨⟨⟨Kd.R_alloc (Kd.R_alloc hR1 _) _,Kd.R_alloc hR2 _,hR3⟩,fun k h1 h2 => by simp [Value.ownBlock] at h1 h2; omega⟩⟩
 clear hR1 hR2 hR3 hb1 HX1 HX2 HB
 have x0 : (((w2.alloc (.cells #[.int .i64 0] 3)).alloc (.cells #[.int .i64 0] 3)).alloc (.cells #[.int .u64 first] 23)).cell? ⟨gr,0,none⟩ = some (.int .i64 0) := cL HX3 0 rfl
 have x1 : (((w2.alloc (.cells #[.int .i64 0] 3)).alloc (.cells #[.int .i64 0] 3)).alloc (.cells #[.int .u64 first] 23)).cell? ⟨gr,1,none⟩ = some (.int .i64 0) := cL HX3 1 rfl
 have x2 : (((w2.alloc (.cells #[.int .i64 0] 3)).alloc (.cells #[.int .i64 0] 3)).alloc (.cells #[.int .u64 first] 23)).cell? ⟨gr,2,none⟩ = some (.slice none 0 0) := cL HX3 2 rfl
 have x3 : (((w2.alloc (.cells #[.int .i64 0] 3)).alloc (.cells #[.int .i64 0] 3)).alloc (.cells #[.int .u64 first] 23)).cell? ⟨gr,3,none⟩ = some (.slice none 0 0) := cL HX3 3 rfl
 have x4 : (((w2.alloc (.cells #[.int .i64 0] 3)).alloc (.cells #[.int .i64 0] 3)).alloc (.cells #[.int .u64 first] 23)).cell? ⟨gr,4,none⟩ = some (.slice none 0 0) := cL HX3 4 rfl
 have hlt := blk_lt HX.out
 have xf0 := blk_frozen HX3.out 0
 have xf1 := blk_frozen HX3.out 1
 have xf2 := blk_frozen HX3.out 2
 have xf3 := blk_frozen HX3.out 3
 have xf4 := blk_frozen HX3.out 4
 go_wp2_with fail
 obtain ⟨W3,hW⟩ : ∃ W_,W_ = ((((((((w2.alloc (.cells #[.int .i64 0] 3)).alloc (.cells #[.int .i64 0] 3)).alloc (.cells #[.int .u64 first] 23)).setCell ⟨gr,0,none⟩ (.int .i64 g)).setCell ⟨gr,1,none⟩ (.int .i64 s)).setCell ⟨gr,2,none⟩ (.slice (some ⟨w2.heap.size,0,none⟩) 1 1)).setCell ⟨gr,3,none⟩ (.slice (some ⟨w2.heap.size + 1,0,none⟩) 1 1)).setCell ⟨gr,4,none⟩ (.slice (some ⟨w2.heap.size + 1 + 1,0,none⟩) 1 1)) := ⟨_,rfl⟩
 rw [← hW]
 refine bodyPost_ret (results_ct rfl _ _ gr 28 _ (0,0) _ rfl (set5 hW HX3.out) Try.underlying28 rfl (by kernel_rfl)) rfl ?_
 exact ⟨_,_,_,_,_,_,rfl,tr5 hW HX3.out (by decide) (by decide) HTR.out,below5 hW HB3.out HG.out⟩
set_option maxHeartbeats 8000000 in
set_option maxRecDepth 100000 in
theorem ref_calls (g s : Int) (Ao : Option Addr) (co : Nat) (o : List Int) (Al : Option Addr) (cl : Nat) (l : List Int) (Af : Option Addr) (cf : Nat) (f : List Int) (w : World) :
  Calls Try.prog 12 #[.agg #[.int .i64 g,.int .i64 s,.slice Ao o.length co,.slice Al l.length cl,.slice Af f.length cf]] w fun e w' => e = .returned (.agg #[.int .i64 g,.int .i64 s,.slice Ao o.length co,.slice Al l.length cl,.slice Af f.length cf]) ∧ Below w.heap.size w w' := by
 go_enter Try.func12,Try.ntmps12
 go_upto_region 1 with fail
 obtain ⟨W1,hW1⟩ : ∃ W1,W1 = (w.alloc (.cells #[.int .i64 g,.int .i64 s,.slice Ao o.length co,.slice Al l.length cl,.slice Af f.length cf] 28)).alloc (.cells #[.int .i64 0,.int .i64 0,.slice none 0 0,.slice none 0 0,.slice none 0 0] 32) := ⟨_,rfl⟩
 rw [← hW1]
 obtain ⟨gr,hgr⟩ : ∃ g,g = w.heap.size + 1 := ⟨_,rfl⟩
 obtain ⟨gs,hgs⟩ : ∃ g,g = w.heap.size := ⟨_,rfl⟩
 have HXs : W1.heap[gs]? = some (.cells #[.int .i64 g,.int .i64 s,.slice Ao o.length co,.slice Al l.length cl,.slice Af f.length cf] 28 (0,0)) := by rw [hW1,hgs]; exact blk_alloc (blk_new _ _) _
 have HXr : Aside0 (W1.heap[gr]? = some (.cells #[.int .i64 0,.int .i64 0,.slice none 0 0,.slice none 0 0,.slice none 0 0] 32 (0,0))) := ⟨by rw [hW1,hgr]; have := blk_new (w.alloc (.cells #[.int .i64 g,.int .i64 s,.slice Ao o.length co,.slice Al l.length cl,.slice Af f.length cf] 28)) (.cells #[.int .i64 0,.int .i64 0,.slice none 0 0,.slice none 0 0,.slice none 0 0] 32); simpa using this⟩
 have HB : Aside0 (Below w.heap.size w W1) := ⟨by rw [hW1]; exact below_alloc (below_alloc (Below.refl _ _) _) _⟩
 have HGR : Aside0 (w.heap.size ≤ gr) := ⟨by omega⟩
 have n1_ : gs ≠ gr := by omega
 have n2_ := Ne.symm n1_
 rw [← hgr,← hgs]
 clear hW1 hgr hgs
 have s_0 : W1.cell? ⟨gs,0,none⟩ = some (.int .i64 g) := (blk_cell HXs 0).trans rfl
 have s_1 : W1.cell? ⟨gs,1,none⟩ = some (.int .i64 s) := (blk_cell HXs 1).trans rfl
 have s_2 : W1.cell? ⟨gs,2,none⟩ = some (.slice Ao o.length co) := (blk_cell HXs 2).trans rfl
 have s_3 : W1.cell? ⟨gs,3,none⟩ = some (.slice Al l.length cl) := (blk_cell HXs 3).trans rfl
 have s_4 : W1.cell? ⟨gs,4,none⟩ = some (.slice Af f.length cf) := (blk_cell HXs 4).trans rfl
 have r_0 : W1.cell? ⟨gr,0,none⟩ = some (.int .i64 0) := cL HXr 0 rfl
 have r_1 : W1.cell? ⟨gr,1,none⟩ = some (.int .i64 0) := cL HXr 1 rfl
 have r_2 : W1.cell? ⟨gr,2,none⟩ = some (.slice none 0 0) := cL HXr 2 rfl
 have r_3 : W1.cell? ⟨gr,3,none⟩ = some (.slice none 0 0) := cL HXr 3 rfl
 have r_4 : W1.cell? ⟨gr,4,none⟩ = some (.slice none 0 0) := cL HXr 4 rfl
 have rf_0 := blk_frozen HXr.out 0
 have rf_1 := blk_frozen HXr.out 1
 have rf_2 := blk_frozen HXr.out 2
 have rf_3 := blk_frozen HXr.out 3
 have rf_4 := blk_frozen HXr.out 4
 clear HXs
 go_wp2_with fail
 obtain ⟨W3,hW⟩ : ∃ W_,W_ = (((((W1.setCell ⟨gr,0,none⟩ (.int .i64 g)).setCell ⟨gr,1,none⟩ (.int .i64 s)).setCell ⟨gr,2,none⟩ (.slice Ao o.length co)).setCell ⟨gr,3,none⟩ (.slice Al l.length cl)).setCell ⟨gr,4,none⟩ (.slice Af f.length cf)) := ⟨_,rfl⟩
 rw [← hW]
 refine bodyPost_ret (results_cell_row rfl _ _ gr 32 _ (0,0) _ rfl (set5 hW HXr.out) Try.underlying32 rfl (by kernel_rfl)) rfl ?_
 exact ⟨rfl,below5 hW HB.out HGR.out⟩
end Go.Proofs.Ytbefoehjlgdcgaa.H
