/-
lodgerlaw08.Cut.
-/
import Derived.Test.YtbefoehjlgdcgaaTk
namespace Go.Proofs.Ytbefoehjlgdcgaa.H
open Go.RowKit Go.Proofs.YtbefoehjlgdcgaaW.PrintWords Go.Proofs.YtbefoehjlgdcgaaW.PrintLast Go.Proofs.YtbefoehjlgdcgaaW.PrintMore
attribute [local go_sem] min2_int min_two
set_option linter.unusedVariables false
set_option linter.unusedSimpArgs false
theorem zuI {α : Type} (l : List α) (i : Nat) (a : α) : l.toArray.setIfInBounds i a = (l.set i a).toArray := List.setIfInBounds_toArray l i a
theorem zus0 {α : Type} (x : α) (l : List α) (a : α) : (x :: l).set 0 a = a :: l := rfl
theorem zus1 {α : Type} (x : α) (l : List α) (i : Nat) (a : α) : (x :: l).set (i + 1) a = x :: l.set i a := rfl
theorem TC_cut {w : World} {Ao Al Af : Option Addr} {co cl cf : Nat} {o l f : List Int} (h : TC w Ao co o Al cl l Af cf f) : TC w Ao co (o.take 20) Al cl (l.take 20) Af cf (f.take 20) := by
 have q : ∀ {k : IntKind} {A : Option Addr} {xs : List Int},Kd.C (Kd.int k) w A xs.length xs → Kd.C (Kd.int k) w A (xs.take 20).length (xs.take 20) := fun {k A xs} h => by
  by_cases hl : 20 ≤ xs.length
  ·exact Kd.C_take h hl
  ·rw [List.take_of_length_le (by omega)]
   exact h
 have g : ∀ (xs : List Int),(xs.take 20).length ≤ xs.length := fun xs => by rw [List.length_take]; omega
 exact ⟨⟨q h.1.1,Nat.le_trans (g o) h.1.2⟩,⟨q h.2.1.1,Nat.le_trans (g l) h.2.1.2⟩,q h.2.2.1,Nat.le_trans (g f) h.2.2.2⟩
set_option maxHeartbeats 8000000 in
set_option maxRecDepth 100000 in
theorem cut_calls (g s : Int) (Ao : Option Addr) (co : Nat) (o : List Int) (Al : Option Addr) (cl : Nat) (l : List Int) (Af : Option Addr) (cf : Nat) (f : List Int) (w : World) (hT : TC w Ao co o Al cl l Af cf f) :
  Calls Try.prog 26 #[.agg #[.int .i64 g,.int .i64 s,.slice Ao o.length co,.slice Al l.length cl,.slice Af f.length cf]] w fun e w' => e = .returned (.agg #[.int .i64 g,.int .i64 s,.slice Ao (o.take 20).length co,.slice Al (l.take 20).length cl,.slice Af (f.take 20).length cf]) ∧ Below w.heap.size w w' := by
 have HC : Aside0 (o.length ≤ co ∧ l.length ≤ cl ∧ f.length ≤ cf) := ⟨hT.1.2,hT.2.1.2,hT.2.2.2⟩
 clear hT
 obtain ⟨o2,ho2⟩ : ∃ z,z = o.take 20 := ⟨_,rfl⟩
 rw [← ho2]
 have HTo := Aside0.mk ho2
 clear ho2
 obtain ⟨l2,hl2⟩ : ∃ z,z = l.take 20 := ⟨_,rfl⟩
 rw [← hl2]
 have HTl := Aside0.mk hl2
 clear hl2
 obtain ⟨f2,hf2⟩ : ∃ z,z = f.take 20 := ⟨_,rfl⟩
 rw [← hf2]
 have HTf := Aside0.mk hf2
 clear hf2
 go_enter Try.func26,Try.ntmps26
 go_upto_region 1 with fail
 obtain ⟨W1,hW1⟩ : ∃ W1,W1 = (w.alloc (.cells #[.int .i64 g,.int .i64 s,.slice Ao o.length co,.slice Al l.length cl,.slice Af f.length cf] 28)).alloc (.cells #[.int .i64 0,.int .i64 0,.slice none 0 0,.slice none 0 0,.slice none 0 0] 28) := ⟨_,rfl⟩
 rw [← hW1]
 obtain ⟨gr,hgr⟩ : ∃ g,g = w.heap.size + 1 := ⟨_,rfl⟩
 obtain ⟨gs,hgs⟩ : ∃ g,g = w.heap.size := ⟨_,rfl⟩
 have HXs : Aside0 (W1.heap[gs]? = some (.cells #[.int .i64 g,.int .i64 s,.slice Ao o.length co,.slice Al l.length cl,.slice Af f.length cf] 28 (0,0))) := ⟨by rw [hW1,hgs]; exact blk_alloc (blk_new _ _) _⟩
 have HXr : Aside0 (W1.heap[gr]? = some (.cells #[.int .i64 0,.int .i64 0,.slice none 0 0,.slice none 0 0,.slice none 0 0] 28 (0,0))) := ⟨by rw [hW1,hgr]; have := blk_new (w.alloc (.cells #[.int .i64 g,.int .i64 s,.slice Ao o.length co,.slice Al l.length cl,.slice Af f.length cf] 28)) (.cells #[.int .i64 0,.int .i64 0,.slice none 0 0,.slice none 0 0,.slice none 0 0] 28); simpa using this⟩
 have HB : Aside0 (Below w.heap.size w W1) := ⟨by rw [hW1]; exact below_alloc (below_alloc (Below.refl _ _) _) _⟩
 have HGR : Aside0 (w.heap.size ≤ gr) := ⟨by omega⟩
 have HGS : Aside0 (w.heap.size ≤ gs) := ⟨by omega⟩
 have NSR : Aside0 (gr ≠ gs) := ⟨by omega⟩
 rw [← hgr,← hgs]
 clear hW1 hgr hgs
 obtain ⟨m,hm⟩ : ∃ m : Int,m = if (20 : Int) < (o.length : Int) then 20 else (o.length : Int) := ⟨_,rfl⟩
 have hm2 : 0 ≤ m ∧ m ≤ (o.length : Int) ∧ m.toNat = min 20 o.length := by rw [hm]; split <;> omega
 have hm_ := hm.symm
 have hln : o2.length = m.toNat := by rw [HTo.out,List.length_take,hm2.2.2]
 obtain ⟨i0,hi,_⟩ := info_parts info3
 have hcut := cut_to (P := Try.prog) 25 3 .i64 Try.underlying25 hi Ao o.length co m hm2.1 hm2.2.1 HC.out.1
 rw [← hln] at hcut
 clear hm hm2 hln hi
 have s_0 : W1.cell? ⟨gs,0,none⟩ = some (.int .i64 g) := cL HXs 0 rfl
 have s_1 : W1.cell? ⟨gs,1,none⟩ = some (.int .i64 s) := cL HXs 1 rfl
 have s_2 : W1.cell? ⟨gs,2,none⟩ = some (.slice Ao o.length co) := cL HXs 2 rfl
 have s_3 : W1.cell? ⟨gs,3,none⟩ = some (.slice Al l.length cl) := cL HXs 3 rfl
 have s_4 : W1.cell? ⟨gs,4,none⟩ = some (.slice Af f.length cf) := cL HXs 4 rfl
 have sf_ := blk_frozen HXs.out 2
 go_upto_region 2 with fail
 clear s_0 s_1 s_2 s_3 s_4 sf_ hcut hm_
 obtain ⟨W2,hW⟩ : ∃ W_,W_ = W1.setCell ⟨gs,2,none⟩ (.slice Ao o2.length co) := ⟨_,rfl⟩
 rw [← hW]
 have q0 := blk_set HXs.out 2 (.slice Ao o2.length co)
 simp only [zuI,zus0,zus1] at q0
 have q1 := blk_far HXr.out (p := ⟨gs,2,none⟩) NSR.out (.slice Ao o2.length co)
 have q2 := below_set (g := gs) (j := 2) (v := .slice Ao o2.length co) HB.out HGS.out
 rw [← hW] at q0 q1 q2
 clear hW
 replace HXs := Aside0.mk (q0)
 replace HXr := Aside0.mk (q1)
 replace HB := Aside0.mk (q2)
 clear q0 q1 q2
 obtain ⟨m,hm⟩ : ∃ m : Int,m = if (20 : Int) < (l.length : Int) then 20 else (l.length : Int) := ⟨_,rfl⟩
 have hm2 : 0 ≤ m ∧ m ≤ (l.length : Int) ∧ m.toNat = min 20 l.length := by rw [hm]; split <;> omega
 have hm_ := hm.symm
 have hln : l2.length = m.toNat := by rw [HTl.out,List.length_take,hm2.2.2]
 obtain ⟨i0,hi,_⟩ := info_parts info3
 have hcut := cut_to (P := Try.prog) 25 3 .i64 Try.underlying25 hi Al l.length cl m hm2.1 hm2.2.1 HC.out.2.1
 rw [← hln] at hcut
 clear hm hm2 hln hi
 have s_0 : W2.cell? ⟨gs,0,none⟩ = some (.int .i64 g) := cL HXs 0 rfl
 have s_1 : W2.cell? ⟨gs,1,none⟩ = some (.int .i64 s) := cL HXs 1 rfl
 have s_2 : W2.cell? ⟨gs,2,none⟩ = some (.slice Ao o2.length co) := cL HXs 2 rfl
 have s_3 : W2.cell? ⟨gs,3,none⟩ = some (.slice Al l.length cl) := cL HXs 3 rfl
 have s_4 : W2.cell? ⟨gs,4,none⟩ = some (.slice Af f.length cf) := cL HXs 4 rfl
 have sf_ := blk_frozen HXs.out 3
 go_upto_region 3 with fail
 clear s_0 s_1 s_2 s_3 s_4 sf_ hcut hm_
 obtain ⟨W3,hW⟩ : ∃ W_,W_ = W2.setCell ⟨gs,3,none⟩ (.slice Al l2.length cl) := ⟨_,rfl⟩
 rw [← hW]
 have q0 := blk_set HXs.out 3 (.slice Al l2.length cl)
 simp only [zuI,zus0,zus1] at q0
 have q1 := blk_far HXr.out (p := ⟨gs,3,none⟩) NSR.out (.slice Al l2.length cl)
 have q2 := below_set (g := gs) (j := 3) (v := .slice Al l2.length cl) HB.out HGS.out
 rw [← hW] at q0 q1 q2
 clear hW
 replace HXs := Aside0.mk (q0)
 replace HXr := Aside0.mk (q1)
 replace HB := Aside0.mk (q2)
 clear q0 q1 q2
 obtain ⟨m,hm⟩ : ∃ m : Int,m = if (20 : Int) < (f.length : Int) then 20 else (f.length : Int) := ⟨_,rfl⟩
 have hm2 : 0 ≤ m ∧ m ≤ (f.length : Int) ∧ m.toNat = min 20 f.length := by rw [hm]; split <;> omega
 have hm_ := hm.symm
 have hln : f2.length = m.toNat := by rw [HTf.out,List.length_take,hm2.2.2]
 obtain ⟨i0,hi,_⟩ := info_parts info23
 have hcut := cut_to (P := Try.prog) 26 23 .i64 Try.underlying26 hi Af f.length cf m hm2.1 hm2.2.1 HC.out.2.2
 rw [← hln] at hcut
 clear hm hm2 hln hi
 have s_0 : W3.cell? ⟨gs,0,none⟩ = some (.int .i64 g) := cL HXs 0 rfl
 have s_1 : W3.cell? ⟨gs,1,none⟩ = some (.int .i64 s) := cL HXs 1 rfl
 have s_2 : W3.cell? ⟨gs,2,none⟩ = some (.slice Ao o2.length co) := cL HXs 2 rfl
 have s_3 : W3.cell? ⟨gs,3,none⟩ = some (.slice Al l2.length cl) := cL HXs 3 rfl
 have s_4 : W3.cell? ⟨gs,4,none⟩ = some (.slice Af f.length cf) := cL HXs 4 rfl
 have sf_ := blk_frozen HXs.out 4
 go_upto_region 4 with fail
 clear s_0 s_1 s_2 s_3 s_4 sf_ hcut hm_
 obtain ⟨W4,hW⟩ : ∃ W_,W_ = W3.setCell ⟨gs,4,none⟩ (.slice Af f2.length cf) := ⟨_,rfl⟩
 rw [← hW]
 have q0 := blk_set HXs.out 4 (.slice Af f2.length cf)
 simp only [zuI,zus0,zus1] at q0
 have q1 := blk_far HXr.out (p := ⟨gs,4,none⟩) NSR.out (.slice Af f2.length cf)
 have q2 := below_set (g := gs) (j := 4) (v := .slice Af f2.length cf) HB.out HGS.out
 rw [← hW] at q0 q1 q2
 clear hW
 replace HXs := Aside0.mk (q0)
 replace HXr := Aside0.mk (q1)
 replace HB := Aside0.mk (q2)
 clear q0 q1 q2
 have s_0 : W4.cell? ⟨gs,0,none⟩ = some (.int .i64 g) := cL HXs 0 rfl
 have s_1 : W4.cell? ⟨gs,1,none⟩ = some (.int .i64 s) := cL HXs 1 rfl
 have s_2 : W4.cell? ⟨gs,2,none⟩ = some (.slice Ao o2.length co) := cL HXs 2 rfl
 have s_3 : W4.cell? ⟨gs,3,none⟩ = some (.slice Al l2.length cl) := cL HXs 3 rfl
 have s_4 : W4.cell? ⟨gs,4,none⟩ = some (.slice Af f2.length cf) := cL HXs 4 rfl
 have x_0 : W4.cell? ⟨gr,0,none⟩ = some (.int .i64 0) := cL HXr 0 rfl
 have x_1 : W4.cell? ⟨gr,1,none⟩ = some (.int .i64 0) := cL HXr 1 rfl
 have x_2 : W4.cell? ⟨gr,2,none⟩ = some (.slice none 0 0) := cL HXr 2 rfl
 have x_3 : W4.cell? ⟨gr,3,none⟩ = some (.slice none 0 0) := cL HXr 3 rfl
 have x_4 : W4.cell? ⟨gr,4,none⟩ = some (.slice none 0 0) := cL HXr 4 rfl
 have xf_0 := blk_frozen HXr.out 0
 have xf_1 := blk_frozen HXr.out 1
 have xf_2 := blk_frozen HXr.out 2
 have xf_3 := blk_frozen HXr.out 3
 have xf_4 := blk_frozen HXr.out 4
 have n1_ := NSR.out
 have n2_ := Ne.symm NSR.out
 go_wp2_with fail
 obtain ⟨W7,hW⟩ : ∃ W_,W_ = (((((W4.setCell ⟨gr,0,none⟩ (.int .i64 g)).setCell ⟨gr,1,none⟩ (.int .i64 s)).setCell ⟨gr,2,none⟩ (.slice Ao o2.length co)).setCell ⟨gr,3,none⟩ (.slice Al l2.length cl)).setCell ⟨gr,4,none⟩ (.slice Af f2.length cf)) := ⟨_,rfl⟩
 rw [← hW]
 refine bodyPost_ret (results_cell_row rfl _ _ gr 28 _ (0,0) _ rfl (set5 hW HXr.out) Try.underlying28 rfl (by kernel_rfl)) rfl ?_
 exact ⟨rfl,below5 hW HB.out HGR.out⟩
end Go.Proofs.Ytbefoehjlgdcgaa.H
