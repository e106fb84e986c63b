/-
TopTorn: part of its walk (Wo, Wo2, Wo3).
-/
import Derived.Test.YtokfjbbjkiilmaaGreatDoorTT
set_option linter.unusedVariables false
set_option linter.unusedSimpArgs false
namespace Go.Proofs.YtokfjbbjkiilmaaGreatDoor.H
open Go.RowKit Go.Proofs.YtokfjbbjkiilmaaGreatDoorW.PrintWords Go.Proofs.YtokfjbbjkiilmaaGreatDoorW.PrintLast Go.Proofs.YtokfjbbjkiilmaaGreatDoorW.PrintMore
set_option maxHeartbeats 8000000
set_option maxRecDepth 100000
attribute [local go_sem] max2_int min2_int min_two max_two
attribute [local go_sem] run_makeMap0
/-- A world's block. -/
def wrc (k d : Nat) (ver : Int) : Array Value := #[.pointer (some ⟨k,0,none⟩),.int .i64 4,.int .i64 2,.float .f64 4607182418800017408,.int .i64 0,.pointer (some ⟨d,0,none⟩),.int .u64 0,.int .u64 ver]
theorem tconf_calls (w : World) :
 Calls Tryz.prog 18 #[] w fun e w' => e = .returned (.agg cnf) ∧ Below w.heap.size w w' := by
 go_enter Tryz.func18,Tryz.ntmps18
 go_wp2_with (refine sr_ 0 1 cnf (blk_new w (.cells #[.int .i64 0,.int .i64 0,.float .f64 0,.int .i64 0] 24)) ?_)
 refine rr_ (setRow_heap _ _ _ _ _ _ (blk_new w (.cells #[.int .i64 0,.int .i64 0,.float .f64 0,.int .i64 0] 24))) Tryz.underlying24 ?_
 exact ⟨rfl,below_setRow (below_alloc (Below.refl _ _) _) (Nat.le_refl _) _⟩
theorem wver_calls (wd k d : Nat) (ver : Int) (w : World) (hw : w.heap[wd]? = some (.cells (wrc k d ver) 98 (0,0))) :
 Calls Tryz.prog 20 #[.pointer (some ⟨wd,0,none⟩)] w fun e w' => e = .returned (.int .u64 ver) ∧ w' = w := by
 have y7 : w.cell? ⟨wd,7,none⟩ = some (.int .u64 ver) := (blk_cell hw 7).trans rfl
 clear hw
 go_enter Tryz.func20,Tryz.ntmps20
 go_wp2_with fail
 go_ret
 exact ⟨rfl,rfl⟩
/-- What is done by kinds. -/
def actE (wd j : Nat) : MapEntry := { key := .int .i64 (j : Int),val := .func (.func (87 + j)) #[.pointer (some ⟨wd,0,none⟩)] #[],born := j }
def actM (wd : Nat) : Nat → Array MapEntry
 | 0 => #[]
 | n + 1 => (actM wd n).push (actE wd n)
theorem act_up {w W : World} {r wd : Nat} (j : Nat) (kj : Int) (hj : kj = j) (v : Value) (hW : W.heap[r]? = some (.map (actM wd j) j)) (hb : Below w.heap.size w W) (hr : w.heap.size ≤ r) (he : actM wd (j + 1) = (actM wd j).push { key := .int .i64 kj,val := v,born := j }) (hf : Instr.findNow (.int .i64) (.int .i64 kj) (actM wd j).toList 0 = some none) :
 ∃ W2 : World,(Instr.mapUpdate 100 (.map (some r)) (.int .i64 kj) v).run Tryz.prog W = .ok () W2 ∧ W2.heap[r]? = some (.map (actM wd (j + 1)) (j + 1)) ∧ Below w.heap.size w W2 := by
 refine ⟨setMap W r (actM wd (j + 1)) (j + 1),?_,setMap_heap hW,below_setMap hb hr⟩
 rw [he]
 exact run_up_no (key := .int .i64 kj) (k := 3) (e := 60) (kd := .int .i64) (by kernel_rfl) (by kernel_rfl) rfl hW hf
theorem acts_calls (wd : Nat) (w : World) :
 Calls Tryz.prog 44 #[.pointer (some ⟨wd,0,none⟩)] w fun e w' => ∃ g : Nat,e = .returned (.map (some g)) ∧ w'.heap[g]? = some (.map (actM wd 6) 6) ∧ Below w.heap.size w w' := by
 have hb0 := below_alloc (Below.refl w.heap.size w) (.map #[] 0)
 have h0 : (w.alloc (.map #[] 0)).heap[w.heap.size]? = some (.map (actM wd 0) 0) := blk_new w (.map #[] 0)
 obtain ⟨W1,e1,h1,hb1⟩ := act_up 0 0 rfl (.func (.func 87) #[.pointer (some ⟨wd,0,none⟩)] #[]) h0 hb0 (Nat.le_refl _) rfl (by rfl)
 obtain ⟨W2,e2,h2,hb2⟩ := act_up 1 1 rfl (.func (.func 88) #[.pointer (some ⟨wd,0,none⟩)] #[]) h1 hb1 (Nat.le_refl _) rfl (by rfl)
 obtain ⟨W3,e3,h3,hb3⟩ := act_up 2 2 rfl (.func (.func 89) #[.pointer (some ⟨wd,0,none⟩)] #[]) h2 hb2 (Nat.le_refl _) rfl (by rfl)
 obtain ⟨W4,e4,h4,hb4⟩ := act_up 3 3 rfl (.func (.func 90) #[.pointer (some ⟨wd,0,none⟩)] #[]) h3 hb3 (Nat.le_refl _) rfl (by rfl)
 obtain ⟨W5,e5,h5,hb5⟩ := act_up 4 4 rfl (.func (.func 91) #[.pointer (some ⟨wd,0,none⟩)] #[]) h4 hb4 (Nat.le_refl _) rfl (by rfl)
 obtain ⟨W6,e6,h6,hb6⟩ := act_up 5 5 rfl (.func (.func 92) #[.pointer (some ⟨wd,0,none⟩)] #[]) h5 hb5 (Nat.le_refl _) rfl (by rfl)
 have H := Aside0.mk h6
 have HB := Aside0.mk hb6
 clear h0 hb0 h1 hb1 h2 hb2 h3 hb3 h4 hb4 h5 hb5 h6 hb6
 go_enter Tryz.func44,Tryz.ntmps44
 go_wp2_with fail
 go_ret
 exact ⟨w.heap.size,rfl,H.out,HB.out⟩
/-- Rows of the types TT stay, but for one. -/
structure Fr1 (b : Nat) (w w' : World) : Prop where
 size : w.heap.size ≤ w'.heap.size
 row : ∀ (g t : Nat) (cs : Array Value),t ∈ TT → g ≠ b → w.heap[g]? = some (.cells cs t (0,0)) → w'.heap[g]? = some (.cells cs t (0,0))
theorem Frm.but {b : Nat} {w w' : World} (h : Frm w w') : Fr1 b w w' := ⟨h.size,fun g t cs ht _ hr => h.row g t cs ht hr⟩
theorem Fr1.trans {q : Nat} {a b c : World} (h : Fr1 q a b) (k : Fr1 q b c) : Fr1 q a c := ⟨Nat.le_trans h.size k.size,fun g t cs ht hn hr => k.row g t cs ht hn (h.row g t cs ht hn hr)⟩
theorem Fr1.new {b : Nat} {w0 w : World} {g : Nat} (cs : Array Value) (h : Fr1 b w0 w) (hg : w0.heap.size ≤ g) : Fr1 b w0 (w.setRow g cs) :=
 ⟨by rw [setRow_size]; exact h.size,fun a t c ht hn hr => mR cs (h.row a t c ht hn hr) (by have := blk_lt hr; omega)⟩
theorem Fr1.own {b j : Nat} {v : Value} {w0 w : World} (h : Fr1 b w0 w) : Fr1 b w0 (w.setCell ⟨b,j,none⟩ v) :=
 ⟨Nat.le_trans h.size (Nat.le_of_eq (by simp [World.setCell])),fun a t c ht hn hr => blk_far (h.row a t c ht hn hr) (p := ⟨b,j,none⟩) hn v⟩
/-- The blocks of a desk, and its core's numbers. -/
structure Ids where
 k : Nat
 co : Nat
 cl : Nat
 ix : Nat
 d : Nat
 l : Nat
 wh : Nat
 ver : Int
/-- A desk's state as a predicate of its blocks. -/
structure Sta (B : Nat) (P : Ids → World → Prop) : Prop where
 st : ∀ i,Stab B (P i)
 co : ∀ i W,P i W → W.heap[i.co]? = some (.cells (coc i.ix i.d i.l i.wh i.ver) 132 (0,0))
/-- Behind an act: a desk's state, the world's own block, the desk's. -/
def Beh (P : Ids → World → Prop) (wd : Nat) (ver0 : Int) (w w' : World) : Prop := ∃ i : Ids,P i w' ∧ w'.heap[wd]? = some (.cells (wrc i.k i.d ver0) 98 (0,0)) ∧ w'.heap[i.k]? = some (.cells (dsc i.co i.cl) 76 (0,0)) ∧ w'.heap[i.cl]? = some (.cells clc 117 (0,0)) ∧ Fr1 wd w w'
end Go.Proofs.YtokfjbbjkiilmaaGreatDoor.H
namespace Go.Proofs.YtokfjbbjkiilmaaGreatDoor.H
open Go.RowKit Go.Proofs.YtokfjbbjkiilmaaGreatDoorW.PrintWords Go.Proofs.YtokfjbbjkiilmaaGreatDoorW.PrintLast Go.Proofs.YtokfjbbjkiilmaaGreatDoorW.PrintMore
set_option maxHeartbeats 8000000
set_option maxRecDepth 100000
attribute [local go_sem] max2_int min2_int min_two max_two
def wdo.T3 : Bool × List (List Nat × List Nat) := (true,[([],[]),([0],[0]),([],[]),([2],[2]),([1,3],[1,3]),([],[]),([4,5,1],[4,5]),([],[]),([7,6,6,0,1,2,3,4,5,6,7],[6,7])])
def wdo.B3 : List Nat := [0,1,0,4,15,0,63,0,255]
theorem wdo.tab3 : rtab .any (opsOf Tryz.f19 3) = wdo.T3 := by kernel_rfl
theorem wdo.bits3 : waitsOk wdo.T3.2 wdo.B3 = true := by kernel_rfl
theorem wdo_calls (B : Nat) (P : Ids → World → Prop) (wd k d fk : Nat) (fn : Func) (ver0 kd rk at_ e0 rd n0 er : Int) (s1 s2 rs : ByteArray) (x : Nat) (kp : Option Addr) (kl : Nat) (w : World) (hP : Sta B P) (hBB : B ≤ w.heap.size) (hwB : B ≤ wd) (hw : w.heap[wd]? = some (.cells (wrc k d ver0) 98 (0, 0))) (hr : ∀ W : World, Below w.heap.size w W → Calls Tryz.prog 43 #[.agg #[.int .i64 kd, .int .i64 rk, .string s1, .string s2, .float .f64 x, .int .i64 0, .int .u64 0, (.slice kp kl kl), .int .i64 0, .int .i64 at_]] W fun e w' => e = .returned (.bool true) ∧ Below W.heap.size W w') (hfn : Tryz.prog.funcs[fk]? = some fn ∧ (fn.name == "runtime.NumGoroutine") = false ∧ fn.body.isSome = true) (hlk : ∀ (g : Nat) (W : World), W.heap[g]? = some (.map (actM wd 6) 6) → (Instr.lookup 100 (.map (some g)) (.int .i64 kd) false).run Tryz.prog W = .ok (.func (.func fk) #[.pointer (some ⟨wd, 0, none⟩)] #[]) W) (hcall : ∀ W : World, Below w.heap.size w W → Calls Tryz.prog fk #[.pointer (some ⟨wd, 0, none⟩), .agg #[.int .i64 kd, .int .i64 rk, .string s1, .string s2, .float .f64 x, .int .i64 0, .int .u64 0, (.slice kp kl kl), .int .i64 0, .int .i64 at_]] W fun e w' => e = .returned (.agg #[.int .i64 e0, .string rs, .int .u64 rd, .int .i64 n0, .int .i64 er]) ∧ Beh P wd ver0 W w') :
 Calls Tryz.prog 19 #[.pointer (some ⟨wd,0,none⟩),.agg #[.int .i64 kd,.int .i64 rk,.string s1,.string s2,.float .f64 x,.int .i64 0,.int .u64 0,(.slice kp kl kl),.int .i64 0,.int .i64 at_]] w fun e w' => e = .returned (.agg #[.int .i64 e0,.string rs,.int .u64 rd,.int .i64 n0,.int .i64 er]) ∧ ∃ i : Ids,P i w' ∧ w'.heap[wd]? = some (.cells (wrc i.k i.d i.ver) 98 (0,0)) ∧ w'.heap[i.k]? = some (.cells (dsc i.co i.cl) 76 (0,0)) ∧ w'.heap[i.cl]? = some (.cells clc 117 (0,0)) ∧ Fr1 wd w w' := by
 have HS := Aside0.mk hP
 have HBB := Aside0.mk hBB
 have HWB := Aside0.mk hwB
 have HWD := Aside0.mk hw
 have HRT := Aside0.mk hr
 have HFN := Aside0.mk hfn
 have HLK := Aside0.mk hlk
 have HCALL := Aside0.mk hcall
 clear hP hBB hwB hw hr hfn hlk hcall
 go_enter Tryz.func19,Tryz.ntmps19
 go_upto_region 1 with fail
 obtain ⟨W1,g3,g4,hW_,hg3,hg4,HX,H4,hb_⟩ := new2 w #[.int .i64 kd,.int .i64 rk,.string s1,.string s2,.float .f64 x,.int .i64 0,.int .u64 0,(.slice kp kl kl),.int .i64 0,.int .i64 at_] 63 #[.int .i64 0,.string { data := #[] },.int .u64 0,.int .i64 0,.int .i64 0] 59
 rw [← hW_,← hg4.out,← hg3.out]
 replace HWD := mb HWD hb_
 have HB := Aside0.mk hb_
 clear hW_ hb_
 have G4 : Aside0 (w.heap.size ≤ g4) := ⟨by have := hg4.out; omega⟩
 go_wp2_with (refine lr_ 3 HX.out Tryz.underlying63 ?_)
 refine (HRT.out _ HB.out).mono ?_
 rintro e_ W2 ⟨rfl,hb⟩
 replace HWD := mb HWD hb
 replace HX := mb HX hb
 replace H4 := mb H4 hb
 replace HB := mS HB hb
 clear hb
 go_upto_region 3 with fail
 refine st_ 9 (fun w' => w'.cell? ⟨g3,0,none⟩ = some (.int .i64 kd) ∧ w'.cell? ⟨g3,1,none⟩ = some (.int .i64 rk) ∧ w'.cell? ⟨g3,2,none⟩ = some (.string s1) ∧ w'.cell? ⟨g3,3,none⟩ = some (.string s2) ∧ w'.cell? ⟨g3,4,none⟩ = some (.float .f64 x) ∧ w'.cell? ⟨g3,5,none⟩ = some (.int .i64 0) ∧ w'.cell? ⟨g3,6,none⟩ = some (.int .u64 0) ∧ w'.cell? ⟨g3,7,none⟩ = some ((.slice kp kl kl)) ∧ w'.cell? ⟨g3,8,none⟩ = some (.int .i64 0) ∧ w'.cell? ⟨g3,9,none⟩ = some (.int .i64 at_)) [8] ⟨(cD HX 0 rfl),(cD HX 1 rfl),(cD HX 2 rfl),(cD HX 3 rfl),(cD HX 4 rfl),(cD HX 5 rfl),(cD HX 6 rfl),(cD HX 7 rfl),(cD HX 8 rfl),(cD HX 9 rfl)⟩ fun hHeld => ?_
 refine with_tabW wdo.tab3 wdo.bits3 (fun HT_ HW_ => ?_)
 replace HX := mD HX
 replace H4 := mD H4
 replace HWD := mD HWD
 replace HB := bD HB
 generalize W2.drew = wd1 at *
 refine pa_ 0 10 HT_ ?_
 refine pa_ 2 12 HT_ ?_
 refine ta_ 3 13 HT_ HW_ hHeld ?_
 refine ta_ 5 15 HT_ HW_ hHeld ?_
 refine jn_ (σ := Nat × Nat × Ids) 1 [8,1] (fun s_ => [(11,.map (some s_.1)),(14,.func (.func fk) #[.pointer (some ⟨wd,0,none⟩)] #[]),(16,.agg #[.int .i64 e0,.string rs,.int .u64 rd,.int .i64 n0,.int .i64 er]),(5,.pointer (some ⟨s_.2.1,0,none⟩))]) (fun s_ w' => w'.heap[g3]? = some (.cells #[.int .i64 kd,.int .i64 rk,.string s1,.string s2,.float .f64 x,.int .i64 0,.int .u64 0,(.slice kp kl kl),.int .i64 0,.int .i64 at_] 63 (0,0)) ∧ w'.heap[g4]? = some (.cells #[.int .i64 0,.string { data := #[] },.int .u64 0,.int .i64 0,.int .i64 0] 59 (0,0)) ∧ w'.heap[s_.2.1]? = some (.cells #[.int .i64 0,.string { data := #[] },.int .u64 0,.int .i64 0,.int .i64 0] 59 (0,0)) ∧ g4 ≠ s_.2.1 ∧ w.heap.size ≤ s_.2.1 ∧ P s_.2.2 w' ∧ w'.heap[wd]? = some (.cells (wrc s_.2.2.k s_.2.2.d ver0) 98 (0,0)) ∧ w'.heap[s_.2.2.k]? = some (.cells (dsc s_.2.2.co s_.2.2.cl) 76 (0,0)) ∧ w'.heap[s_.2.2.cl]? = some (.cells clc 117 (0,0)) ∧ Fr1 wd w w') ?_ ?_
 rotate_left
 ·intro hJ1_4_6_7
  refine jn_ (σ := Nat × Ids) 2 [7,2] (fun s_ => [(11,.map (some s_.1)),(14,.func (.func fk) #[.pointer (some ⟨wd,0,none⟩)] #[]),(16,.agg #[.int .i64 e0,.string rs,.int .u64 rd,.int .i64 n0,.int .i64 er])]) (fun s_ w' => w'.heap[g3]? = some (.cells #[.int .i64 kd,.int .i64 rk,.string s1,.string s2,.float .f64 x,.int .i64 0,.int .u64 0,(.slice kp kl kl),.int .i64 0,.int .i64 at_] 63 (0,0)) ∧ w'.heap[g4]? = some (.cells #[.int .i64 0,.string { data := #[] },.int .u64 0,.int .i64 0,.int .i64 0] 59 (0,0)) ∧ P s_.2 w' ∧ w'.heap[wd]? = some (.cells (wrc s_.2.k s_.2.d ver0) 98 (0,0)) ∧ w'.heap[s_.2.k]? = some (.cells (dsc s_.2.co s_.2.cl) 76 (0,0)) ∧ w'.heap[s_.2.cl]? = some (.cells clc 117 (0,0)) ∧ Fr1 wd w w') ?_ ?_
  rotate_left
  ·intro hJ1_4_6
   refine jn_ (σ := Nat × Nat) 2 [6,1,1,1] (fun s_ => [(11,.map (some s_.1)),(14,.func (.func fk) #[.pointer (some ⟨wd,0,none⟩)] #[]),(5,.pointer (some ⟨s_.2,0,none⟩))]) (fun s_ w' => w'.heap[g3]? = some (.cells #[.int .i64 kd,.int .i64 rk,.string s1,.string s2,.float .f64 x,.int .i64 0,.int .u64 0,(.slice kp kl kl),.int .i64 0,.int .i64 at_] 63 (0,0)) ∧ w'.heap[g4]? = some (.cells #[.int .i64 0,.string { data := #[] },.int .u64 0,.int .i64 0,.int .i64 0] 59 (0,0)) ∧ w'.heap[s_.2]? = some (.cells #[.int .i64 0,.string { data := #[] },.int .u64 0,.int .i64 0,.int .i64 0] 59 (0,0)) ∧ g4 ≠ s_.2 ∧ w.heap.size ≤ s_.2 ∧ w'.heap[wd]? = some (.cells (wrc k d ver0) 98 (0,0)) ∧ Below w.heap.size w w' ∧ w'.heap[s_.1]? = some (.map (actM wd 6) 6)) ?_ ?_
   rotate_left
   ·intro hJ1_4_7
    refine jn_ (σ := Nat) 3 [6,3] (fun s_ => [(11,.map (some s_)),(14,.func (.func fk) #[.pointer (some ⟨wd,0,none⟩)] #[])]) (fun s_ w' => w'.heap[g3]? = some (.cells #[.int .i64 kd,.int .i64 rk,.string s1,.string s2,.float .f64 x,.int .i64 0,.int .u64 0,(.slice kp kl kl),.int .i64 0,.int .i64 at_] 63 (0,0)) ∧ w'.heap[g4]? = some (.cells #[.int .i64 0,.string { data := #[] },.int .u64 0,.int .i64 0,.int .i64 0] 59 (0,0)) ∧ w'.heap[wd]? = some (.cells (wrc k d ver0) 98 (0,0)) ∧ Below w.heap.size w w' ∧ w'.heap[s_]? = some (.map (actM wd 6) 6)) ?_ ?_
    rotate_left
    ·intro hJ1_4
     refine jn_ (σ := Nat × Nat) 3 [4,1,1,1,1,1] (fun s_ => [(11,.map (some s_.1)),(5,.pointer (some ⟨s_.2,0,none⟩))]) (fun s_ w' => w'.heap[g3]? = some (.cells #[.int .i64 kd,.int .i64 rk,.string s1,.string s2,.float .f64 x,.int .i64 0,.int .u64 0,(.slice kp kl kl),.int .i64 0,.int .i64 at_] 63 (0,0)) ∧ w'.heap[g4]? = some (.cells #[.int .i64 0,.string { data := #[] },.int .u64 0,.int .i64 0,.int .i64 0] 59 (0,0)) ∧ w'.heap[s_.2]? = some (.cells #[.int .i64 0,.string { data := #[] },.int .u64 0,.int .i64 0,.int .i64 0] 59 (0,0)) ∧ g4 ≠ s_.2 ∧ w.heap.size ≤ s_.2 ∧ w'.heap[wd]? = some (.cells (wrc k d ver0) 98 (0,0)) ∧ Below w.heap.size w w' ∧ w'.heap[s_.1]? = some (.map (actM wd 6) 6)) ?_ ?_
     rotate_left
     ·intro hJ1_7
      refine jn_ (σ := Nat) 4 [4,1,1,3] (fun s_ => [(11,.map (some s_))]) (fun s_ w' => w'.heap[g3]? = some (.cells #[.int .i64 kd,.int .i64 rk,.string s1,.string s2,.float .f64 x,.int .i64 0,.int .u64 0,(.slice kp kl kl),.int .i64 0,.int .i64 at_] 63 (0,0)) ∧ w'.heap[g4]? = some (.cells #[.int .i64 0,.string { data := #[] },.int .u64 0,.int .i64 0,.int .i64 0] 59 (0,0)) ∧ w'.heap[wd]? = some (.cells (wrc k d ver0) 98 (0,0)) ∧ Below w.heap.size w w' ∧ w'.heap[s_]? = some (.map (actM wd 6) 6)) ?_ ?_
      rotate_left
      ·intro hJ1
       refine jn_ (σ := Nat) 4 [1,1,2,1,1,1,1,1] (fun s_ => [(5,.pointer (some ⟨s_,0,none⟩))]) (fun s_ w' => w'.heap[g3]? = some (.cells #[.int .i64 kd,.int .i64 rk,.string s1,.string s2,.float .f64 x,.int .i64 0,.int .u64 0,(.slice kp kl kl),.int .i64 0,.int .i64 at_] 63 (0,0)) ∧ w'.heap[g4]? = some (.cells #[.int .i64 0,.string { data := #[] },.int .u64 0,.int .i64 0,.int .i64 0] 59 (0,0)) ∧ w'.heap[s_]? = some (.cells #[.int .i64 0,.string { data := #[] },.int .u64 0,.int .i64 0,.int .i64 0] 59 (0,0)) ∧ g4 ≠ s_ ∧ w.heap.size ≤ s_ ∧ w'.heap[wd]? = some (.cells (wrc k d ver0) 98 (0,0)) ∧ Below w.heap.size w w') ?_ ?_
       rotate_left
       ·intro hJ7
        refine tw_ 1 7 HT_ (fun K hK => ?_) fun K hK => ?_
        ·skip
         refine gc_ Tryz.func44 #[.pointer (some ⟨wd,0,none⟩)] ?_
         with_reducible refine (acts_calls wd _).mono ?_
         rintro e_ wk ⟨gm,rfl,hm,hb⟩
         refine ⟨_,rfl,?_⟩
         replace HX := mb HX hb
         replace H4 := mb H4 hb
         replace HWD := mb HWD hb
         replace HB := mS HB hb
         have HM := Aside0.mk hm
         clear hb hm
         refine hK.out _ _ ⟨(cL HX 0 rfl),(cL HX 1 rfl),(cL HX 2 rfl),(cL HX 3 rfl),(cL HX 4 rfl),(cL HX 5 rfl),(cL HX 6 rfl),(cL HX 7 rfl),(cL HX 8 rfl),(cL HX 9 rfl)⟩ (fun hHeld => ?_)
         clear hK K
         refine no_ 11 ?_
         exact nx_ (hJ1 gm _ ⟨HX.out,H4.out,HWD.out,HB.out,HM.out⟩)
        ·skip
         refine va_ ?_
         obtain ⟨wk,hW⟩ : ∃ W_,W_ = wd1.alloc (.cells #[.int .i64 0,.string { data := #[] },.int .u64 0,.int .i64 0,.int .i64 0] 59) := ⟨_,rfl⟩
         obtain ⟨b5,hh⟩ : ∃ g_,g_ = wd1.heap.size := ⟨_,rfl⟩
         rw [← hW,← hh]
         have G5 : Aside0 (w.heap.size ≤ b5) := ⟨by rw [hh]; exact HB.out.size⟩
         have N45 : Aside0 (g4 ≠ b5) := ⟨by rw [hh]; exact Nat.ne_of_lt (blk_lt H4.out)⟩
         have hb_ : Below wd1.heap.size wd1 wk := by rw [hW]; exact below_alloc (Below.refl _ _) _
         replace HX := mb HX hb_
         replace H4 := mb H4 hb_
         replace HWD := mb HWD hb_
         replace HB := mS HB hb_
         have H5 : Aside0 (wk.heap[b5]? = some (.cells #[.int .i64 0,.string { data := #[] },.int .u64 0,.int .i64 0,.int .i64 0] 59 (0,0))) := ⟨by rw [hW,hh]; exact blk_new _ _⟩
         clear hW hh hb_
         refine hK.out _ _ ⟨(cL HX 0 rfl),(cL HX 1 rfl),(cL HX 2 rfl),(cL HX 3 rfl),(cL HX 4 rfl),(cL HX 5 rfl),(cL HX 6 rfl),(cL HX 7 rfl),(cL HX 8 rfl),(cL HX 9 rfl)⟩ (fun hHeld => ?_)
         clear hK K
         refine no_ 5 ?_
         exact nx_ (hJ7 b5 _ ⟨HX.out,H4.out,H5.out,N45.out,G5.out,HWD.out,HB.out⟩)
       ·skip
        rintro b5 wj ⟨h_0,h_1,h_2,h_3,h_4,h_5,h_6⟩
        try dsimp only at h_0 h_1 h_2 h_3 h_4 h_5 h_6
        clear HX H4 HWD HB
        have HX := Aside0.mk h_0
        have H4 := Aside0.mk h_1
        have H5 := Aside0.mk h_2
        have N45 := Aside0.mk h_3
        have G5 := Aside0.mk h_4
        have HWD := Aside0.mk h_5
        have HB := Aside0.mk h_6
        clear h_0 h_1 h_2 h_3 h_4 h_5 h_6
        refine hd_ ⟨(cL HX 0 rfl),(cL HX 1 rfl),(cL HX 2 rfl),(cL HX 3 rfl),(cL HX 4 rfl),(cL HX 5 rfl),(cL HX 6 rfl),(cL HX 7 rfl),(cL HX 8 rfl),(cL HX 9 rfl)⟩ fun hHeld => ?_
        refine na_ ?_
        refine on_ 1 HT_ fun K hK => ?_
        refine gc_ Tryz.func44 #[.pointer (some ⟨wd,0,none⟩)] ?_
        with_reducible refine (acts_calls wd _).mono ?_
        rintro e_ wk ⟨gm,rfl,hm,hb⟩
        refine ⟨_,rfl,?_⟩
        replace HX := mb HX hb
        replace H4 := mb H4 hb
        replace H5 := mb H5 hb
        replace HWD := mb HWD hb
        replace HB := mS HB hb
        have HM := Aside0.mk hm
        clear hb hm
        refine hK.out _ _ ⟨(cL HX 0 rfl),(cL HX 1 rfl),(cL HX 2 rfl),(cL HX 3 rfl),(cL HX 4 rfl),(cL HX 5 rfl),(cL HX 6 rfl),(cL HX 7 rfl),(cL HX 8 rfl),(cL HX 9 rfl)⟩ (fun hHeld => ?_)
        clear hK K
        refine no_ 11 ?_
        exact nx_ (hJ1_7 (gm,b5) _ ⟨HX.out,H4.out,H5.out,N45.out,G5.out,HWD.out,HB.out,HM.out⟩)
      ·skip
       rintro gm wj ⟨h_0,h_1,h_2,h_3,h_4⟩
       try dsimp only at h_0 h_1 h_2 h_3 h_4
       clear HX H4 HWD HB
       have HX := Aside0.mk h_0
       have H4 := Aside0.mk h_1
       have HWD := Aside0.mk h_2
       have HB := Aside0.mk h_3
       have HM := Aside0.mk h_4
       clear h_0 h_1 h_2 h_3 h_4
       refine hd_ ⟨(cL HX 0 rfl),(cL HX 1 rfl),(cL HX 2 rfl),(cL HX 3 rfl),(cL HX 4 rfl),(cL HX 5 rfl),(cL HX 6 rfl),(cL HX 7 rfl),(cL HX 8 rfl),(cL HX 9 rfl)⟩ fun hHeld => ?_
       refine na_ ?_
       refine tw_ 4 7 HT_ (fun K hK => ?_) fun K hK => ?_
       ·skip
        have hl_ := HLK.out gm wj HM.out
        refine va_ ?_
        clear hl_
        refine hK.out _ _ ⟨(cL HX 0 rfl),(cL HX 1 rfl),(cL HX 2 rfl),(cL HX 3 rfl),(cL HX 4 rfl),(cL HX 5 rfl),(cL HX 6 rfl),(cL HX 7 rfl),(cL HX 8 rfl),(cL HX 9 rfl)⟩ (fun hHeld => ?_)
        clear hK K
        refine no_ 14 ?_
        exact nx_ (hJ1_4 gm _ ⟨HX.out,H4.out,HWD.out,HB.out,HM.out⟩)
       ·skip
        refine va_ ?_
        obtain ⟨wk,hW⟩ : ∃ W_,W_ = wj.alloc (.cells #[.int .i64 0,.string { data := #[] },.int .u64 0,.int .i64 0,.int .i64 0] 59) := ⟨_,rfl⟩
        obtain ⟨b5,hh⟩ : ∃ g_,g_ = wj.heap.size := ⟨_,rfl⟩
        rw [← hW,← hh]
        have G5 : Aside0 (w.heap.size ≤ b5) := ⟨by rw [hh]; exact HB.out.size⟩
        have N45 : Aside0 (g4 ≠ b5) := ⟨by rw [hh]; exact Nat.ne_of_lt (blk_lt H4.out)⟩
        have hb_ : Below wj.heap.size wj wk := by rw [hW]; exact below_alloc (Below.refl _ _) _
        replace HX := mb HX hb_
        replace H4 := mb H4 hb_
        replace HWD := mb HWD hb_
        replace HB := mS HB hb_
        replace HM := mb HM hb_
        have H5 : Aside0 (wk.heap[b5]? = some (.cells #[.int .i64 0,.string { data := #[] },.int .u64 0,.int .i64 0,.int .i64 0] 59 (0,0))) := ⟨by rw [hW,hh]; exact blk_new _ _⟩
        clear hW hh hb_
        refine hK.out _ _ ⟨(cL HX 0 rfl),(cL HX 1 rfl),(cL HX 2 rfl),(cL HX 3 rfl),(cL HX 4 rfl),(cL HX 5 rfl),(cL HX 6 rfl),(cL HX 7 rfl),(cL HX 8 rfl),(cL HX 9 rfl)⟩ (fun hHeld => ?_)
        clear hK K
        refine no_ 5 ?_
        exact nx_ (hJ1_7 (gm,b5) _ ⟨HX.out,H4.out,H5.out,N45.out,G5.out,HWD.out,HB.out,HM.out⟩)
     ·skip
      rintro ⟨gm,b5⟩ wj ⟨h_0,h_1,h_2,h_3,h_4,h_5,h_6,h_7⟩
      try dsimp only at h_0 h_1 h_2 h_3 h_4 h_5 h_6 h_7
      clear HX H4 HWD HB
      have HX := Aside0.mk h_0
      have H4 := Aside0.mk h_1
      have H5 := Aside0.mk h_2
      have N45 := Aside0.mk h_3
      have G5 := Aside0.mk h_4
      have HWD := Aside0.mk h_5
      have HB := Aside0.mk h_6
      have HM := Aside0.mk h_7
      clear h_0 h_1 h_2 h_3 h_4 h_5 h_6 h_7
      refine hd_ ⟨(cL HX 0 rfl),(cL HX 1 rfl),(cL HX 2 rfl),(cL HX 3 rfl),(cL HX 4 rfl),(cL HX 5 rfl),(cL HX 6 rfl),(cL HX 7 rfl),(cL HX 8 rfl),(cL HX 9 rfl)⟩ fun hHeld => ?_
      refine na_ ?_
      refine on_ 4 HT_ fun K hK => ?_
      have hl_ := HLK.out gm wj HM.out
      refine va_ ?_
      clear hl_
      refine hK.out _ _ ⟨(cL HX 0 rfl),(cL HX 1 rfl),(cL HX 2 rfl),(cL HX 3 rfl),(cL HX 4 rfl),(cL HX 5 rfl),(cL HX 6 rfl),(cL HX 7 rfl),(cL HX 8 rfl),(cL HX 9 rfl)⟩ (fun hHeld => ?_)
      clear hK K
      refine no_ 14 ?_
      exact nx_ (hJ1_4_7 (gm,b5) _ ⟨HX.out,H4.out,H5.out,N45.out,G5.out,HWD.out,HB.out,HM.out⟩)
    ·skip
     rintro gm wj ⟨h_0,h_1,h_2,h_3,h_4⟩
     try dsimp only at h_0 h_1 h_2 h_3 h_4
     clear HX H4 HWD HB
     have HX := Aside0.mk h_0
     have H4 := Aside0.mk h_1
     have HWD := Aside0.mk h_2
     have HB := Aside0.mk h_3
     have HM := Aside0.mk h_4
     clear h_0 h_1 h_2 h_3 h_4
     refine hd_ ⟨(cL HX 0 rfl),(cL HX 1 rfl),(cL HX 2 rfl),(cL HX 3 rfl),(cL HX 4 rfl),(cL HX 5 rfl),(cL HX 6 rfl),(cL HX 7 rfl),(cL HX 8 rfl),(cL HX 9 rfl)⟩ fun hHeld => ?_
     refine na_ ?_
     refine tw_ 6 7 HT_ (fun K hK => ?_) fun K hK => ?_
     ·skip
      refine goesv_ #[.pointer (some ⟨wd,0,none⟩)] #[] HFN.out.1 HFN.out.2.1 HFN.out.2.2 #[.pointer (some ⟨wd,0,none⟩),.agg #[.int .i64 kd,.int .i64 rk,.string s1,.string s2,.float .f64 x,.int .i64 0,.int .u64 0,(.slice kp kl kl),.int .i64 0,.int .i64 at_]] (by rfl) rfl rfl rfl (by first | rfl | (simp; done) | (simp; rfl)) ?_
      with_reducible refine (HCALL.out _ HB.out).mono ?_
      rintro e_ wk ⟨rfl,ids,hp,hrw,hrk,hrc,hfr⟩
      refine ⟨_,rfl,?_⟩
      replace HX := Aside0.mk (hfr.row _ _ _ (by decide) (tne HX.out HWD.out (by decide)) HX.out)
      replace H4 := Aside0.mk (hfr.row _ _ _ (by decide) (tne H4.out HWD.out (by decide)) H4.out)
      have HP := Aside0.mk hp
      have HRW := Aside0.mk hrw
      have HRK := Aside0.mk hrk
      have HRC := Aside0.mk hrc
      have HFR : Aside0 (Fr1 wd w wk) := ⟨(Frm.below HB.out).but.trans hfr⟩
      clear hp hrw hrk hrc hfr
      refine hK.out _ _ ⟨(cL HX 0 rfl),(cL HX 1 rfl),(cL HX 2 rfl),(cL HX 3 rfl),(cL HX 4 rfl),(cL HX 5 rfl),(cL HX 6 rfl),(cL HX 7 rfl),(cL HX 8 rfl),(cL HX 9 rfl)⟩ (fun hHeld => ?_)
      clear hK K
      refine no_ 16 ?_
      exact nx_ (hJ1_4_6 (gm,ids) _ ⟨HX.out,H4.out,HP.out,HRW.out,HRK.out,HRC.out,HFR.out⟩)
     ·skip
      refine va_ ?_
      obtain ⟨wk,hW⟩ : ∃ W_,W_ = wj.alloc (.cells #[.int .i64 0,.string { data := #[] },.int .u64 0,.int .i64 0,.int .i64 0] 59) := ⟨_,rfl⟩
      obtain ⟨b5,hh⟩ : ∃ g_,g_ = wj.heap.size := ⟨_,rfl⟩
      rw [← hW,← hh]
      have G5 : Aside0 (w.heap.size ≤ b5) := ⟨by rw [hh]; exact HB.out.size⟩
      have N45 : Aside0 (g4 ≠ b5) := ⟨by rw [hh]; exact Nat.ne_of_lt (blk_lt H4.out)⟩
      have hb_ : Below wj.heap.size wj wk := by rw [hW]; exact below_alloc (Below.refl _ _) _
      replace HX := mb HX hb_
      replace H4 := mb H4 hb_
      replace HWD := mb HWD hb_
      replace HB := mS HB hb_
      replace HM := mb HM hb_
      have H5 : Aside0 (wk.heap[b5]? = some (.cells #[.int .i64 0,.string { data := #[] },.int .u64 0,.int .i64 0,.int .i64 0] 59 (0,0))) := ⟨by rw [hW,hh]; exact blk_new _ _⟩
      clear hW hh hb_
      refine hK.out _ _ ⟨(cL HX 0 rfl),(cL HX 1 rfl),(cL HX 2 rfl),(cL HX 3 rfl),(cL HX 4 rfl),(cL HX 5 rfl),(cL HX 6 rfl),(cL HX 7 rfl),(cL HX 8 rfl),(cL HX 9 rfl)⟩ (fun hHeld => ?_)
      clear hK K
      refine no_ 5 ?_
      exact nx_ (hJ1_4_7 (gm,b5) _ ⟨HX.out,H4.out,H5.out,N45.out,G5.out,HWD.out,HB.out,HM.out⟩)
   ·skip
    rintro ⟨gm,b5⟩ wj ⟨h_0,h_1,h_2,h_3,h_4,h_5,h_6,h_7⟩
    try dsimp only at h_0 h_1 h_2 h_3 h_4 h_5 h_6 h_7
    clear HX H4 HWD HB
    have HX := Aside0.mk h_0
    have H4 := Aside0.mk h_1
    have H5 := Aside0.mk h_2
    have N45 := Aside0.mk h_3
    have G5 := Aside0.mk h_4
    have HWD := Aside0.mk h_5
    have HB := Aside0.mk h_6
    have HM := Aside0.mk h_7
    clear h_0 h_1 h_2 h_3 h_4 h_5 h_6 h_7
    refine hd_ ⟨(cL HX 0 rfl),(cL HX 1 rfl),(cL HX 2 rfl),(cL HX 3 rfl),(cL HX 4 rfl),(cL HX 5 rfl),(cL HX 6 rfl),(cL HX 7 rfl),(cL HX 8 rfl),(cL HX 9 rfl)⟩ fun hHeld => ?_
    refine na_ ?_
    refine on_ 6 HT_ fun K hK => ?_
    refine goesv_ #[.pointer (some ⟨wd,0,none⟩)] #[] HFN.out.1 HFN.out.2.1 HFN.out.2.2 #[.pointer (some ⟨wd,0,none⟩),.agg #[.int .i64 kd,.int .i64 rk,.string s1,.string s2,.float .f64 x,.int .i64 0,.int .u64 0,(.slice kp kl kl),.int .i64 0,.int .i64 at_]] (by rfl) rfl rfl rfl (by first | rfl | (simp; done) | (simp; rfl)) ?_
    with_reducible refine (HCALL.out _ HB.out).mono ?_
    rintro e_ wk ⟨rfl,ids,hp,hrw,hrk,hrc,hfr⟩
    refine ⟨_,rfl,?_⟩
    replace HX := Aside0.mk (hfr.row _ _ _ (by decide) (tne HX.out HWD.out (by decide)) HX.out)
    replace H4 := Aside0.mk (hfr.row _ _ _ (by decide) (tne H4.out HWD.out (by decide)) H4.out)
    replace H5 := Aside0.mk (hfr.row _ _ _ (by decide) (tne H5.out HWD.out (by decide)) H5.out)
    have HP := Aside0.mk hp
    have HRW := Aside0.mk hrw
    have HRK := Aside0.mk hrk
    have HRC := Aside0.mk hrc
    have HFR : Aside0 (Fr1 wd w wk) := ⟨(Frm.below HB.out).but.trans hfr⟩
    clear hp hrw hrk hrc hfr
    refine hK.out _ _ ⟨(cL HX 0 rfl),(cL HX 1 rfl),(cL HX 2 rfl),(cL HX 3 rfl),(cL HX 4 rfl),(cL HX 5 rfl),(cL HX 6 rfl),(cL HX 7 rfl),(cL HX 8 rfl),(cL HX 9 rfl)⟩ (fun hHeld => ?_)
    clear hK K
    refine no_ 16 ?_
    exact nx_ (hJ1_4_6_7 (gm,b5,ids) _ ⟨HX.out,H4.out,H5.out,N45.out,G5.out,HP.out,HRW.out,HRK.out,HRC.out,HFR.out⟩)
  ·skip
   rintro ⟨gm,ids⟩ wj ⟨h_0,h_1,h_2,h_3,h_4,h_5,h_6⟩
   try dsimp only at h_0 h_1 h_2 h_3 h_4 h_5 h_6
   clear HX H4 HWD HB
   have HX := Aside0.mk h_0
   have H4 := Aside0.mk h_1
   have HP := Aside0.mk h_2
   have HRW := Aside0.mk h_3
   have HRK := Aside0.mk h_4
   have HRC := Aside0.mk h_5
   have HFR := Aside0.mk h_6
   clear h_0 h_1 h_2 h_3 h_4 h_5 h_6
   refine hd_ ⟨(cL HX 0 rfl),(cL HX 1 rfl),(cL HX 2 rfl),(cL HX 3 rfl),(cL HX 4 rfl),(cL HX 5 rfl),(cL HX 6 rfl),(cL HX 7 rfl),(cL HX 8 rfl),(cL HX 9 rfl)⟩ fun hHeld => ?_
   refine na_ ?_
   refine on_ 7 HT_ fun K hK => ?_
   refine va_ ?_
   obtain ⟨wk,hW⟩ : ∃ W_,W_ = wj.alloc (.cells #[.int .i64 0,.string { data := #[] },.int .u64 0,.int .i64 0,.int .i64 0] 59) := ⟨_,rfl⟩
   obtain ⟨b5,hh⟩ : ∃ g_,g_ = wj.heap.size := ⟨_,rfl⟩
   rw [← hW,← hh]
   have G5 : Aside0 (w.heap.size ≤ b5) := ⟨by rw [hh]; exact HFR.out.size⟩
   have N45 : Aside0 (g4 ≠ b5) := ⟨by rw [hh]; exact Nat.ne_of_lt (blk_lt H4.out)⟩
   have hb_ : Below wj.heap.size wj wk := by rw [hW]; exact below_alloc (Below.refl _ _) _
   replace HX := mb HX hb_
   replace H4 := mb H4 hb_
   replace HP := Aside0.mk ((HS.out.st _).below _ _ HP.out hb_)
   replace HRW := mb HRW hb_
   replace HRK := mb HRK hb_
   replace HRC := mb HRC hb_
   replace HFR := Aside0.mk (HFR.out.trans (Frm.below hb_).but)
   have H5 : Aside0 (wk.heap[b5]? = some (.cells #[.int .i64 0,.string { data := #[] },.int .u64 0,.int .i64 0,.int .i64 0] 59 (0,0))) := ⟨by rw [hW,hh]; exact blk_new _ _⟩
   clear hW hh hb_
   refine hK.out _ _ ⟨(cL HX 0 rfl),(cL HX 1 rfl),(cL HX 2 rfl),(cL HX 3 rfl),(cL HX 4 rfl),(cL HX 5 rfl),(cL HX 6 rfl),(cL HX 7 rfl),(cL HX 8 rfl),(cL HX 9 rfl)⟩ (fun hHeld => ?_)
   clear hK K
   refine no_ 5 ?_
   exact nx_ (hJ1_4_6_7 (gm,b5,ids) _ ⟨HX.out,H4.out,H5.out,N45.out,G5.out,HP.out,HRW.out,HRK.out,HRC.out,HFR.out⟩)
 rintro ⟨gm,b5,ids⟩ wj ⟨h_0,h_1,h_2,h_3,h_4,h_5,h_6,h_7,h_8,h_9⟩
 try dsimp only at h_0 h_1 h_2 h_3 h_4 h_5 h_6 h_7 h_8 h_9
 clear HX H4 HWD HB
 have HX := Aside0.mk h_0
 have H4 := Aside0.mk h_1
 have H5 := Aside0.mk h_2
 have N45 := Aside0.mk h_3
 have G5 := Aside0.mk h_4
 have HP := Aside0.mk h_5
 have HRW := Aside0.mk h_6
 have HRK := Aside0.mk h_7
 have HRC := Aside0.mk h_8
 have HFR := Aside0.mk h_9
 clear h_0 h_1 h_2 h_3 h_4 h_5 h_6 h_7 h_8 h_9
 refine hd_ ⟨(cL HX 0 rfl),(cL HX 1 rfl),(cL HX 2 rfl),(cL HX 3 rfl),(cL HX 4 rfl),(cL HX 5 rfl),(cL HX 6 rfl),(cL HX 7 rfl),(cL HX 8 rfl),(cL HX 9 rfl)⟩ fun hHeld => ?_
 refine na_ ?_
 refine la_ 8 HT_ fun K hK => ?_
 refine sR_ 5 16 #[.int .i64 e0,.string rs,.int .u64 rd,.int .i64 n0,.int .i64 er] H5.out ?_
 refine hK.out _ _ ?_
 clear hK K
 refine dn_ HT_ ?_
 clear HT_ HW_ hHeld
 obtain ⟨W3,hW⟩ : ∃ W_,W_ = wj.setRow b5 #[.int .i64 e0,.string rs,.int .u64 rd,.int .i64 n0,.int .i64 er] := ⟨_,rfl⟩
 rw [← hW]
 have q_ := (HS.out.st _).set HP.out (Nat.le_trans HBB.out G5.out) (by decide) H5.out #[.int .i64 e0,.string rs,.int .u64 rd,.int .i64 n0,.int .i64 er]
 rw [← hW] at q_
 replace HP := Aside0.mk q_
 clear q_
 have q_ := mR #[.int .i64 e0,.string rs,.int .u64 rd,.int .i64 n0,.int .i64 er] HRW.out (tne HRW.out H5.out (by decide))
 rw [← hW] at q_
 replace HRW := Aside0.mk q_
 clear q_
 have q_ := mR #[.int .i64 e0,.string rs,.int .u64 rd,.int .i64 n0,.int .i64 er] HRK.out (tne HRK.out H5.out (by decide))
 rw [← hW] at q_
 replace HRK := Aside0.mk q_
 clear q_
 have q_ := mR #[.int .i64 e0,.string rs,.int .u64 rd,.int .i64 n0,.int .i64 er] HRC.out (tne HRC.out H5.out (by decide))
 rw [← hW] at q_
 replace HRC := Aside0.mk q_
 clear q_
 have q_ := mR #[.int .i64 e0,.string rs,.int .u64 rd,.int .i64 n0,.int .i64 er] H4.out N45.out
 rw [← hW] at q_
 replace H4 := Aside0.mk q_
 clear q_
 have q_ := HFR.out.new #[.int .i64 e0,.string rs,.int .u64 rd,.int .i64 n0,.int .i64 er] G5.out
 rw [← hW] at q_
 replace HFR := Aside0.mk q_
 clear q_
 have q_ := setRow_heap wj b5 _ #[.int .i64 e0,.string rs,.int .u64 rd,.int .i64 n0,.int .i64 er] _ _ H5.out
 rw [← hW] at q_
 replace H5 := Aside0.mk q_
 clear q_
 clear hW
 have y0 : W3.cell? ⟨wd,0,none⟩ = some (.pointer (some ⟨ids.k,0,none⟩)) := cL HRW 0 rfl
 go_wp2_with fail
 refine (dead0 ids.k ids.co ids.cl _ HRK.out).mono ?_
 rintro e_ Wa ⟨rfl,rfl⟩
 have z0 : Wa.cell? ⟨ids.k,0,none⟩ = some (.pointer (some ⟨ids.co,0,none⟩)) := cL HRK 0 rfl
 go_wp2_with fail
 refine (ver_calls ids.co ids.ix ids.d ids.l ids.wh ids.ver _ (HS.out.co _ _ HP.out)).mono ?_
 rintro e_ Wb ⟨rfl,rfl⟩
 have y7 : Wb.cell? ⟨wd,7,none⟩ = some (.int .u64 ver0) := cL HRW 7 rfl
 have f7 := blk_frozen HRW.out 7
 go_upto_region 6 with fail
 clear y0 z0 y7 f7
 obtain ⟨W4,hW⟩ : ∃ W_,W_ = Wb.setCell ⟨wd,7,none⟩ (.int .u64 ids.ver) := ⟨_,rfl⟩
 rw [← hW]
 have q_ := (HS.out.st _).cell (j := 7) (v := .int .u64 ids.ver) HP.out HWB.out (by decide) HRW.out
 rw [← hW] at q_
 replace HP := Aside0.mk q_
 clear q_
 have q_ := blk_far HRK.out (p := ⟨wd,7,none⟩) (tne HRK.out HRW.out (by decide)) (.int .u64 ids.ver)
 rw [← hW] at q_
 replace HRK := Aside0.mk q_
 clear q_
 have q_ := blk_far HRC.out (p := ⟨wd,7,none⟩) (tne HRC.out HRW.out (by decide)) (.int .u64 ids.ver)
 rw [← hW] at q_
 replace HRC := Aside0.mk q_
 clear q_
 have q_ := blk_far H4.out (p := ⟨wd,7,none⟩) (tne H4.out HRW.out (by decide)) (.int .u64 ids.ver)
 rw [← hW] at q_
 replace H4 := Aside0.mk q_
 clear q_
 have q_ := blk_far H5.out (p := ⟨wd,7,none⟩) (tne H5.out HRW.out (by decide)) (.int .u64 ids.ver)
 rw [← hW] at q_
 replace H5 := Aside0.mk q_
 clear q_
 have q_ := HFR.out.own (j := 7) (v := .int .u64 ids.ver)
 rw [← hW] at q_
 replace HFR := Aside0.mk q_
 clear q_
 have q_ := (show (Wb.setCell ⟨wd,7,none⟩ (.int .u64 ids.ver)).heap[wd]? = some (.cells (wrc ids.k ids.d ids.ver) 98 (0,0)) from blk_set HRW.out 7 (.int .u64 ids.ver))
 rw [← hW] at q_
 replace HRW := Aside0.mk q_
 clear q_
 clear hW
 go_wp2_with (first | (refine lr_ 5 H5.out Tryz.underlying59 ?_) | (refine sr_ 4 34 #[.int .i64 e0,.string rs,.int .u64 rd,.int .i64 n0,.int .i64 er] H4.out ?_))
 refine rr_ (setRow_heap _ _ _ _ _ _ H4.out) Tryz.underlying59 ?_
 exact ⟨rfl,ids,(HS.out.st _).set HP.out (Nat.le_trans HBB.out G4.out) (by decide) H4.out _,mR _ HRW.out (tne HRW.out H4.out (by decide)),mR _ HRK.out (tne HRK.out H4.out (by decide)),mR _ HRC.out (tne HRC.out H4.out (by decide)),HFR.out.new _ G4.out⟩
def ask.T1 : Bool × List (List Nat × List Nat) := (true,[([],[]),([0],[0]),([1],[1]),([2],[2]),([],[]),([4],[4]),([],[]),([6],[6]),([3,5,7],[3,5,7]),([8],[8]),([9,8,0,1,2,3,4,5,6,7,8,9],[9])])
def ask.B1 : List Nat := [0,1,3,7,0,16,0,64,255,511,1023]
theorem ask.tab1 : rtab .any (opsOf Tryz.f87 1) = ask.T1 := by kernel_rfl
theorem ask.bits1 : waitsOk ask.T1.2 ask.B1 = true := by kernel_rfl
theorem ask_calls (B : Nat) (P : World → Prop) (wd k d : Nat) (ver kd rd : Int) (v rs : ByteArray) (x : Nat) (w : World) (hst : Stab B P) (hBB : B ≤ w.heap.size) (hw : w.heap[wd]? = some (.cells (wrc k d ver) 98 (0,0))) (hdo : ∀ W : World,Below w.heap.size w W → Calls Tryz.prog 14 #[.pointer (some ⟨k,0,none⟩),.agg #[.int .i64 kd,.string idA,.string v,.float .f64 x],.int .i64 0] W fun e w' => e = .returned (.agg #[.int .i64 0,.string rs,.int .u64 rd]) ∧ P w' ∧ Frm W w') :
 Calls Tryz.prog 87 #[.pointer (some ⟨wd,0,none⟩),.agg #[.int .i64 0,.int .i64 kd,.string idA,.string v,.float .f64 x,.int .i64 0,.int .u64 0,.slice none 0 0,.int .i64 0,.int .i64 0]] w fun e w' => e = .returned (.agg #[.int .i64 0,.string rs,.int .u64 rd,.int .i64 0,.int .i64 0]) ∧ P w' ∧ Frm w w' := by
 have HST := Aside0.mk hst
 have HBB := Aside0.mk hBB
 have HW := Aside0.mk hw
 have HDO := Aside0.mk hdo
 clear hst hBB hw hdo
 go_enter Tryz.func87,Tryz.ntmps87
 go_upto_region 1 with fail
 obtain ⟨W1,g3,g4,hW_,hg3,hg4,HX,H4,hb_⟩ := new2 w #[.int .i64 0,.int .i64 kd,.string idA,.string v,.float .f64 x,.int .i64 0,.int .u64 0,.slice none 0 0,.int .i64 0,.int .i64 0] 63 #[.int .i64 0,.string { data := #[] },.int .u64 0,.int .i64 0,.int .i64 0] 59
 rw [← hW_,← hg4.out,← hg3.out]
 replace HW := mb HW hb_
 have HB := Aside0.mk hb_
 clear hW_ hb_
 have G4 : Aside0 (w.heap.size ≤ g4) := ⟨by have := hg4.out; omega⟩
 refine st_ 11 (fun w' => w'.cell? ⟨wd,0,none⟩ = some (.pointer (some ⟨k,0,none⟩)) ∧ w'.cell? ⟨g3,1,none⟩ = some (.int .i64 kd) ∧ w'.cell? ⟨g3,2,none⟩ = some (.string idA) ∧ w'.cell? ⟨g3,3,none⟩ = some (.string v) ∧ w'.cell? ⟨g3,4,none⟩ = some (.float .f64 x) ∧ w'.cell? ⟨g3,5,none⟩ = some (.int .i64 0)) [10] ⟨(cD HW 0 rfl),(cD HX 1 rfl),(cD HX 2 rfl),(cD HX 3 rfl),(cD HX 4 rfl),(cD HX 5 rfl)⟩ fun hHeld => ?_
 refine with_tabW ask.tab1 ask.bits1 (fun HT_ HW_ => ?_)
 replace HX := mD HX
 replace H4 := mD H4
 replace HW := mD HW
 replace HB := bD HB
 generalize W1.drew = wd1 at *
 refine pa_ 0 5 HT_ ?_
 refine pa_ 1 6 HT_ ?_
 refine pa_ 2 7 HT_ ?_
 refine pa_ 4 9 HT_ ?_
 refine pa_ 6 11 HT_ ?_
 refine ta_ 3 8 HT_ HW_ hHeld ?_
 refine ta_ 5 10 HT_ HW_ hHeld ?_
 refine ta_ 7 12 HT_ HW_ hHeld ?_
 refine on_ 8 HT_ fun K hK => ?_
 refine gc_ Tryz.func14 #[.pointer (some ⟨k,0,none⟩),.agg #[.int .i64 kd,.string idA,.string v,.float .f64 x],.int .i64 0] ?_
 with_reducible refine (HDO.out _ HB.out).mono ?_
 rintro e_ wa ⟨rfl,hp,hf⟩
 refine ⟨_,rfl,?_⟩
 have HP := Aside0.mk hp
 have HFR : Aside0 (Frm w wa) := ⟨(Frm.below HB.out).trans hf⟩
 replace HW := Aside0.mk (hf.row _ _ _ (by decide) HW.out)
 replace HX := Aside0.mk (hf.row _ _ _ (by decide) HX.out)
 replace H4 := Aside0.mk (hf.row _ _ _ (by decide) H4.out)
 clear hp hf
 refine hK.out _ _ ⟨(cL HW 0 rfl),(cL HX 1 rfl),(cL HX 2 rfl),(cL HX 3 rfl),(cL HX 4 rfl),(cL HX 5 rfl)⟩ (fun hHeld => ?_)
 clear hK K
 refine no_ 13 ?_
 refine pa_ 9 14 HT_ ?_
 refine la_ 10 HT_ fun K hK => ?_
 refine sR_ 4 14 #[.int .i64 0,.string rs,.int .u64 rd,.int .i64 0,.int .i64 0] H4.out ?_
 refine hK.out _ _ ?_
 clear hK K
 refine dn_ HT_ ?_
 clear HT_ HW_ hHeld
 go_wp2_with fail
 refine rr_ (setRow_heap _ _ _ _ _ _ H4.out) Tryz.underlying59 ?_
 exact ⟨rfl,HST.out.set HP.out (Nat.le_trans HBB.out G4.out) (by decide) H4.out _,HFR.out.new _ G4.out⟩
theorem wsync_calls (B : Nat) (P : World → Prop) (wd k d : Nat) (ver : Int) (w : World) (hst : Stab B P) (hBB : B ≤ w.heap.size) (hw : w.heap[wd]? = some (.cells (wrc k d ver) 98 (0,0))) (hdo : ∀ W : World,Below w.heap.size w W → Calls Tryz.prog 134 #[.pointer (some ⟨k,0,none⟩)] W fun e w' => e = .returned (.int .i64 0) ∧ P w' ∧ Frm W w') :
 Calls Tryz.prog 90 #[.pointer (some ⟨wd,0,none⟩),.agg #[.int .i64 3,.int .i64 0,.string { data := #[] },.string { data := #[] },.float .f64 0,.int .i64 0,.int .u64 0,.slice none 0 0,.int .i64 0,.int .i64 0]] w fun e w' => e = .returned (.agg #[.int .i64 0,.string { data := #[] },.int .u64 0,.int .i64 0,.int .i64 0]) ∧ P w' ∧ Frm w w' := by
 have HST := Aside0.mk hst
 have HBB := Aside0.mk hBB
 have HW := Aside0.mk hw
 have HDO := Aside0.mk hdo
 clear hst hBB hw hdo
 go_enter Tryz.func90,Tryz.ntmps90
 go_upto_region 1 with fail
 obtain ⟨W1,g3,g4,hW_,hg3,hg4,HX,H4,hb_⟩ := new2 w #[.int .i64 3,.int .i64 0,.string { data := #[] },.string { data := #[] },.float .f64 0,.int .i64 0,.int .u64 0,.slice none 0 0,.int .i64 0,.int .i64 0] 63 #[.int .i64 0,.string { data := #[] },.int .u64 0,.int .i64 0,.int .i64 0] 59
 rw [← hW_,← hg4.out,← hg3.out]
 replace HW := mb HW hb_
 have HB := Aside0.mk hb_
 clear hW_ hb_
 have G4 : Aside0 (w.heap.size ≤ g4) := ⟨by have := hg4.out; omega⟩
 have y0 : W1.cell? ⟨wd,0,none⟩ = some (.pointer (some ⟨k,0,none⟩)) := cL HW 0 rfl
 go_wp2_with fail
 refine (HDO.out _ HB.out).mono ?_
 rintro e_ wa ⟨rfl,hp,hf⟩
 have HP := Aside0.mk hp
 have HFR : Aside0 (Frm w wa) := ⟨(Frm.below HB.out).trans hf⟩
 replace H4 := Aside0.mk (hf.row _ _ _ (by decide) H4.out)
 clear hp hf y0
 go_wp2_with (refine sr_ 4 10 #[.int .i64 0,.string { data := #[] },.int .u64 0,.int .i64 0,.int .i64 0] H4.out ?_)
 refine rr_ (setRow_heap _ _ _ _ _ _ H4.out) Tryz.underlying59 ?_
 exact ⟨rfl,HST.out.set HP.out (Nat.le_trans HBB.out G4.out) (by decide) H4.out _,HFR.out.new _ G4.out⟩
end Go.Proofs.YtokfjbbjkiilmaaGreatDoor.H
namespace Go.Proofs.YtokfjbbjkiilmaaGreatDoor.H
open Go.RowKit Go.Proofs.YtokfjbbjkiilmaaGreatDoorW.PrintWords Go.Proofs.YtokfjbbjkiilmaaGreatDoorW.PrintLast Go.Proofs.YtokfjbbjkiilmaaGreatDoorW.PrintMore
set_option maxHeartbeats 8000000
set_option maxRecDepth 100000
attribute [local go_sem] max2_int min2_int min_two max_two
def crash.T1 : Bool × List (List Nat × List Nat) := (true,[([],[]),([0],[0]),([1],[1]),([2],[2]),([],[]),([4],[4]),([],[]),([6],[6]),([],[]),([8],[8]),([3,5,7,9],[3,5,7,9])])
def crash.B1 : List Nat := [0,1,3,7,0,16,0,64,0,256,1023]
theorem crash.tab1 : rtab .any (opsOf Tryz.f92 1) = crash.T1 := by kernel_rfl
theorem crash.bits1 : waitsOk crash.T1.2 crash.B1 = true := by kernel_rfl
def crash.T2 : Bool × List (List Nat × List Nat) := (true,[([],[]),([],[]),([1],[1]),([2],[2]),([3],[3]),([],[]),([5],[5]),([4,6],[4,6]),([0,0,1,2,3,4,5,6,7],[0]),([8,0,1,2,3,4,5,6,7],[8]),([9,7,7,0,1,2,3,4,5,6,7],[7,9])])
def crash.B2 : List Nat := [0,0,2,6,14,0,32,126,255,511,1023]
theorem crash.tab2 : rtab .any (opsOf Tryz.f92 2) = crash.T2 := by kernel_rfl
theorem crash.bits2 : waitsOk crash.T2.2 crash.B2 = true := by kernel_rfl
def crash.T3 : Bool × List (List Nat × List Nat) := (true,[([],[]),([0],[0]),([1],[1]),([2],[2]),([],[]),([4],[4]),([5],[5]),([6],[6]),([],[]),([8],[8]),([9],[9]),([10],[10]),([3,7,11],[3,7,11]),([12],[12]),([13],[13]),([13],[13]),([14,12,0,1,2,3,4,5,6,7,8,9,10,11,12,13,14],[14]),([15,16,0,1,2,3,4,5,6,7,8,9,10,11,12,13,14,15,16],[15])])
def crash.B3 : List Nat := [0,1,3,7,0,16,48,112,0,256,768,1792,4095,8191,16383,16383,32767,131071]
theorem crash.tab3 : rtab .any (opsOf Tryz.f92 3) = crash.T3 := by kernel_rfl
theorem crash.bits3 : waitsOk crash.T3.2 crash.B3 = true := by kernel_rfl
theorem wcrash_calls (B : Nat) (P : Ids → World → Prop) (Q : World → Prop) (wd k d : Nat) (ver at_ : Int) (kp : Option Addr) (kl : Nat) (w : World) (hP : Sta B P) (hBB : B ≤ w.heap.size) (hwB : B ≤ wd) (hQ : Stab B Q) (hw : w.heap[wd]? = some (.cells (wrc k d ver) 98 (0,0))) (hcr : ∀ W : World,Below w.heap.size w W → Calls Tryz.prog 136 #[.pointer (some ⟨d,0,none⟩),(.slice kp kl kl),.int .i64 0,.int .i64 at_] W fun e w' => e = .returned (.tuple #[]) ∧ Q w' ∧ Frm W w') (hop : ∀ W : World,Q W → Calls Tryz.prog 137 #[.pointer (some ⟨d,0,none⟩),.agg cnf,.int .u64 0] W fun e w' => ∃ i : Ids,e = .returned (.tuple #[.pointer (some ⟨i.k,0,none⟩),.int .i64 0]) ∧ i.d = d ∧ P i w' ∧ w'.heap[i.k]? = some (.cells (dsc i.co i.cl) 76 (0,0)) ∧ w'.heap[i.cl]? = some (.cells clc 117 (0,0)) ∧ Frm W w') :
 Calls Tryz.prog 92 #[.pointer (some ⟨wd,0,none⟩),.agg #[.int .i64 5,.int .i64 0,.string { data := #[] },.string { data := #[] },.float .f64 0,.int .i64 0,.int .u64 0,(.slice kp kl kl),.int .i64 0,.int .i64 at_]] w fun e w' => e = .returned (.agg #[.int .i64 0,.string { data := #[] },.int .u64 0,.int .i64 0,.int .i64 0]) ∧ Beh P wd ver w w' := by
 have HS := Aside0.mk hP
 have HBB := Aside0.mk hBB
 have HWB := Aside0.mk hwB
 have HQS := Aside0.mk hQ
 have HW := Aside0.mk hw
 have HCR := Aside0.mk hcr
 have HOP := Aside0.mk hop
 clear hP hBB hwB hQ hw hcr hop
 go_enter Tryz.func92,Tryz.ntmps92
 go_upto_region 1 with fail
 obtain ⟨W1,g3,g4,hW_,hg3,hg4,HX,H4,hb_⟩ := new2 w #[.int .i64 5,.int .i64 0,.string { data := #[] },.string { data := #[] },.float .f64 0,.int .i64 0,.int .u64 0,(.slice kp kl kl),.int .i64 0,.int .i64 at_] 63 #[.int .i64 0,.string { data := #[] },.int .u64 0,.int .i64 0,.int .i64 0] 59
 rw [← hW_,← hg4.out,← hg3.out]
 replace HW := mb HW hb_
 have HB := Aside0.mk hb_
 clear hW_ hb_
 have G4 : Aside0 (w.heap.size ≤ g4) := ⟨by have := hg4.out; omega⟩
 refine st_ 11 (fun w' => w'.cell? ⟨wd,5,none⟩ = some (.pointer (some ⟨d,0,none⟩)) ∧ w'.cell? ⟨g3,7,none⟩ = some ((.slice kp kl kl)) ∧ w'.cell? ⟨g3,8,none⟩ = some (.int .i64 0) ∧ w'.cell? ⟨g3,9,none⟩ = some (.int .i64 at_)) [] ⟨(cD HW 5 rfl),(cD HX 7 rfl),(cD HX 8 rfl),(cD HX 9 rfl)⟩ fun hHeld => ?_
 refine with_tabW crash.tab1 crash.bits1 (fun HT_ HW_ => ?_)
 replace HX := mD HX
 replace H4 := mD H4
 replace HW := mD HW
 replace HB := bD HB
 generalize W1.drew = wd1 at *
 refine pa_ 0 7 HT_ ?_
 refine pa_ 1 8 HT_ ?_
 refine pa_ 2 9 HT_ ?_
 refine pa_ 4 11 HT_ ?_
 refine pa_ 6 13 HT_ ?_
 refine pa_ 8 15 HT_ ?_
 refine ta_ 3 10 HT_ HW_ hHeld ?_
 refine ta_ 5 12 HT_ HW_ hHeld ?_
 refine ta_ 7 14 HT_ HW_ hHeld ?_
 refine ta_ 9 16 HT_ HW_ hHeld ?_
 refine on_ 10 HT_ fun K hK => ?_
 refine gc_ Tryz.func136 #[.pointer (some ⟨d,0,none⟩),(.slice kp kl kl),.int .i64 0,.int .i64 at_] ?_
 with_reducible refine (HCR.out _ HB.out).mono ?_
 rintro e_ wa ⟨rfl,hq,hf⟩
 refine ⟨_,rfl,?_⟩
 have HQ := Aside0.mk hq
 have HFR : Aside0 (Frm w wa) := ⟨(Frm.below HB.out).trans hf⟩
 replace HW := Aside0.mk (hf.row _ _ _ (by decide) HW.out)
 replace HX := Aside0.mk (hf.row _ _ _ (by decide) HX.out)
 replace H4 := Aside0.mk (hf.row _ _ _ (by decide) H4.out)
 clear hq hf HB
 refine hK.out _ _ ⟨(cL HW 5 rfl),(cL HX 7 rfl),(cL HX 8 rfl),(cL HX 9 rfl)⟩ (fun hHeld => ?_)
 clear hK K
 refine no_ 17 ?_
 refine dn_ HT_ ?_
 clear HT_ HW_ hHeld
 go_upto_region 2 with fail
 refine st_ 11 (fun w' => w'.cell? ⟨wd,6,none⟩ = some (.int .u64 0) ∧ w'.cell? ⟨g3,6,none⟩ = some (.int .u64 0)) [10] ⟨(cD HW 6 rfl),(cD HX 6 rfl)⟩ fun hHeld => ?_
 refine with_tabW crash.tab2 crash.bits2 (fun HT_ HW_ => ?_)
 replace HX := mD HX
 replace H4 := mD H4
 replace HW := mD HW
 replace HQ := Aside0.mk (HQS.out.below _ _ HQ.out (below_drew (Below.refl _ _)))
 replace HFR := Aside0.mk (HFR.out.trans (Frm.below (below_drew (Below.refl _ _))))
 generalize wa.drew = wd2 at *
 refine pa_ 0 18 HT_ ?_
 refine pa_ 1 19 HT_ ?_
 refine pa_ 2 20 HT_ ?_
 refine pa_ 3 21 HT_ ?_
 refine pa_ 5 23 HT_ ?_
 refine ta_ 4 22 HT_ HW_ hHeld ?_
 refine ta_ 6 24 HT_ HW_ hHeld ?_
 refine on_ 7 HT_ fun K hK => ?_
 refine gc_ Tryz.func66 #[.int .u64 0,.int .u64 0] ?_
 with_reducible refine (later_calls 0 0 _ (by decide) (by decide) (by decide)).mono ?_
 rintro e_ wd2 ⟨rfl,rfl⟩
 refine ⟨_,rfl,?_⟩
 refine hK.out _ _ ⟨(cL HW 6 rfl),(cL HX 6 rfl)⟩ (fun hHeld => ?_)
 clear hK K
 refine no_ 25 ?_
 refine pa_ 8 26 HT_ ?_
 refine pa_ 9 27 HT_ ?_
 refine la_ 10 HT_ fun K hK => ?_
 have f6 := blk_frozen HW.out 6
 have y6 : wd2.cell? ⟨wd,6,none⟩ = some (.int .u64 0) := cL HW 6 rfl
 refine skip_ (w1 := ?_) (by rfl) rfl ?_ ?_
 rotate_left
 ·go_simp
  rfl
 clear f6 y6
 refine hK.out _ _ ?_
 clear hK K
 refine dn_ HT_ ?_
 clear HT_ HW_ hHeld
 obtain ⟨W3,hW⟩ : ∃ W_,W_ = wd2.setCell ⟨wd,6,none⟩ (.int .u64 0) := ⟨_,rfl⟩
 rw [← hW]
 have q_ := HQS.out.cell (j := 6) (v := (.int .u64 0)) HQ.out HWB.out (by decide) HW.out
 rw [← hW] at q_
 replace HQ := Aside0.mk q_
 clear q_
 have q_ := blk_far HX.out (p := ⟨wd,6,none⟩) (tne HX.out HW.out (by decide)) (.int .u64 0)
 rw [← hW] at q_
 replace HX := Aside0.mk q_
 clear q_
 have q_ := blk_far H4.out (p := ⟨wd,6,none⟩) (tne H4.out HW.out (by decide)) (.int .u64 0)
 rw [← hW] at q_
 replace H4 := Aside0.mk q_
 clear q_
 have q_ := HFR.out.but.own (b := wd) (j := 6) (v := (.int .u64 0))
 rw [← hW] at q_
 replace HFR := Aside0.mk q_
 clear q_
 have q_ := (show (wd2.setCell ⟨wd,6,none⟩ (.int .u64 0)).heap[wd]? = some (.cells (wrc k d ver) 98 (0,0)) from blk_set HW.out 6 (.int .u64 0))
 rw [← hW] at q_
 replace HW := Aside0.mk q_
 clear q_
 clear hW
 go_upto_region 3 with fail
 refine st_ 18 (fun w' => w'.cell? ⟨wd,1,none⟩ = some (.int .i64 4) ∧ w'.cell? ⟨wd,2,none⟩ = some (.int .i64 2) ∧ w'.cell? ⟨wd,3,none⟩ = some (.float .f64 4607182418800017408) ∧ w'.cell? ⟨wd,4,none⟩ = some (.int .i64 0) ∧ w'.cell? ⟨wd,5,none⟩ = some (.pointer (some ⟨d,0,none⟩)) ∧ w'.cell? ⟨wd,6,none⟩ = some (.int .u64 0)) [12] ⟨(cD HW 1 rfl),(cD HW 2 rfl),(cD HW 3 rfl),(cD HW 4 rfl),(cD HW 5 rfl),(cD HW 6 rfl)⟩ fun hHeld => ?_
 refine with_tabW crash.tab3 crash.bits3 (fun HT_ HW_ => ?_)
 replace HX := mD HX
 replace H4 := mD H4
 replace HW := mD HW
 replace HQ := Aside0.mk (HQS.out.below _ _ HQ.out (below_drew (Below.refl _ _)))
 replace HFR := Aside0.mk (HFR.out.trans (Frm.below (below_drew (Below.refl _ _))).but)
 generalize W3.drew = wd3 at *
 refine pa_ 0 29 HT_ ?_
 refine pa_ 1 30 HT_ ?_
 refine pa_ 2 31 HT_ ?_
 refine pa_ 4 33 HT_ ?_
 refine pa_ 5 34 HT_ ?_
 refine pa_ 6 35 HT_ ?_
 refine pa_ 8 37 HT_ ?_
 refine pa_ 9 38 HT_ ?_
 refine pa_ 10 39 HT_ ?_
 refine ta_ 3 32 HT_ HW_ hHeld ?_
 refine ta_ 7 36 HT_ HW_ hHeld ?_
 refine ta_ 11 40 HT_ HW_ hHeld ?_
 refine la_ 12 HT_ fun K hK => ?_
 refine gc_ Tryz.func137 #[.pointer (some ⟨d,0,none⟩),.agg cnf,.int .u64 0] ?_
 with_reducible refine (HOP.out _ HQ.out).mono ?_
 rintro e_ wc ⟨ids,rfl,hid,hp,hrk,hrc,hf⟩
 refine ⟨_,rfl,?_⟩
 have HID := Aside0.mk hid
 have HP := Aside0.mk hp
 have HRK := Aside0.mk hrk
 have HRC := Aside0.mk hrc
 replace HFR := Aside0.mk (HFR.out.trans hf.but)
 replace HW := Aside0.mk (hf.row _ _ _ (by decide) HW.out)
 replace H4 := Aside0.mk (hf.row _ _ _ (by decide) H4.out)
 clear hid hp hrk hrc hf HX HQ
 refine hK.out _ _ ?_
 clear hK K
 refine no_ 41 ?_
 refine pa_ 13 28 HT_ ?_
 refine pa_ 14 42 HT_ ?_
 refine pa_ 15 43 HT_ ?_
 refine pa_ 16 5 HT_ ?_
 refine pa_ 17 6 HT_ ?_
 refine dn_ HT_ ?_
 clear HT_ HW_ hHeld
 have f0 := blk_frozen HW.out 0
 have y0 : wc.cell? ⟨wd,0,none⟩ = some (.pointer (some ⟨k,0,none⟩)) := cL HW 0 rfl
 go_upto_region 6 with fail
 clear f0 y0
 obtain ⟨W4,hW⟩ : ∃ W_,W_ = wc.setCell ⟨wd,0,none⟩ (.pointer (some ⟨ids.k,0,none⟩)) := ⟨_,rfl⟩
 rw [← hW]
 have q_ := (HS.out.st _).cell (j := 0) (v := (.pointer (some ⟨ids.k,0,none⟩))) HP.out HWB.out (by decide) HW.out
 rw [← hW] at q_
 replace HP := Aside0.mk q_
 clear q_
 have q_ := blk_far HRK.out (p := ⟨wd,0,none⟩) (tne HRK.out HW.out (by decide)) (.pointer (some ⟨ids.k,0,none⟩))
 rw [← hW] at q_
 replace HRK := Aside0.mk q_
 clear q_
 have q_ := blk_far HRC.out (p := ⟨wd,0,none⟩) (tne HRC.out HW.out (by decide)) (.pointer (some ⟨ids.k,0,none⟩))
 rw [← hW] at q_
 replace HRC := Aside0.mk q_
 clear q_
 have q_ := blk_far H4.out (p := ⟨wd,0,none⟩) (tne H4.out HW.out (by decide)) (.pointer (some ⟨ids.k,0,none⟩))
 rw [← hW] at q_
 replace H4 := Aside0.mk q_
 clear q_
 have q_ := HFR.out.own (j := 0) (v := (.pointer (some ⟨ids.k,0,none⟩)))
 rw [← hW] at q_
 replace HFR := Aside0.mk q_
 clear q_
 have q_ := (show (wc.setCell ⟨wd,0,none⟩ (.pointer (some ⟨ids.k,0,none⟩))).heap[wd]? = some (.cells (wrc ids.k ids.d ver) 98 (0,0)) from by rw [HID.out]; exact blk_set HW.out 0 (.pointer (some ⟨ids.k,0,none⟩)))
 rw [← hW] at q_
 replace HW := Aside0.mk q_
 clear q_
 clear hW
 go_wp2_with (refine sr_ 4 51 #[.int .i64 0,.string { data := #[] },.int .u64 0,.int .i64 0,.int .i64 0] H4.out ?_)
 refine rr_ (setRow_heap _ _ _ _ _ _ H4.out) Tryz.underlying59 ?_
 exact ⟨rfl,ids,(HS.out.st _).set HP.out (Nat.le_trans HBB.out G4.out) (by decide) H4.out _,mR _ HW.out (tne HW.out H4.out (by decide)),mR _ HRK.out (tne HRK.out H4.out (by decide)),mR _ HRC.out (tne HRC.out H4.out (by decide)),HFR.out.new _ G4.out⟩
theorem keep_new {w a b : World} {L : List Nat} (h : Below w.heap.size w a) (k : Keep L a b) (hL : ∀ q ∈ L,w.heap.size ≤ q) : Below w.heap.size w b :=
 ⟨k.os.trans h.os,k.tape.trans h.tape,k.output.trans h.output,Nat.le_trans h.size k.size,fun q hq => (k.block q (Nat.lt_of_lt_of_le hq h.size) fun hm => absurd (hL q hm) (by omega)).trans (h.block q hq)⟩
/-- What a disk holds behind a start. -/
def es1 : Array MapEntry := #[{ key := .int .i64 1,val := .agg #[.int .i64 1,.string (ckS 1 1 1 0 0)],born := 0 }]
theorem wonew_calls (w : World) :
 Calls Tryz.prog 17 #[.agg cnf] w fun e w' => ∃ (wd : Nat) (i : Ids) (nm pm am m oo ln ff fm : Nat),e = .returned (.tuple #[.pointer (some ⟨wd,0,none⟩),.int .i64 0]) ∧ w'.heap[wd]? = some (.cells (wrc i.k i.d 0) 98 (0,0)) ∧ Kos w' i.co i.ix i.d i.l i.wh nm pm am m oo ln ff (-3) (.slice none 0 0) es1 1 0 1 1 1 1 0 #[] 0 #[] 0 ∧ (w'.heap[i.k]? = some (.cells (dsc i.co i.cl) 76 (0,0)) ∧ w'.heap[i.cl]? = some (.cells clc 117 (0,0))) ∧ w'.heap[i.wh]? = some (.cells (wrow 0 fm am) 239 (0,0)) ∧ w'.heap[am]? = some (.map #[] 0) ∧ Below w.heap.size w w' ∧ w.heap.size ≤ wd ∧ ∀ q ∈ [i.k,i.co,i.ix,i.l,i.wh,nm,pm,am,i.d,m],w.heap.size ≤ q := by
 go_enter Tryz.func17,Tryz.ntmps17
 go_upto_region 1 with fail
 obtain ⟨W1,g1,hW_,hg1,H1,hb_⟩ := new1 w cnf 24
 rw [← hW_,← hg1.out]
 have HB := Aside0.mk hb_
 clear hW_ hb_
 have ld := fun (W : World) (h : W.heap[g1]? = some (.cells cnf 24 (0,0))) => h
 clear ld
 go_wp2_with (refine lr_ 1 H1.out Tryz.underlying24 ?_)
 refine (conf_calls _).mono ?_
 rintro e_ W2 ⟨rfl,hb⟩
 replace H1 := mb H1 hb
 replace HB := mS HB hb
 clear hb
 go_wp2_with (refine lr_ 1 H1.out Tryz.underlying24 ?_)
 refine (sectors_calls _).mono ?_
 rintro e_ W3 ⟨rfl,hb⟩
 replace H1 := mb H1 hb
 replace HB := mS HB hb
 clear hb
 go_wp2_with fail
 refine (dnew_calls _).mono ?_
 rintro e_ W4 ⟨d,m,rfl,hd,hm,gd,gm,hb⟩
 have HD := Aside0.mk hd
 have HM := Aside0.mk hm
 have GD : Aside0 (w.heap.size ≤ d) := ⟨Nat.le_trans HB.out.size gd⟩
 have GM : Aside0 (w.heap.size ≤ m) := ⟨Nat.le_trans HB.out.size gm⟩
 replace H1 := mb H1 hb
 replace HB := mS HB hb
 clear hb
 clear hd hm gd gm
 go_wp2_with (refine lr_ 1 H1.out Tryz.underlying24 ?_)
 refine (dmake_calls d m 0 #[] 0 _ HD.out HM.out (by decide) rfl).mono ?_
 rintro e_ W5 ⟨k,cl,co,ix,l,wh,nm,pm,am,oo,ln,ff,fm,rfl,hks,hk,hwh,ham,hkp,hge⟩
 have HKS := Aside0.mk hks
 have HK := Aside0.mk hk
 have HWH := Aside0.mk hwh
 have HAM := Aside0.mk ham
 have HGE : Aside0 (∀ q ∈ [k,co,ix,l,wh,nm,pm,am,d,m],w.heap.size ≤ q) := ⟨fun q hq => (List.mem_append.1 (show q ∈ [k,co,ix,l,wh,nm,pm,am] ++ [d,m] from hq)).elim (fun hq => Nat.le_trans HB.out.size (hge q hq)) (fun hq => by have h1 := GD.out; have h2 := GM.out; simp at hq; omega)⟩
 clear hge
 replace H1 := Aside0.mk (blk_keep H1.out hkp (by simp [tne H1.out HD.out (by decide),(map_ne HM.out H1.out).symm]))
 have HB2 : Aside0 (Below w.heap.size w W5) := ⟨keep_new HB.out hkp (by intro q hq; have h1 := GD.out; have h2 := GM.out; simp at hq; omega)⟩
 clear hks hk hwh ham hkp HB
 go_wp2_with (refine lr_ 1 H1.out Tryz.underlying24 ?_)
 have hb_ := below_alloc (Below.refl W5.heap.size W5) (.cells (wrc k d 0) 98)
 exact ret2 rfl rfl ⟨W5.heap.size,{ k,co,cl,ix,d,l,wh,ver := 0 },nm,pm,am,m,oo,ln,ff,fm,rfl,blk_new _ _,HKS.out.below hb_,⟨blk_below HK.out.1 hb_,blk_below HK.out.2 hb_⟩,blk_below HWH.out hb_,blk_below HAM.out hb_,below_alloc HB2.out _,HB2.out.size,HGE.out⟩
end Go.Proofs.YtokfjbbjkiilmaaGreatDoor.H
