/-
TopTorn: part of its walk (Co4, Rw).
-/
import Derived.Test.YtokfjbbjkiilmaaGreatDoorTO
set_option linter.unusedVariables false
set_option linter.unusedSimpArgs false
namespace Go.Proofs.YtokfjbbjkiilmaaGreatDoor.H
open Go.RowKit Go.Proofs.YtokfjbbjkiilmaaGreatDoorW.PrintWords Go.Proofs.YtokfjbbjkiilmaaGreatDoorW.PrintLast Go.Proofs.YtokfjbbjkiilmaaGreatDoorW.PrintMore
set_option maxHeartbeats 8000000
set_option maxRecDepth 100000
attribute [local go_sem] max2_int min2_int min_two max_two
/-- The blocks that a wheel's call may change. -/
structure Wof (w : World) (am : Nat) (L : List Nat) : Prop where
 map : ∃ es c,w.heap[am]? = some (.map es c)
 all : ∀ q ∈ L,q = am ∨ ∃ cs t,(t = 239 ∨ t = 317) ∧ w.heap[q]? = some (.cells cs t (0,0))
section
variable {w w' : World} {L : List Nat} {am : Nat}
theorem Wof.row {a t : Nat} {cs : Array Value} (h : Wof w am L) (hr : w.heap[a]? = some (.cells cs t (0,0))) (h1 : t ≠ 239) (h2 : t ≠ 317) : a ∉ L := fun hm => by
 obtain ⟨es,c,hmap⟩ := h.map
 rcases h.all a hm with rfl | ⟨cs',t',h3,h4⟩
 ·rw [hr] at hmap; cases hmap
 ·rw [hr] at h4; cases h4; exact h3.elim h1 h2
theorem Wof.no {a : Nat} {es : Array MapEntry} {c : Nat} (h : Wof w am L) (hr : w.heap[a]? = some (.map es c)) (h1 : a ≠ am) : a ∉ L := fun hm => by
 rcases h.all a hm with rfl | ⟨cs',t',h3,h4⟩
 ·exact h1 rfl
 ·rw [hr] at h4; cases h4
theorem Wof.own {e : TypeId} {z n : Nat} {v : Value} {xs : List Value} (h : Wof w am L) (ho : w.ownsRow 0 e z v n xs) (h1 : e ≠ 239) (h2 : e ≠ 317) : ∀ q,v.ownBlock = some q → q ∉ L := fun q hq => by
 obtain ⟨_,h3⟩ := ho
 rcases h3 with ⟨rfl,_⟩ | ⟨b,cap,cur,rfl,hb,hh,hr⟩
 ·cases hq
 ·cases hq; exact h.row hh h1 h2
variable {co ix d l wh nm pm m oo ln ff : Nat} {left : Int} {v : Value} {es : Array MapEntry} {c : Nat} {k x lsn ep gen ver : Int} {ns : Array MapEntry} {cn : Nat} {ps : Array MapEntry} {cp : Nat}
theorem Kos.wheel (h : Kos w co ix d l wh nm pm am m oo ln ff left v es c k x lsn ep gen ver ns cn ps cp) (kk : Keep L w w') (hw : Wof w am L) : Kos w' co ix d l wh nm pm am m oo ln ff left v es c k x lsn ep gen ver ns cn ps cp := by
 have hn := h.nd
 simp at hn
 exact ⟨blk_keep h.hc kk (hw.row h.hc (by decide) (by decide)),blk_keep h.hx kk (hw.row h.hx (by decide) (by decide)),blk_keep h.hn kk (hw.no h.hn (by omega)),blk_keep h.hp kk (hw.no h.hp (by omega)),h.lg.keep kk ⟨hw.row h.lg.hd (by decide) (by decide),hw.no h.lg.hm (by omega),hw.row h.lg.hl (by decide) (by decide),hw.row h.lg.ho (by decide) (by decide),hw.row h.lg.hn (by decide) (by decide),hw.row h.lg.hf (by decide) (by decide)⟩,h.nd⟩
/-- A core's facts, where a row of another type is stored to. -/
theorem Kos.other {a t : Nat} {cs : Array Value} {L' : List Nat} (h : Kos w co ix d l wh nm pm am m oo ln ff left v es c k x lsn ep gen ver ns cn ps cp) (kk : Keep [a] w w') (ha : w.heap[a]? = some (.cells cs t (0,0))) (ht : t ∉ [132,232,108,242,3,35]) : Kos w' co ix d l wh nm pm am m oo ln ff left v es c k x lsn ep gen ver ns cn ps cp := by
 have hr : ∀ (b t2 : Nat) (cs2 : Array Value),w.heap[b]? = some (.cells cs2 t2 (0,0)) → t2 ∈ [132,232,108,242,3,35] → b ∉ [a] := fun b t2 cs2 h1 h2 h3 => by
  rw [List.mem_singleton.1 h3,ha] at h1; cases h1; exact ht h2
 have hm : ∀ (b : Nat) (e2 : Array MapEntry) (c2 : Nat),w.heap[b]? = some (.map e2 c2) → b ∉ [a] := fun b e2 c2 h1 h3 => by
  rw [List.mem_singleton.1 h3,ha] at h1; cases h1
 exact ⟨blk_keep h.hc kk (hr _ _ _ h.hc (by decide)),blk_keep h.hx kk (hr _ _ _ h.hx (by decide)),blk_keep h.hn kk (hm _ _ _ h.hn),blk_keep h.hp kk (hm _ _ _ h.hp),h.lg.keep kk ⟨hr _ _ _ h.lg.hd (by decide),hm _ _ _ h.lg.hm,hr _ _ _ h.lg.hl (by decide),hr _ _ _ h.lg.ho (by decide),hr _ _ _ h.lg.hn (by decide),hr _ _ _ h.lg.hf (by decide)⟩,h.nd⟩
end
def cchange.T5 : Bool × List (List Nat × List Nat) := (true,[([],[]),([0],[0]),([1],[1]),([2],[2]),([],[]),([4],[4]),([3,5],[3,5]),([6],[6]),([7],[7]),([7],[7]),([],[]),([10,8,6,0,1,2,3,4,5,6,7,8,10],[8,10]),([9,11,0,1,2,3,4,5,6,7,8,9,10,11],[9])])
def cchange.B5 : List Nat := [0,1,3,7,0,16,63,127,255,255,0,1535,4095]
theorem cchange.tab5 : rtab .any (opsOf Tryz.f129 5) = cchange.T5 := by kernel_rfl
theorem cchange.bits5 : waitsOk cchange.T5.2 cchange.B5 = true := by kernel_rfl
theorem cchange_calls (co ix d l wh nm pm am m oo ln ff : Nat) (left : Int) (es : Array MapEntry) (c : Nat) (k x lsn ep gen ver0 : Int) (ns : Array MapEntry) (cn : Nat) (ps : Array MapEntry) (cp : Nat) (dl : Int) (s : ByteArray) (ps' : Array MapEntry) (cp' cn' : Nat) (ns' : Int → Array MapEntry) (v1 dl1 sz1 sg1 sl1 : Int) (lv1 b1 : Bool) (P : World → Prop) (L : List Nat) (w : World) (h : Kos w co ix d l wh nm pm am m oo ln ff left (.slice none 0 0) es c k x lsn ep gen ver0 ns cn ps cp) (hok : lok lsn ep (ver0 + 1) dl s) (hl1 : lsn + 1 < 18446744073709551616) (hk : k = 0 ∨ k = 1) (hlf : -1000 ≤ left ∧ left ≤ 0) (hlp : ∀ W : World,W.heap[pm]? = some (.map ps cp) → (Instr.lookup 230 (.map (some pm)) (.agg #[.int .i64 0,.int .i64 k]) true).run Tryz.prog W = .ok (.tuple #[.agg #[.string { data := #[] }],.bool false]) W) (hup : ∀ W : World,W.heap[pm]? = some (.map ps cp) → (Instr.mapUpdate 230 (.map (some pm)) (.agg #[.int .i64 0,.int .i64 k]) (.agg #[.string idA])).run Tryz.prog W = .ok () (setMap W pm ps' cp')) (hlk : ∀ W : World,W.heap[nm]? = some (.map ns cn) → (Instr.lookup 229 (.map (some nm)) (.string idA) true).run Tryz.prog W = .ok (.tuple #[.agg #[.int .u64 v1,.int .u64 dl1,.bool lv1,.int .i64 sz1,.int .i64 sg1,.int .i64 sl1],.bool b1]) W) (hun : ∀ (z : Int) (W : World),W.heap[nm]? = some (.map ns cn) → (Instr.mapUpdate 229 (.map (some nm)) (.string idA) (.agg #[.int .u64 (ver0 + 1),.int .u64 dl,.bool true,.int .i64 z,.int .i64 0,.int .i64 k])).run Tryz.prog W = .ok () (setMap W nm (ns' z) cn')) (hv : v1 ≤ ver0 + 1) (hl2 : ∀ (z : Int) (W : World),W.heap[nm]? = some (.map (ns' z) cn') → (Instr.lookup 229 (.map (some nm)) (.string idA) true).run Tryz.prog W = .ok (.tuple #[.agg #[.int .u64 (ver0 + 1),.int .u64 dl,.bool true,.int .i64 z,.int .i64 0,.int .i64 k],.bool true]) W) (hdl : 0 < dl) (hwn : Whn w wh) (hwl : ∀ W : World,Keep [d,l,nm,pm,co] w W → Wof W am L ∧ Calls Tryz.prog 215 #[.pointer (some ⟨wh,0,none⟩),.string idA,.int .u64 dl] W fun e w' => ∃ b : Bool,e = .returned (.bool b) ∧ P w' ∧ Keep L W w') (hP : ∀ (W W' : World) (g : Nat) (cs : Array Value),P W → W.heap[g]? = some (.cells cs 39 (0,0)) → Keep [g] W W' → P W') :
 Calls Tryz.prog 129 #[.pointer (some ⟨co,0,none⟩),.agg #[.int .u64 0,.int .u32 0,.int .i64 1,.int .u64 0,.int .u64 dl,.string idA,.string s]] w fun e w' => e = .returned (.int .i64 0) ∧ ∃ (v2 : Value) (ao al af : Nat) (z : Int),w'.ownsRow 0 286 2 v2 1 [.int .i64 (2 + k),.string (lrec lsn ep (ver0 + 1) dl s).enc] ∧ Kos w' co ix d l wh nm pm am m ao al af (left - 1) v2 es c (k + 1) x (lsn + 1) ep gen (ver0 + 1) (ns' z) cn' ps' cp' ∧ P w' ∧ Keep ([d,l,nm,pm,co] ++ L) w w' := by
 have H := Aside0.mk h
 have HOK := Aside0.mk hok
 have HL1 := Aside0.mk hl1
 have HK := Aside0.mk hk
 have HLF := Aside0.mk hlf
 have HLP := Aside0.mk hlp
 have HUP := Aside0.mk hup
 have HLK := Aside0.mk hlk
 have HUN := Aside0.mk hun
 have HVV := Aside0.mk hv
 have HL2 := Aside0.mk hl2
 have HDL := Aside0.mk hdl
 have HWN := Aside0.mk hwn
 have HWL := Aside0.mk hwl
 have HPP := Aside0.mk hP
 have hw1 : IntKind.u64.wrap (ver0 + 1) = ver0 + 1 := by have := hok.ver; simp only [IntKind.wrap_u64]; omega
 have HWT : Aside0 (wh ≠ d ∧ wh ≠ l ∧ wh ≠ nm ∧ wh ≠ pm ∧ wh ≠ co) := ⟨by obtain ⟨cs_,h1,_⟩ := hwn; exact ⟨tne h1 h.lg.hd (by decide),tne h1 h.lg.hl (by decide),(map_ne h.hn h1).symm,(map_ne h.hp h1).symm,tne h1 h.hc (by decide)⟩⟩
 clear h hok hl1 hk hlf hlp hup hlk hun hv hl2 hdl hwn hwl hP
 go_enter_defers Tryz.func129,Tryz.ntmps129
 go_upto_region 2 with fail
 obtain ⟨W1,g3,g4,hW_,hg3,hg4,H3,H4,hb_⟩ := new2 w #[.int .u64 0,.int .u32 0,.int .i64 1,.int .u64 0,.int .u64 dl,.string idA,.string s] 188 #[.int .i64 0] 39
 rw [← hW_,← hg4.out,← hg3.out]
 have HB := Aside0.mk hb_
 clear hW_ hb_
 have G3 : Aside0 (w.heap.size ≤ g3) := ⟨by have := hg3.out; omega⟩
 have G4 : Aside0 (w.heap.size ≤ g4) := ⟨by have := hg4.out; omega⟩
 have y0 : W1.cell? ⟨co,4,none⟩ = some (.int .u64 ver0) := (blk_cell (blk_below H.out.hc HB.out) 4).trans rfl
 have f3 := blk_frozen H3.out 3
 have z0 : W1.cell? ⟨g3,0,none⟩ = some (.int .u64 0) := cL H3 0 rfl
 have z1 : W1.cell? ⟨g3,1,none⟩ = some (.int .u32 0) := cL H3 1 rfl
 have z2 : W1.cell? ⟨g3,2,none⟩ = some (.int .i64 1) := cL H3 2 rfl
 have z3 : W1.cell? ⟨g3,3,none⟩ = some (.int .u64 0) := cL H3 3 rfl
 have z4 : W1.cell? ⟨g3,4,none⟩ = some (.int .u64 dl) := cL H3 4 rfl
 have z5 : W1.cell? ⟨g3,5,none⟩ = some (.string idA) := cL H3 5 rfl
 have z6 : W1.cell? ⟨g3,6,none⟩ = some (.string s) := cL H3 6 rfl
 go_upto_region 3 with fail
 clear y0 f3 z0 z1 z2 z3 z4 z5 z6
 obtain ⟨W2,hW_⟩ : ∃ W_,W_ = (W1.setCell ⟨g3,3,none⟩ (.int .u64 (ver0 + 1))) := ⟨_,rfl⟩
 rw [← hW_]
 have q_ := (blk_far H4.out (p := ⟨g3,3,none⟩) (tne H4.out H3.out (by decide)) (.int .u64 (ver0 + 1)))
 rw [← hW_] at q_
 replace H4 := Aside0.mk q_
 clear q_
 have q_ : W2.heap[g3]? = some (.cells #[.int .u64 0,.int .u32 0,.int .i64 1,.int .u64 (ver0 + 1),.int .u64 dl,.string idA,.string s] 188 (0,0)) := by rw [hW_]; exact (blk_set H3.out 3 (.int .u64 (ver0 + 1)))
 replace H3 := Aside0.mk q_
 clear q_
 have q_ : Below w.heap.size w W2 := by rw [hW_]; exact (below_set HB.out G3.out)
 replace HB := Aside0.mk q_
 clear q_
 clear hW_
 go_wp2_with (refine lr_ 3 H3.out Tryz.underlying188 ?_)
 refine (cput_calls co ix d l wh nm pm am m oo ln ff left es c k x lsn ep gen ver0 ns cn ps cp 0 0 (ver0 + 1) dl s ps' cp' cn' ns' v1 dl1 sz1 sg1 sl1 lv1 b1 _ (H.out.below HB.out) HOK.out HL1.out HK.out HLF.out HLP.out HUP.out HLK.out HUN.out HVV.out).mono ?_
 rintro e_ W3 ⟨rfl,v2,ao,al,af,z,ho,hks,hk⟩
 replace H3 := Aside0.mk (blk_keep H3.out hk (by simp [tne H3.out (blk_below H.out.lg.hd HB.out) (by decide),tne H3.out (blk_below H.out.lg.hl HB.out) (by decide),(map_ne (blk_below H.out.hn HB.out) H3.out).symm,(map_ne (blk_below H.out.hp HB.out) H3.out).symm]))
 replace H4 := Aside0.mk (blk_keep H4.out hk (by simp [tne H4.out (blk_below H.out.lg.hd HB.out) (by decide),tne H4.out (blk_below H.out.lg.hl HB.out) (by decide),(map_ne (blk_below H.out.hn HB.out) H4.out).symm,(map_ne (blk_below H.out.hp HB.out) H4.out).symm]))
 have HOW := Aside0.mk ho
 have HKS := Aside0.mk hks
 have HKP : Aside0 (Keep [d,l,nm,pm,co] w W3) := ⟨(Keep.below HB.out).trans (hk.mono (fun q _ h => by simp at h ⊢; omega))⟩
 clear ho hks hk HB
 have y0 : W3.cell? ⟨co,4,none⟩ = some (.int .u64 ver0) := (blk_cell HKS.out.hc 4).trans rfl
 have f0 := blk_frozen HKS.out.hc 4
 go_upto_region 5 with fail
 clear y0 f0
 rw [setCell_eq_setRow W3 co 4 _ _ _ _ HKS.out.hc]
 change Code.wp _ _ _ _ (W3.setRow co (coc ix d l wh (ver0 + 1)))
 obtain ⟨W4,hW⟩ : ∃ W_,W_ = W3.setRow co (coc ix d l wh (ver0 + 1)) := ⟨_,rfl⟩
 rw [← hW]
 have q_ := mR (coc ix d l wh (ver0 + 1)) H3.out (tne H3.out HKS.out.hc (by decide))
 rw [← hW] at q_
 replace H3 := Aside0.mk q_
 clear q_
 have q_ := mR (coc ix d l wh (ver0 + 1)) H4.out (tne H4.out HKS.out.hc (by decide))
 rw [← hW] at q_
 replace H4 := Aside0.mk q_
 clear q_
 have q_ := own_keep HOW.out (fun q hq => setRow_other W3 co q (coc ix d l wh (ver0 + 1)) (own_ne HOW.out HKS.out.hc (by decide) q hq))
 rw [← hW] at q_
 replace HOW := Aside0.mk q_
 clear q_
 have q_ := HKP.out.setRow (g := co) (coc ix d l wh (ver0 + 1)) (.inl (by simp))
 rw [← hW] at q_
 replace HKP := Aside0.mk q_
 clear q_
 have q_ := (show Kos (W3.setRow co (coc ix d l wh (ver0 + 1))) co ix d l wh nm pm am m ao al af (left - 1) v2 es c (k + 1) x (lsn + 1) ep gen (ver0 + 1) (ns' z) cn' ps' cp' from ⟨setRow_heap W3 co _ (coc ix d l wh (ver0 + 1)) _ _ HKS.out.hc,mR _ HKS.out.hx (tne HKS.out.hx HKS.out.hc (by decide)),mR _ HKS.out.hn (map_ne HKS.out.hn HKS.out.hc),mR _ HKS.out.hp (map_ne HKS.out.hp HKS.out.hc),HKS.out.lg.keep ((Keep.refl [co] W3).setRow (g := co) (coc ix d l wh (ver0 + 1)) (.inl (by simp))) ⟨(by simp [tne HKS.out.lg.hd HKS.out.hc (by decide)]),(by simp [(map_ne HKS.out.lg.hm HKS.out.hc)]),(by simp [tne HKS.out.lg.hl HKS.out.hc (by decide)]),(by simp [tne HKS.out.lg.ho HKS.out.hc (by decide)]),(by simp [tne HKS.out.lg.hn HKS.out.hc (by decide)]),(by simp [tne HKS.out.lg.hf HKS.out.hc (by decide)])⟩,HKS.out.nd⟩)
 rw [← hW] at q_
 replace HKS := Aside0.mk q_
 clear q_
 clear hW
 have HB := Aside0.mk (Below.refl W4.heap.size W4)
 refine noOut' ?_
 refine st_ 13 (fun w' => w'.cell? ⟨co,0,none⟩ = some (.pointer (some ⟨ix,0,none⟩)) ∧ w'.cell? ⟨g3,5,none⟩ = some (.string idA)) [11] ⟨((blk_cell (blk_below HKS.out.hc (below_drew HB.out)) 0).trans rfl),(cD H3 5 rfl)⟩ fun hHeld => ?_
 refine with_tabW cchange.tab5 cchange.bits5 (fun HT_ HW_ => ?_)
 replace H3 := mD H3
 replace H4 := mD H4
 replace HB := bD HB
 generalize W4.drew = wd1 at *
 refine pa_ 0 24 HT_ ?_
 refine pa_ 1 25 HT_ ?_
 refine pa_ 2 26 HT_ ?_
 refine pa_ 4 28 HT_ ?_
 refine ta_ 3 27 HT_ HW_ hHeld ?_
 refine ta_ 5 29 HT_ HW_ hHeld ?_
 refine jn_ (σ := Nat) 2 [11,2] (fun s_ => [(30,.tuple #[.agg #[.int .u64 (ver0 + 1),.int .u64 dl,.bool true,.int .i64 z,.int .i64 0,.int .i64 k],.bool true]),(5,.pointer (some ⟨s_,0,none⟩)),(23,.tuple #[.agg #[.int .u64 (ver0 + 1),.int .u64 dl,.bool true,.int .i64 z,.int .i64 0,.int .i64 k],.bool true]),(31,.agg #[.int .u64 (ver0 + 1),.int .u64 dl,.bool true,.int .i64 z,.int .i64 0,.int .i64 k]),(32,.bool true)]) (fun s_ w' => w'.heap[g3]? = some (.cells #[.int .u64 0,.int .u32 0,.int .i64 1,.int .u64 (ver0 + 1),.int .u64 dl,.string idA,.string s] 188 (0,0)) ∧ w'.heap[g4]? = some (.cells #[.int .i64 0] 39 (0,0)) ∧ w'.heap[s_]? = some (.cells #[.int .u64 0,.int .u64 0,.bool false,.int .i64 0,.int .i64 0,.int .i64 0] 183 (0,0)) ∧ W4.heap.size ≤ s_ ∧ s_ ≠ g3 ∧ s_ ≠ g4 ∧ Below W4.heap.size W4 w') ?_ ?_
 rotate_left
 ·intro hJ6_10
  refine jn_ (σ := Unit) 3 [10,3] (fun s_ => [(30,.tuple #[.agg #[.int .u64 (ver0 + 1),.int .u64 dl,.bool true,.int .i64 z,.int .i64 0,.int .i64 k],.bool true]),(23,.tuple #[.agg #[.int .u64 (ver0 + 1),.int .u64 dl,.bool true,.int .i64 z,.int .i64 0,.int .i64 k],.bool true]),(31,.agg #[.int .u64 (ver0 + 1),.int .u64 dl,.bool true,.int .i64 z,.int .i64 0,.int .i64 k]),(32,.bool true)]) (fun s_ w' => w'.heap[g3]? = some (.cells #[.int .u64 0,.int .u32 0,.int .i64 1,.int .u64 (ver0 + 1),.int .u64 dl,.string idA,.string s] 188 (0,0)) ∧ w'.heap[g4]? = some (.cells #[.int .i64 0] 39 (0,0)) ∧ Below W4.heap.size W4 w') ?_ ?_
  rotate_left
  ·intro hJ6
   refine jn_ (σ := Nat) 6 [6,4,1,2] (fun s_ => [(5,.pointer (some ⟨s_,0,none⟩))]) (fun s_ w' => w'.heap[g3]? = some (.cells #[.int .u64 0,.int .u32 0,.int .i64 1,.int .u64 (ver0 + 1),.int .u64 dl,.string idA,.string s] 188 (0,0)) ∧ w'.heap[g4]? = some (.cells #[.int .i64 0] 39 (0,0)) ∧ w'.heap[s_]? = some (.cells #[.int .u64 0,.int .u64 0,.bool false,.int .i64 0,.int .i64 0,.int .i64 0] 183 (0,0)) ∧ W4.heap.size ≤ s_ ∧ s_ ≠ g3 ∧ s_ ≠ g4 ∧ Below W4.heap.size W4 w') ?_ ?_
   rotate_left
   ·intro hJ10
    refine tw_ 6 10 HT_ (fun K hK => ?_) fun K hK => ?_
    ·skip
     refine gc_ Tryz.func117 #[.pointer (some ⟨ix,0,none⟩),.string idA] ?_
     with_reducible refine (newest_calls ix nm pm cn' (ns' z) (ver0 + 1) dl z 0 k true true _ (blk_below HKS.out.hx HB.out) (blk_below HKS.out.hn HB.out) (HL2.out z)).mono ?_
     rintro e_ wk ⟨rfl,hb⟩
     refine ⟨_,rfl,?_⟩
     replace H3 := mb H3 hb
     replace H4 := mb H4 hb
     replace HB := mS HB hb
     clear hb
     refine hK.out _ _ ⟨((blk_cell (blk_below HKS.out.hc HB.out) 0).trans rfl),(cL H3 5 rfl)⟩ (fun hHeld => ?_)
     clear hK K
     refine no_ 30 ?_
     refine pa_ 7 23 HT_ ?_
     refine pa_ 8 31 HT_ ?_
     refine pa_ 9 32 HT_ ?_
     exact nx_ (hJ6 () _ ⟨H3.out,H4.out,HB.out⟩)
    ·skip
     refine va_ ?_
     obtain ⟨wk,hW⟩ : ∃ W_,W_ = wd1.alloc (.cells #[.int .u64 0,.int .u64 0,.bool false,.int .i64 0,.int .i64 0,.int .i64 0] 183) := ⟨_,rfl⟩
     obtain ⟨b5,hh⟩ : ∃ g_,g_ = wd1.heap.size := ⟨_,rfl⟩
     rw [← hW,← hh]
     have HGb5 : Aside0 (W4.heap.size ≤ b5) := ⟨by rw [hh]; exact HB.out.size⟩
     have HAb5_g3 : Aside0 (b5 ≠ g3) := ⟨by rw [hh]; exact (Nat.ne_of_lt (blk_lt H3.out)).symm⟩
     have HAb5_g4 : Aside0 (b5 ≠ g4) := ⟨by rw [hh]; exact (Nat.ne_of_lt (blk_lt H4.out)).symm⟩
     have hb_ : Below wd1.heap.size wd1 wk := by rw [hW]; exact below_alloc (Below.refl _ _) _
     replace H3 := mb H3 hb_
     replace H4 := mb H4 hb_
     replace HB := mS HB hb_
     have HRb5 : Aside0 (wk.heap[b5]? = some (.cells #[.int .u64 0,.int .u64 0,.bool false,.int .i64 0,.int .i64 0,.int .i64 0] 183 (0,0))) := ⟨by rw [hW,hh]; exact blk_new _ _⟩
     clear hW hh hb_
     refine hK.out _ _ ⟨((blk_cell (blk_below HKS.out.hc HB.out) 0).trans rfl),(cL H3 5 rfl)⟩ (fun hHeld => ?_)
     clear hK K
     refine no_ 5 ?_
     exact nx_ (hJ10 b5 _ ⟨H3.out,H4.out,HRb5.out,HGb5.out,HAb5_g3.out,HAb5_g4.out,HB.out⟩)
   ·skip
    rintro b5 wj ⟨h_0,h_1,h_2,h_3,h_4,h_5,h_6⟩
    try dsimp only at h_0 h_1 h_2 h_3 h_4 h_5 h_6
    clear H3 H4 HB
    have H3 := Aside0.mk h_0
    have H4 := Aside0.mk h_1
    have HRb5 := Aside0.mk h_2
    have HGb5 := Aside0.mk h_3
    have HAb5_g3 := Aside0.mk h_4
    have HAb5_g4 := Aside0.mk h_5
    have HB := Aside0.mk h_6
    clear h_0 h_1 h_2 h_3 h_4 h_5 h_6
    refine hd_ ⟨((blk_cell (blk_below HKS.out.hc HB.out) 0).trans rfl),(cL H3 5 rfl)⟩ fun hHeld => ?_
    refine na_ ?_
    refine on_ 6 HT_ fun K hK => ?_
    refine gc_ Tryz.func117 #[.pointer (some ⟨ix,0,none⟩),.string idA] ?_
    with_reducible refine (newest_calls ix nm pm cn' (ns' z) (ver0 + 1) dl z 0 k true true _ (blk_below HKS.out.hx HB.out) (blk_below HKS.out.hn HB.out) (HL2.out z)).mono ?_
    rintro e_ wk ⟨rfl,hb⟩
    refine ⟨_,rfl,?_⟩
    replace H3 := mb H3 hb
    replace H4 := mb H4 hb
    replace HRb5 := mb HRb5 hb
    replace HB := mS HB hb
    clear hb
    refine hK.out _ _ ⟨((blk_cell (blk_below HKS.out.hc HB.out) 0).trans rfl),(cL H3 5 rfl)⟩ (fun hHeld => ?_)
    clear hK K
    refine no_ 30 ?_
    refine pa_ 7 23 HT_ ?_
    refine pa_ 8 31 HT_ ?_
    refine pa_ 9 32 HT_ ?_
    exact nx_ (hJ6_10 b5 _ ⟨H3.out,H4.out,HRb5.out,HGb5.out,HAb5_g3.out,HAb5_g4.out,HB.out⟩)
  ·skip
   rintro ⟨⟩ wj ⟨h_0,h_1,h_2⟩
   try dsimp only at h_0 h_1 h_2
   clear H3 H4 HB
   have H3 := Aside0.mk h_0
   have H4 := Aside0.mk h_1
   have HB := Aside0.mk h_2
   clear h_0 h_1 h_2
   refine hd_ ⟨((blk_cell (blk_below HKS.out.hc HB.out) 0).trans rfl),(cL H3 5 rfl)⟩ fun hHeld => ?_
   refine na_ ?_
   refine on_ 10 HT_ fun K hK => ?_
   refine va_ ?_
   obtain ⟨wk,hW⟩ : ∃ W_,W_ = wj.alloc (.cells #[.int .u64 0,.int .u64 0,.bool false,.int .i64 0,.int .i64 0,.int .i64 0] 183) := ⟨_,rfl⟩
   obtain ⟨b5,hh⟩ : ∃ g_,g_ = wj.heap.size := ⟨_,rfl⟩
   rw [← hW,← hh]
   have HGb5 : Aside0 (W4.heap.size ≤ b5) := ⟨by rw [hh]; exact HB.out.size⟩
   have HAb5_g3 : Aside0 (b5 ≠ g3) := ⟨by rw [hh]; exact (Nat.ne_of_lt (blk_lt H3.out)).symm⟩
   have HAb5_g4 : Aside0 (b5 ≠ g4) := ⟨by rw [hh]; exact (Nat.ne_of_lt (blk_lt H4.out)).symm⟩
   have hb_ : Below wj.heap.size wj wk := by rw [hW]; exact below_alloc (Below.refl _ _) _
   replace H3 := mb H3 hb_
   replace H4 := mb H4 hb_
   replace HB := mS HB hb_
   have HRb5 : Aside0 (wk.heap[b5]? = some (.cells #[.int .u64 0,.int .u64 0,.bool false,.int .i64 0,.int .i64 0,.int .i64 0] 183 (0,0))) := ⟨by rw [hW,hh]; exact blk_new _ _⟩
   clear hW hh hb_
   refine hK.out _ _ ⟨((blk_cell (blk_below HKS.out.hc HB.out) 0).trans rfl),(cL H3 5 rfl)⟩ (fun hHeld => ?_)
   clear hK K
   refine no_ 5 ?_
   exact nx_ (hJ6_10 b5 _ ⟨H3.out,H4.out,HRb5.out,HGb5.out,HAb5_g3.out,HAb5_g4.out,HB.out⟩)
 rintro b5 wj ⟨h_0,h_1,h_2,h_3,h_4,h_5,h_6⟩
 try dsimp only at h_0 h_1 h_2 h_3 h_4 h_5 h_6
 clear H3 H4 HB
 have H3 := Aside0.mk h_0
 have H4 := Aside0.mk h_1
 have HRb5 := Aside0.mk h_2
 have HGb5 := Aside0.mk h_3
 have HAb5_g3 := Aside0.mk h_4
 have HAb5_g4 := Aside0.mk h_5
 have HB := Aside0.mk h_6
 clear h_0 h_1 h_2 h_3 h_4 h_5 h_6
 refine hd_ ⟨((blk_cell (blk_below HKS.out.hc HB.out) 0).trans rfl),(cL H3 5 rfl)⟩ fun hHeld => ?_
 refine na_ ?_
 refine la_ 11 HT_ fun K hK => ?_
 refine sR_ 5 31 #[.int .u64 (ver0 + 1),.int .u64 dl,.bool true,.int .i64 z,.int .i64 0,.int .i64 k] HRb5.out ?_
 refine hK.out _ _ ?_
 clear hK K
 refine pa_ 12 6 HT_ ?_
 refine dn_ HT_ ?_
 clear HT_ HW_ hHeld
 dsimp only [Go.Proofs.YtokfjbbjkiilmaaGreatDoor.Rf.QN]
 obtain ⟨W5,hW⟩ : ∃ W_,W_ = wj.setRow b5 #[.int .u64 (ver0 + 1),.int .u64 dl,.bool true,.int .i64 z,.int .i64 0,.int .i64 k] := ⟨_,rfl⟩
 rw [← hW]
 have q_ := mR #[.int .u64 (ver0 + 1),.int .u64 dl,.bool true,.int .i64 z,.int .i64 0,.int .i64 k] H3.out HAb5_g3.out.symm
 rw [← hW] at q_
 replace H3 := Aside0.mk q_
 clear q_
 have q_ := mR #[.int .u64 (ver0 + 1),.int .u64 dl,.bool true,.int .i64 z,.int .i64 0,.int .i64 k] H4.out HAb5_g4.out.symm
 rw [← hW] at q_
 replace H4 := Aside0.mk q_
 clear q_
 have q_ := below_setRow HB.out HGb5.out #[.int .u64 (ver0 + 1),.int .u64 dl,.bool true,.int .i64 z,.int .i64 0,.int .i64 k]
 rw [← hW] at q_
 replace HB := Aside0.mk q_
 clear q_
 have q_ := setRow_heap wj b5 _ #[.int .u64 (ver0 + 1),.int .u64 dl,.bool true,.int .i64 z,.int .i64 0,.int .i64 k] _ _ HRb5.out
 rw [← hW] at q_
 replace HRb5 := Aside0.mk q_
 clear q_
 clear hW
 replace HKS : Aside0 (Kos W5 co ix d l wh nm pm am m ao al af (left - 1) v2 es c (k + 1) x (lsn + 1) ep gen (ver0 + 1) (ns' z) cn' ps' cp') := ⟨HKS.out.below HB.out⟩
 replace HOW : Aside0 (W5.ownsRow 0 286 2 v2 1 [.int .i64 (2 + k),.string (lrec lsn ep (ver0 + 1) dl s).enc]) := ⟨own_keep HOW.out (fun q hq => HB.out.block q (own_lt HOW.out q hq))⟩
 replace HKP : Aside0 (Keep [d,l,nm,pm,co] w W5) := ⟨HKP.out.trans (Keep.below HB.out)⟩
 clear HB
 have z0 : W5.cell? ⟨g3,0,none⟩ = some (.int .u64 0) := cL H3 0 rfl
 have z1 : W5.cell? ⟨g3,1,none⟩ = some (.int .u32 0) := cL H3 1 rfl
 have z2 : W5.cell? ⟨g3,2,none⟩ = some (.int .i64 1) := cL H3 2 rfl
 have z3 : W5.cell? ⟨g3,3,none⟩ = some (.int .u64 (ver0 + 1)) := cL H3 3 rfl
 have z4 : W5.cell? ⟨g3,4,none⟩ = some (.int .u64 dl) := cL H3 4 rfl
 have z5 : W5.cell? ⟨g3,5,none⟩ = some (.string idA) := cL H3 5 rfl
 have z6 : W5.cell? ⟨g3,6,none⟩ = some (.string s) := cL H3 6 rfl
 go_wp2_with (refine lr_ 5 HRb5.out Tryz.underlying183 ?_)
 clear z0 z1 z2 z3 z4 z5 z6
 have hwn5 := HWN.out.keep HKP.out (by have h1 := HWT.out; simp only [List.mem_cons,List.not_mem_nil,or_false,not_or]; exact h1)
 have hw0 : W5.cell? ⟨wh,0,none⟩ = some (.int .u64 0) := by obtain ⟨cs_,h1,h2⟩ := hwn5; exact (blk_cell h1 0).trans h2
 refine (ctime_calls co ix d l wh (ver0 + 1) (ver0 + 1) dl z 0 k P L _ HKS.out.hc hw0 HDL.out (fun W hW => (HWL.out W (HKP.out.trans (Keep.below hW))).2)).mono ?_
 rintro e_ W6 ⟨rfl,hp,hk⟩
 have hwo := (HWL.out W5 HKP.out).1
 have HPW := Aside0.mk hp
 replace H4 := Aside0.mk (blk_keep H4.out hk (hwo.row H4.out (by decide) (by decide)))
 replace HOW : Aside0 (W6.ownsRow 0 286 2 v2 1 [.int .i64 (2 + k),.string (lrec lsn ep (ver0 + 1) dl s).enc]) := ⟨own_keep HOW.out (fun q hq => hk.block q (own_lt HOW.out q hq) (hwo.own HOW.out (by decide) (by decide) q hq))⟩
 replace HKS : Aside0 (Kos W6 co ix d l wh nm pm am m ao al af (left - 1) v2 es c (k + 1) x (lsn + 1) ep gen (ver0 + 1) (ns' z) cn' ps' cp') := ⟨HKS.out.wheel hk hwo⟩
 replace HKP : Aside0 (Keep ([d,l,nm,pm,co] ++ L) w W6) := ⟨(HKP.out.mono (fun q _ h => List.mem_append_left _ h)).trans (hk.mono (fun q _ h => List.mem_append_right _ h))⟩
 clear hwo hk hp hw0 hwn5 HRb5 H3
 have y4 : W6.cell? ⟨g4,0,none⟩ = some (.int .i64 0) := cL H4 0 rfl
 have f4 := blk_frozen H4.out 0
 go_wp2_with fail
 clear y4 f4
 rw [setCell_eq_setRow W6 g4 0 _ _ _ _ H4.out]
 have q5 : (W6.setRow g4 #[.int .i64 0]).heap[g4]? = some (.cells #[.int .i64 0] 39 (0,0)) := setRow_heap _ _ _ _ _ _ H4.out
 have hfin := HKS.out.other (L' := []) ((Keep.refl [g4] W6).setRow (g := g4) #[.int .i64 0] (.inl (by simp))) H4.out (by decide)
 have hpf := HPP.out _ _ _ _ HPW.out H4.out ((Keep.refl [g4] W6).setRow (g := g4) #[.int .i64 0] (.inl (by simp)))
 have hof : (W6.setRow g4 #[.int .i64 0]).ownsRow 0 286 2 v2 1 [.int .i64 (2 + k),.string (lrec lsn ep (ver0 + 1) dl s).enc] := own_keep HOW.out (fun q hq => setRow_other W6 g4 q _ (own_ne HOW.out H4.out (by decide) q hq))
 have hkf : Keep ([d,l,nm,pm,co] ++ L) w (W6.setRow g4 #[.int .i64 0]) := HKP.out.setRow _ (.inr G4.out)
 show bodyPostD _ _ _ _ _ (W6.setRow g4 #[.int .i64 0])
 generalize W6.setRow g4 #[.int .i64 0] = Wn at *
 refine leaves_cons (f := 93) (args := #[.pointer (some ⟨g4,0,none⟩)]) (by simp) (by simp [go_sem]) ?_
 refine (cocaught_idle ⟨g4,0,none⟩ _).mono ?_
 rintro e_ u_ W9 ⟨rfl,rfl,hb⟩
 have c5 : W9.cell? ⟨g4,0,none⟩ = some (.int .i64 0) := (blk_cell (blk_below q5 hb) 0).trans rfl
 simp only [Leaves,settle]
 exact ⟨.int .i64 0,by simp [results,Tryz.results129,asAddr,go_sem,c5],rfl,v2,ao,al,af,z,own_keep hof (fun q hq => hb.block q (own_lt hof q hq)),hfin.below hb,HPP.out _ _ _ _ hpf q5 (Keep.below hb),hkf.trans (Keep.below hb)⟩
theorem clive_calls (co ix d l wh nm pm am m oo ln ff : Nat) (left : Int) (es : Array MapEntry) (c : Nat) (k x lsn ep gen ver0 : Int) (ns : Array MapEntry) (cn : Nat) (ps : Array MapEntry) (cp : Nat) (dl : Int) (s : ByteArray) (ps' : Array MapEntry) (cp' cn' : Nat) (ns' : Int → Array MapEntry) (v1 dl1 sz1 sg1 sl1 : Int) (lv1 b1 : Bool) (P : World → Prop) (L : List Nat) (w : World) (h : Kos w co ix d l wh nm pm am m oo ln ff left (.slice none 0 0) es c k x lsn ep gen ver0 ns cn ps cp) (hok : lok lsn ep (ver0 + 1) dl s) (hl1 : lsn + 1 < 18446744073709551616) (hk : k = 0 ∨ k = 1) (hlf : -1000 ≤ left ∧ left ≤ 0) (hlp : ∀ W : World,W.heap[pm]? = some (.map ps cp) → (Instr.lookup 230 (.map (some pm)) (.agg #[.int .i64 0,.int .i64 k]) true).run Tryz.prog W = .ok (.tuple #[.agg #[.string { data := #[] }],.bool false]) W) (hup : ∀ W : World,W.heap[pm]? = some (.map ps cp) → (Instr.mapUpdate 230 (.map (some pm)) (.agg #[.int .i64 0,.int .i64 k]) (.agg #[.string idA])).run Tryz.prog W = .ok () (setMap W pm ps' cp')) (hlk : ∀ W : World,W.heap[nm]? = some (.map ns cn) → (Instr.lookup 229 (.map (some nm)) (.string idA) true).run Tryz.prog W = .ok (.tuple #[.agg #[.int .u64 v1,.int .u64 dl1,.bool lv1,.int .i64 sz1,.int .i64 sg1,.int .i64 sl1],.bool b1]) W) (hun : ∀ (z : Int) (W : World),W.heap[nm]? = some (.map ns cn) → (Instr.mapUpdate 229 (.map (some nm)) (.string idA) (.agg #[.int .u64 (ver0 + 1),.int .u64 dl,.bool true,.int .i64 z,.int .i64 0,.int .i64 k])).run Tryz.prog W = .ok () (setMap W nm (ns' z) cn')) (hv : v1 ≤ ver0 + 1) (hl2 : ∀ (z : Int) (W : World),W.heap[nm]? = some (.map (ns' z) cn') → (Instr.lookup 229 (.map (some nm)) (.string idA) true).run Tryz.prog W = .ok (.tuple #[.agg #[.int .u64 (ver0 + 1),.int .u64 dl,.bool true,.int .i64 z,.int .i64 0,.int .i64 k],.bool true]) W) (hdl : 0 < dl) (hwn : Whn w wh) (hwl : ∀ W : World,Keep [d,l,nm,pm,co] w W → Wof W am L ∧ Calls Tryz.prog 215 #[.pointer (some ⟨wh,0,none⟩),.string idA,.int .u64 dl] W fun e w' => ∃ b : Bool,e = .returned (.bool b) ∧ P w' ∧ Keep L W w') (hP : ∀ (W W' : World) (g : Nat) (cs : Array Value),P W → W.heap[g]? = some (.cells cs 39 (0,0)) → Keep [g] W W' → P W') :
 Calls Tryz.prog 68 #[.pointer (some ⟨co,0,none⟩),.string idA,.string s,.int .u64 dl] w fun e w' => e = .returned (.int .i64 0) ∧ ∃ (v2 : Value) (ao al af : Nat) (z : Int),w'.ownsRow 0 286 2 v2 1 [.int .i64 (2 + k),.string (lrec lsn ep (ver0 + 1) dl s).enc] ∧ Kos w' co ix d l wh nm pm am m ao al af (left - 1) v2 es c (k + 1) x (lsn + 1) ep gen (ver0 + 1) (ns' z) cn' ps' cp' ∧ P w' ∧ Keep ([d,l,nm,pm,co] ++ L) w w' := by
 go_enter Tryz.func68,Tryz.ntmps68
 go_wp2_with fail
 refine (cchange_calls co ix d l wh nm pm am m oo ln ff left es c k x lsn ep gen ver0 ns cn ps cp dl s ps' cp' cn' ns' v1 dl1 sz1 sg1 sl1 lv1 b1 P L _ h hok hl1 hk hlf hlp hup hlk hun hv hl2 hdl hwn hwl hP).mono ?_
 rintro e_ W2 ⟨rfl,hq⟩
 go_wp2_with fail
 go_ret
 exact ⟨rfl,hq⟩
end Go.Proofs.YtokfjbbjkiilmaaGreatDoor.H
namespace Go.Proofs.YtokfjbbjkiilmaaGreatDoor.H
open Go.RowKit Go.Proofs.YtokfjbbjkiilmaaGreatDoorW.PrintWords Go.Proofs.YtokfjbbjkiilmaaGreatDoorW.PrintLast Go.Proofs.YtokfjbbjkiilmaaGreatDoorW.PrintMore
set_option maxHeartbeats 8000000
set_option maxRecDepth 100000
attribute [local go_sem] max2_int min2_int min_two max_two
/-- An image's cells: of the first checkpoint, with a table of one segment. -/
def img (o1 d1 l1 e1 oo c1 ln c2 ff c3 : Nat) (lsn ver : Int) (fv : Value) : Array Value := #[.int .u64 1,.int .u32 1,.int .u64 1,.int .u64 0,.slice (some ⟨o1,0,none⟩) 1 d1,.slice (some ⟨l1,0,none⟩) 1 e1,.int .i64 4,.int .i64 2,.slice (some ⟨oo,0,none⟩) 1 c1,.slice (some ⟨ln,0,none⟩) 1 c2,.slice (some ⟨ff,0,none⟩) 1 c3,.int .u64 lsn,.int .u64 ver,fv]
theorem rcounted_calls (g o1 d1 l1 e1 oo c1 ln c2 ff c3 dd : Nat) (lsn ver : Int) (fv : Value) (w : World) (hg : w.heap[g]? = some (.cells (img o1 d1 l1 e1 oo c1 ln c2 ff c3 lsn ver fv) 323 (0,0))) (ho : w.cell? ⟨oo,0,none⟩ = some (.int .i64 0)) (hl : w.cell? ⟨ln,0,none⟩ = some (.int .i64 0)) :
 Calls Tryz.prog 278 #[.pointer (some ⟨g,0,none⟩),.pointer (some ⟨dd,0,none⟩)] w fun e w' => e = .returned (.int .i64 0) ∧ w' = w := by
 have HG := Aside0.mk hg
 clear hg
 have y8 : w.cell? ⟨g,8,none⟩ = some (.slice (some ⟨oo,0,none⟩) 1 c1) := cL HG 8 rfl
 have y9 : w.cell? ⟨g,9,none⟩ = some (.slice (some ⟨ln,0,none⟩) 1 c2) := cL HG 9 rfl
 go_enter Tryz.func278,Tryz.ntmps278
 go_wp2_with fail
 go_loopw [17] (fun v wr => (v = .int .i64 0 ∨ v = .int .i64 1) ∧ wr = w) (fun v _ => 1 - (intOf v).toNat)
 case atStart => exact ⟨.inl rfl,rfl⟩
 case round =>
  obtain ⟨rfl | rfl,rfl⟩ := hrel
  ·go_wp2_with fail
   go_loopw [30] (fun v wr2 => v = .int .i64 0 ∧ wr2 = wr) (fun v _ => 1)
   case atStart => exact ⟨rfl,rfl⟩
   case round =>
    obtain ⟨rfl,rfl⟩ := hrel
    go_wp2_with fail
    exact ⟨⟨.inr rfl,by trivial⟩,by simp [intOf]⟩
  ·go_wp2_with fail
   go_ret
   exact ⟨rfl,rfl⟩
def rnext.T1 : Bool × List (List Nat × List Nat) := (true,[([],[]),([],[]),([1],[1]),([2],[2]),([3],[3]),([4],[4]),([],[]),([0,5,6],[0,5,6]),([],[]),([8],[8]),([9],[9]),([10],[10]),([],[]),([12],[12]),([13],[13]),([14],[14]),([15],[15]),([7,11,16,7],[7,11,16]),([17],[17]),([17],[17]),([18,17,0,1,2,3,4,5,6,7,8,9,10,11,12,13,14,15,16,17,18,19],[18]),([19,20,0,1,2,3,4,5,6,7,8,9,10,11,12,13,14,15,16,17,18,19,20],[19])])
def rnext.B1 : List Nat := [0,0,2,6,14,30,0,127,0,256,768,1792,0,4096,12288,28672,61440,131071,262143,262143,1048575,2097151]
theorem rnext.tab1 : rtab .any (opsOf Tryz.f303 1) = rnext.T1 := by kernel_rfl
theorem rnext.bits1 : waitsOk rnext.T1.2 rnext.B1 = true := by kernel_rfl
theorem rnext_calls (g o1 d1 l1 e1 oo c1 ln c2 ff c3 d m b2 b3 b5 : Nat) (lsn ver left j xl xe xk xv xd : Int) (xi xs s : ByteArray) (bb : Bool) (fv : Value) (w0 w : World) (hb0 : Below w0.heap.size w0 w) (hg : w.heap[g]? = some (.cells (img o1 d1 l1 e1 oo c1 ln c2 ff c3 lsn ver fv) 323 (0,0))) (h5 : w.heap[b5]? = some (.cells #[.int .i64 0,.int .i64 j] 177 (0,0))) (x0 : w.cell? ⟨b3,0,none⟩ = some (.pointer (some ⟨d,0,none⟩))) (x1 : w.cell? ⟨b2,0,none⟩ = some (.pointer (some ⟨g,0,none⟩))) (hd : w0.heap[d]? = some (.cells (dkc left m (.slice none 0 0)) 108 (0,0))) (hr : Rd w0 d (2 + j) s) (hj : j = 0 ∨ j = 1 ∨ j = 2) (hn : ∀ W : World,Below w0.heap.size w0 W → Calls Tryz.prog 304 #[.string s,.int .u64 lsn,.int .u32 1] W fun e w' => e = .returned (.tuple #[.agg #[.int .u64 xl,.int .u32 xe,.int .i64 xk,.int .u64 xv,.int .u64 xd,.string xi,.string xs],.bool bb]) ∧ Below W.heap.size W w') :
 Calls Tryz.prog 303 #[.pointer (some ⟨b3,0,none⟩),.pointer (some ⟨b2,0,none⟩),.pointer (some ⟨b5,0,none⟩)] w fun e w' => e = .returned (.tuple #[.agg #[.int .u64 xl,.int .u32 xe,.int .i64 xk,.int .u64 xv,.int .u64 xd,.string xi,.string xs],.bool bb]) ∧ Below w.heap.size w w' := by
 have HG := Aside0.mk hg
 have H5 := Aside0.mk h5
 have X0 := Aside0.mk x0
 have X1 := Aside0.mk x1
 have HD := Aside0.mk hd
 have HR := Aside0.mk hr
 have HJ := Aside0.mk hj
 have HN := Aside0.mk hn
 have HB0 := Aside0.mk hb0
 clear hg h5 x0 x1 hd hr hj hn hb0
 go_enter Tryz.func303,Tryz.ntmps303
 go_upto_region 1 with fail
 obtain ⟨W1,g3,hW_,hg3,H3,hb_⟩ := new1 w #[.int .u64 0,.int .u32 0,.int .i64 0,.int .u64 0,.int .u64 0,.string { data := #[] },.string { data := #[] }] 188
 rw [← hW_,← hg3.out]
 replace HG := mb HG hb_
 replace H5 := mb H5 hb_
 have HB := Aside0.mk hb_
 clear hW_ hb_
 have G3 : Aside0 (w.heap.size ≤ g3) := ⟨by have := hg3.out; omega⟩
 refine st_ 22 (fun w' => w'.cell? ⟨b3,0,none⟩ = some (.pointer (some ⟨d,0,none⟩)) ∧ w'.cell? ⟨b2,0,none⟩ = some (.pointer (some ⟨g,0,none⟩)) ∧ w'.cell? ⟨g,7,none⟩ = some (.int .i64 2) ∧ w'.cell? ⟨g,11,none⟩ = some (.int .u64 lsn) ∧ w'.cell? ⟨g,1,none⟩ = some (.int .u32 1) ∧ w'.cell? ⟨b5,0,none⟩ = some (.int .i64 0) ∧ w'.cell? ⟨b5,1,none⟩ = some (.int .i64 j)) [20] ⟨(cell_below (below_drew HB.out) X0.out),(cell_below (below_drew HB.out) X1.out),(cD HG 7 rfl),(cD HG 11 rfl),(cD HG 1 rfl),(cD H5 0 rfl),(cD H5 1 rfl)⟩ fun hHeld => ?_
 refine with_tabW rnext.tab1 rnext.bits1 (fun HT_ HW_ => ?_)
 replace HG := mD HG
 replace H5 := mD H5
 replace H3 := mD H3
 replace HB := bD HB
 generalize W1.drew = wd1 at *
 refine ta_ 0 5 HT_ HW_ hHeld ?_
 refine ta_ 1 6 HT_ HW_ hHeld ?_
 refine pa_ 2 7 HT_ ?_
 refine pa_ 3 8 HT_ ?_
 refine pa_ 4 9 HT_ ?_
 refine ta_ 5 10 HT_ HW_ hHeld ?_
 refine ta_ 6 11 HT_ HW_ hHeld ?_
 refine ta_ 8 13 HT_ HW_ hHeld ?_
 refine pa_ 9 14 HT_ ?_
 refine pa_ 10 15 HT_ ?_
 refine ta_ 11 16 HT_ HW_ hHeld ?_
 refine ta_ 12 17 HT_ HW_ hHeld ?_
 refine pa_ 13 18 HT_ ?_
 refine pa_ 14 19 HT_ ?_
 refine pa_ 15 20 HT_ ?_
 refine ta_ 16 21 HT_ HW_ hHeld ?_
 refine on_ 7 HT_ fun K hK => ?_
 refine gc_ Tryz.func302 #[.pointer (some ⟨d,0,none⟩),.int .i64 2,.agg #[.int .i64 0,.int .i64 j]] ?_
 with_reducible refine (rsector_calls d m left j s _ (blk_below HD.out (below_step HB0.out HB.out)) (HR.out.below (below_step HB0.out HB.out)) HJ.out).mono ?_
 rintro e_ Wa ⟨rfl,hb⟩
 refine ⟨_,rfl,?_⟩
 replace HG := mb HG hb
 replace H5 := mb H5 hb
 replace H3 := mb H3 hb
 replace HB := mS HB hb
 clear hb
 refine hK.out _ _ ⟨(cell_below HB.out X0.out),(cell_below HB.out X1.out),(cL HG 7 rfl),(cL HG 11 rfl),(cL HG 1 rfl),(cL H5 0 rfl),(cL H5 1 rfl)⟩ (fun hHeld => ?_)
 clear hK K
 refine no_ 12 ?_
 refine on_ 17 HT_ fun K hK => ?_
 refine gc_ Tryz.func304 #[.string s,.int .u64 lsn,.int .u32 1] ?_
 with_reducible refine (HN.out _ (below_step HB0.out HB.out)).mono ?_
 rintro e_ Wb ⟨rfl,hb⟩
 refine ⟨_,rfl,?_⟩
 replace HG := mb HG hb
 replace H5 := mb H5 hb
 replace H3 := mb H3 hb
 replace HB := mS HB hb
 clear hb
 refine hK.out _ _ ⟨(cell_below HB.out X0.out),(cell_below HB.out X1.out),(cL HG 7 rfl),(cL HG 11 rfl),(cL HG 1 rfl),(cL H5 0 rfl),(cL H5 1 rfl)⟩ (fun hHeld => ?_)
 clear hK K
 refine no_ 22 ?_
 refine pa_ 18 23 HT_ ?_
 refine pa_ 19 24 HT_ ?_
 refine la_ 20 HT_ fun K hK => ?_
 refine sR_ 3 23 #[.int .u64 xl,.int .u32 xe,.int .i64 xk,.int .u64 xv,.int .u64 xd,.string xi,.string xs] H3.out ?_
 refine hK.out _ _ ?_
 clear hK K
 refine pa_ 21 4 HT_ ?_
 refine dn_ HT_ ?_
 clear HT_ HW_ hHeld
 go_wp2_with fail
 refine bodyPost_ret (results_ct rfl _ _ g3 188 #[.int .u64 xl,.int .u32 xe,.int .i64 xk,.int .u64 xv,.int .u64 xd,.string xi,.string xs] (0,0) _ rfl (setRow_heap _ _ _ _ _ _ H3.out) Tryz.underlying188 rfl (by kernel_rfl)) rfl ?_
 exact ⟨rfl,below_setRow HB.out G3.out _⟩
end Go.Proofs.YtokfjbbjkiilmaaGreatDoor.H
