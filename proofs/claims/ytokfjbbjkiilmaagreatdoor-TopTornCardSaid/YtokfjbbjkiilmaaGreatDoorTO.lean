/-
TopTorn: part of its walk (Co, Co2, Co3).
-/
import Derived.Test.YtokfjbbjkiilmaaGreatDoorTN
set_option linter.unusedVariables false
set_option linter.unusedSimpArgs false
namespace Go.Proofs.YtokfjbbjkiilmaaGreatDoor.H
open Go.RowKit Go.Proofs.YtokfjbbjkiilmaaGreatDoorW.PrintWords Go.Proofs.YtokfjbbjkiilmaaGreatDoorW.PrintLast Go.Proofs.YtokfjbbjkiilmaaGreatDoorW.PrintMore
set_option maxHeartbeats 8000000
set_option maxRecDepth 100000
attribute [local go_sem] max2_int min2_int min_two max_two
/-- A core on its log, with its index. -/
structure Kos (w : World) (co ix d l wh nm pm am m oo ln ff : Nat) (left : Int) (v : Value) (es : Array MapEntry) (c : Nat) (k x lsn ep gen ver : Int) (ns : Array MapEntry) (cn : Nat) (ps : Array MapEntry) (cp : Nat) : Prop where
 hc : w.heap[co]? = some (.cells (coc ix d l wh ver) 132 (0,0))
 hx : w.heap[ix]? = some (.cells #[.map (some nm),.map (some pm)] 232 (0,0))
 hn : w.heap[nm]? = some (.map ns cn)
 hp : w.heap[pm]? = some (.map ps cp)
 lg : Lst w l d m oo ln ff left v es c k x lsn ep gen
 nd : [m,nm,pm,am].Nodup
section
variable {w w' : World} {co ix d l wh nm pm am m oo ln ff : Nat} {left : Int} {v : Value} {es : Array MapEntry} {c : Nat} {k x lsn ep gen ver : Int} {ns : Array MapEntry} {cn : Nat} {ps : Array MapEntry} {cp : Nat} {L : List Nat}
theorem Lst.keep (h : Lst w l d m oo ln ff left v es c k x lsn ep gen) (kk : Keep L w w') (hL : d ∉ L ∧ m ∉ L ∧ l ∉ L ∧ oo ∉ L ∧ ln ∉ L ∧ ff ∉ L) : Lst w' l d m oo ln ff left v es c k x lsn ep gen :=
 ⟨blk_keep h.hd kk hL.1,blk_keep h.hm kk hL.2.1,blk_keep h.hl kk hL.2.2.1,blk_keep h.ho kk hL.2.2.2.1,blk_keep h.hn kk hL.2.2.2.2.1,blk_keep h.hf kk hL.2.2.2.2.2,h.ne⟩
theorem Kos.below (h : Kos w co ix d l wh nm pm am m oo ln ff left v es c k x lsn ep gen ver ns cn ps cp) (hb : Below w.heap.size w w') : Kos w' co ix d l wh nm pm am m oo ln ff left v es c k x lsn ep gen ver ns cn ps cp :=
 ⟨blk_below h.hc hb,blk_below h.hx hb,blk_below h.hn hb,blk_below h.hp hb,h.lg.below hb,h.nd⟩
/-- A list of blocks, all of them maps, or rows of the types T. -/
def Of (w : World) (T : List TypeId) (L : List Nat) : Prop := ∀ q ∈ L,(∃ es c,w.heap[q]? = some (.map es c)) ∨ ∃ cs t,t ∈ T ∧ w.heap[q]? = some (.cells cs t (0,0))
theorem Of.nil {T : List TypeId} : Of w T [] := fun q h => by simp at h
theorem Of.map {T : List TypeId} {a : Nat} {e0 : Array MapEntry} {c0 : Nat} (h : w.heap[a]? = some (.map e0 c0)) (k : Of w T L) : Of w T (a :: L) := fun q hq => by
 rcases List.mem_cons.1 hq with rfl | hq
 ·exact .inl ⟨_,_,h⟩
 ·exact k q hq
theorem Of.row {T : List TypeId} {a t : Nat} {cs : Array Value} (h : w.heap[a]? = some (.cells cs t (0,0))) (ht : t ∈ T) (k : Of w T L) : Of w T (a :: L) := fun q hq => by
 rcases List.mem_cons.1 hq with rfl | hq
 ·exact .inr ⟨_,_,ht,h⟩
 ·exact k q hq
theorem Of.not {T : List TypeId} {a t : Nat} {cs : Array Value} (k : Of w T L) (h : w.heap[a]? = some (.cells cs t (0,0))) (ht : t ∉ T) : a ∉ L := fun hm => by
 rcases k a hm with ⟨_,_,h2⟩ | ⟨_,t2,h3,h2⟩
 ·rw [h] at h2; cases h2
 ·rw [h] at h2; cases h2; exact ht h3
end
theorem cmake_calls (d m : Nat) (left : Int) (es : Array MapEntry) (c : Nat) (w : World) (hd : w.heap[d]? = some (.cells (dkc left m (.slice none 0 0)) 108 (0,0))) (hm : w.heap[m]? = some (.map es c)) (hlf : (-1000 ≤ left ∧ left ≤ 0) ∧ -900 ≤ left) (hfi : Instr.findNow (.int .i64) (.int .i64 1) es.toList 0 = some none) :
 Calls Tryz.prog 48 #[.pointer (some ⟨d,0,none⟩),.agg cnf] w fun e w' => ∃ co ix l wh nm pm am oo ln ff fm : Nat,e = .returned (.tuple #[.pointer (some ⟨co,0,none⟩),.int .i64 0]) ∧ Kos w' co ix d l wh nm pm am m oo ln ff (left - 3) (.slice none 0 0) (es.push { key := .int .i64 1,val := .agg #[.int .i64 1,.string (ckS 1 1 1 0 0)],born := c }) (c + 1) 0 1 1 1 1 0 #[] 0 #[] 0 ∧ w'.heap[wh]? = some (.cells (wrow 0 fm am) 239 (0,0)) ∧ w'.heap[am]? = some (.map #[] 0) ∧ Keep [d,m] w w' ∧ ∀ q ∈ [co,ix,l,wh,nm,pm,am],w.heap.size ≤ q := by
 have HD := Aside0.mk hd
 have HM := Aside0.mk hm
 have HLF := Aside0.mk hlf
 have HFI := Aside0.mk hfi
 clear hd hm hlf hfi
 go_enter_defers Tryz.func48,Tryz.ntmps48
 go_upto_region 2 with fail
 obtain ⟨W1,g3,g5,hW_,hg3,hg5,H3,H5,hb_⟩ := new2 w cnf 24 #[.int .i64 0] 39
 rw [← hW_,← hg5.out,← hg3.out]
 replace HD := mb HD hb_
 replace HM := mb HM hb_
 have HB := Aside0.mk hb_
 clear hW_ hb_
 have G5 : Aside0 (w.heap.size ≤ g5) := ⟨by have := hg5.out; omega⟩
 go_wp2_with (refine lr_ 3 H3.out Tryz.underlying24 ?_)
 refine (lformat_calls d m left es c _ HD.out HM.out HLF.out HFI.out).mono ?_
 rintro e_ W2 ⟨l,oo,ln,ff,rfl,hl,hlst,hk⟩
 have HL := Aside0.mk hlst
 have HK : Aside0 (Keep [d,m] w W2) := ⟨(Keep.below HB.out).trans hk⟩
 have GL : Aside0 (w.heap.size ≤ l) := ⟨Nat.le_trans HB.out.size hl⟩
 have N5 : Aside0 (g5 ∉ [d,m]) := ⟨by simp [tne H5.out HD.out (by decide),(map_ne HM.out H5.out).symm]⟩
 replace H5 := Aside0.mk (blk_keep H5.out hk N5.out)
 clear hlst hk hl HB HD HM H3
 have HB := Aside0.mk (Below.refl W2.heap.size W2)
 go_wp2_with fail
 refine (comust_ok _).mono ?_
 rintro e_ W3 ⟨rfl,rfl⟩
 go_wp2_with fail
 refine (inew_calls _).mono ?_
 rintro e_ W4 ⟨ix,nm,pm,rfl,hz,hx,hn,hp,hb⟩
 have HZ := Aside0.mk hz
 have HX := Aside0.mk hx
 have HN := Aside0.mk hn
 have HP := Aside0.mk hp
 replace HB := mS HB hb
 replace H5 := mb H5 hb
 have GX : Aside0 (w.heap.size ≤ ix ∧ w.heap.size ≤ nm ∧ w.heap.size ≤ pm) := ⟨by have h1 := HK.out.size; have h2 := HZ.out; omega⟩
 clear hz hx hn hp hb
 go_wp2_with fail
 refine (wnew_calls 0 _).mono ?_
 rintro e_ W5 ⟨wh,fm,am,rfl,hz,hw,ha,hb⟩
 have HW := Aside0.mk hw
 have HA := Aside0.mk ha
 have HZ2 : Aside0 (W4.heap.size ≤ am) := ⟨hz.2.2.1⟩
 have HS4 := Aside0.mk HB.out.size
 have GW : Aside0 (w.heap.size ≤ wh ∧ w.heap.size ≤ am) := ⟨by have h1 := HK.out.size; have h2 := HS4.out; omega⟩
 have Q1 : Aside0 (nm < W4.heap.size ∧ pm < W4.heap.size) := ⟨blk_lt HN.out,blk_lt HP.out⟩
 have Q2 : Aside0 (m < W3.heap.size) := ⟨blk_lt HL.out.hm⟩
 replace H5 := mb H5 hb
 replace HX := mb HX hb
 replace HN := mb HN hb
 replace HP := mb HP hb
 replace HB := mS HB hb
 clear hz hw ha hb
 have HND : Aside0 ([m,nm,pm,am].Nodup) := ⟨by have := HZ.out; have := Q1.out; have := Q2.out; have := HZ2.out; have := HS4.out; simp; omega⟩
 obtain ⟨co,hco⟩ : ∃ g_,g_ = W5.heap.size := ⟨_,rfl⟩
 obtain ⟨W6,hW6⟩ : ∃ W_,W_ = W5.alloc (.cells #[.pointer (some ⟨ix,0,none⟩),.pointer (some ⟨d,0,none⟩),.pointer (some ⟨l,0,none⟩),.pointer (some ⟨wh,0,none⟩),.int .u64 0] 132) := ⟨_,rfl⟩
 have HB6 : Below W5.heap.size W5 W6 := by rw [hW6]; exact below_alloc (Below.refl _ _) _
 have GC : Aside0 (w.heap.size ≤ co) := ⟨by rw [hco]; exact Nat.le_trans HK.out.size HB.out.size⟩
 have HC : Aside0 (W6.heap[co]? = some (.cells (coc ix d l wh 0) 132 (0,0))) := ⟨by rw [hW6,hco]; exact blk_new _ _⟩
 replace H5 := mb H5 HB6
 replace HX := mb HX HB6
 replace HN := mb HN HB6
 replace HP := mb HP HB6
 replace HW := mb HW HB6
 replace HA := mb HA HB6
 replace HB := mS HB HB6
 have y5 : W6.cell? ⟨g5,0,none⟩ = some (.int .i64 0) := cL H5 0 rfl
 have f5 := blk_frozen H5.out 0
 have HHW := Aside0.mk hW6
 have HHC := Aside0.mk hco
 rw [hW6] at y5 f5
 clear HB6 hW6 hco
 go_wp2_with fail
 rw [← HHW.out,← HHC.out]
 clear y5 f5
 rw [setCell_eq_setRow W6 g5 0 _ _ _ _ H5.out]
 have qq : ∀ (a : Nat) (o_ : Obj),W6.heap[a]? = some o_ → a ≠ g5 → (W6.setRow g5 #[.int .i64 0]).heap[a]? = some o_ := fun a o_ h_ n_ => mR _ h_ n_
 have q5 : (W6.setRow g5 #[.int .i64 0]).heap[g5]? = some (.cells #[.int .i64 0] 39 (0,0)) := setRow_heap _ _ _ _ _ _ H5.out
 have hlg := HL.out.below HB.out
 have hfin : Kos (W6.setRow g5 #[.int .i64 0]) co ix d l wh nm pm am m oo ln ff (left - 3) (.slice none 0 0) (es.push { key := .int .i64 1,val := .agg #[.int .i64 1,.string (ckS 1 1 1 0 0)],born := c }) (c + 1) 0 1 1 1 1 0 #[] 0 #[] 0 := ⟨qq _ _ HC.out (tne HC.out H5.out (by decide)),qq _ _ HX.out (tne HX.out H5.out (by decide)),qq _ _ HN.out (map_ne HN.out H5.out),qq _ _ HP.out (map_ne HP.out H5.out),hlg.keep ((Keep.refl [g5] W6).setRow _ (.inl (by simp))) (by simp [tne hlg.hd H5.out (by decide),map_ne hlg.hm H5.out,tne hlg.hl H5.out (by decide),tne hlg.ho H5.out (by decide),tne hlg.hn H5.out (by decide),tne hlg.hf H5.out (by decide)]),HND.out⟩
 have hw6 : (W6.setRow g5 #[.int .i64 0]).heap[wh]? = _ := qq _ _ HW.out (tne HW.out H5.out (by decide))
 have ha6 : (W6.setRow g5 #[.int .i64 0]).heap[am]? = _ := qq _ _ HA.out (map_ne HA.out H5.out)
 have hkf : Keep [d,m] w (W6.setRow g5 #[.int .i64 0]) := (HK.out.trans (Keep.below HB.out)).setRow _ (.inr G5.out)
 show bodyPostD _ _ _ _ _ (W6.setRow g5 #[.int .i64 0])
 generalize W6.setRow g5 #[.int .i64 0] = Wn at *
 refine leaves_cons (f := 93) (args := #[.pointer (some ⟨g5,0,none⟩)]) (by simp) (by simp [go_sem]) ?_
 refine (cocaught_idle ⟨g5,0,none⟩ _).mono ?_
 rintro e_ u_ W9 ⟨rfl,rfl,hb⟩
 have c5 : W9.cell? ⟨g5,0,none⟩ = some (.int .i64 0) := (blk_cell (blk_below q5 hb) 0).trans rfl
 simp only [Leaves,settle]
 exact ⟨.tuple #[.pointer (some ⟨co,0,none⟩),.int .i64 0],by simp [results,Tryz.results48,asAddr,go_sem,c5],co,ix,l,wh,nm,pm,am,oo,ln,ff,fm,rfl,hfin.below hb,blk_below hw6 hb,blk_below ha6 hb,hkf.trans (Keep.below hb),by intro q hq; have h1 := GL.out; have h2 := GX.out; have h3 := GW.out; have h4 := GC.out; simp at hq; omega⟩
end Go.Proofs.YtokfjbbjkiilmaaGreatDoor.H
namespace Go.Proofs.YtokfjbbjkiilmaaGreatDoor.H
open Go.RowKit Go.Proofs.YtokfjbbjkiilmaaGreatDoorW.PrintWords Go.Proofs.YtokfjbbjkiilmaaGreatDoorW.PrintLast Go.Proofs.YtokfjbbjkiilmaaGreatDoorW.PrintMore
set_option maxHeartbeats 8000000
set_option maxRecDepth 100000
attribute [local go_sem] max2_int min2_int min_two max_two
def ctime.T1 : Bool × List (List Nat × List Nat) := (true,[([],[]),([0],[0]),([1],[1]),([2],[2]),([3,2],[2,3]),([2],[2]),([5,2,2],[2,5]),([4,6,2],[2,4,6]),([2,7],[2,7])])
def ctime.B1 : List Nat := [0,1,3,7,15,7,39,127,255]
theorem ctime.tab1 : rtab .any (opsOf Tryz.f181 1) = ctime.T1 := by kernel_rfl
theorem ctime.bits1 : waitsOk ctime.T1.2 ctime.B1 = true := by kernel_rfl
def ctime.T6 : Bool × List (List Nat × List Nat) := (true,[([],[]),([0],[0]),([1],[1]),([2],[2]),([],[]),([],[]),([5],[5]),([3,4,6],[3,4,6])])
def ctime.B6 : List Nat := [0,1,3,7,0,0,32,127]
theorem ctime.tab6 : rtab .any (opsOf Tryz.f181 6) = ctime.T6 := by kernel_rfl
theorem ctime.bits6 : waitsOk ctime.T6.2 ctime.B6 = true := by kernel_rfl
theorem ctime_calls (co ix d l wh : Nat) (ver : Int) (v dl sz sg sl : Int) (P : World → Prop) (L : List Nat) (w : World) (hc : w.heap[co]? = some (.cells (coc ix d l wh ver) 132 (0,0))) (hw : w.cell? ⟨wh,0,none⟩ = some (.int .u64 0)) (hdl : 0 < dl) (hset : ∀ W : World,Below w.heap.size w W → Calls Tryz.prog 215 #[.pointer (some ⟨wh,0,none⟩),.string idA,.int .u64 dl] W fun e w' => ∃ b : Bool,e = .returned (.bool b) ∧ P w' ∧ Keep L W w') :
 Calls Tryz.prog 181 #[.pointer (some ⟨co,0,none⟩),.string idA,.agg #[.int .u64 v,.int .u64 dl,.bool true,.int .i64 sz,.int .i64 sg,.int .i64 sl]] w fun e w' => e = .returned (.tuple #[]) ∧ P w' ∧ Keep L w w' := by
 have HC := Aside0.mk hc
 have HW := Aside0.mk hw
 have HS := Aside0.mk hset
 have HDL := Aside0.mk hdl
 have t1 : decide (dl ≤ 0) = false := decide_eq_false (by omega)
 clear hc hw hset hdl
 go_enter Tryz.func181,Tryz.ntmps181
 go_upto_region 1 with fail
 obtain ⟨W1,g5,hW_,hg5,H5,hb_⟩ := new1 w #[.int .u64 v,.int .u64 dl,.bool true,.int .i64 sz,.int .i64 sg,.int .i64 sl] 183
 rw [← hW_,← hg5.out]
 replace HC := mb HC hb_
 have HB := Aside0.mk hb_
 clear hW_ hb_
 refine st_ 9 (fun w' => w'.cell? ⟨g5,2,none⟩ = some (.bool true) ∧ w'.cell? ⟨g5,1,none⟩ = some (.int .u64 dl)) [] ⟨(cD H5 2 rfl),(cD H5 1 rfl)⟩ fun hHeld => ?_
 refine with_tabW ctime.tab1 ctime.bits1 (fun HT_ HW_ => ?_)
 replace HC := mD HC
 replace H5 := mD H5
 replace HB := bD HB
 generalize W1.drew = wd1 at *
 refine pa_ 0 6 HT_ ?_
 refine ta_ 1 7 HT_ HW_ hHeld ?_
 refine pa_ 2 8 HT_ ?_
 refine pa_ 3 9 HT_ ?_
 refine pa_ 5 11 HT_ ?_
 refine ta_ 4 10 HT_ HW_ hHeld ?_
 refine on_ 6 HT_ fun K hK => ?_
 refine gc_ Tryz.func67 #[.pointer (some ⟨co,0,none⟩)] ?_
 with_reducible refine (now_calls co ix d l wh ver 0 _ HC.out (cell_below HB.out HW.out)).mono ?_
 rintro e_ Wa ⟨rfl,rfl⟩
 refine ⟨_,rfl,?_⟩
 refine hK.out _ _ ⟨(cL H5 2 rfl),(cL H5 1 rfl)⟩ (fun hHeld => ?_)
 clear hK K
 refine no_ 12 ?_
 refine pa_ 7 13 HT_ ?_
 refine pa_ 8 14 HT_ ?_
 refine dn_ HT_ ?_
 clear HT_ HW_ hHeld
 have y0 : Wa.cell? ⟨g5,0,none⟩ = some (.int .u64 v) := cL H5 0 rfl
 have y1 : Wa.cell? ⟨g5,1,none⟩ = some (.int .u64 dl) := cL H5 1 rfl
 have y2 : Wa.cell? ⟨g5,2,none⟩ = some (.bool true) := cL H5 2 rfl
 have y3 : Wa.cell? ⟨g5,3,none⟩ = some (.int .i64 sz) := cL H5 3 rfl
 have y4 : Wa.cell? ⟨g5,4,none⟩ = some (.int .i64 sg) := cL H5 4 rfl
 have y5 : Wa.cell? ⟨g5,5,none⟩ = some (.int .i64 sl) := cL H5 5 rfl
 go_upto_region 6 with fail
 clear y0 y1 y2 y3 y4 y5
 refine st_ 8 (fun w' => w'.cell? ⟨co,3,none⟩ = some (.pointer (some ⟨wh,0,none⟩)) ∧ w'.cell? ⟨g5,1,none⟩ = some (.int .u64 dl)) [7] ⟨(cD HC 3 rfl),(cD H5 1 rfl)⟩ fun hHeld => ?_
 refine with_tabW ctime.tab6 ctime.bits6 (fun HT_ HW_ => ?_)
 replace HC := mD HC
 replace H5 := mD H5
 replace HB := bD HB
 generalize Wa.drew = wd2 at *
 refine pa_ 0 31 HT_ ?_
 refine pa_ 1 32 HT_ ?_
 refine pa_ 2 33 HT_ ?_
 refine pa_ 4 35 HT_ ?_
 refine pa_ 5 36 HT_ ?_
 refine ta_ 3 34 HT_ HW_ hHeld ?_
 refine ta_ 6 37 HT_ HW_ hHeld ?_
 refine la_ 7 HT_ fun K hK => ?_
 refine gc_ Tryz.func215 #[.pointer (some ⟨wh,0,none⟩),.string idA,.int .u64 dl] ?_
 with_reducible refine (HS.out _ HB.out).mono ?_
 rintro e_ Wb ⟨b_,rfl,hp,hk⟩
 refine ⟨_,rfl,?_⟩
 refine hK.out _ _ ?_
 clear hK K
 refine no_ 38 ?_
 refine dn_ HT_ ?_
 clear HT_ HW_ hHeld
 exact end0 rfl rfl ⟨rfl,hp,(Keep.below HB.out).trans hk⟩
theorem csess0_calls (co ix d l wh nm pm cn : Nat) (ver : Int) (ns : Array MapEntry) (w : World) (hc : w.heap[co]? = some (.cells (coc ix d l wh ver) 132 (0,0))) (hx : w.heap[ix]? = some (.cells #[.map (some nm),.map (some pm)] 232 (0,0))) (hn : w.heap[nm]? = some (.map ns cn)) (hlk : ∀ W : World,W.heap[nm]? = some (.map ns cn) → (Instr.lookup 229 (.map (some nm)) (.string idA) true).run Tryz.prog W = .ok (.tuple #[.agg #[.int .u64 0,.int .u64 0,.bool false,.int .i64 0,.int .i64 0,.int .i64 0],.bool false]) W) :
 Calls Tryz.prog 59 #[.pointer (some ⟨co,0,none⟩),.string idA] w fun e w' => e = .returned (.tuple #[.agg #[.string { data := #[] },.string { data := #[] },.int .u64 0],.bool false]) ∧ Below w.heap.size w w' := by
 have HC := Aside0.mk hc
 have HX := Aside0.mk hx
 have HN := Aside0.mk hn
 have HLK := Aside0.mk hlk
 clear hc hx hn hlk
 go_enter Tryz.func59,Tryz.ntmps59
 go_upto_region 1 with fail
 obtain ⟨W1,g4,hW_,hg4,H4,hb_⟩ := new1 w #[.string { data := #[] },.string { data := #[] },.int .u64 0] 124
 rw [← hW_,← hg4.out]
 replace HC := mb HC hb_
 replace HX := mb HX hb_
 replace HN := mb HN hb_
 have HB := Aside0.mk hb_
 clear hW_ hb_
 have G4 : Aside0 (w.heap.size ≤ g4) := ⟨by have := hg4.out; omega⟩
 have y0 : W1.cell? ⟨co,0,none⟩ = some (.pointer (some ⟨ix,0,none⟩)) := cL HC 0 rfl
 go_wp2_with fail
 refine (newest_calls ix nm pm cn ns 0 0 0 0 0 false false _ HX.out HN.out HLK.out).mono ?_
 rintro e_ W2 ⟨rfl,hb⟩
 clear y0
 replace HC := mb HC hb
 replace HX := mb HX hb
 replace HN := mb HN hb
 replace H4 := mb H4 hb
 replace HB := mS HB hb
 clear hb
 obtain ⟨W3,hW_⟩ : ∃ W_,W_ = (W2.alloc (.cells #[.int .u64 0,.int .u64 0,.bool false,.int .i64 0,.int .i64 0,.int .i64 0] 183)).setRow W2.heap.size #[.int .u64 0,.int .u64 0,.bool false,.int .i64 0,.int .i64 0,.int .i64 0] := ⟨_,rfl⟩
 obtain ⟨g6,hg_⟩ : ∃ g_,g_ = W2.heap.size := ⟨_,rfl⟩
 have hb : Below W2.heap.size W2 W3 := by rw [hW_]; exact below_setRow (below_alloc (Below.refl _ _) _) (Nat.le_refl _) _
 have H6 : Aside0 (W3.heap[g6]? = some (.cells #[.int .u64 0,.int .u64 0,.bool false,.int .i64 0,.int .i64 0,.int .i64 0] 183 (0,0))) := ⟨by rw [hW_,hg_]; exact setRow_heap _ _ _ _ _ _ (blk_new W2 (.cells #[.int .u64 0,.int .u64 0,.bool false,.int .i64 0,.int .i64 0,.int .i64 0] 183))⟩
 replace HC := mb HC hb
 replace HX := mb HX hb
 replace HN := mb HN hb
 replace H4 := mb H4 hb
 replace HB := mS HB hb
 have y0 : W3.cell? ⟨g6,0,none⟩ = some (.int .u64 0) := cL H6 0 rfl
 have y1 : W3.cell? ⟨g6,1,none⟩ = some (.int .u64 0) := cL H6 1 rfl
 have y2 : W3.cell? ⟨g6,2,none⟩ = some (.bool false) := cL H6 2 rfl
 have y3 : W3.cell? ⟨g6,3,none⟩ = some (.int .i64 0) := cL H6 3 rfl
 have y4 : W3.cell? ⟨g6,4,none⟩ = some (.int .i64 0) := cL H6 4 rfl
 have y5 : W3.cell? ⟨g6,5,none⟩ = some (.int .i64 0) := cL H6 5 rfl
 have HWW := Aside0.mk hW_
 have HGG := Aside0.mk hg_
 rw [hW_,hg_] at y0 y1 y2 y3 y4 y5
 clear hb hW_ hg_
 go_wp2_with (first | (refine sr_ 6 17 #[.int .u64 0,.int .u64 0,.bool false,.int .i64 0,.int .i64 0,.int .i64 0] (blk_new W2 (.cells #[.int .u64 0,.int .u64 0,.bool false,.int .i64 0,.int .i64 0,.int .i64 0] 183)) ?_) | (rw [← HWW.out]; (refine sr_ 4 26 #[.string { data := #[] },.string { data := #[] },.int .u64 0] H4.out ?_)))
 refine bodyPost_ret (results_ct rfl _ _ g4 124 #[.string { data := #[] },.string { data := #[] },.int .u64 0] (0,0) _ rfl (setRow_heap _ _ _ _ _ _ H4.out) Tryz.underlying124 rfl (by kernel_rfl)) rfl ?_
 exact ⟨rfl,below_setRow HB.out G4.out _⟩
def csess.T4 : Bool × List (List Nat × List Nat) := (true,[([],[]),([0],[0]),([1],[1]),([2],[2]),([],[]),([4],[4]),([3,5],[3,5]),([6],[6]),([7],[7]),([7],[7]),([],[]),([10,8,6,0,1,2,3,4,5,6,7,8,10],[8,10]),([9,11,0,1,2,3,4,5,6,7,8,9,10,11],[9])])
def csess.B4 : List Nat := [0,1,3,7,0,16,63,127,255,255,0,1535,4095]
theorem csess.tab4 : rtab .any (opsOf Tryz.f59 4) = csess.T4 := by kernel_rfl
theorem csess.bits4 : waitsOk csess.T4.2 csess.B4 = true := by kernel_rfl
theorem csess1_calls (co ix d l wh nm pm cn : Nat) (ver : Int) (ns : Array MapEntry) (v dl0 sz : Int) (m oo ln ff : Nat) (left : Int) (es : Array MapEntry) (c q : Nat) (k x lsn ep gen j a e0 rv dl : Int) (s : ByteArray) (w : World) (hc : w.heap[co]? = some (.cells (coc ix d l wh ver) 132 (0,0))) (hx : w.heap[ix]? = some (.cells #[.map (some nm),.map (some pm)] 232 (0,0))) (hn : w.heap[nm]? = some (.map ns cn)) (hlk : ∀ W : World,W.heap[nm]? = some (.map ns cn) → (Instr.lookup 229 (.map (some nm)) (.string idA) true).run Tryz.prog W = .ok (.tuple #[.agg #[.int .u64 v,.int .u64 dl0,.bool true,.int .i64 sz,.int .i64 0,.int .i64 j],.bool true]) W) (hlg : Lst w l d m oo ln ff left (.slice none 0 0) es c k x lsn ep gen) (hok : lok a e0 rv dl s) (hj : 0 ≤ j ∧ j < k ∧ j < 2) (hf : Instr.findNow (.int .i64) (.int .i64 (2 + j)) es.toList 0 = some (some (q,.agg #[.int .i64 (2 + j),.string (lrec a e0 rv dl s).enc]))) :
 Calls Tryz.prog 59 #[.pointer (some ⟨co,0,none⟩),.string idA] w fun e w' => e = .returned (.tuple #[.agg #[.string idA,.string s,.int .u64 dl],.bool true]) ∧ Below w.heap.size w w' := by
 have HC := Aside0.mk hc
 have HX := Aside0.mk hx
 have HN := Aside0.mk hn
 have HLK := Aside0.mk hlk
 have HLS := Aside0.mk hlg
 have HOK := Aside0.mk hok
 have HJ := Aside0.mk hj
 have HF := Aside0.mk hf
 clear hlg hok hj hf
 clear hc hx hn hlk
 go_enter Tryz.func59,Tryz.ntmps59
 go_upto_region 1 with fail
 obtain ⟨W1,g4,hW_,hg4,H4,hb_⟩ := new1 w #[.string { data := #[] },.string { data := #[] },.int .u64 0] 124
 rw [← hW_,← hg4.out]
 replace HC := mb HC hb_
 replace HX := mb HX hb_
 replace HN := mb HN hb_
 have HB := Aside0.mk hb_
 clear hW_ hb_
 have G4 : Aside0 (w.heap.size ≤ g4) := ⟨by have := hg4.out; omega⟩
 have y0 : W1.cell? ⟨co,0,none⟩ = some (.pointer (some ⟨ix,0,none⟩)) := cL HC 0 rfl
 go_wp2_with fail
 refine (newest_calls ix nm pm cn ns v dl0 sz 0 j true true _ HX.out HN.out HLK.out).mono ?_
 rintro e_ W2 ⟨rfl,hb⟩
 clear y0
 replace HC := mb HC hb
 replace HX := mb HX hb
 replace HN := mb HN hb
 replace H4 := mb H4 hb
 replace HB := mS HB hb
 clear hb
 obtain ⟨W3,hW_⟩ : ∃ W_,W_ = (W2.alloc (.cells #[.int .u64 0,.int .u64 0,.bool false,.int .i64 0,.int .i64 0,.int .i64 0] 183)).setRow W2.heap.size #[.int .u64 v,.int .u64 dl0,.bool true,.int .i64 sz,.int .i64 0,.int .i64 j] := ⟨_,rfl⟩
 obtain ⟨g6,hg_⟩ : ∃ g_,g_ = W2.heap.size := ⟨_,rfl⟩
 have hb : Below W2.heap.size W2 W3 := by rw [hW_]; exact below_setRow (below_alloc (Below.refl _ _) _) (Nat.le_refl _) _
 have H6 : Aside0 (W3.heap[g6]? = some (.cells #[.int .u64 v,.int .u64 dl0,.bool true,.int .i64 sz,.int .i64 0,.int .i64 j] 183 (0,0))) := ⟨by rw [hW_,hg_]; exact setRow_heap _ _ _ _ _ _ (blk_new W2 (.cells #[.int .u64 0,.int .u64 0,.bool false,.int .i64 0,.int .i64 0,.int .i64 0] 183))⟩
 replace HC := mb HC hb
 replace HX := mb HX hb
 replace HN := mb HN hb
 replace H4 := mb H4 hb
 replace HB := mS HB hb
 have y0 : W3.cell? ⟨g6,0,none⟩ = some (.int .u64 v) := cL H6 0 rfl
 have y1 : W3.cell? ⟨g6,1,none⟩ = some (.int .u64 dl0) := cL H6 1 rfl
 have y2 : W3.cell? ⟨g6,2,none⟩ = some (.bool true) := cL H6 2 rfl
 have y3 : W3.cell? ⟨g6,3,none⟩ = some (.int .i64 sz) := cL H6 3 rfl
 have y4 : W3.cell? ⟨g6,4,none⟩ = some (.int .i64 0) := cL H6 4 rfl
 have y5 : W3.cell? ⟨g6,5,none⟩ = some (.int .i64 j) := cL H6 5 rfl
 have HWW := Aside0.mk hW_
 have HGG := Aside0.mk hg_
 rw [hW_,hg_] at y0 y1 y2 y3 y4 y5
 clear hb hW_ hg_
 go_upto_region 4 with (refine sr_ 6 17 #[.int .u64 v,.int .u64 dl0,.bool true,.int .i64 sz,.int .i64 0,.int .i64 j] (blk_new W2 (.cells #[.int .u64 0,.int .u64 0,.bool false,.int .i64 0,.int .i64 0,.int .i64 0] 183)) ?_)
 rw [← HWW.out,← HGG.out]
 clear y0 y1 y2 y3 y4 y5
 clear HX HN
 refine st_ 13 (fun w' => w'.cell? ⟨co,2,none⟩ = some (.pointer (some ⟨l,0,none⟩)) ∧ w'.cell? ⟨g6,4,none⟩ = some (.int .i64 0) ∧ w'.cell? ⟨g6,5,none⟩ = some (.int .i64 j)) [11] ⟨(cD HC 2 rfl),(cD H6 4 rfl),(cD H6 5 rfl)⟩ fun hHeld => ?_
 refine with_tabW csess.tab4 csess.bits4 (fun HT_ HW_ => ?_)
 replace HC := mD HC
 replace H4 := mD H4
 replace H6 := mD H6
 replace HB := bD HB
 generalize W3.drew = wd1 at *
 refine pa_ 0 28 HT_ ?_
 refine pa_ 1 29 HT_ ?_
 refine pa_ 2 30 HT_ ?_
 refine pa_ 4 32 HT_ ?_
 refine ta_ 3 31 HT_ HW_ hHeld ?_
 refine ta_ 5 33 HT_ HW_ hHeld ?_
 refine jn_ (σ := Nat) 2 [11,2] (fun s_ => [(34,.tuple #[.agg #[.int .u64 a,.int .u32 e0,.int .i64 1,.int .u64 rv,.int .u64 dl,.string idA,.string s],.int .i64 0]),(8,.pointer (some ⟨s_,0,none⟩)),(27,.tuple #[.agg #[.int .u64 a,.int .u32 e0,.int .i64 1,.int .u64 rv,.int .u64 dl,.string idA,.string s],.int .i64 0]),(35,.agg #[.int .u64 a,.int .u32 e0,.int .i64 1,.int .u64 rv,.int .u64 dl,.string idA,.string s]),(36,.int .i64 0)]) (fun s_ w' => w'.heap[co]? = some (.cells (coc ix d l wh ver) 132 (0,0)) ∧ w'.heap[g4]? = some (.cells #[.string { data := #[] },.string { data := #[] },.int .u64 0] 124 (0,0)) ∧ w'.heap[g6]? = some (.cells #[.int .u64 v,.int .u64 dl0,.bool true,.int .i64 sz,.int .i64 0,.int .i64 j] 183 (0,0)) ∧ w'.heap[s_]? = some (.cells #[.int .u64 0,.int .u32 0,.int .i64 0,.int .u64 0,.int .u64 0,.string { data := #[] },.string { data := #[] }] 188 (0,0)) ∧ w.heap.size ≤ s_ ∧ s_ ≠ co ∧ s_ ≠ g4 ∧ s_ ≠ g6 ∧ Below w.heap.size w w') ?_ ?_
 rotate_left
 ·intro hJ6_10
  refine jn_ (σ := Unit) 3 [10,3] (fun s_ => [(34,.tuple #[.agg #[.int .u64 a,.int .u32 e0,.int .i64 1,.int .u64 rv,.int .u64 dl,.string idA,.string s],.int .i64 0]),(27,.tuple #[.agg #[.int .u64 a,.int .u32 e0,.int .i64 1,.int .u64 rv,.int .u64 dl,.string idA,.string s],.int .i64 0]),(35,.agg #[.int .u64 a,.int .u32 e0,.int .i64 1,.int .u64 rv,.int .u64 dl,.string idA,.string s]),(36,.int .i64 0)]) (fun s_ w' => w'.heap[co]? = some (.cells (coc ix d l wh ver) 132 (0,0)) ∧ w'.heap[g4]? = some (.cells #[.string { data := #[] },.string { data := #[] },.int .u64 0] 124 (0,0)) ∧ w'.heap[g6]? = some (.cells #[.int .u64 v,.int .u64 dl0,.bool true,.int .i64 sz,.int .i64 0,.int .i64 j] 183 (0,0)) ∧ Below w.heap.size w w') ?_ ?_
  rotate_left
  ·intro hJ6
   refine jn_ (σ := Nat) 6 [6,4,1,2] (fun s_ => [(8,.pointer (some ⟨s_,0,none⟩))]) (fun s_ w' => w'.heap[co]? = some (.cells (coc ix d l wh ver) 132 (0,0)) ∧ w'.heap[g4]? = some (.cells #[.string { data := #[] },.string { data := #[] },.int .u64 0] 124 (0,0)) ∧ w'.heap[g6]? = some (.cells #[.int .u64 v,.int .u64 dl0,.bool true,.int .i64 sz,.int .i64 0,.int .i64 j] 183 (0,0)) ∧ w'.heap[s_]? = some (.cells #[.int .u64 0,.int .u32 0,.int .i64 0,.int .u64 0,.int .u64 0,.string { data := #[] },.string { data := #[] }] 188 (0,0)) ∧ w.heap.size ≤ s_ ∧ s_ ≠ co ∧ s_ ≠ g4 ∧ s_ ≠ g6 ∧ Below w.heap.size w w') ?_ ?_
   rotate_left
   ·intro hJ10
    refine tw_ 6 10 HT_ (fun K hK => ?_) fun K hK => ?_
    ·skip
     refine gc_ Tryz.func118 #[.pointer (some ⟨l,0,none⟩),.agg #[.int .i64 0,.int .i64 j]] ?_
     with_reducible refine (lread_calls l d m oo ln ff left es c q k x lsn ep gen j a e0 rv dl s _ (HLS.out.below HB.out) HOK.out HJ.out HF.out).mono ?_
     rintro e_ wk ⟨rfl,hb⟩
     refine ⟨_,rfl,?_⟩
     replace HC := mb HC hb
     replace H4 := mb H4 hb
     replace H6 := mb H6 hb
     replace HB := mS HB hb
     clear hb
     refine hK.out _ _ ⟨(cL HC 2 rfl),(cL H6 4 rfl),(cL H6 5 rfl)⟩ (fun hHeld => ?_)
     clear hK K
     refine no_ 34 ?_
     refine pa_ 7 27 HT_ ?_
     refine pa_ 8 35 HT_ ?_
     refine pa_ 9 36 HT_ ?_
     exact nx_ (hJ6 () _ ⟨HC.out,H4.out,H6.out,HB.out⟩)
    ·skip
     refine va_ ?_
     obtain ⟨wk,hW⟩ : ∃ W_,W_ = wd1.alloc (.cells #[.int .u64 0,.int .u32 0,.int .i64 0,.int .u64 0,.int .u64 0,.string { data := #[] },.string { data := #[] }] 188) := ⟨_,rfl⟩
     obtain ⟨b8,hh⟩ : ∃ g_,g_ = wd1.heap.size := ⟨_,rfl⟩
     rw [← hW,← hh]
     have HGb8 : Aside0 (w.heap.size ≤ b8) := ⟨by rw [hh]; exact HB.out.size⟩
     have HAb8_co : Aside0 (b8 ≠ co) := ⟨by rw [hh]; exact (Nat.ne_of_lt (blk_lt HC.out)).symm⟩
     have HAb8_g4 : Aside0 (b8 ≠ g4) := ⟨by rw [hh]; exact (Nat.ne_of_lt (blk_lt H4.out)).symm⟩
     have HAb8_g6 : Aside0 (b8 ≠ g6) := ⟨by rw [hh]; exact (Nat.ne_of_lt (blk_lt H6.out)).symm⟩
     have hb_ : Below wd1.heap.size wd1 wk := by rw [hW]; exact below_alloc (Below.refl _ _) _
     replace HC := mb HC hb_
     replace H4 := mb H4 hb_
     replace H6 := mb H6 hb_
     replace HB := mS HB hb_
     have HRb8 : Aside0 (wk.heap[b8]? = some (.cells #[.int .u64 0,.int .u32 0,.int .i64 0,.int .u64 0,.int .u64 0,.string { data := #[] },.string { data := #[] }] 188 (0,0))) := ⟨by rw [hW,hh]; exact blk_new _ _⟩
     clear hW hh hb_
     refine hK.out _ _ ⟨(cL HC 2 rfl),(cL H6 4 rfl),(cL H6 5 rfl)⟩ (fun hHeld => ?_)
     clear hK K
     refine no_ 8 ?_
     exact nx_ (hJ10 b8 _ ⟨HC.out,H4.out,H6.out,HRb8.out,HGb8.out,HAb8_co.out,HAb8_g4.out,HAb8_g6.out,HB.out⟩)
   ·skip
    rintro b8 wj ⟨h_0,h_1,h_2,h_3,h_4,h_5,h_6,h_7,h_8⟩
    try dsimp only at h_0 h_1 h_2 h_3 h_4 h_5 h_6 h_7 h_8
    clear HC H4 H6 HB
    have HC := Aside0.mk h_0
    have H4 := Aside0.mk h_1
    have H6 := Aside0.mk h_2
    have HRb8 := Aside0.mk h_3
    have HGb8 := Aside0.mk h_4
    have HAb8_co := Aside0.mk h_5
    have HAb8_g4 := Aside0.mk h_6
    have HAb8_g6 := Aside0.mk h_7
    have HB := Aside0.mk h_8
    clear h_0 h_1 h_2 h_3 h_4 h_5 h_6 h_7 h_8
    refine hd_ ⟨(cL HC 2 rfl),(cL H6 4 rfl),(cL H6 5 rfl)⟩ fun hHeld => ?_
    refine na_ ?_
    refine on_ 6 HT_ fun K hK => ?_
    refine gc_ Tryz.func118 #[.pointer (some ⟨l,0,none⟩),.agg #[.int .i64 0,.int .i64 j]] ?_
    with_reducible refine (lread_calls l d m oo ln ff left es c q k x lsn ep gen j a e0 rv dl s _ (HLS.out.below HB.out) HOK.out HJ.out HF.out).mono ?_
    rintro e_ wk ⟨rfl,hb⟩
    refine ⟨_,rfl,?_⟩
    replace HC := mb HC hb
    replace H4 := mb H4 hb
    replace H6 := mb H6 hb
    replace HRb8 := mb HRb8 hb
    replace HB := mS HB hb
    clear hb
    refine hK.out _ _ ⟨(cL HC 2 rfl),(cL H6 4 rfl),(cL H6 5 rfl)⟩ (fun hHeld => ?_)
    clear hK K
    refine no_ 34 ?_
    refine pa_ 7 27 HT_ ?_
    refine pa_ 8 35 HT_ ?_
    refine pa_ 9 36 HT_ ?_
    exact nx_ (hJ6_10 b8 _ ⟨HC.out,H4.out,H6.out,HRb8.out,HGb8.out,HAb8_co.out,HAb8_g4.out,HAb8_g6.out,HB.out⟩)
  ·skip
   rintro ⟨⟩ wj ⟨h_0,h_1,h_2,h_3⟩
   try dsimp only at h_0 h_1 h_2 h_3
   clear HC H4 H6 HB
   have HC := Aside0.mk h_0
   have H4 := Aside0.mk h_1
   have H6 := Aside0.mk h_2
   have HB := Aside0.mk h_3
   clear h_0 h_1 h_2 h_3
   refine hd_ ⟨(cL HC 2 rfl),(cL H6 4 rfl),(cL H6 5 rfl)⟩ fun hHeld => ?_
   refine na_ ?_
   refine on_ 10 HT_ fun K hK => ?_
   refine va_ ?_
   obtain ⟨wk,hW⟩ : ∃ W_,W_ = wj.alloc (.cells #[.int .u64 0,.int .u32 0,.int .i64 0,.int .u64 0,.int .u64 0,.string { data := #[] },.string { data := #[] }] 188) := ⟨_,rfl⟩
   obtain ⟨b8,hh⟩ : ∃ g_,g_ = wj.heap.size := ⟨_,rfl⟩
   rw [← hW,← hh]
   have HGb8 : Aside0 (w.heap.size ≤ b8) := ⟨by rw [hh]; exact HB.out.size⟩
   have HAb8_co : Aside0 (b8 ≠ co) := ⟨by rw [hh]; exact (Nat.ne_of_lt (blk_lt HC.out)).symm⟩
   have HAb8_g4 : Aside0 (b8 ≠ g4) := ⟨by rw [hh]; exact (Nat.ne_of_lt (blk_lt H4.out)).symm⟩
   have HAb8_g6 : Aside0 (b8 ≠ g6) := ⟨by rw [hh]; exact (Nat.ne_of_lt (blk_lt H6.out)).symm⟩
   have hb_ : Below wj.heap.size wj wk := by rw [hW]; exact below_alloc (Below.refl _ _) _
   replace HC := mb HC hb_
   replace H4 := mb H4 hb_
   replace H6 := mb H6 hb_
   replace HB := mS HB hb_
   have HRb8 : Aside0 (wk.heap[b8]? = some (.cells #[.int .u64 0,.int .u32 0,.int .i64 0,.int .u64 0,.int .u64 0,.string { data := #[] },.string { data := #[] }] 188 (0,0))) := ⟨by rw [hW,hh]; exact blk_new _ _⟩
   clear hW hh hb_
   refine hK.out _ _ ⟨(cL HC 2 rfl),(cL H6 4 rfl),(cL H6 5 rfl)⟩ (fun hHeld => ?_)
   clear hK K
   refine no_ 8 ?_
   exact nx_ (hJ6_10 b8 _ ⟨HC.out,H4.out,H6.out,HRb8.out,HGb8.out,HAb8_co.out,HAb8_g4.out,HAb8_g6.out,HB.out⟩)
 rintro b8 wj ⟨h_0,h_1,h_2,h_3,h_4,h_5,h_6,h_7,h_8⟩
 try dsimp only at h_0 h_1 h_2 h_3 h_4 h_5 h_6 h_7 h_8
 clear HC H4 H6 HB
 have HC := Aside0.mk h_0
 have H4 := Aside0.mk h_1
 have H6 := Aside0.mk h_2
 have HRb8 := Aside0.mk h_3
 have HGb8 := Aside0.mk h_4
 have HAb8_co := Aside0.mk h_5
 have HAb8_g4 := Aside0.mk h_6
 have HAb8_g6 := Aside0.mk h_7
 have HB := Aside0.mk h_8
 clear h_0 h_1 h_2 h_3 h_4 h_5 h_6 h_7 h_8
 refine hd_ ⟨(cL HC 2 rfl),(cL H6 4 rfl),(cL H6 5 rfl)⟩ fun hHeld => ?_
 refine na_ ?_
 refine la_ 11 HT_ fun K hK => ?_
 refine sR_ 8 35 #[.int .u64 a,.int .u32 e0,.int .i64 1,.int .u64 rv,.int .u64 dl,.string idA,.string s] HRb8.out ?_
 refine hK.out _ _ ?_
 clear hK K
 refine pa_ 12 9 HT_ ?_
 refine dn_ HT_ ?_
 clear HT_ HW_ hHeld
 obtain ⟨Wc,hW⟩ : ∃ W_,W_ = wj.setRow b8 #[.int .u64 a,.int .u32 e0,.int .i64 1,.int .u64 rv,.int .u64 dl,.string idA,.string s] := ⟨_,rfl⟩
 rw [← hW]
 have q_ := mR #[.int .u64 a,.int .u32 e0,.int .i64 1,.int .u64 rv,.int .u64 dl,.string idA,.string s] H4.out HAb8_g4.out.symm
 rw [← hW] at q_
 replace H4 := Aside0.mk q_
 clear q_
 have q_ := below_setRow HB.out HGb8.out #[.int .u64 a,.int .u32 e0,.int .i64 1,.int .u64 rv,.int .u64 dl,.string idA,.string s]
 rw [← hW] at q_
 replace HB := Aside0.mk q_
 clear q_
 have q_ := setRow_heap wj b8 _ #[.int .u64 a,.int .u32 e0,.int .i64 1,.int .u64 rv,.int .u64 dl,.string idA,.string s] _ _ HRb8.out
 rw [← hW] at q_
 replace HRb8 := Aside0.mk q_
 clear q_
 clear hW
 have y0 : Wc.cell? ⟨b8,0,none⟩ = some (.int .u64 a) := cL HRb8 0 rfl
 have y1 : Wc.cell? ⟨b8,1,none⟩ = some (.int .u32 e0) := cL HRb8 1 rfl
 have y2 : Wc.cell? ⟨b8,2,none⟩ = some (.int .i64 1) := cL HRb8 2 rfl
 have y3 : Wc.cell? ⟨b8,3,none⟩ = some (.int .u64 rv) := cL HRb8 3 rfl
 have y4 : Wc.cell? ⟨b8,4,none⟩ = some (.int .u64 dl) := cL HRb8 4 rfl
 have y5 : Wc.cell? ⟨b8,5,none⟩ = some (.string idA) := cL HRb8 5 rfl
 have y6 : Wc.cell? ⟨b8,6,none⟩ = some (.string s) := cL HRb8 6 rfl
 go_wp2_with (refine sr_ 4 43 #[.string idA,.string s,.int .u64 dl] H4.out ?_)
 refine bodyPost_ret (results_ct rfl _ _ g4 124 #[.string idA,.string s,.int .u64 dl] (0,0) _ rfl (setRow_heap _ _ _ _ _ _ H4.out) Tryz.underlying124 rfl (by kernel_rfl)) rfl ?_
 exact ⟨rfl,below_setRow HB.out G4.out _⟩
end Go.Proofs.YtokfjbbjkiilmaaGreatDoor.H
namespace Go.Proofs.YtokfjbbjkiilmaaGreatDoor.H
open Go.RowKit Go.Proofs.YtokfjbbjkiilmaaGreatDoorW.PrintWords Go.Proofs.YtokfjbbjkiilmaaGreatDoorW.PrintLast Go.Proofs.YtokfjbbjkiilmaaGreatDoorW.PrintMore
set_option maxHeartbeats 8000000
set_option maxRecDepth 100000
attribute [local go_sem] max2_int min2_int min_two max_two
def cput.T1 : Bool × List (List Nat × List Nat) := (true,[([],[]),([0],[0]),([1],[1]),([2],[2]),([],[]),([3,4],[3,4]),([5],[5]),([6],[6]),([6],[6]),([],[]),([9,7,5,0,1,2,3,4,5,6,7,9],[7,9]),([8,10,0,1,2,3,4,5,6,7,8,9,10],[8])])
def cput.B1 : List Nat := [0,1,3,7,0,31,63,127,127,0,767,2047]
theorem cput.tab1 : rtab .any (opsOf Tryz.f159 1) = cput.T1 := by kernel_rfl
theorem cput.bits1 : waitsOk cput.T1.2 cput.B1 = true := by kernel_rfl
def cput.T3 : Bool × List (List Nat × List Nat) := (true,[([],[]),([],[]),([1],[1]),([2],[2]),([3],[3]),([],[]),([],[]),([4,5,6],[4,5,6]),([0,7,0],[0]),([7,8,0,1,2,3,4,5,6,7,8],[7])])
def cput.B3 : List Nat := [0,0,2,6,14,0,0,126,255,511]
theorem cput.tab3 : rtab .any (opsOf Tryz.f159 3) = cput.T3 := by kernel_rfl
theorem cput.bits3 : waitsOk cput.T3.2 cput.B3 = true := by kernel_rfl
theorem cput_calls (co ix d l wh nm pm am m oo ln ff : Nat) (left : Int) (es : Array MapEntry) (c : Nat) (k x lsn ep gen ver0 : Int) (ns : Array MapEntry) (cn : Nat) (ps : Array MapEntry) (cp : Nat) (l0 e0 ver dl : Int) (s : ByteArray) (ps' : Array MapEntry) (cp' cn' : Nat) (ns' : Int → Array MapEntry) (v1 dl1 sz1 sg1 sl1 : Int) (lv1 b1 : Bool) (w : World) (h : Kos w co ix d l wh nm pm am m oo ln ff left (.slice none 0 0) es c k x lsn ep gen ver0 ns cn ps cp) (hok : lok lsn ep ver dl s) (hl1 : lsn + 1 < 18446744073709551616) (hk : k = 0 ∨ k = 1) (hlf : -1000 ≤ left ∧ left ≤ 0) (hlp : ∀ W : World,W.heap[pm]? = some (.map ps cp) → (Instr.lookup 230 (.map (some pm)) (.agg #[.int .i64 0,.int .i64 k]) true).run Tryz.prog W = .ok (.tuple #[.agg #[.string { data := #[] }],.bool false]) W) (hup : ∀ W : World,W.heap[pm]? = some (.map ps cp) → (Instr.mapUpdate 230 (.map (some pm)) (.agg #[.int .i64 0,.int .i64 k]) (.agg #[.string idA])).run Tryz.prog W = .ok () (setMap W pm ps' cp')) (hlk : ∀ W : World,W.heap[nm]? = some (.map ns cn) → (Instr.lookup 229 (.map (some nm)) (.string idA) true).run Tryz.prog W = .ok (.tuple #[.agg #[.int .u64 v1,.int .u64 dl1,.bool lv1,.int .i64 sz1,.int .i64 sg1,.int .i64 sl1],.bool b1]) W) (hun : ∀ (z : Int) (W : World),W.heap[nm]? = some (.map ns cn) → (Instr.mapUpdate 229 (.map (some nm)) (.string idA) (.agg #[.int .u64 ver,.int .u64 dl,.bool true,.int .i64 z,.int .i64 0,.int .i64 k])).run Tryz.prog W = .ok () (setMap W nm (ns' z) cn')) (hv : v1 ≤ ver) :
 Calls Tryz.prog 159 #[.pointer (some ⟨co,0,none⟩),.agg #[.int .u64 l0,.int .u32 e0,.int .i64 1,.int .u64 ver,.int .u64 dl,.string idA,.string s]] w fun e w' => e = .returned (.tuple #[.agg #[.int .i64 0,.int .i64 k],.bool true]) ∧ ∃ (v2 : Value) (ao al af : Nat) (z : Int),w'.ownsRow 0 286 2 v2 1 [.int .i64 (2 + k),.string (lrec lsn ep ver dl s).enc] ∧ Kos w' co ix d l wh nm pm am m ao al af (left - 1) v2 es c (k + 1) x (lsn + 1) ep gen ver0 (ns' z) cn' ps' cp' ∧ Keep [d,l,nm,pm] w w' := by
 have H := Aside0.mk h
 have HOK := Aside0.mk hok
 have HL1 := Aside0.mk hl1
 have HK := Aside0.mk hk
 have HLF := Aside0.mk hlf
 have HLP := Aside0.mk hlp
 have HUP := Aside0.mk hup
 have HLK := Aside0.mk hlk
 have HUN := Aside0.mk hun
 have HVV := Aside0.mk hv
 obtain ⟨q1,q2,q3,q4,q5,q6⟩ := h
 have HC := Aside0.mk q1
 have HX := Aside0.mk q2
 have HN := Aside0.mk q3
 have HP := Aside0.mk q4
 have HLG := Aside0.mk q5
 have HND := Aside0.mk q6
 clear q1 q2 q3 q4 q5 q6 hok hl1 hk hlf hlp hup hlk hun hv
 go_enter Tryz.func159,Tryz.ntmps159
 go_upto_region 1 with fail
 obtain ⟨W1,g3,g4,hW_,hg3,hg4,H3,H4,hb_⟩ := new2 w #[.int .u64 l0,.int .u32 e0,.int .i64 1,.int .u64 ver,.int .u64 dl,.string idA,.string s] 188 #[.int .i64 0,.int .i64 0] 177
 rw [← hW_,← hg4.out,← hg3.out]
 replace HC := mb HC hb_
 replace HX := mb HX hb_
 replace HN := mb HN hb_
 replace HP := mb HP hb_
 have HB := Aside0.mk hb_
 clear hW_ hb_
 have G4 : Aside0 (w.heap.size ≤ g4) := ⟨by have := hg4.out; omega⟩
 replace HLG : Aside0 (Lst W1 l d m oo ln ff left (.slice none 0 0) es c k x lsn ep gen) := ⟨HLG.out.below HB.out⟩
 have HKP : Aside0 (Keep [d,l] w W1) := ⟨Keep.below HB.out⟩
 clear HB
 refine st_ 12 (fun w' => w'.cell? ⟨co,2,none⟩ = some (.pointer (some ⟨l,0,none⟩)) ∧ w'.cell? ⟨g3,0,none⟩ = some (.int .u64 l0) ∧ w'.cell? ⟨g3,1,none⟩ = some (.int .u32 e0) ∧ w'.cell? ⟨g3,2,none⟩ = some (.int .i64 1) ∧ w'.cell? ⟨g3,3,none⟩ = some (.int .u64 ver) ∧ w'.cell? ⟨g3,4,none⟩ = some (.int .u64 dl) ∧ w'.cell? ⟨g3,5,none⟩ = some (.string idA) ∧ w'.cell? ⟨g3,6,none⟩ = some (.string s)) [10] ⟨(cD HC 2 rfl),(cD H3 0 rfl),(cD H3 1 rfl),(cD H3 2 rfl),(cD H3 3 rfl),(cD H3 4 rfl),(cD H3 5 rfl),(cD H3 6 rfl)⟩ fun hHeld => ?_
 refine with_tabW cput.tab1 cput.bits1 (fun HT_ HW_ => ?_)
 replace HC := mD HC
 replace HX := mD HX
 replace H3 := mD H3
 replace H4 := mD H4
 replace HN := mD HN
 replace HP := mD HP
 replace HLG : Aside0 (Lst W1.drew l d m oo ln ff left (.slice none 0 0) es c k x lsn ep gen) := ⟨HLG.out.below (below_drew (Below.refl _ _))⟩
 replace HKP : Aside0 (Keep [d,l] w W1.drew) := ⟨HKP.out.drew⟩
 generalize W1.drew = wd1 at *
 refine pa_ 0 9 HT_ ?_
 refine pa_ 1 10 HT_ ?_
 refine pa_ 2 11 HT_ ?_
 refine ta_ 3 12 HT_ HW_ hHeld ?_
 refine ta_ 4 13 HT_ HW_ hHeld ?_
 refine jn_ (σ := (Value × Nat × Nat × Nat) × Nat) 2 [10,2] (fun s_ => [(14,.tuple #[.agg #[.int .i64 0,.int .i64 k],.int .i64 0]),(6,.pointer (some ⟨s_.2,0,none⟩)),(8,.tuple #[.agg #[.int .i64 0,.int .i64 k],.int .i64 0]),(15,.agg #[.int .i64 0,.int .i64 k]),(16,.int .i64 0)]) (fun s_ w' => w'.heap[co]? = some (.cells (coc ix d l wh ver0) 132 (0,0)) ∧ w'.heap[ix]? = some (.cells #[.map (some nm),.map (some pm)] 232 (0,0)) ∧ w'.heap[g3]? = some (.cells #[.int .u64 l0,.int .u32 e0,.int .i64 1,.int .u64 ver,.int .u64 dl,.string idA,.string s] 188 (0,0)) ∧ w'.heap[g4]? = some (.cells #[.int .i64 0,.int .i64 0] 177 (0,0)) ∧ w'.heap[nm]? = some (.map ns cn) ∧ w'.heap[pm]? = some (.map ps cp) ∧ Lst w' l d m s_.1.2.1 s_.1.2.2.1 s_.1.2.2.2 (left - 1) s_.1.1 es c (k + 1) x (lsn + 1) ep gen ∧ w'.ownsRow 0 286 2 s_.1.1 1 [.int .i64 (2 + k),.string (lrec lsn ep ver dl s).enc] ∧ w'.heap[s_.2]? = some (.cells #[.int .i64 0,.int .i64 0] 177 (0,0)) ∧ w.heap.size ≤ s_.2 ∧ s_.2 ≠ g4 ∧ Keep [d,l] w w') ?_ ?_
 rotate_left
 ·intro hJ5_9
  refine jn_ (σ := (Value × Nat × Nat × Nat)) 3 [9,3] (fun s_ => [(14,.tuple #[.agg #[.int .i64 0,.int .i64 k],.int .i64 0]),(8,.tuple #[.agg #[.int .i64 0,.int .i64 k],.int .i64 0]),(15,.agg #[.int .i64 0,.int .i64 k]),(16,.int .i64 0)]) (fun s_ w' => w'.heap[co]? = some (.cells (coc ix d l wh ver0) 132 (0,0)) ∧ w'.heap[ix]? = some (.cells #[.map (some nm),.map (some pm)] 232 (0,0)) ∧ w'.heap[g3]? = some (.cells #[.int .u64 l0,.int .u32 e0,.int .i64 1,.int .u64 ver,.int .u64 dl,.string idA,.string s] 188 (0,0)) ∧ w'.heap[g4]? = some (.cells #[.int .i64 0,.int .i64 0] 177 (0,0)) ∧ w'.heap[nm]? = some (.map ns cn) ∧ w'.heap[pm]? = some (.map ps cp) ∧ Lst w' l d m s_.2.1 s_.2.2.1 s_.2.2.2 (left - 1) s_.1 es c (k + 1) x (lsn + 1) ep gen ∧ w'.ownsRow 0 286 2 s_.1 1 [.int .i64 (2 + k),.string (lrec lsn ep ver dl s).enc] ∧ Keep [d,l] w w') ?_ ?_
  rotate_left
  ·intro hJ5
   refine jn_ (σ := Nat) 6 [5,4,1,2] (fun s_ => [(6,.pointer (some ⟨s_,0,none⟩))]) (fun s_ w' => w'.heap[co]? = some (.cells (coc ix d l wh ver0) 132 (0,0)) ∧ w'.heap[ix]? = some (.cells #[.map (some nm),.map (some pm)] 232 (0,0)) ∧ w'.heap[g3]? = some (.cells #[.int .u64 l0,.int .u32 e0,.int .i64 1,.int .u64 ver,.int .u64 dl,.string idA,.string s] 188 (0,0)) ∧ w'.heap[g4]? = some (.cells #[.int .i64 0,.int .i64 0] 177 (0,0)) ∧ w'.heap[nm]? = some (.map ns cn) ∧ w'.heap[pm]? = some (.map ps cp) ∧ Lst w' l d m oo ln ff left (.slice none 0 0) es c k x lsn ep gen ∧ w'.heap[s_]? = some (.cells #[.int .i64 0,.int .i64 0] 177 (0,0)) ∧ w.heap.size ≤ s_ ∧ s_ ≠ g4 ∧ Keep [d,l] w w') ?_ ?_
   rotate_left
   ·intro hJ9
    refine tw_ 5 9 HT_ (fun K hK => ?_) fun K hK => ?_
    ·skip
     refine gc_ Tryz.func198 #[.pointer (some ⟨l,0,none⟩),.agg #[.int .u64 l0,.int .u32 e0,.int .i64 1,.int .u64 ver,.int .u64 dl,.string idA,.string s]] ?_
     with_reducible refine (lappend_calls l d m oo ln ff left es c k x lsn ep gen l0 e0 ver dl s _ HLG.out HOK.out HL1.out HK.out HLF.out).mono ?_
     rintro e_ wk ⟨rfl,v2,ao,al,af,ho,hl,hk⟩
     refine ⟨_,rfl,?_⟩
     have HOW := Aside0.mk ho
     have HLN := Aside0.mk hl
     replace HC := Aside0.mk (blk_keep HC.out hk (by simp [tne HC.out HLG.out.hd (by decide),tne HC.out HLG.out.hl (by decide)]))
     replace HX := Aside0.mk (blk_keep HX.out hk (by simp [tne HX.out HLG.out.hd (by decide),tne HX.out HLG.out.hl (by decide)]))
     replace H3 := Aside0.mk (blk_keep H3.out hk (by simp [tne H3.out HLG.out.hd (by decide),tne H3.out HLG.out.hl (by decide)]))
     replace H4 := Aside0.mk (blk_keep H4.out hk (by simp [tne H4.out HLG.out.hd (by decide),tne H4.out HLG.out.hl (by decide)]))
     replace HN := Aside0.mk (blk_keep HN.out hk (by simp [map_ne HN.out HLG.out.hd,map_ne HN.out HLG.out.hl]))
     replace HP := Aside0.mk (blk_keep HP.out hk (by simp [map_ne HP.out HLG.out.hd,map_ne HP.out HLG.out.hl]))
     replace HKP : Aside0 (Keep [d,l] w wk) := ⟨HKP.out.trans hk⟩
     clear HLG ho hl hk
     have HLG := HLN
     clear HLN
     refine hK.out _ _ ⟨(cL HC 2 rfl),(cL H3 0 rfl),(cL H3 1 rfl),(cL H3 2 rfl),(cL H3 3 rfl),(cL H3 4 rfl),(cL H3 5 rfl),(cL H3 6 rfl)⟩ (fun hHeld => ?_)
     clear hK K
     refine no_ 14 ?_
     refine pa_ 6 8 HT_ ?_
     refine pa_ 7 15 HT_ ?_
     refine pa_ 8 16 HT_ ?_
     exact nx_ (hJ5 (v2,ao,al,af) _ ⟨HC.out,HX.out,H3.out,H4.out,HN.out,HP.out,HLG.out,HOW.out,HKP.out⟩)
    ·skip
     refine va_ ?_
     obtain ⟨wk,hW⟩ : ∃ W_,W_ = wd1.alloc (.cells #[.int .i64 0,.int .i64 0] 177) := ⟨_,rfl⟩
     obtain ⟨g6,hh⟩ : ∃ g_,g_ = wd1.heap.size := ⟨_,rfl⟩
     rw [← hW,← hh]
     have G6 : Aside0 (w.heap.size ≤ g6) := ⟨by rw [hh]; exact HKP.out.size⟩
     have N64 : Aside0 (g6 ≠ g4) := ⟨by rw [hh]; exact (Nat.ne_of_lt (blk_lt H4.out)).symm⟩
     have hb_ : Below wd1.heap.size wd1 wk := by rw [hW]; exact below_alloc (Below.refl _ _) _
     have H6 : Aside0 (wk.heap[g6]? = some (.cells #[.int .i64 0,.int .i64 0] 177 (0,0))) := ⟨by rw [hW,hh]; exact blk_new _ _⟩
     replace HC := mb HC hb_
     replace HX := mb HX hb_
     replace H3 := mb H3 hb_
     replace H4 := mb H4 hb_
     replace HN := mb HN hb_
     replace HP := mb HP hb_
     replace HLG : Aside0 (Lst wk l d m oo ln ff left (.slice none 0 0) es c k x lsn ep gen) := ⟨HLG.out.below hb_⟩
     replace HKP : Aside0 (Keep [d,l] w wk) := ⟨HKP.out.trans (Keep.below hb_)⟩
     clear hW hh hb_
     refine hK.out _ _ ⟨(cL HC 2 rfl),(cL H3 0 rfl),(cL H3 1 rfl),(cL H3 2 rfl),(cL H3 3 rfl),(cL H3 4 rfl),(cL H3 5 rfl),(cL H3 6 rfl)⟩ (fun hHeld => ?_)
     clear hK K
     refine no_ 6 ?_
     exact nx_ (hJ9 g6 _ ⟨HC.out,HX.out,H3.out,H4.out,HN.out,HP.out,HLG.out,H6.out,G6.out,N64.out,HKP.out⟩)
   ·skip
    rintro g6 wj ⟨h_0,h_1,h_2,h_3,h_4,h_5,h_6,h_7,h_8,h_9,h_10⟩
    try dsimp only at h_0 h_1 h_2 h_3 h_4 h_5 h_6 h_7 h_8 h_9 h_10
    clear HC HX H3 H4 HN HP HLG HKP
    have HC := Aside0.mk h_0
    have HX := Aside0.mk h_1
    have H3 := Aside0.mk h_2
    have H4 := Aside0.mk h_3
    have HN := Aside0.mk h_4
    have HP := Aside0.mk h_5
    have HLG := Aside0.mk h_6
    have H6 := Aside0.mk h_7
    have G6 := Aside0.mk h_8
    have N64 := Aside0.mk h_9
    have HKP := Aside0.mk h_10
    clear h_0 h_1 h_2 h_3 h_4 h_5 h_6 h_7 h_8 h_9 h_10
    refine hd_ ⟨(cL HC 2 rfl),(cL H3 0 rfl),(cL H3 1 rfl),(cL H3 2 rfl),(cL H3 3 rfl),(cL H3 4 rfl),(cL H3 5 rfl),(cL H3 6 rfl)⟩ fun hHeld => ?_
    refine na_ ?_
    refine on_ 5 HT_ fun K hK => ?_
    refine gc_ Tryz.func198 #[.pointer (some ⟨l,0,none⟩),.agg #[.int .u64 l0,.int .u32 e0,.int .i64 1,.int .u64 ver,.int .u64 dl,.string idA,.string s]] ?_
    with_reducible refine (lappend_calls l d m oo ln ff left es c k x lsn ep gen l0 e0 ver dl s _ HLG.out HOK.out HL1.out HK.out HLF.out).mono ?_
    rintro e_ wk ⟨rfl,v2,ao,al,af,ho,hl,hk⟩
    refine ⟨_,rfl,?_⟩
    have HOW := Aside0.mk ho
    have HLN := Aside0.mk hl
    replace HC := Aside0.mk (blk_keep HC.out hk (by simp [tne HC.out HLG.out.hd (by decide),tne HC.out HLG.out.hl (by decide)]))
    replace HX := Aside0.mk (blk_keep HX.out hk (by simp [tne HX.out HLG.out.hd (by decide),tne HX.out HLG.out.hl (by decide)]))
    replace H3 := Aside0.mk (blk_keep H3.out hk (by simp [tne H3.out HLG.out.hd (by decide),tne H3.out HLG.out.hl (by decide)]))
    replace H4 := Aside0.mk (blk_keep H4.out hk (by simp [tne H4.out HLG.out.hd (by decide),tne H4.out HLG.out.hl (by decide)]))
    replace H6 := Aside0.mk (blk_keep H6.out hk (by simp [tne H6.out HLG.out.hd (by decide),tne H6.out HLG.out.hl (by decide)]))
    replace HN := Aside0.mk (blk_keep HN.out hk (by simp [map_ne HN.out HLG.out.hd,map_ne HN.out HLG.out.hl]))
    replace HP := Aside0.mk (blk_keep HP.out hk (by simp [map_ne HP.out HLG.out.hd,map_ne HP.out HLG.out.hl]))
    replace HKP : Aside0 (Keep [d,l] w wk) := ⟨HKP.out.trans hk⟩
    clear HLG ho hl hk
    have HLG := HLN
    clear HLN
    refine hK.out _ _ ⟨(cL HC 2 rfl),(cL H3 0 rfl),(cL H3 1 rfl),(cL H3 2 rfl),(cL H3 3 rfl),(cL H3 4 rfl),(cL H3 5 rfl),(cL H3 6 rfl)⟩ (fun hHeld => ?_)
    clear hK K
    refine no_ 14 ?_
    refine pa_ 6 8 HT_ ?_
    refine pa_ 7 15 HT_ ?_
    refine pa_ 8 16 HT_ ?_
    exact nx_ (hJ5_9 ((v2,ao,al,af),g6) _ ⟨HC.out,HX.out,H3.out,H4.out,HN.out,HP.out,HLG.out,HOW.out,H6.out,G6.out,N64.out,HKP.out⟩)
  ·skip
   rintro ⟨v2,ao,al,af⟩ wj ⟨h_0,h_1,h_2,h_3,h_4,h_5,h_6,h_7,h_8⟩
   try dsimp only at h_0 h_1 h_2 h_3 h_4 h_5 h_6 h_7 h_8
   clear HC HX H3 H4 HN HP HLG HKP
   have HC := Aside0.mk h_0
   have HX := Aside0.mk h_1
   have H3 := Aside0.mk h_2
   have H4 := Aside0.mk h_3
   have HN := Aside0.mk h_4
   have HP := Aside0.mk h_5
   have HLG := Aside0.mk h_6
   have HOW := Aside0.mk h_7
   have HKP := Aside0.mk h_8
   clear h_0 h_1 h_2 h_3 h_4 h_5 h_6 h_7 h_8
   refine hd_ ⟨(cL HC 2 rfl),(cL H3 0 rfl),(cL H3 1 rfl),(cL H3 2 rfl),(cL H3 3 rfl),(cL H3 4 rfl),(cL H3 5 rfl),(cL H3 6 rfl)⟩ fun hHeld => ?_
   refine na_ ?_
   refine on_ 9 HT_ fun K hK => ?_
   refine va_ ?_
   obtain ⟨wk,hW⟩ : ∃ W_,W_ = wj.alloc (.cells #[.int .i64 0,.int .i64 0] 177) := ⟨_,rfl⟩
   obtain ⟨g6,hh⟩ : ∃ g_,g_ = wj.heap.size := ⟨_,rfl⟩
   rw [← hW,← hh]
   have G6 : Aside0 (w.heap.size ≤ g6) := ⟨by rw [hh]; exact HKP.out.size⟩
   have N64 : Aside0 (g6 ≠ g4) := ⟨by rw [hh]; exact (Nat.ne_of_lt (blk_lt H4.out)).symm⟩
   have hb_ : Below wj.heap.size wj wk := by rw [hW]; exact below_alloc (Below.refl _ _) _
   have H6 : Aside0 (wk.heap[g6]? = some (.cells #[.int .i64 0,.int .i64 0] 177 (0,0))) := ⟨by rw [hW,hh]; exact blk_new _ _⟩
   replace HC := mb HC hb_
   replace HX := mb HX hb_
   replace H3 := mb H3 hb_
   replace H4 := mb H4 hb_
   replace HN := mb HN hb_
   replace HP := mb HP hb_
   replace HOW : Aside0 (wk.ownsRow 0 286 2 v2 1 [.int .i64 (2 + k),.string (lrec lsn ep ver dl s).enc]) := ⟨own_keep HOW.out (fun q hq => hb_.block q (own_lt HOW.out q hq))⟩
   replace HLG : Aside0 (Lst wk l d m ao al af (left - 1) v2 es c (k + 1) x (lsn + 1) ep gen) := ⟨HLG.out.below hb_⟩
   replace HKP : Aside0 (Keep [d,l] w wk) := ⟨HKP.out.trans (Keep.below hb_)⟩
   clear hW hh hb_
   refine hK.out _ _ ⟨(cL HC 2 rfl),(cL H3 0 rfl),(cL H3 1 rfl),(cL H3 2 rfl),(cL H3 3 rfl),(cL H3 4 rfl),(cL H3 5 rfl),(cL H3 6 rfl)⟩ (fun hHeld => ?_)
   clear hK K
   refine no_ 6 ?_
   exact nx_ (hJ5_9 ((v2,ao,al,af),g6) _ ⟨HC.out,HX.out,H3.out,H4.out,HN.out,HP.out,HLG.out,HOW.out,H6.out,G6.out,N64.out,HKP.out⟩)
 rintro ⟨⟨v2,ao,al,af⟩,g6⟩ wj ⟨h_0,h_1,h_2,h_3,h_4,h_5,h_6,h_7,h_8,h_9,h_10,h_11⟩
 try dsimp only at h_0 h_1 h_2 h_3 h_4 h_5 h_6 h_7 h_8 h_9 h_10 h_11
 clear HC HX H3 H4 HN HP HLG HKP
 have HC := Aside0.mk h_0
 have HX := Aside0.mk h_1
 have H3 := Aside0.mk h_2
 have H4 := Aside0.mk h_3
 have HN := Aside0.mk h_4
 have HP := Aside0.mk h_5
 have HLG := Aside0.mk h_6
 have HOW := Aside0.mk h_7
 have H6 := Aside0.mk h_8
 have G6 := Aside0.mk h_9
 have N64 := Aside0.mk h_10
 have HKP := Aside0.mk h_11
 clear h_0 h_1 h_2 h_3 h_4 h_5 h_6 h_7 h_8 h_9 h_10 h_11
 refine hd_ ⟨(cL HC 2 rfl),(cL H3 0 rfl),(cL H3 1 rfl),(cL H3 2 rfl),(cL H3 3 rfl),(cL H3 4 rfl),(cL H3 5 rfl),(cL H3 6 rfl)⟩ fun hHeld => ?_
 refine na_ ?_
 refine la_ 10 HT_ fun K hK => ?_
 refine sR_ 6 15 #[.int .i64 0,.int .i64 k] H6.out ?_
 refine hK.out _ _ ?_
 clear hK K
 refine pa_ 11 7 HT_ ?_
 refine dn_ HT_ ?_
 clear HT_ HW_ hHeld
 obtain ⟨W2,hW⟩ : ∃ W_,W_ = wj.setRow g6 #[.int .i64 0,.int .i64 k] := ⟨_,rfl⟩
 rw [← hW]
 have q_ := mR #[.int .i64 0,.int .i64 k] HC.out (tne HC.out H6.out (by decide))
 rw [← hW] at q_
 replace HC := Aside0.mk q_
 clear q_
 have q_ := mR #[.int .i64 0,.int .i64 k] HX.out (tne HX.out H6.out (by decide))
 rw [← hW] at q_
 replace HX := Aside0.mk q_
 clear q_
 have q_ := mR #[.int .i64 0,.int .i64 k] H3.out (tne H3.out H6.out (by decide))
 rw [← hW] at q_
 replace H3 := Aside0.mk q_
 clear q_
 have q_ := mR #[.int .i64 0,.int .i64 k] H4.out N64.out.symm
 rw [← hW] at q_
 replace H4 := Aside0.mk q_
 clear q_
 have q_ := mR #[.int .i64 0,.int .i64 k] HN.out (map_ne HN.out H6.out)
 rw [← hW] at q_
 replace HN := Aside0.mk q_
 clear q_
 have q_ := mR #[.int .i64 0,.int .i64 k] HP.out (map_ne HP.out H6.out)
 rw [← hW] at q_
 replace HP := Aside0.mk q_
 clear q_
 have q_ := own_keep HOW.out (fun q hq => setRow_other wj g6 q #[.int .i64 0,.int .i64 k] (own_ne HOW.out H6.out (by decide) q hq))
 rw [← hW] at q_
 replace HOW := Aside0.mk q_
 clear q_
 have q_ := HLG.out.keep ((Keep.refl [g6] wj).setRow (g := g6) #[.int .i64 0,.int .i64 k] (.inl (by simp))) (by simp [tne HLG.out.hd H6.out (by decide),map_ne HLG.out.hm H6.out,tne HLG.out.hl H6.out (by decide),tne HLG.out.ho H6.out (by decide),tne HLG.out.hn H6.out (by decide),tne HLG.out.hf H6.out (by decide)])
 rw [← hW] at q_
 replace HLG := Aside0.mk q_
 clear q_
 have q_ := HKP.out.setRow (g := g6) #[.int .i64 0,.int .i64 k] (.inr G6.out)
 rw [← hW] at q_
 replace HKP := Aside0.mk q_
 clear q_
 have q_ := setRow_heap wj g6 _ #[.int .i64 0,.int .i64 k] _ _ H6.out
 rw [← hW] at q_
 replace H6 := Aside0.mk q_
 clear q_
 clear hW
 go_wp2_with fail
 refine (comust_ok _).mono ?_
 rintro e_ W3 ⟨rfl,rfl⟩
 go_upto_region 3 with fail
 refine st_ 10 (fun w' => w'.cell? ⟨co,0,none⟩ = some (.pointer (some ⟨ix,0,none⟩)) ∧ w'.cell? ⟨g3,0,none⟩ = some (.int .u64 l0) ∧ w'.cell? ⟨g3,1,none⟩ = some (.int .u32 e0) ∧ w'.cell? ⟨g3,2,none⟩ = some (.int .i64 1) ∧ w'.cell? ⟨g3,3,none⟩ = some (.int .u64 ver) ∧ w'.cell? ⟨g3,4,none⟩ = some (.int .u64 dl) ∧ w'.cell? ⟨g3,5,none⟩ = some (.string idA) ∧ w'.cell? ⟨g3,6,none⟩ = some (.string s) ∧ w'.cell? ⟨g6,0,none⟩ = some (.int .i64 0) ∧ w'.cell? ⟨g6,1,none⟩ = some (.int .i64 k)) [8] ⟨(cD HC 0 rfl),(cD H3 0 rfl),(cD H3 1 rfl),(cD H3 2 rfl),(cD H3 3 rfl),(cD H3 4 rfl),(cD H3 5 rfl),(cD H3 6 rfl),(cD H6 0 rfl),(cD H6 1 rfl)⟩ fun hHeld => ?_
 refine with_tabW cput.tab3 cput.bits3 (fun HT_ HW_ => ?_)
 replace HC := mD HC
 replace HX := mD HX
 replace H3 := mD H3
 replace H4 := mD H4
 replace H6 := mD H6
 replace HN := mD HN
 replace HP := mD HP
 replace HLG : Aside0 (Lst W3.drew l d m ao al af (left - 1) v2 es c (k + 1) x (lsn + 1) ep gen) := ⟨HLG.out.below (below_drew (Below.refl _ _))⟩
 replace HKP : Aside0 (Keep [d,l] w W3.drew) := ⟨HKP.out.drew⟩
 replace HOW : Aside0 (W3.drew.ownsRow 0 286 2 v2 1 [.int .i64 (2 + k),.string (lrec lsn ep ver dl s).enc]) := ⟨own_keep HOW.out (fun q hq => (below_drew (Below.refl W3.heap.size W3)).block q (own_lt HOW.out q hq))⟩
 generalize W3.drew = wd2 at *
 refine pa_ 1 20 HT_ ?_
 refine pa_ 2 21 HT_ ?_
 refine pa_ 3 22 HT_ ?_
 refine ta_ 0 19 HT_ HW_ hHeld ?_
 refine ta_ 4 23 HT_ HW_ hHeld ?_
 refine ta_ 5 24 HT_ HW_ hHeld ?_
 refine ta_ 6 25 HT_ HW_ hHeld ?_
 refine on_ 7 HT_ fun K hK => ?_
 refine gc_ Tryz.func199 #[.pointer (some ⟨ix,0,none⟩),.agg #[.int .u64 l0,.int .u32 e0,.int .i64 1,.int .u64 ver,.int .u64 dl,.string idA,.string s],.agg #[.int .i64 0,.int .i64 k]] ?_
 with_reducible refine (iadd_calls ix nm pm cn cp cn' cp' ns ps ps' ns' l0 e0 ver dl 0 k s v1 dl1 sz1 sg1 sl1 lv1 b1 _ HX.out HN.out HP.out (by have := HND.out; simp at this; omega) HLP.out HUP.out HLK.out HUN.out HVV.out).mono ?_
 rintro e_ wa ⟨rfl,z,hn2,hp2,hk⟩
 refine ⟨_,rfl,?_⟩
 have HN2 := Aside0.mk hn2
 have HP2 := Aside0.mk hp2
 have HKK := Aside0.mk hk
 replace HC := Aside0.mk (blk_keep HC.out hk (by simp [(map_ne HN.out HC.out).symm,(map_ne HP.out HC.out).symm]))
 replace HX := Aside0.mk (blk_keep HX.out hk (by simp [(map_ne HN.out HX.out).symm,(map_ne HP.out HX.out).symm]))
 replace H3 := Aside0.mk (blk_keep H3.out hk (by simp [(map_ne HN.out H3.out).symm,(map_ne HP.out H3.out).symm]))
 replace H4 := Aside0.mk (blk_keep H4.out hk (by simp [(map_ne HN.out H4.out).symm,(map_ne HP.out H4.out).symm]))
 replace H6 := Aside0.mk (blk_keep H6.out hk (by simp [(map_ne HN.out H6.out).symm,(map_ne HP.out H6.out).symm]))
 have HOW2 : Aside0 (wa.ownsRow 0 286 2 v2 1 [.int .i64 (2 + k),.string (lrec lsn ep ver dl s).enc]) := ⟨own_keep HOW.out (fun q hq => hk.block q (own_lt HOW.out q hq) (by simp [own_map HOW.out HN.out q hq,own_map HOW.out HP.out q hq]))⟩
 have HLG2 : Aside0 (Lst wa l d m ao al af (left - 1) v2 es c (k + 1) x (lsn + 1) ep gen) := ⟨HLG.out.keep hk (by have := HND.out; simp at this; simp [(map_ne HN.out HLG.out.hd).symm,(map_ne HP.out HLG.out.hd).symm,(map_ne HN.out HLG.out.hl).symm,(map_ne HP.out HLG.out.hl).symm,(map_ne HN.out HLG.out.ho).symm,(map_ne HP.out HLG.out.ho).symm,(map_ne HN.out HLG.out.hn).symm,(map_ne HP.out HLG.out.hn).symm,(map_ne HN.out HLG.out.hf).symm,(map_ne HP.out HLG.out.hf).symm]; omega)⟩
 have HKP2 : Aside0 (Keep [d,l,nm,pm] w wa) := ⟨(HKP.out.mono (fun q _ h => by simp at h ⊢; omega)).trans (hk.mono (fun q _ h => by simp at h ⊢; omega))⟩
 clear hn2 hp2 hk HN HP HLG HKP HOW
 refine hK.out _ _ ⟨(cL HC 0 rfl),(cL H3 0 rfl),(cL H3 1 rfl),(cL H3 2 rfl),(cL H3 3 rfl),(cL H3 4 rfl),(cL H3 5 rfl),(cL H3 6 rfl),(cL H6 0 rfl),(cL H6 1 rfl)⟩ (fun hHeld => ?_)
 clear hK K
 refine no_ 26 ?_
 refine la_ 8 HT_ fun K hK => ?_
 refine sR_ 4 19 #[.int .i64 0,.int .i64 k] H4.out ?_
 refine hK.out _ _ ?_
 clear hK K
 refine pa_ 9 5 HT_ ?_
 refine dn_ HT_ ?_
 clear HT_ HW_ hHeld
 go_wp2_with fail
 refine bodyPost_ret (results_ct rfl _ _ g4 177 #[.int .i64 0,.int .i64 k] (0,0) _ rfl (setRow_heap _ _ _ _ _ _ H4.out) Tryz.underlying177 rfl (by kernel_rfl)) rfl ?_
 have q_ : ∀ (a t : Nat) (cs : Array Value),wa.heap[a]? = some (.cells cs t (0,0)) → t ≠ 177 → (wa.setRow g4 #[.int .i64 0,.int .i64 k]).heap[a]? = some (.cells cs t (0,0)) := fun a t cs h_ n_ => mR _ h_ (tne h_ H4.out n_)
 exact ⟨rfl,v2,ao,al,af,z,own_keep HOW2.out (fun q hq => setRow_other wa g4 q #[.int .i64 0,.int .i64 k] (own_ne HOW2.out H4.out (by decide) q hq)),⟨q_ _ _ _ HC.out (by decide),q_ _ _ _ HX.out (by decide),mR _ HN2.out (map_ne HN2.out H4.out),mR _ HP2.out (map_ne HP2.out H4.out),HLG2.out.keep ((Keep.refl [g4] wa).setRow (g := g4) #[.int .i64 0,.int .i64 k] (.inl (by simp))) (by simp [tne HLG2.out.hd H4.out (by decide),map_ne HLG2.out.hm H4.out,tne HLG2.out.hl H4.out (by decide),tne HLG2.out.ho H4.out (by decide),tne HLG2.out.hn H4.out (by decide),tne HLG2.out.hf H4.out (by decide)]),HND.out⟩,HKP2.out.setRow _ (.inr G4.out)⟩
end Go.Proofs.YtokfjbbjkiilmaaGreatDoor.H
