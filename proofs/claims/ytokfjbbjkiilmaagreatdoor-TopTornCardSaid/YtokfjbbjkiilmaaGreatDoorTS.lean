/-
TopTorn: part of its walk (Op, Is, Oc, Ds).
-/
import Derived.Test.YtokfjbbjkiilmaaGreatDoorTR
set_option linter.unusedVariables false
set_option linter.unusedSimpArgs false
namespace Go.Proofs.YtokfjbbjkiilmaaGreatDoor.H
open Go.RowKit Go.Proofs.YtokfjbbjkiilmaaGreatDoorW.PrintWords Go.Proofs.YtokfjbbjkiilmaaGreatDoorW.PrintLast Go.Proofs.YtokfjbbjkiilmaaGreatDoorW.PrintMore
set_option maxHeartbeats 8000000
set_option maxRecDepth 100000
attribute [local go_sem] max2_int min2_int min_two max_two
theorem results_tct {P : Program} {fn : Func} {p u v : Tmp} {ty : TypeId} (h : fn.results = #[.tmp u,.cell p ty,.tmp v]) (tmps : Array Value) (w : World) (g : Nat) (t : TypeId) (cs : Array Value) (fr : Nat × Nat) (d : TypeDesc)
 (hp : tmps.getD p undef = .pointer (some ⟨g,0,none⟩)) (hg : w.heap[g]? = some (.cells cs t fr))
 (hu : P.underlying ty = some d) (hd : (match d with | .struct _ | .array _ _ => true | _ => false) = true) (hi : (P.info? ty).map (·.size) = some cs.size) :
 (results fn tmps).run P w = .ok (.tuple #[tmps.getD u undef,.agg cs,tmps.getD v undef]) w := by
 have hp' : tmps[p]?.getD undef = .pointer (some ⟨g,0,none⟩) := by simpa using hp
 simp [results,h,hp',asAddr,run_loadVar_row w g t ty cs fr d hg hu hd hi]
def ropen.T9 : Bool × List (List Nat × List Nat) := (true,[([],[]),([],[]),([0,0],[0]),([1,2,0,1,2],[1]),([3,0,1,2,3],[])])
def ropen.B9 : List Nat := [0,0,1,7,15]
theorem ropen.tab9 : rtab .any (opsOf Tryz.f218 9) = ropen.T9 := by kernel_rfl
theorem ropen.bits9 : waitsOk ropen.T9.2 ropen.B9 = true := by kernel_rfl
theorem ropen_calls (d m n : Nat) (left dl : Int) (vs : Nat → ByteArray) (send : ByteArray) (es : Array MapEntry) (c : Nat) (w : World) (hn2 : n = 1 ∨ n = 2) (hd : w.heap[d]? = some (.cells (dkc left m (.slice none 0 0)) 108 (0,0))) (hm : w.heap[m]? = some (.map es c)) (hlf : (-1000 ≤ left ∧ left ≤ 0) ∧ -900 ≤ left) (hfi : Instr.findNow (.int .i64) (.int .i64 0) es.toList 0 = some none) (h0 : Rd w d 0 zsec) (h1 : Rd w d 1 (ckS 1 1 1 0 0)) (hrd : ∀ j : Nat,j < n → lok (1 + j) 1 (1 + j) dl (vs j) ∧ Rd w d (2 + j) (lrec (1 + j) 1 (1 + j) dl (vs j)).enc) (hend : send.size = 128 ∧ sb send 124 = 0 ∧ Rd w d (2 + n) send) :
 Calls Tryz.prog 218 #[.pointer (some ⟨d,0,none⟩),.agg cnf] w fun e w' => ∃ (l oo ln ff o1 d1 l1 e1 t1 k1 t2 k2 t3 k3 : Nat) (fv : Value),e = .returned (.tuple #[.pointer (some ⟨l,0,none⟩),.agg (img o1 d1 l1 e1 t1 k1 t2 k2 t3 k3 (1 + n) n fv),.int .i64 0]) ∧ w.heap.size ≤ l ∧ Lst w' l d m oo ln ff (left - 3) (.slice none 0 0) (es.push { key := .int .i64 0,val := .agg #[.int .i64 0,.string (ckS 2 2 (1 + n) n n)],born := c }) (c + 1) n 1 (1 + n) 2 2 ∧ w'.ownsRow 0 327 9 fv n (xsF dl vs n) ∧ Keep [d,m] w w' := by
 have HD := Aside0.mk hd
 have HM := Aside0.mk hm
 have HR0 := Aside0.mk h0
 have HR1 := Aside0.mk h1
 have HRD := Aside0.mk hrd
 have HEND := Aside0.mk hend
 have HN2 := Aside0.mk hn2
 have HFI := Aside0.mk hfi
 have HLF := Aside0.mk hlf
 clear hd hm h0 h1 hrd hend hn2 hfi hlf
 go_enter Tryz.func218,Tryz.ntmps218
 go_upto_region 1 with fail
 obtain ⟨W1,g3,g5,hW_,hg3,hg5,H3,H5,hb_⟩ := new2 w cnf 24 #[.int .u64 0,.int .u32 0,.int .u64 0,.int .u64 0,.slice none 0 0,.slice none 0 0,.int .i64 0,.int .i64 0,.slice none 0 0,.slice none 0 0,.slice none 0 0,.int .u64 0,.int .u64 0,.slice none 0 0] 323
 rw [← hW_,← hg5.out,← hg3.out]
 have HB := Aside0.mk hb_
 clear hW_ hb_
 have G5 : Aside0 (w.heap.size ≤ g5) := ⟨by have := hg5.out; omega⟩
 go_wp2_with (refine lr_ 3 H3.out Tryz.underlying24 ?_)
 refine (rscan_calls d m n left dl vs send _ HN2.out (blk_below HD.out HB.out) (HR0.out.below HB.out) (HR1.out.below HB.out) (fun j hj => ⟨(HRD.out j hj).1,(HRD.out j hj).2.below HB.out⟩) ⟨HEND.out.1,HEND.out.2.1,HEND.out.2.2.below HB.out⟩).mono ?_
 rintro e_ W2 ⟨o1,d1,l1,e1,oo,ln,ff,fv,rfl,ht,ho,hb⟩
 obtain ⟨va,vl,vc,rfl⟩ := own_one ho
 have HT := Aside0.mk ht
 have HO := Aside0.mk ho
 replace H5 := mb H5 hb
 replace HB := mS HB hb
 clear ht ho hb H3
 go_upto_region 2 with (refine sr_ 7 15 (img o1 d1 l1 e1 oo 1 ln 1 ff 1 (1 + n) n (.slice va vl vc)) (blk_new W2 (.cells #[.int .u64 0,.int .u32 0,.int .u64 0,.int .u64 0,.slice none 0 0,.slice none 0 0,.int .i64 0,.int .i64 0,.slice none 0 0,.slice none 0 0,.slice none 0 0,.int .u64 0,.int .u64 0,.slice none 0 0] 323)) ?_)
 obtain ⟨W3,hW_⟩ : ∃ W_,W_ = ((W2.alloc (.cells #[.int .u64 0,.int .u32 0,.int .u64 0,.int .u64 0,.slice none 0 0,.slice none 0 0,.int .i64 0,.int .i64 0,.slice none 0 0,.slice none 0 0,.slice none 0 0,.int .u64 0,.int .u64 0,.slice none 0 0] 323)).setRow W2.heap.size (img o1 d1 l1 e1 oo 1 ln 1 ff 1 (1 + n) n (.slice va vl vc))) := ⟨_,rfl⟩
 obtain ⟨g7,hg_⟩ : ∃ g_,g_ = W2.heap.size := ⟨_,rfl⟩
 rw [← hW_,← hg_]
 have hb : Below W2.heap.size W2 W3 := by rw [hW_]; exact below_setRow (below_alloc (Below.refl _ _) _) (Nat.le_refl _) _
 have H7 : Aside0 (W3.heap[g7]? = some (.cells (img o1 d1 l1 e1 oo 1 ln 1 ff 1 (1 + n) n (.slice va vl vc)) 323 (0,0))) := ⟨by rw [hW_,hg_]; exact setRow_heap _ _ _ _ _ _ (blk_new W2 (.cells #[.int .u64 0,.int .u32 0,.int .u64 0,.int .u64 0,.slice none 0 0,.slice none 0 0,.int .i64 0,.int .i64 0,.slice none 0 0,.slice none 0 0,.slice none 0 0,.int .u64 0,.int .u64 0,.slice none 0 0] 323))⟩
 have G7 : Aside0 (w.heap.size ≤ g7) := ⟨by rw [hg_]; exact HB.out.size⟩
 have N57 : Aside0 (g5 ≠ g7) := ⟨by rw [hg_]; exact Nat.ne_of_lt (blk_lt H5.out)⟩
 clear hW_ hg_
 replace H5 := mb H5 hb
 replace HB := mS HB hb
 replace HT := Aside0.mk (And.intro (blk_below HT.out.1 hb) (And.intro (blk_below HT.out.2.1 hb) (And.intro (blk_below HT.out.2.2.1 hb) HT.out.2.2.2)))
 replace HO := Aside0.mk (own_keep HO.out (fun q hq => hb.block q (own_lt HO.out q hq)))
 clear hb
 have y0 : W3.cell? ⟨g7,0,none⟩ = some (.int .u64 1) := cL H7 0 rfl
 have y1 : W3.cell? ⟨g7,1,none⟩ = some (.int .u32 1) := cL H7 1 rfl
 have y6 : W3.cell? ⟨g7,6,none⟩ = some (.int .i64 4) := cL H7 6 rfl
 have y7 : W3.cell? ⟨g7,7,none⟩ = some (.int .i64 2) := cL H7 7 rfl
 have y8 : W3.cell? ⟨g7,8,none⟩ = some (.slice (some ⟨oo,0,none⟩) 1 1) := cL H7 8 rfl
 have y9 : W3.cell? ⟨g7,9,none⟩ = some (.slice (some ⟨ln,0,none⟩) 1 1) := cL H7 9 rfl
 have y10 : W3.cell? ⟨g7,10,none⟩ = some (.slice (some ⟨ff,0,none⟩) 1 1) := cL H7 10 rfl
 have y11 : W3.cell? ⟨g7,11,none⟩ = some (.int .u64 (1 + n)) := cL H7 11 rfl
 go_wp2_with fail
 refine (at_calls d oo 1 ln 1 ff 1 (1 + n) 2 1 _).mono ?_
 rintro e_ W4 ⟨l,rfl,hl,hll,hb⟩
 clear y0 y1 y6 y7 y8 y9 y10 y11
 have HL := Aside0.mk hll
 have GL : Aside0 (w.heap.size ≤ l) := ⟨Nat.le_trans HB.out.size hl⟩
 replace H5 := mb H5 hb
 replace HB := mS HB hb
 replace HT := Aside0.mk (And.intro (blk_below HT.out.1 hb) (And.intro (blk_below HT.out.2.1 hb) (And.intro (blk_below HT.out.2.2.1 hb) HT.out.2.2.2)))
 replace HO := Aside0.mk (own_keep HO.out (fun q hq => hb.block q (own_lt HO.out q hq)))
 replace H7 := mb H7 hb
 clear hb hl hll
 have y12 : W4.cell? ⟨g7,12,none⟩ = some (.int .u64 n) := cL H7 12 rfl
 go_wp2_with fail
 clear y12
 have HLS : Aside0 (Lst W4 l d m oo ln ff left (.slice none 0 0) es c n 1 (1 + n) 2 1) := ⟨⟨blk_below HD.out HB.out,blk_below HM.out HB.out,HL.out,HT.out.1,HT.out.2.1,HT.out.2.2.1,HT.out.2.2.2⟩⟩
 refine (ckpt1_calls l d m oo ln ff left es c n 1 (1 + n) 2 n _ HLS.out (by have := HN2.out; omega) HLF.out HFI.out).mono ?_
 rintro e_ W5 ⟨rfl,hls,hk⟩
 replace H5 := Aside0.mk (blk_keep H5.out hk (by simp [tne H5.out HLS.out.hd (by decide),(map_ne HLS.out.hm H5.out).symm,tne H5.out HLS.out.hl (by decide)]))
 replace H7 := Aside0.mk (blk_keep H7.out hk (by simp [tne H7.out HLS.out.hd (by decide),(map_ne HLS.out.hm H7.out).symm,tne H7.out HLS.out.hl (by decide)]))
 replace HO := Aside0.mk (own_keep HO.out (fun q hq => hk.block q (own_lt HO.out q hq) (by simp [own_ne HO.out HLS.out.hd (by decide) q hq,own_map HO.out HLS.out.hm q hq,own_ne HO.out HLS.out.hl (by decide) q hq])))
 have HKP : Aside0 (Keep [d,m] w W5) := ⟨(Keep.below HB.out).behind hk (fun q hq => by have := GL.out; simp at hq ⊢; omega)⟩
 replace HLS := Aside0.mk hls
 clear hls hk HB HL HT
 go_wp2_with fail
 refine (ltable_calls l d oo 1 ln 1 ff 1 (1 + n) 2 2 n 1 _ HLS.out.hl ((blk_cell HLS.out.ho 0).trans rfl) ((blk_cell HLS.out.hn 0).trans rfl) ((blk_cell HLS.out.hf 0).trans rfl)).mono ?_
 rintro e_ W6 ⟨t1,k1,t2,k2,t3,k3,rfl,-,-,-,hb⟩
 replace H5 := mb H5 hb
 replace H7 := mb H7 hb
 replace HO := Aside0.mk (own_keep HO.out (fun q hq => hb.block q (own_lt HO.out q hq)))
 replace HLS := Aside0.mk (HLS.out.below hb)
 replace HKP : Aside0 (Keep [d,m] w W6) := ⟨HKP.out.trans (Keep.below hb)⟩
 clear hb
 have y6 : W6.cell? ⟨g7,6,none⟩ = some (.int .i64 4) := cL H7 6 rfl
 have y7 : W6.cell? ⟨g7,7,none⟩ = some (.int .i64 2) := cL H7 7 rfl
 have y8 : W6.cell? ⟨g7,8,none⟩ = some (.slice (some ⟨oo,0,none⟩) 1 1) := cL H7 8 rfl
 have y9 : W6.cell? ⟨g7,9,none⟩ = some (.slice (some ⟨ln,0,none⟩) 1 1) := cL H7 9 rfl
 have y10 : W6.cell? ⟨g7,10,none⟩ = some (.slice (some ⟨ff,0,none⟩) 1 1) := cL H7 10 rfl
 have f6 := blk_frozen H7.out 6
 have f7 := blk_frozen H7.out 7
 have f8 := blk_frozen H7.out 8
 have f9 := blk_frozen H7.out 9
 have f10 := blk_frozen H7.out 10
 go_upto_region 9 with fail
 clear y6 f6 y7 f7 y8 f8 y9 f9 y10 f10
 rw [img_table H7.out]
 obtain ⟨W7,hW⟩ : ∃ W_,W_ = W6.setRow g7 (img o1 d1 l1 e1 t1 k1 t2 k2 t3 k3 (1 + n) n (.slice va vl vc)) := ⟨_,rfl⟩
 rw [← hW]
 have q_ := mR (img o1 d1 l1 e1 t1 k1 t2 k2 t3 k3 (1 + n) n (.slice va vl vc)) H5.out N57.out
 rw [← hW] at q_
 replace H5 := Aside0.mk q_
 clear q_
 have q_ := (show (W6.setRow g7 (img o1 d1 l1 e1 t1 k1 t2 k2 t3 k3 (1 + n) n (.slice va vl vc))).ownsRow 0 327 9 (.slice va vl vc) n (xsF dl vs n) from own_keep HO.out (fun q hq => setRow_other W6 g7 q _ (own_ne HO.out H7.out (by decide) q hq)))
 rw [← hW] at q_
 replace HO := Aside0.mk q_
 clear q_
 have q_ := (show Lst (W6.setRow g7 (img o1 d1 l1 e1 t1 k1 t2 k2 t3 k3 (1 + n) n (.slice va vl vc))) l d m oo ln ff (left - 3) (.slice none 0 0) (es.push { key := .int .i64 0,val := .agg #[.int .i64 0,.string (ckS 2 2 (1 + n) n n)],born := c }) (c + 1) n 1 (1 + n) 2 2 from HLS.out.keep ((Keep.refl [g7] W6).setRow (g := g7) (img o1 d1 l1 e1 t1 k1 t2 k2 t3 k3 (1 + n) n (.slice va vl vc)) (.inl (by simp))) (by simp [tne HLS.out.hd H7.out (by decide),map_ne HLS.out.hm H7.out,tne HLS.out.hl H7.out (by decide),tne HLS.out.ho H7.out (by decide),tne HLS.out.hn H7.out (by decide),tne HLS.out.hf H7.out (by decide)]))
 rw [← hW] at q_
 replace HLS := Aside0.mk q_
 clear q_
 have q_ := HKP.out.setRow (g := g7) (img o1 d1 l1 e1 t1 k1 t2 k2 t3 k3 (1 + n) n (.slice va vl vc)) (.inr G7.out)
 rw [← hW] at q_
 replace HKP := Aside0.mk q_
 clear q_
 have q_ := setRow_heap W6 g7 _ (img o1 d1 l1 e1 t1 k1 t2 k2 t3 k3 (1 + n) n (.slice va vl vc)) _ _ H7.out
 rw [← hW] at q_
 replace H7 := Aside0.mk q_
 clear q_
 clear hW
 refine st_ 5 (fun w' => w'.cell? ⟨g7,0,none⟩ = some (.int .u64 1) ∧ w'.cell? ⟨g7,1,none⟩ = some (.int .u32 1) ∧ w'.cell? ⟨g7,2,none⟩ = some (.int .u64 1) ∧ w'.cell? ⟨g7,3,none⟩ = some (.int .u64 0) ∧ w'.cell? ⟨g7,4,none⟩ = some (.slice (some ⟨o1,0,none⟩) 1 d1) ∧ w'.cell? ⟨g7,5,none⟩ = some (.slice (some ⟨l1,0,none⟩) 1 e1) ∧ w'.cell? ⟨g7,6,none⟩ = some (.int .i64 4) ∧ w'.cell? ⟨g7,7,none⟩ = some (.int .i64 2) ∧ w'.cell? ⟨g7,8,none⟩ = some (.slice (some ⟨t1,0,none⟩) 1 k1) ∧ w'.cell? ⟨g7,9,none⟩ = some (.slice (some ⟨t2,0,none⟩) 1 k2) ∧ w'.cell? ⟨g7,10,none⟩ = some (.slice (some ⟨t3,0,none⟩) 1 k3) ∧ w'.cell? ⟨g7,11,none⟩ = some (.int .u64 (1 + n)) ∧ w'.cell? ⟨g7,12,none⟩ = some (.int .u64 n) ∧ w'.cell? ⟨g7,13,none⟩ = some (.slice va vl vc)) [3] ⟨(cD H7 0 rfl),(cD H7 1 rfl),(cD H7 2 rfl),(cD H7 3 rfl),(cD H7 4 rfl),(cD H7 5 rfl),(cD H7 6 rfl),(cD H7 7 rfl),(cD H7 8 rfl),(cD H7 9 rfl),(cD H7 10 rfl),(cD H7 11 rfl),(cD H7 12 rfl),(cD H7 13 rfl)⟩ fun hHeld => ?_
 refine with_tabW ropen.tab9 ropen.bits9 (fun HT_ HW_ => ?_)
 replace H5 := mD H5
 replace H7 := mD H7
 replace HO : Aside0 (W7.drew.ownsRow 0 327 9 (.slice va vl vc) n (xsF dl vs n)) := ⟨own_keep HO.out (fun q hq => (below_drew (Below.refl W7.heap.size W7)).block q (own_lt HO.out q hq))⟩
 replace HLS : Aside0 (Lst W7.drew l d m oo ln ff (left - 3) (.slice none 0 0) (es.push { key := .int .i64 0,val := .agg #[.int .i64 0,.string (ckS 2 2 (1 + n) n n)],born := c }) (c + 1) n 1 (1 + n) 2 2) := ⟨HLS.out.below (below_drew (Below.refl _ _))⟩
 replace HKP : Aside0 (Keep [d,m] w W7.drew) := ⟨HKP.out.drew⟩
 generalize W7.drew = wd1 at *
 refine pa_ 0 45 HT_ ?_
 refine pa_ 2 4 HT_ ?_
 refine ta_ 1 46 HT_ HW_ hHeld ?_
 refine la_ 3 HT_ fun K hK => ?_
 refine sR_ 5 46 (img o1 d1 l1 e1 t1 k1 t2 k2 t3 k3 (1 + n) n (.slice va vl vc)) H5.out ?_
 refine hK.out _ _ ?_
 clear hK K
 refine pa_ 4 6 HT_ ?_
 refine dn_ HT_ ?_
 clear HT_ HW_ hHeld
 go_wp2_with fail
 refine bodyPost_ret (results_tct rfl _ _ g5 323 (img o1 d1 l1 e1 t1 k1 t2 k2 t3 k3 (1 + n) n (.slice va vl vc)) (0,0) _ rfl (setRow_heap _ _ _ _ _ _ H5.out) Tryz.underlying323 rfl (by kernel_rfl)) rfl ?_
 exact ⟨l,oo,ln,ff,o1,d1,l1,e1,t1,k1,t2,k2,t3,k3,_,rfl,GL.out,(show Lst (wd1.setRow g5 (img o1 d1 l1 e1 t1 k1 t2 k2 t3 k3 (1 + n) n (.slice va vl vc))) l d m oo ln ff (left - 3) (.slice none 0 0) (es.push { key := .int .i64 0,val := .agg #[.int .i64 0,.string (ckS 2 2 (1 + n) n n)],born := c }) (c + 1) n 1 (1 + n) 2 2 from HLS.out.keep ((Keep.refl [g5] wd1).setRow (g := g5) (img o1 d1 l1 e1 t1 k1 t2 k2 t3 k3 (1 + n) n (.slice va vl vc)) (.inl (by simp))) (by simp [tne HLS.out.hd H5.out (by decide),map_ne HLS.out.hm H5.out,tne HLS.out.hl H5.out (by decide),tne HLS.out.ho H5.out (by decide),tne HLS.out.hn H5.out (by decide),tne HLS.out.hf H5.out (by decide)])),(show (wd1.setRow g5 (img o1 d1 l1 e1 t1 k1 t2 k2 t3 k3 (1 + n) n (.slice va vl vc))).ownsRow 0 327 9 (.slice va vl vc) n (xsF dl vs n) from own_keep HO.out (fun q hq => setRow_other wd1 g5 q _ (own_ne HO.out H5.out (by decide) q hq))),HKP.out.setRow _ (.inr G5.out)⟩
end Go.Proofs.YtokfjbbjkiilmaaGreatDoor.H
namespace Go.Proofs.YtokfjbbjkiilmaaGreatDoor.H
open Go.MapKept Go.RowKit Go.Proofs.YtokfjbbjkiilmaaGreatDoorW.PrintWords Go.Proofs.YtokfjbbjkiilmaaGreatDoorW.PrintLast Go.Proofs.YtokfjbbjkiilmaaGreatDoorW.PrintMore
/-- The newest records, behind i. -/
def nsI (dl z : Int) : Nat → Array MapEntry
 | 0 => #[]
 | i + 1 => #[{ key := .string idA,val := .agg #[.int .u64 ((i : Int) + 1),.int .u64 dl,.bool true,.int .i64 z,.int .i64 0,.int .i64 (i : Int)],born := 0 }]
def cnI : Nat → Nat
 | 0 => 0
 | _ + 1 => 1
/-- The places, behind i. -/
def psI : Nat → Array MapEntry
 | 0 => #[]
 | i + 1 => (psI i).push { key := .agg #[.int .i64 0,.int .i64 (i : Int)],val := .agg #[.string idA],born := i }
section
variable {P : Program} {w : World} {t k e : TypeId} {r c : Nat} {es : Array MapEntry} {key v z : Value}
theorem run_lookS (ht : P.underlying t = some (.map k e)) (hc : ∀ b,(Instr.checkKey b 10000 k key).run P w = .ok () w) (hb : w.heap[r]? = some (.map es c)) (hf : (Instr.findKey k key es.toList).run P w = .ok none w) (hz : (zeroValue e).run P w = .ok z w) :
 (Instr.lookup t (.map (some r)) key true).run P w = .ok (.tuple #[z,.bool false]) w := by
 simp [Instr.lookup,run_underlying ht,Go.MapKept.run_getObj_map hb,hc,hf,hz,Result.andThen]
theorem run_upS (ht : P.underlying t = some (.map k e)) (hc : ∀ b,(Instr.checkKey b 10000 k key).run P w = .ok () w) (hb : w.heap[r]? = some (.map es c)) (hf : (Instr.findKey k key es.toList).run P w = .ok none w) :
 (Instr.mapUpdate t (.map (some r)) key v).run P w = .ok () (setMap w r (es.push { key,val := v,born := c }) (c + 1)) := by
 simp [Instr.mapUpdate,run_underlying ht,Go.MapKept.run_getObj_map hb,hc,hf,Go.MapKept.run_setObj_map _ hb,Result.andThen,setMap]
end
theorem loc_ck (i : Nat) (hi : i = 0 ∨ i = 1) (b : Bool) (W : World) : (Instr.checkKey b 10000 177 (.agg #[.int .i64 0,.int .i64 (i : Int)])).run Tryz.prog W = .ok () W := by
 rcases hi with rfl | rfl <;> cases b <;> kernel_rfl
theorem loc_no (i : Nat) (hi : i = 0 ∨ i = 1) (W : World) : (Instr.findKey 177 (.agg #[.int .i64 0,.int .i64 (i : Int)]) (psI i).toList).run Tryz.prog W = .ok none W := by
 rcases hi with rfl | rfl <;> kernel_rfl
theorem pl_look (i pm : Nat) (hi : i = 0 ∨ i = 1) (W : World) (h : W.heap[pm]? = some (.map (psI i) i)) : (Instr.lookup 230 (.map (some pm)) (.agg #[.int .i64 0,.int .i64 (i : Int)]) true).run Tryz.prog W = .ok (.tuple #[.agg #[.string { data := #[] }],.bool false]) W :=
 run_lookS (k := 177) (e := 298) (by kernel_rfl) (fun b => loc_ck i hi b W) h (loc_no i hi W) (by kernel_rfl)
theorem pl_up (i pm : Nat) (hi : i = 0 ∨ i = 1) (W : World) (h : W.heap[pm]? = some (.map (psI i) i)) : (Instr.mapUpdate 230 (.map (some pm)) (.agg #[.int .i64 0,.int .i64 (i : Int)]) (.agg #[.string idA])).run Tryz.prog W = .ok () (setMap W pm (psI (i + 1)) (i + 1)) :=
 run_upS (k := 177) (e := 298) (by kernel_rfl) (fun b => loc_ck i hi b W) h (loc_no i hi W)
/-- What the newest record of a is, behind i. -/
def nV : Nat → Int → Int
 | 0,_ => 0
 | _ + 1,x => x
def nB : Nat → Bool
 | 0 => false
 | _ + 1 => true
theorem nw_look (i nm : Nat) (dl z : Int) (W : World) (h : W.heap[nm]? = some (.map (nsI dl z i) (cnI i))) : (Instr.lookup 229 (.map (some nm)) (.string idA) true).run Tryz.prog W = .ok (.tuple #[.agg #[.int .u64 (nV i i),.int .u64 (nV i dl),.bool (nB i),.int .i64 (nV i z),.int .i64 0,.int .i64 (nV i ((i : Int) - 1))],.bool (nB i)]) W := by
 cases i with
 | zero => exact run_look_no (key := .string idA) (k := 9) (e := 183) (kd := .string) (by kernel_rfl) (by kernel_rfl) trivial h (by kernel_rfl) (by kernel_rfl) true
 | succ i =>
  have e1 : (((i + 1 : Nat) : Int) - 1) = (i : Int) := by omega
  have e2 : ((i + 1 : Nat) : Int) = (i : Int) + 1 := by omega
  rw [show nV (i + 1) (((i + 1 : Nat) : Int) - 1) = (i : Int) from e1,show nV (i + 1) ((i + 1 : Nat) : Int) = (i : Int) + 1 from e2]
  exact run_look (key := .string idA) (k := 9) (e := 183) (kd := .string) (i := 0) (by kernel_rfl) (by kernel_rfl) trivial h (by kernel_rfl) true
theorem nw_up (i nm : Nat) (dl z z' : Int) (W : World) (h : W.heap[nm]? = some (.map (nsI dl z i) (cnI i))) : (Instr.mapUpdate 229 (.map (some nm)) (.string idA) (.agg #[.int .u64 ((i : Int) + 1),.int .u64 dl,.bool true,.int .i64 z',.int .i64 0,.int .i64 (i : Int)])).run Tryz.prog W = .ok () (setMap W nm (nsI dl z' (i + 1)) 1) := by
 cases i with
 | zero => exact run_up_no (key := .string idA) (k := 9) (e := 183) (kd := .string) (by kernel_rfl) (by kernel_rfl) trivial h (by kernel_rfl)
 | succ i => exact run_up (key := .string idA) (z := .agg #[.int .u64 ((i : Int) + 1),.int .u64 dl,.bool true,.int .i64 z,.int .i64 0,.int .i64 (i : Int)]) (k := 9) (e := 183) (kd := .string) (i := 0) (by kernel_rfl) (by kernel_rfl) trivial h (by kernel_rfl) (by kernel_rfl)
end Go.Proofs.YtokfjbbjkiilmaaGreatDoor.H
namespace Go.Proofs.YtokfjbbjkiilmaaGreatDoor.H
open Go.RowKit Go.Proofs.YtokfjbbjkiilmaaGreatDoorW.PrintWords Go.Proofs.YtokfjbbjkiilmaaGreatDoorW.PrintLast Go.Proofs.YtokfjbbjkiilmaaGreatDoorW.PrintMore
set_option maxHeartbeats 8000000
set_option maxRecDepth 100000
attribute [local go_sem] max2_int min2_int min_two max_two
theorem xsF_len (dl : Int) (vs : Nat → ByteArray) : ∀ n,(xsF dl vs n).length = 9 * n
 | 0 => rfl
 | n + 1 => by simp [xsF,xsF_len dl vs n]; omega
theorem xsF_get (dl : Int) (vs : Nat → ByteArray) (i k : Nat) (hk : k < 9) : ∀ n,i < n → (xsF dl vs n)[i * 9 + k]? = ([.int .i64 0,.int .i64 (i : Int),.int .u64 (1 + i),.int .u32 1,.int .i64 1,.int .u64 (1 + i),.int .u64 dl,.string idA,.string (vs i)] : List Value)[k]?
 | 0,h => by omega
 | n + 1,h => by
  rcases Nat.lt_or_ge i n with h1 | h1
  ·rw [xsF,List.getElem?_append_left (by rw [xsF_len]; omega)]
   exact xsF_get dl vs i k hk n h1
  ·have : i = n := by omega
   subst this
   rw [xsF,List.getElem?_append_right (by rw [xsF_len]; omega),xsF_len,show i * 9 + k - 9 * i = k by omega]
def copen.T4 : Bool × List (List Nat × List Nat) := (true,[([],[]),([],[]),([],[]),([],[]),([3,0],[3]),([],[]),([5],[5]),([0,1,2,4,6],[0,1,2,4,6]),([7],[7]),([8,4,0,1,2,3,4,5,6,7,8],[8])])
def copen.B4 : List Nat := [0,0,0,0,9,0,32,127,255,511]
theorem copen.tab4 : rtab .any (opsOf Tryz.f186 4) = copen.T4 := by kernel_rfl
theorem copen.bits4 : waitsOk copen.T4.2 copen.B4 = true := by kernel_rfl
def copen.T8 : Bool × List (List Nat × List Nat) := (true,[([],[]),([0],[0]),([1],[1]),([2],[2]),([],[]),([4],[4]),([],[]),([6],[6]),([3,5,7],[3,5,7])])
def copen.B8 : List Nat := [0,1,3,7,0,16,0,64,255]
theorem copen.tab8 : rtab .any (opsOf Tryz.f186 8) = copen.T8 := by kernel_rfl
theorem copen.bits8 : waitsOk copen.T8.2 copen.B8 = true := by kernel_rfl
theorem copen_calls (d m n : Nat) (left dl : Int) (vs : Nat → ByteArray) (send : ByteArray) (es : Array MapEntry) (c : Nat) (w : World) (hn2 : n = 1 ∨ n = 2) (hd : w.heap[d]? = some (.cells (dkc left m (.slice none 0 0)) 108 (0,0))) (hm : w.heap[m]? = some (.map es c)) (hlf : (-1000 ≤ left ∧ left ≤ 0) ∧ -900 ≤ left) (hfi : Instr.findNow (.int .i64) (.int .i64 0) es.toList 0 = some none) (h0 : Rd w d 0 zsec) (h1 : Rd w d 1 (ckS 1 1 1 0 0)) (hrd : ∀ j : Nat,j < n → lok (1 + j) 1 (1 + j) dl (vs j) ∧ Rd w d (2 + j) (lrec (1 + j) 1 (1 + j) dl (vs j)).enc) (hend : send.size = 128 ∧ sb send 124 = 0 ∧ Rd w d (2 + n) send) (hdl : 0 < dl) (hset : ∀ (wh fm am : Nat) (W : World),W.heap[wh]? = some (.cells (wrow 0 fm am) 239 (0,0)) → W.heap[am]? = some (.map #[] 0) → Calls Tryz.prog 215 #[.pointer (some ⟨wh,0,none⟩),.string idA,.int .u64 dl] W fun e w' => ∃ b : Bool,e = .returned (.bool b) ∧ Whn w' wh ∧ Keep [wh,am] W w') :
 Calls Tryz.prog 186 #[.pointer (some ⟨d,0,none⟩),.agg cnf,.int .u64 0] w fun e w' => ∃ (co ix l wh nm pm am oo ln ff : Nat) (z : Int),e = .returned (.tuple #[.pointer (some ⟨co,0,none⟩),.int .i64 0]) ∧ Kos w' co ix d l wh nm pm am m oo ln ff (left - 3) (.slice none 0 0) (es.push { key := .int .i64 0,val := .agg #[.int .i64 0,.string (ckS 2 2 (1 + n) n n)],born := c }) (c + 1) n 1 (1 + n) 2 2 n (nsI dl z n) (cnI n) (psI n) n ∧ Whn w' wh ∧ Keep [d,m] w w' := by
 have HD := Aside0.mk hd
 have HM := Aside0.mk hm
 have HR0 := Aside0.mk h0
 have HR1 := Aside0.mk h1
 have HRD := Aside0.mk hrd
 have HEND := Aside0.mk hend
 have HN2 := Aside0.mk hn2
 have HFI := Aside0.mk hfi
 have HLF := Aside0.mk hlf
 have HDL := Aside0.mk hdl
 have HSET := Aside0.mk hset
 clear hd hm h0 h1 hrd hend hn2 hfi hlf hdl hset
 go_enter_defers Tryz.func186,Tryz.ntmps186
 go_upto_region 2 with fail
 obtain ⟨W1,g4,g7,hW_,hg4,hg7,H4,H7,hb_⟩ := new2 w cnf 24 #[.int .i64 0] 39
 rw [← hW_,← hg7.out,← hg4.out]
 have HB := Aside0.mk hb_
 clear hW_ hb_
 have G7 : Aside0 (w.heap.size ≤ g7) := ⟨by have := hg7.out; omega⟩
 go_wp2_with (refine lr_ 4 H4.out Tryz.underlying24 ?_)
 refine (ropen_calls d m n left dl vs send es c _ HN2.out (blk_below HD.out HB.out) (blk_below HM.out HB.out) HLF.out HFI.out (HR0.out.below HB.out) (HR1.out.below HB.out) (fun j hj => ⟨(HRD.out j hj).1,(HRD.out j hj).2.below HB.out⟩) ⟨HEND.out.1,HEND.out.2.1,HEND.out.2.2.below HB.out⟩).mono ?_
 rintro e_ W2 ⟨l,oo,ln,ff,o1,d1,l1,e1,t1,k1,t2,k2,t3,k3,fv,rfl,hl,hls,ho,hk⟩
 replace H7 := Aside0.mk (blk_keep H7.out hk (by simp [tne H7.out (blk_below HD.out HB.out) (by decide),(map_ne (blk_below HM.out HB.out) H7.out).symm]))
 have HLS := Aside0.mk hls
 have HKP : Aside0 (Keep [d,m] w W2) := ⟨(Keep.below HB.out).trans hk⟩
 obtain ⟨gF,cF,cur,rfl,hF,hc⟩ := own_cells ho (by have := HN2.out; omega)
 have HF := Aside0.mk hF
 have HCF : Aside0 (∀ i k u,i < n → k < 9 → ([.int .i64 0,.int .i64 (i : Int),.int .u64 (1 + i),.int .u32 1,.int .i64 1,.int .u64 (1 + i),.int .u64 dl,.string idA,.string (vs i)] : List Value)[k]? = some u → cur[i * 9 + k]? = some u) := ⟨fun i k u h1 h2 h3 => (blk_cell hF _).symm.trans (hc _ u ((xsF_get dl vs i k h2 n h1).trans h3))⟩
 clear hl hls ho hk hF hc HB H4
 go_upto_region 3 with (refine sr_ 9 22 (img o1 d1 l1 e1 t1 k1 t2 k2 t3 k3 (1 + n) n (.slice (some ⟨gF,0,none⟩) n cF)) (blk_new W2 (.cells #[.int .u64 0,.int .u32 0,.int .u64 0,.int .u64 0,.slice none 0 0,.slice none 0 0,.int .i64 0,.int .i64 0,.slice none 0 0,.slice none 0 0,.slice none 0 0,.int .u64 0,.int .u64 0,.slice none 0 0] 323)) ?_)
 obtain ⟨W3,hW_⟩ : ∃ W_,W_ = ((W2.alloc (.cells #[.int .u64 0,.int .u32 0,.int .u64 0,.int .u64 0,.slice none 0 0,.slice none 0 0,.int .i64 0,.int .i64 0,.slice none 0 0,.slice none 0 0,.slice none 0 0,.int .u64 0,.int .u64 0,.slice none 0 0] 323)).setRow W2.heap.size (img o1 d1 l1 e1 t1 k1 t2 k2 t3 k3 (1 + n) n (.slice (some ⟨gF,0,none⟩) n cF))) := ⟨_,rfl⟩
 obtain ⟨g9,hg_⟩ : ∃ g_,g_ = W2.heap.size := ⟨_,rfl⟩
 rw [← hW_,← hg_]
 have hb : Below W2.heap.size W2 W3 := by rw [hW_]; exact below_setRow (below_alloc (Below.refl _ _) _) (Nat.le_refl _) _
 have H9 : Aside0 (W3.heap[g9]? = some (.cells (img o1 d1 l1 e1 t1 k1 t2 k2 t3 k3 (1 + n) n (.slice (some ⟨gF,0,none⟩) n cF)) 323 (0,0))) := ⟨by rw [hW_,hg_]; exact setRow_heap _ _ _ _ _ _ (blk_new W2 (.cells #[.int .u64 0,.int .u32 0,.int .u64 0,.int .u64 0,.slice none 0 0,.slice none 0 0,.int .i64 0,.int .i64 0,.slice none 0 0,.slice none 0 0,.slice none 0 0,.int .u64 0,.int .u64 0,.slice none 0 0] 323))⟩
 clear hW_ hg_
 replace H7 := mb H7 hb
 replace HF := mb HF hb
 replace HLS := Aside0.mk (HLS.out.below hb)
 replace HKP : Aside0 (Keep [d,m] w W3) := ⟨HKP.out.trans (Keep.below hb)⟩
 clear hb
 go_wp2_with fail
 refine (comust_ok _).mono ?_
 rintro e_ W4 ⟨rfl,rfl⟩
 go_upto_region 4 with fail
 have HKP4 : Aside0 (w.heap.size ≤ W4.heap.size) := ⟨HKP.out.size⟩
 have HB := Aside0.mk (Below.refl W4.heap.size W4)
 refine noOut' ?_
 refine st_ 10 (fun w' => w'.cell? ⟨g9,12,none⟩ = some (.int .u64 n)) [] ((cD H9 12 rfl)) fun hHeld => ?_
 refine with_tabW copen.tab4 copen.bits4 (fun HT_ HW_ => ?_)
 replace H7 := mD H7
 replace H9 := mD H9
 replace HF := mD HF
 replace HB := bD HB
 generalize W4.drew = wd1 at *
 refine pa_ 1 27 HT_ ?_
 refine pa_ 2 28 HT_ ?_
 refine pa_ 3 29 HT_ ?_
 refine pa_ 5 31 HT_ ?_
 refine ta_ 6 32 HT_ HW_ hHeld ?_
 refine on_ 0 HT_ fun K hK => ?_
 refine gc_ Tryz.func96 #[] ?_
 with_reducible refine (inew_calls _).mono ?_
 rintro e_ Wa ⟨ix,nm,pm,rfl,hz,hx,hn,hp,hb⟩
 have HX := Aside0.mk hx
 have HN := Aside0.mk hn
 have HP := Aside0.mk hp
 have HZ : Aside0 (nm ≠ pm ∧ W4.heap.size ≤ nm ∧ W4.heap.size ≤ pm) := ⟨by have := HB.out.size; omega⟩
 replace H7 := mb H7 hb
 replace H9 := mb H9 hb
 replace HF := mb HF hb
 replace HB := mS HB hb
 have QA : Aside0 (nm < Wa.heap.size ∧ pm < Wa.heap.size) := ⟨blk_lt hn,blk_lt hp⟩
 clear hz hx hn hp hb
 refine ⟨_,rfl,?_⟩
 refine hK.out _ _ ((cL H9 12 rfl)) (fun hHeld => ?_)
 clear hK K
 refine no_ 26 ?_
 refine on_ 4 HT_ fun K hK => ?_
 refine gc_ Tryz.func97 #[.int .u64 0] ?_
 with_reducible refine (wnew_calls 0 _).mono ?_
 rintro e_ Wb ⟨wh,fm,am,rfl,hz,hw,ha,hb⟩
 have HW := Aside0.mk hw
 have HA := Aside0.mk ha
 have HZ2 : Aside0 (W4.heap.size ≤ wh ∧ W4.heap.size ≤ am) := ⟨by have h5 := HB.out.size; have := hz.1; have := hz.2.2.1; omega⟩
 have HND : Aside0 ([m,nm,pm,am].Nodup) := ⟨by have h1 := blk_lt HLS.out.hm; have h2 := HZ.out; have h3 := QA.out; have h4 := hz.2.2.1; have h5 := HB.out.size; simp; omega⟩
 replace H7 := mb H7 hb
 replace H9 := mb H9 hb
 replace HF := mb HF hb
 replace HX := mb HX hb
 replace HN := mb HN hb
 replace HP := mb HP hb
 replace HB := mS HB hb
 clear hz hw ha hb
 refine ⟨_,rfl,?_⟩
 refine hK.out _ _ ((cL H9 12 rfl)) (fun hHeld => ?_)
 clear hK K
 refine no_ 30 ?_
 refine pa_ 7 33 HT_ ?_
 refine on_ 8 HT_ fun K hK => ?_
 refine va_ ?_
 obtain ⟨W5,hW_⟩ : ∃ W_,W_ = Wb.alloc (.cells #[.pointer (some ⟨ix,0,none⟩),.pointer (some ⟨d,0,none⟩),.pointer (some ⟨l,0,none⟩),.pointer (some ⟨wh,0,none⟩),.int .u64 n] 132) := ⟨_,rfl⟩
 obtain ⟨co,hg_⟩ : ∃ g_,g_ = Wb.heap.size := ⟨_,rfl⟩
 rw [← hW_,← hg_]
 have hb : Below Wb.heap.size Wb W5 := by rw [hW_]; exact below_alloc (Below.refl _ _) _
 have HC : Aside0 (W5.heap[co]? = some (.cells (coc ix d l wh n) 132 (0,0))) := ⟨by rw [hW_,hg_]; exact blk_new _ _⟩
 clear hW_ hg_
 replace H7 := mb H7 hb
 replace H9 := mb H9 hb
 replace HF := mb HF hb
 replace HX := mb HX hb
 replace HN := mb HN hb
 replace HP := mb HP hb
 replace HW := mb HW hb
 replace HA := mb HA hb
 replace HB := mS HB hb
 clear hb
 refine hK.out _ _ ((cL H9 12 rfl)) (fun hHeld => ?_)
 clear hK K
 refine no_ 34 ?_
 refine pa_ 9 6 HT_ ?_
 refine dn_ HT_ ?_
 clear HT_ HW_ hHeld
 dsimp only [Go.Proofs.YtokfjbbjkiilmaaGreatDoor.Rf.QN]
 replace HLS := Aside0.mk (HLS.out.below HB.out)
 replace HKP : Aside0 (Keep [d,m] w W5) := ⟨HKP.out.trans (Keep.below HB.out)⟩
 clear HB
 have GNP : Aside0 ((w.heap.size ≤ nm ∧ w.heap.size ≤ pm) ∧ w.heap.size ≤ wh ∧ w.heap.size ≤ am) := ⟨by have := HZ.out; have := HZ2.out; have := HKP4.out; omega⟩
 have y13 : W5.cell? ⟨g9,13,none⟩ = some (.slice (some ⟨gF,0,none⟩) n cF) := cL H9 13 rfl
 go_wp2_with fail
 have HN5 := HN
 have HP5 := HP
 clear y13
 go_loopw [38] (fun v wr => ∃ (i : Nat) (z : Int),v = .int .i64 (i : Int) ∧ Aside0 (i ≤ n) ∧ Aside0 (wr.heap[nm]? = some (.map (nsI dl z i) (cnI i))) ∧ Aside0 (wr.heap[pm]? = some (.map (psI i) i)) ∧ Aside0 (Keep [nm,pm] W5 wr)) (fun v _ => n - (intOf v).toNat)
 case atStart => exact ⟨0,0,rfl,⟨by omega⟩,HN,HP,⟨Keep.refl _ _⟩⟩
 case round =>
  clear HN HP
  obtain ⟨i,z,rfl,HI,HN,HP,HK⟩ := hrel
  rcases Nat.lt_or_ge i n with hlt | hge
  ·have HLT := Aside0.mk hlt
   clear hlt
   have t1 : decide ((i : Int) < (n : Int)) = true := decide_eq_true (by have := HLT.out; omega)
   have t1b : ((i : Int) < (n : Int)) = True := eq_true (by have := HLT.out; omega)
   have t1c : (0 ≤ (i : Int)) = True := eq_true (by omega)
   have HFr := Aside0.mk (blk_keep HF.out HK.out (by simp [(map_ne HN5.out HF.out).symm,(map_ne HP5.out HF.out).symm]))
   go_upto_region 7 with fail
   have y0 : wr.cell? ⟨gF,i * 9,none⟩ = some (.int .i64 0) := (blk_cell HFr.out (i * 9 + 0)).trans (HCF.out i 0 _ HLT.out (by decide) rfl)
   have y1 : wr.cell? ⟨gF,i * 9 + 1,none⟩ = some (.int .i64 (i : Int)) := (blk_cell HFr.out (i * 9 + 1)).trans (HCF.out i 1 _ HLT.out (by decide) rfl)
   have y2 : wr.cell? ⟨gF,i * 9 + 2,none⟩ = some (.int .u64 (1 + i)) := (blk_cell HFr.out (i * 9 + 2)).trans (HCF.out i 2 _ HLT.out (by decide) rfl)
   have y3 : wr.cell? ⟨gF,i * 9 + 3,none⟩ = some (.int .u32 1) := (blk_cell HFr.out (i * 9 + 3)).trans (HCF.out i 3 _ HLT.out (by decide) rfl)
   have y4 : wr.cell? ⟨gF,i * 9 + 4,none⟩ = some (.int .i64 1) := (blk_cell HFr.out (i * 9 + 4)).trans (HCF.out i 4 _ HLT.out (by decide) rfl)
   have y5 : wr.cell? ⟨gF,i * 9 + 5,none⟩ = some (.int .u64 (1 + i)) := (blk_cell HFr.out (i * 9 + 5)).trans (HCF.out i 5 _ HLT.out (by decide) rfl)
   have y6 : wr.cell? ⟨gF,i * 9 + 6,none⟩ = some (.int .u64 dl) := (blk_cell HFr.out (i * 9 + 6)).trans (HCF.out i 6 _ HLT.out (by decide) rfl)
   have y7 : wr.cell? ⟨gF,i * 9 + 7,none⟩ = some (.string idA) := (blk_cell HFr.out (i * 9 + 7)).trans (HCF.out i 7 _ HLT.out (by decide) rfl)
   have y8 : wr.cell? ⟨gF,i * 9 + 8,none⟩ = some (.string (vs i)) := (blk_cell HFr.out (i * 9 + 8)).trans (HCF.out i 8 _ HLT.out (by decide) rfl)
   go_upto_region 8 with (refine sr_ 12 41 #[.int .i64 0,.int .i64 (i : Int),.int .u64 (1 + i),.int .u32 1,.int .i64 1,.int .u64 (1 + i),.int .u64 dl,.string idA,.string (vs i)] (blk_new wr (.cells #[.int .i64 0,.int .i64 0,.int .u64 0,.int .u32 0,.int .i64 0,.int .u64 0,.int .u64 0,.string { data := #[] },.string { data := #[] }] 327)) ?_)
   clear y0 y1 y2 y3 y4 y5 y6 y7 y8
   obtain ⟨Wx,hW_⟩ : ∃ W_,W_ = ((wr.alloc (.cells #[.int .i64 0,.int .i64 0,.int .u64 0,.int .u32 0,.int .i64 0,.int .u64 0,.int .u64 0,.string { data := #[] },.string { data := #[] }] 327)).setRow wr.heap.size #[.int .i64 0,.int .i64 (i : Int),.int .u64 (1 + i),.int .u32 1,.int .i64 1,.int .u64 (1 + i),.int .u64 dl,.string idA,.string (vs i)]) := ⟨_,rfl⟩
   obtain ⟨g12,hg_⟩ : ∃ g_,g_ = wr.heap.size := ⟨_,rfl⟩
   rw [← hW_,← hg_]
   have hb : Below wr.heap.size wr Wx := by rw [hW_]; exact below_setRow (below_alloc (Below.refl _ _) _) (Nat.le_refl _) _
   have H12 : Aside0 (Wx.heap[g12]? = some (.cells #[.int .i64 0,.int .i64 (i : Int),.int .u64 (1 + i),.int .u32 1,.int .i64 1,.int .u64 (1 + i),.int .u64 dl,.string idA,.string (vs i)] 327 (0,0))) := ⟨by rw [hW_,hg_]; exact setRow_heap _ _ _ _ _ _ (blk_new wr (.cells #[.int .i64 0,.int .i64 0,.int .u64 0,.int .u32 0,.int .i64 0,.int .u64 0,.int .u64 0,.string { data := #[] },.string { data := #[] }] 327))⟩
   clear hW_ hg_
   have HCr := Aside0.mk (blk_below (blk_keep HC.out HK.out (by simp [(map_ne HN5.out HC.out).symm,(map_ne HP5.out HC.out).symm])) hb)
   have HXr := Aside0.mk (blk_below (blk_keep HX.out HK.out (by simp [(map_ne HN5.out HX.out).symm,(map_ne HP5.out HX.out).symm])) hb)
   replace HN := mb HN hb
   replace HP := mb HP hb
   replace HK : Aside0 (Keep [nm,pm] W5 Wx) := ⟨HK.out.trans (Keep.below hb)⟩
   clear hb HFr
   refine noOut' ?_
   refine st_ 9 (fun w' => w'.cell? ⟨co,0,none⟩ = some (.pointer (some ⟨ix,0,none⟩)) ∧ w'.cell? ⟨g12,0,none⟩ = some (.int .i64 0) ∧ w'.cell? ⟨g12,1,none⟩ = some (.int .i64 (i : Int)) ∧ w'.cell? ⟨g12,2,none⟩ = some (.int .u64 (1 + i)) ∧ w'.cell? ⟨g12,3,none⟩ = some (.int .u32 1) ∧ w'.cell? ⟨g12,4,none⟩ = some (.int .i64 1) ∧ w'.cell? ⟨g12,5,none⟩ = some (.int .u64 (1 + i)) ∧ w'.cell? ⟨g12,6,none⟩ = some (.int .u64 dl) ∧ w'.cell? ⟨g12,7,none⟩ = some (.string idA) ∧ w'.cell? ⟨g12,8,none⟩ = some (.string (vs i))) [8] ⟨(cD HCr 0 rfl),(cD H12 0 rfl),(cD H12 1 rfl),(cD H12 2 rfl),(cD H12 3 rfl),(cD H12 4 rfl),(cD H12 5 rfl),(cD H12 6 rfl),(cD H12 7 rfl),(cD H12 8 rfl)⟩ fun hHeld => ?_
   refine with_tabW copen.tab8 copen.bits8 (fun HT_ HW_ => ?_)
   replace HCr := mD HCr
   replace H12 := mD H12
   replace HXr := mD HXr
   replace HN := mD HN
   replace HP := mD HP
   replace HK : Aside0 (Keep [nm,pm] W5 Wx.drew) := ⟨HK.out.drew⟩
   generalize Wx.drew = wd2 at *
   refine pa_ 0 42 HT_ ?_
   refine pa_ 1 43 HT_ ?_
   refine pa_ 2 44 HT_ ?_
   refine pa_ 4 46 HT_ ?_
   refine pa_ 6 48 HT_ ?_
   refine ta_ 3 45 HT_ HW_ hHeld ?_
   refine ta_ 5 47 HT_ HW_ hHeld ?_
   refine ta_ 7 49 HT_ HW_ hHeld ?_
   refine la_ 8 HT_ fun K hK => ?_
   refine gc_ Tryz.func199 #[.pointer (some ⟨ix,0,none⟩),.agg #[.int .u64 (1 + i),.int .u32 1,.int .i64 1,.int .u64 (1 + i),.int .u64 dl,.string idA,.string (vs i)],.agg #[.int .i64 0,.int .i64 (i : Int)]] ?_
   with_reducible refine (iadd_calls ix nm pm (cnI i) i 1 (i + 1) (nsI dl z i) (psI i) (psI (i + 1)) (fun z' => nsI dl z' (i + 1)) (1 + i) 1 (1 + i) dl 0 i (vs i) (nV i i) (nV i dl) (nV i z) 0 (nV i ((i : Int) - 1)) (nB i) (nB i) _ HXr.out HN.out HP.out HZ.out.1 (fun W hW => pl_look i pm (by have := HN2.out; have := HLT.out; omega) W hW) (fun W hW => pl_up i pm (by have := HN2.out; have := HLT.out; omega) W hW) (fun W hW => nw_look i nm dl z W hW) (fun z' W hW => by have h_ := nw_up i nm dl z z' W hW; rwa [Int.add_comm (i : Int) 1] at h_) (by cases i <;> simp [nV] <;> omega)).mono ?_
   rintro e_ Wy ⟨rfl,z',hn2,hp2,hk2⟩
   refine ⟨_,rfl,?_⟩
   refine hK.out _ _ ?_
   clear hK K
   refine no_ 50 ?_
   refine dn_ HT_ ?_
   clear HT_ HW_ hHeld
   dsimp only [Go.Proofs.YtokfjbbjkiilmaaGreatDoor.Rf.QN]
   have q1_ : (0 : Int) ≤ i := by omega
   have q2_ : (i : Int) + 1 ≤ 9223372036854775807 := by have := HN2.out; have := HLT.out; omega
   go_wp2_with fail
   exact ⟨⟨i + 1,z',by go_num,⟨by have := HLT.out; omega⟩,⟨hn2⟩,⟨hp2⟩,⟨HK.out.trans hk2⟩⟩,by have := HLT.out; simp [intOf]; omega⟩
  ·obtain rfl : n = i := by have := HI.out; omega
   have t1 : decide ((n : Int) < (n : Int)) = false := decide_eq_false (by omega)
   have t1b : ((n : Int) < (n : Int)) = False := eq_false (by omega)
   have HCr := Aside0.mk (blk_keep HC.out HK.out (by simp [(map_ne HN5.out HC.out).symm,(map_ne HP5.out HC.out).symm]))
   have HXr := Aside0.mk (blk_keep HX.out HK.out (by simp [(map_ne HN5.out HX.out).symm,(map_ne HP5.out HX.out).symm]))
   have y0 : wr.cell? ⟨co,0,none⟩ = some (.pointer (some ⟨ix,0,none⟩)) := cL HCr 0 rfl
   have hns : nsI dl z n = #[{ key := .string idA,val := .agg #[.int .u64 n,.int .u64 dl,.bool true,.int .i64 z,.int .i64 0,.int .i64 ((n : Int) - 1)],born := 0 }] ∧ cnI n = 1 := by rcases HN2.out with rfl | rfl <;> exact ⟨rfl,rfl⟩
   have HNL : Aside0 (wr.heap[nm]? = some (.map #[{ key := .string idA,val := .agg #[.int .u64 n,.int .u64 dl,.bool true,.int .i64 z,.int .i64 0,.int .i64 ((n : Int) - 1)],born := 0 }] 1)) := ⟨by rw [← hns.1,← hns.2]; exact HN.out⟩
   have HNS := Aside0.mk hns
   clear hns
   go_wp2_with fail
   clear y0
   refine (ids1_calls ix nm pm 1 0 (.int .u64 n) (.int .u64 dl) (.int .i64 z) (.int .i64 0) (.int .i64 ((n : Int) - 1)) _ HXr.out HNL.out (by decide)).mono ?_
   rintro e_ W6 ⟨gS,cS,rfl,hgs,hb⟩
   have HGS := Aside0.mk hgs
   have HC6 := Aside0.mk (blk_below (blk_keep HC.out HK.out (by simp [(map_ne HN5.out HC.out).symm,(map_ne HP5.out HC.out).symm])) hb)
   have HX6 := Aside0.mk (blk_below (blk_keep HX.out HK.out (by simp [(map_ne HN5.out HX.out).symm,(map_ne HP5.out HX.out).symm])) hb)
   have HW6 := Aside0.mk (blk_below (blk_keep HW.out HK.out (by simp [(map_ne HN5.out HW.out).symm,(map_ne HP5.out HW.out).symm])) hb)
   have H76 := Aside0.mk (blk_below (blk_keep H7.out HK.out (by simp [(map_ne HN5.out H7.out).symm,(map_ne HP5.out H7.out).symm])) hb)
   have HA6 : Aside0 (W6.heap[am]? = some (.map #[] 0)) := ⟨blk_below (blk_keep HA.out HK.out (by have := HND.out; simp at this ⊢; omega)) hb⟩
   have HN6 := Aside0.mk (blk_below HNL.out hb)
   have HNo6 := Aside0.mk (blk_below HN.out hb)
   have HP6 := Aside0.mk (blk_below HP.out hb)
   have HLN : Aside0 (Lst W6 l d m oo ln ff (left - 3) (.slice none 0 0) (es.push { key := .int .i64 0,val := .agg #[.int .i64 0,.string (ckS 2 2 (1 + n) n n)],born := c }) (c + 1) n 1 (1 + n) 2 2) := ⟨(HLS.out.keep HK.out (by have := HND.out; simp at this; simp [(map_ne HN5.out HLS.out.hd).symm,(map_ne HP5.out HLS.out.hd).symm,(map_ne HN5.out HLS.out.hl).symm,(map_ne HP5.out HLS.out.hl).symm,(map_ne HN5.out HLS.out.ho).symm,(map_ne HP5.out HLS.out.ho).symm,(map_ne HN5.out HLS.out.hn).symm,(map_ne HP5.out HLS.out.hn).symm,(map_ne HN5.out HLS.out.hf).symm,(map_ne HP5.out HLS.out.hf).symm]; omega)).below hb⟩
   replace HK : Aside0 (Keep [nm,pm] W5 W6) := ⟨HK.out.trans (Keep.below hb)⟩
   clear hb hgs HCr HXr HNL HN HP t1 t1b
   go_wp2_with fail
   skip
   go_loopw [58] (fun v wr => (v = .int .i64 0 ∧ Aside0 (Below W6.heap.size W6 wr)) ∨ (v = .int .i64 1 ∧ Aside0 (Whn wr wh) ∧ Aside0 (Keep [wh,am] W6 wr))) (fun v _ => 1 - (intOf v).toNat)
   case atStart => exact .inl ⟨rfl,⟨Below.refl _ _⟩⟩
   case round =>
    rcases hrel with ⟨rfl,HB⟩ | ⟨rfl,HPW,HKW⟩
    ·have y0 : wr.cell? ⟨gS,0,none⟩ = some (.string idA) := cell_below HB.out HGS.out
     have y1 : wr.cell? ⟨co,0,none⟩ = some (.pointer (some ⟨ix,0,none⟩)) := (blk_cell (blk_below HC6.out HB.out) 0).trans rfl
     go_wp2_with fail
     refine (newest_calls ix nm pm 1 #[{ key := .string idA,val := .agg #[.int .u64 n,.int .u64 dl,.bool true,.int .i64 z,.int .i64 0,.int .i64 ((n : Int) - 1)],born := 0 }] n dl z 0 ((n : Int) - 1) true true _ (blk_below HX6.out HB.out) (blk_below HN6.out HB.out) (fun W hW => run_look (key := .string idA) (k := 9) (e := 183) (kd := .string) (i := 0) (by kernel_rfl) (by kernel_rfl) trivial hW (by kernel_rfl) true)).mono ?_
     rintro e_ Wa ⟨rfl,hb⟩
     clear y0 y1
     replace HB := mS HB hb
     clear hb
     go_upto_region 14 with (refine sr_ 15 69 #[.int .u64 n,.int .u64 dl,.bool true,.int .i64 z,.int .i64 0,.int .i64 ((n : Int) - 1)] (blk_new Wa (.cells #[.int .u64 0,.int .u64 0,.bool false,.int .i64 0,.int .i64 0,.int .i64 0] 183)) ?_)
     obtain ⟨Wb,hW_⟩ : ∃ W_,W_ = ((Wa.alloc (.cells #[.int .u64 0,.int .u64 0,.bool false,.int .i64 0,.int .i64 0,.int .i64 0] 183)).setRow Wa.heap.size #[.int .u64 n,.int .u64 dl,.bool true,.int .i64 z,.int .i64 0,.int .i64 ((n : Int) - 1)]) := ⟨_,rfl⟩
     obtain ⟨g15,hg_⟩ : ∃ g_,g_ = Wa.heap.size := ⟨_,rfl⟩
     rw [← hW_,← hg_]
     have hb : Below Wa.heap.size Wa Wb := by rw [hW_]; exact below_setRow (below_alloc (Below.refl _ _) _) (Nat.le_refl _) _
     have H15 : Aside0 (Wb.heap[g15]? = some (.cells #[.int .u64 n,.int .u64 dl,.bool true,.int .i64 z,.int .i64 0,.int .i64 ((n : Int) - 1)] 183 (0,0))) := ⟨by rw [hW_,hg_]; exact setRow_heap _ _ _ _ _ _ (blk_new Wa (.cells #[.int .u64 0,.int .u64 0,.bool false,.int .i64 0,.int .i64 0,.int .i64 0] 183))⟩
     replace HB := mS HB hb
     clear hW_ hg_ hb
     go_wp2_with (refine lr_ 15 H15.out Tryz.underlying183 ?_)
     refine (ctime_calls co ix d l wh n n dl z 0 ((n : Int) - 1) (fun W => Whn W wh) [wh,am] _ (blk_below HC6.out HB.out) ((blk_cell (blk_below HW6.out HB.out) 0).trans rfl) HDL.out (fun W hW => HSET.out wh fm am W (blk_below HW6.out (below_step HB.out hW)) (blk_below HA6.out (below_step HB.out hW)))).mono ?_
     rintro e_ Wc ⟨rfl,hp,hk⟩
     go_wp2_with fail
     exact ⟨.inr ⟨rfl,⟨hp⟩,⟨(Keep.below HB.out).trans hk⟩⟩,by simp [intOf]⟩
    ·have HWO : Aside0 (Wof W6 am [wh,am]) := ⟨⟨⟨_,_,HA6.out⟩,fun q hq => by simp at hq; rcases hq with rfl | rfl; exact .inr ⟨_,_,.inl rfl,HW6.out⟩; exact .inl rfl⟩⟩
     have HKS : Aside0 (Kos wr co ix d l wh nm pm am m oo ln ff (left - 3) (.slice none 0 0) (es.push { key := .int .i64 0,val := .agg #[.int .i64 0,.string (ckS 2 2 (1 + n) n n)],born := c }) (c + 1) n 1 (1 + n) 2 2 n (nsI dl z n) (cnI n) (psI n) n) := ⟨Kos.wheel ⟨HC6.out,HX6.out,HNo6.out,HP6.out,HLN.out,HND.out⟩ HKW.out HWO.out⟩
     have H7w := Aside0.mk (blk_keep H76.out HKW.out (HWO.out.row H76.out (by decide) (by decide)))
     have HKF : Aside0 (Keep [d,m] w wr) := ⟨(HKP.out.behind HK.out (fun q hq => by have := GNP.out; simp at hq ⊢; omega)).behind HKW.out (fun q hq => by have := GNP.out; simp at hq ⊢; omega)⟩
     have y7 : wr.cell? ⟨g7,0,none⟩ = some (.int .i64 0) := cL H7w 0 rfl
     have f7 := blk_frozen H7w.out 0
     go_wp2_with fail
     clear y7 f7
     rw [setCell_eq_setRow wr g7 0 _ _ _ _ H7w.out]
     have q5 : (wr.setRow g7 #[.int .i64 0]).heap[g7]? = some (.cells #[.int .i64 0] 39 (0,0)) := setRow_heap _ _ _ _ _ _ H7w.out
     have hfin := HKS.out.other (L' := []) ((Keep.refl [g7] wr).setRow (g := g7) #[.int .i64 0] (.inl (by simp))) H7w.out (by decide)
     have hpf := HPW.out.keep ((Keep.refl [g7] wr).setRow (g := g7) #[.int .i64 0] (.inl (by simp))) (by obtain ⟨cs_,h1,_⟩ := HPW.out; simpa using tne h1 H7w.out (by decide))
     have hkf : Keep [d,m] w (wr.setRow g7 #[.int .i64 0]) := HKF.out.setRow _ (.inr G7.out)
     show bodyPostD _ _ _ _ _ (wr.setRow g7 #[.int .i64 0])
     generalize wr.setRow g7 #[.int .i64 0] = Wn at *
     refine leaves_cons (f := 93) (args := #[.pointer (some ⟨g7,0,none⟩)]) (by simp) (by simp [go_sem]) ?_
     refine (cocaught_idle ⟨g7,0,none⟩ _).mono ?_
     rintro e_ u_ W9 ⟨rfl,rfl,hb⟩
     have c5 : W9.cell? ⟨g7,0,none⟩ = some (.int .i64 0) := (blk_cell (blk_below q5 hb) 0).trans rfl
     simp only [Leaves,settle]
     exact ⟨.tuple #[.pointer (some ⟨co,0,none⟩),.int .i64 0],by simp [results,Tryz.results186,asAddr,go_sem,c5],co,ix,l,wh,nm,pm,am,oo,ln,ff,z,rfl,hfin.below hb,hpf.keep (Keep.below (L := []) hb) (by simp),hkf.trans (Keep.below hb)⟩
end Go.Proofs.YtokfjbbjkiilmaaGreatDoor.H
namespace Go.Proofs.YtokfjbbjkiilmaaGreatDoor.H
open Go.RowKit Go.Proofs.YtokfjbbjkiilmaaGreatDoorW.PrintWords Go.Proofs.YtokfjbbjkiilmaaGreatDoorW.PrintLast Go.Proofs.YtokfjbbjkiilmaaGreatDoorW.PrintMore
set_option maxHeartbeats 8000000
set_option maxRecDepth 100000
attribute [local go_sem] max2_int min2_int min_two max_two
def dover.T3 : Bool × List (List Nat × List Nat) := (true,[([],[]),([],[]),([],[]),([0,1,2],[0,1,2]),([3],[3]),([4,2,0,1,2,3,4],[4]),([5,0,1,2,3,4,5],[])])
def dover.B3 : List Nat := [0,0,0,7,15,31,63]
theorem dover.tab3 : rtab .any (opsOf Tryz.f49 3) = dover.T3 := by kernel_rfl
theorem dover.bits3 : waitsOk dover.T3.2 dover.B3 = true := by kernel_rfl
theorem dover_calls (co : Nat) (w : World) :
 Calls Tryz.prog 49 #[.pointer (some ⟨co,0,none⟩),.agg cnf,.int .i64 0] w fun e w' => ∃ k cl : Nat,e = .returned (.tuple #[.pointer (some ⟨k,0,none⟩),.int .i64 0]) ∧ w'.heap[k]? = some (.cells (dsc co cl) 76 (0,0)) ∧ w'.heap[cl]? = some (.cells clc 117 (0,0)) ∧ Below w.heap.size w w' ∧ w.heap.size ≤ k := by
 go_enter Tryz.func49,Tryz.ntmps49
 go_upto_region 3 with fail
 obtain ⟨W1,g4,hW_,hg4,H4,hb_⟩ := new1 w cnf 24
 rw [← hW_,← hg4.out]
 have HB := Aside0.mk hb_
 clear hW_ hb_
 refine st_ 7 (fun w' => w'.cell? ⟨g4,0,none⟩ = some (.int .i64 4) ∧ w'.cell? ⟨g4,1,none⟩ = some (.int .i64 2) ∧ w'.cell? ⟨g4,2,none⟩ = some (.float .f64 4607182418800017408) ∧ w'.cell? ⟨g4,3,none⟩ = some (.int .i64 0)) [] ⟨(cD H4 0 rfl),(cD H4 1 rfl),(cD H4 2 rfl),(cD H4 3 rfl)⟩ fun hHeld => ?_
 refine with_tabW dover.tab3 dover.bits3 (fun HT_ HW_ => ?_)
 replace H4 := mD H4
 replace HB := bD HB
 generalize W1.drew = wd1 at *
 refine pa_ 0 11 HT_ ?_
 refine ta_ 1 12 HT_ HW_ hHeld ?_
 refine on_ 2 HT_ fun K hK => ?_
 refine gc_ Tryz.func98 #[] ?_
 with_reducible refine (cnew_calls _).mono ?_
 rintro e_ Wa ⟨cl,rfl,hg,hcl,hb⟩
 refine ⟨_,rfl,?_⟩
 have HCL := Aside0.mk hcl
 have GCL : Aside0 (w.heap.size ≤ cl) := ⟨Nat.le_trans HB.out.size hg⟩
 replace H4 := mb H4 hb
 replace HB := mS HB hb
 clear hg hcl hb
 refine hK.out _ _ ⟨(cL H4 0 rfl),(cL H4 1 rfl),(cL H4 2 rfl),(cL H4 3 rfl)⟩ (fun hHeld => ?_)
 clear hK K
 refine no_ 13 ?_
 refine pa_ 3 14 HT_ ?_
 refine on_ 4 HT_ fun K hK => ?_
 refine va_ ?_
 obtain ⟨Wb,hW_⟩ : ∃ W_,W_ = Wa.alloc (.cells #[.pointer (some ⟨co,0,none⟩),.int .i64 4,.int .i64 2,.float .f64 4607182418800017408,.int .i64 0,.pointer (some ⟨cl,0,none⟩),.int .i64 0,.bool false] 76) := ⟨_,rfl⟩
 obtain ⟨k,hg_⟩ : ∃ g_,g_ = Wa.heap.size := ⟨_,rfl⟩
 rw [← hW_,← hg_]
 have GK : Aside0 (w.heap.size ≤ k) := ⟨by rw [hg_]; exact HB.out.size⟩
 have hb : Below Wa.heap.size Wa Wb := by rw [hW_]; exact below_alloc (Below.refl _ _) _
 have HK : Aside0 (Wb.heap[k]? = some (.cells (dsc co cl) 76 (0,0))) := ⟨by rw [hW_,hg_]; exact blk_new _ _⟩
 replace H4 := mb H4 hb
 replace HCL := mb HCL hb
 replace HB := mS HB hb
 clear hW_ hg_ hb
 refine hK.out _ _ ⟨(cL H4 0 rfl),(cL H4 1 rfl),(cL H4 2 rfl),(cL H4 3 rfl)⟩ (fun hHeld => ?_)
 clear hK K
 refine no_ 15 ?_
 refine pa_ 5 6 HT_ ?_
 refine pa_ 6 7 HT_ ?_
 refine dn_ HT_ ?_
 clear HT_ HW_ hHeld
 go_wp2_with fail
 exact ret2 rfl rfl ⟨k,cl,rfl,HK.out,HCL.out,HB.out,GK.out⟩
theorem dmake_calls (d m : Nat) (left : Int) (es : Array MapEntry) (c : Nat) (w : World) (hd : w.heap[d]? = some (.cells (dkc left m (.slice none 0 0)) 108 (0,0))) (hm : w.heap[m]? = some (.map es c)) (hlf : (-1000 ≤ left ∧ left ≤ 0) ∧ -900 ≤ left) (hfi : Instr.findNow (.int .i64) (.int .i64 1) es.toList 0 = some none) :
 Calls Tryz.prog 25 #[.pointer (some ⟨d,0,none⟩),.agg cnf] w fun e w' => ∃ k cl co ix l wh nm pm am oo ln ff fm : Nat,e = .returned (.tuple #[.pointer (some ⟨k,0,none⟩),.int .i64 0]) ∧ Kos w' co ix d l wh nm pm am m oo ln ff (left - 3) (.slice none 0 0) (es.push { key := .int .i64 1,val := .agg #[.int .i64 1,.string (ckS 1 1 1 0 0)],born := c }) (c + 1) 0 1 1 1 1 0 #[] 0 #[] 0 ∧ (w'.heap[k]? = some (.cells (dsc co cl) 76 (0,0)) ∧ w'.heap[cl]? = some (.cells clc 117 (0,0))) ∧ w'.heap[wh]? = some (.cells (wrow 0 fm am) 239 (0,0)) ∧ w'.heap[am]? = some (.map #[] 0) ∧ Keep [d,m] w w' ∧ ∀ q ∈ [k,co,ix,l,wh,nm,pm,am],w.heap.size ≤ q := by
 have HD := Aside0.mk hd
 have HM := Aside0.mk hm
 have HLF := Aside0.mk hlf
 have HFI := Aside0.mk hfi
 clear hd hm hlf hfi
 go_enter Tryz.func25,Tryz.ntmps25
 go_upto_region 1 with fail
 obtain ⟨W1,g3,hW_,hg3,H3,hb_⟩ := new1 w cnf 24
 rw [← hW_,← hg3.out]
 replace HD := mb HD hb_
 replace HM := mb HM hb_
 have HB := Aside0.mk hb_
 clear hW_ hb_
 go_wp2_with (refine lr_ 3 H3.out Tryz.underlying24 ?_)
 refine (cmake_calls d m left es c _ HD.out HM.out HLF.out HFI.out).mono ?_
 rintro e_ W2 ⟨co,ix,l,wh,nm,pm,am,oo,ln,ff,fm,rfl,hks,hw,ha,hk,hge⟩
 have HKS := Aside0.mk hks
 have HW := Aside0.mk hw
 have HA := Aside0.mk ha
 have HGE := Aside0.mk hge
 have HS1 := Aside0.mk HB.out.size
 have HKP : Aside0 (Keep [d,m] w W2) := ⟨(Keep.below HB.out).trans hk⟩
 replace H3 := Aside0.mk (blk_keep H3.out hk (by simp [tne H3.out HD.out (by decide),(map_ne HM.out H3.out).symm]))
 clear hks hw ha hk hge HB
 go_wp2_with (refine lr_ 3 H3.out Tryz.underlying24 ?_)
 refine (dover_calls co _).mono ?_
 rintro e_ W3 ⟨k,cl,rfl,h1,h2,hb,hgk⟩
 go_wp2_with fail
 exact ret2 rfl rfl ⟨k,cl,co,ix,l,wh,nm,pm,am,oo,ln,ff,fm,rfl,HKS.out.below hb,⟨h1,h2⟩,blk_below HW.out hb,blk_below HA.out hb,HKP.out.trans (Keep.below hb),fun q hq => (List.mem_cons.1 hq).elim (fun e => e ▸ Nat.le_trans HKP.out.size hgk) (fun hq => Nat.le_trans HS1.out (HGE.out q hq))⟩
theorem dopen_calls (d m n : Nat) (left dl : Int) (vs : Nat → ByteArray) (send : ByteArray) (es : Array MapEntry) (c : Nat) (w : World) (hn2 : n = 1 ∨ n = 2) (hd : w.heap[d]? = some (.cells (dkc left m (.slice none 0 0)) 108 (0,0))) (hm : w.heap[m]? = some (.map es c)) (hlf : (-1000 ≤ left ∧ left ≤ 0) ∧ -900 ≤ left) (hfi : Instr.findNow (.int .i64) (.int .i64 0) es.toList 0 = some none) (h0 : Rd w d 0 zsec) (h1 : Rd w d 1 (ckS 1 1 1 0 0)) (hrd : ∀ j : Nat,j < n → lok (1 + j) 1 (1 + j) dl (vs j) ∧ Rd w d (2 + j) (lrec (1 + j) 1 (1 + j) dl (vs j)).enc) (hend : send.size = 128 ∧ sb send 124 = 0 ∧ Rd w d (2 + n) send) (hdl : 0 < dl) (hset : ∀ (wh fm am : Nat) (W : World),W.heap[wh]? = some (.cells (wrow 0 fm am) 239 (0,0)) → W.heap[am]? = some (.map #[] 0) → Calls Tryz.prog 215 #[.pointer (some ⟨wh,0,none⟩),.string idA,.int .u64 dl] W fun e w' => ∃ b : Bool,e = .returned (.bool b) ∧ Whn w' wh ∧ Keep [wh,am] W w') :
 Calls Tryz.prog 137 #[.pointer (some ⟨d,0,none⟩),.agg cnf,.int .u64 0] w fun e w' => ∃ (k cl co ix l wh nm pm am oo ln ff : Nat) (z : Int),e = .returned (.tuple #[.pointer (some ⟨k,0,none⟩),.int .i64 0]) ∧ Kos w' co ix d l wh nm pm am m oo ln ff (left - 3) (.slice none 0 0) (es.push { key := .int .i64 0,val := .agg #[.int .i64 0,.string (ckS 2 2 (1 + n) n n)],born := c }) (c + 1) n 1 (1 + n) 2 2 n (nsI dl z n) (cnI n) (psI n) n ∧ (w'.heap[k]? = some (.cells (dsc co cl) 76 (0,0)) ∧ w'.heap[cl]? = some (.cells clc 117 (0,0))) ∧ Whn w' wh ∧ Keep [d,m] w w' ∧ w.heap.size ≤ k := by
 have HD := Aside0.mk hd
 have HM := Aside0.mk hm
 have HR0 := Aside0.mk h0
 have HR1 := Aside0.mk h1
 have HRD := Aside0.mk hrd
 have HEND := Aside0.mk hend
 have HN2 := Aside0.mk hn2
 have HFI := Aside0.mk hfi
 have HLF := Aside0.mk hlf
 have HDL := Aside0.mk hdl
 have HSET := Aside0.mk hset
 clear hd hm h0 h1 hrd hend hn2 hfi hlf hdl hset
 go_enter Tryz.func137,Tryz.ntmps137
 go_upto_region 1 with fail
 obtain ⟨W1,g4,hW_,hg4,H4,hb_⟩ := new1 w cnf 24
 rw [← hW_,← hg4.out]
 replace HD := mb HD hb_
 replace HM := mb HM hb_
 have HB := Aside0.mk hb_
 clear hW_ hb_
 go_wp2_with (refine lr_ 4 H4.out Tryz.underlying24 ?_)
 refine (copen_calls d m n left dl vs send es c _ HN2.out HD.out HM.out HLF.out HFI.out (HR0.out.below HB.out) (HR1.out.below HB.out) (fun j hj => ⟨(HRD.out j hj).1,(HRD.out j hj).2.below HB.out⟩) ⟨HEND.out.1,HEND.out.2.1,HEND.out.2.2.below HB.out⟩ HDL.out HSET.out).mono ?_
 rintro e_ W2 ⟨co,ix,l,wh,nm,pm,am,oo,ln,ff,z,rfl,hks,hw,hk⟩
 have HKS := Aside0.mk hks
 have HW := Aside0.mk hw
 have HKP : Aside0 (Keep [d,m] w W2) := ⟨(Keep.below HB.out).trans hk⟩
 replace H4 := Aside0.mk (blk_keep H4.out hk (by simp [tne H4.out HD.out (by decide),(map_ne HM.out H4.out).symm]))
 clear hks hw hk HB
 go_wp2_with (refine lr_ 4 H4.out Tryz.underlying24 ?_)
 refine (dover_calls co _).mono ?_
 rintro e_ W3 ⟨k,cl,rfl,h1,h2,hb,hgk⟩
 go_wp2_with fail
 exact ret2 rfl rfl ⟨k,cl,co,ix,l,wh,nm,pm,am,oo,ln,ff,z,rfl,HKS.out.below hb,⟨h1,h2⟩,HW.out.keep (Keep.below (L := []) hb) (by simp),HKP.out.trans (Keep.below hb),Nat.le_trans HKP.out.size hgk⟩
end Go.Proofs.YtokfjbbjkiilmaaGreatDoor.H
