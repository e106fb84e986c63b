/-
lodgerlaw08.fixed: the calls whose answers the document fixes.
-/
import Derived.Test.YtbefoehjlgdcgaaFu
namespace Go.Proofs.Ytbefoehjlgdcgaa.H
open Go.RowKit Go.Proofs.YtbefoehjlgdcgaaW.PrintWords Go.Proofs.YtbefoehjlgdcgaaW.PrintLast Go.Proofs.YtbefoehjlgdcgaaW.PrintMore
attribute [local go_sem] min2_int min_two
set_option linter.unusedVariables false
set_option linter.unusedSimpArgs false
set_option maxHeartbeats 8000000 in
set_option maxRecDepth 100000 in
theorem fixed_calls (w : World) : Calls Try.prog 25 #[] w fun e w' => e = .returned (.bool true) ∧ Below w.heap.size w w' := by
 go_enter Try.func25,Try.ntmps25
 have HB := Aside0.mk (Below.refl w.heap.size w)
 go_wp2_with fail
 refine (new_yes 4 2 1 _ (by kernel_rfl)).mono ?_
 rintro e_ w1 ⟨Oa,oa,La,la,Fa,fa,he,hr,hb⟩
 have he2 : e_ = .returned (.tuple #[.agg #[.int .i64 4,.int .i64 2,.slice Oa 1 oa,.slice La 1 la,.slice Fa 1 fa],.int .i64 0]) := he
 subst he2
 have HTa : Aside0 (TC w1 Oa oa [0] La la [0] Fa fa [1]) := ⟨TR_TC hr⟩
 clear he hr
 replace HB := mS HB hb
 clear hb
 go_upto_region 2 with ((with_reducible refine gate_dst (N := 1) rfl ?_); refine box_event ?hg (N := 1) ?hd (cs := #[.int .i64 0,.int .i64 0,.slice none 0 0,.slice none 0 0,.slice none 0 0]) (t := 28) ?hr ?_; (case hd => rfl); (case hg => rfl); (case hr => first | (go_simp; done) | (go_simp; rfl)); intro ga hgo w2 hbox hbb; have HBO := Aside0.mk hbox; have HBB := Aside0.mk hbb; have HGO := Aside0.mk hgo; have y0 : w2.cell? ⟨ga,0,none⟩ = some (.int .i64 0) := (blk_cell hbox 0).trans rfl; have y1 : w2.cell? ⟨ga,1,none⟩ = some (.int .i64 0) := (blk_cell hbox 1).trans rfl; have y2 : w2.cell? ⟨ga,2,none⟩ = some (.slice none 0 0) := (blk_cell hbox 2).trans rfl; have y3 : w2.cell? ⟨ga,3,none⟩ = some (.slice none 0 0) := (blk_cell hbox 3).trans rfl; have y4 : w2.cell? ⟨ga,4,none⟩ = some (.slice none 0 0) := (blk_cell hbox 4).trans rfl; have yf0 := blk_frozen hbox 0; have yf1 := blk_frozen hbox 1; have yf2 := blk_frozen hbox 2; have yf3 := blk_frozen hbox 3; have yf4 := blk_frozen hbox 4; clear hbox hbb hgo)
 clear y0 y1 y2 y3 y4 yf0 yf1 yf2 yf3 yf4
 obtain ⟨w3,hW⟩ : ∃ W_,W_ = (((((w2.setCell ⟨ga,0,none⟩ (.int .i64 4)).setCell ⟨ga,1,none⟩ (.int .i64 2)).setCell ⟨ga,2,none⟩ (.slice Oa 1 oa)).setCell ⟨ga,3,none⟩ (.slice La 1 la)).setCell ⟨ga,4,none⟩ (.slice Fa 1 fa)) := ⟨_,rfl⟩
 rw [← hW]
 have h_ : Below w1.heap.size w1 w3 := below5 hW HBB.out (Nat.le_of_eq HGO.out.symm)
 have b_ := set5 hW HBO.out
 clear hW HBO HBB HGO
 replace HB := mS HB h_
 have HXa := Aside0.mk b_
 replace HTa := Aside0.mk (TC_below HTa.out h_)
 clear b_ h_
 go_wp2_with fail
 refine (new_no 3 2 1 _ (by kernel_rfl)).mono ?_
 rintro e_ w4 ⟨rfl,hb⟩
 replace HXa := mB HXa hb
 replace HTa := Aside0.mk (TC_below HTa.out hb)
 replace HB := mS HB hb
 clear hb
 go_upto_region 3 with ((with_reducible refine gate_dst (N := 3) rfl ?_); refine box_event ?hg (N := 3) ?hd (cs := #[.int .i64 0,.int .i64 0,.slice none 0 0,.slice none 0 0,.slice none 0 0]) (t := 28) ?hr ?_; (case hd => rfl); (case hg => rfl); (case hr => first | (go_simp; done) | (go_simp; rfl)); intro gz4 hgo w5 hbox hbb; have HBO := Aside0.mk hbox; have HBB := Aside0.mk hbb; have HGO := Aside0.mk hgo; have y0 : w5.cell? ⟨gz4,0,none⟩ = some (.int .i64 0) := (blk_cell hbox 0).trans rfl; have y1 : w5.cell? ⟨gz4,1,none⟩ = some (.int .i64 0) := (blk_cell hbox 1).trans rfl; have y2 : w5.cell? ⟨gz4,2,none⟩ = some (.slice none 0 0) := (blk_cell hbox 2).trans rfl; have y3 : w5.cell? ⟨gz4,3,none⟩ = some (.slice none 0 0) := (blk_cell hbox 3).trans rfl; have y4 : w5.cell? ⟨gz4,4,none⟩ = some (.slice none 0 0) := (blk_cell hbox 4).trans rfl; have yf0 := blk_frozen hbox 0; have yf1 := blk_frozen hbox 1; have yf2 := blk_frozen hbox 2; have yf3 := blk_frozen hbox 3; have yf4 := blk_frozen hbox 4; clear hbox hbb hgo)
 clear y0 y1 y2 y3 y4 yf0 yf1 yf2 yf3 yf4
 obtain ⟨w6,hW⟩ : ∃ W_,W_ = (((((w5.setCell ⟨gz4,0,none⟩ (.int .i64 0)).setCell ⟨gz4,1,none⟩ (.int .i64 0)).setCell ⟨gz4,2,none⟩ (.slice none 0 0)).setCell ⟨gz4,3,none⟩ (.slice none 0 0)).setCell ⟨gz4,4,none⟩ (.slice none 0 0)) := ⟨_,rfl⟩
 rw [← hW]
 have h_ : Below w4.heap.size w4 w6 := below5 hW HBB.out (Nat.le_of_eq HGO.out.symm)
 have b_ := set5 hW HBO.out
 clear hW HBO HBB HGO
 replace HXa := mB HXa h_
 replace HTa := Aside0.mk (TC_below HTa.out h_)
 replace HB := mS HB h_
 clear b_ h_
 have sa_0 : w6.cell? ⟨ga,0,none⟩ = some (.int .i64 4) := cL HXa 0 rfl
 have sa_1 : w6.cell? ⟨ga,1,none⟩ = some (.int .i64 2) := cL HXa 1 rfl
 have sa_2 : w6.cell? ⟨ga,2,none⟩ = some (.slice Oa 1 oa) := cL HXa 2 rfl
 have sa_3 : w6.cell? ⟨ga,3,none⟩ = some (.slice La 1 la) := cL HXa 3 rfl
 have sa_4 : w6.cell? ⟨ga,4,none⟩ = some (.slice Fa 1 fa) := cL HXa 4 rfl
 go_wp2_with fail
 clear sa_0 sa_1 sa_2 sa_3 sa_4
 refine (right_calls 4 2 Oa oa [0] La la [0] Fa fa [1] _ HTa.out (by decide)).mono ?_
 rintro e_ w7 ⟨he,hb⟩
 have he2 : e_ = .returned (.bool true) := he.trans (congrArg (fun b_ => Ending.returned (.bool b_)) (by decide))
 subst he2
 clear he
 replace HXa := mB HXa hb
 replace HTa := Aside0.mk (TC_below HTa.out hb)
 replace HB := mS HB hb
 clear hb
 have sa_0 : w7.cell? ⟨ga,0,none⟩ = some (.int .i64 4) := cL HXa 0 rfl
 have sa_1 : w7.cell? ⟨ga,1,none⟩ = some (.int .i64 2) := cL HXa 1 rfl
 have sa_2 : w7.cell? ⟨ga,2,none⟩ = some (.slice Oa 1 oa) := cL HXa 2 rfl
 have sa_3 : w7.cell? ⟨ga,3,none⟩ = some (.slice La 1 la) := cL HXa 3 rfl
 have sa_4 : w7.cell? ⟨ga,4,none⟩ = some (.slice Fa 1 fa) := cL HXa 4 rfl
 go_wp2_with fail
 clear sa_0 sa_1 sa_2 sa_3 sa_4
 refine (count_yes 4 2 Oa oa [0] La la [0] Fa fa [1] _ HTa.out (by decide) (by decide) rfl 0 (by decide) (by decide) (by decide)).mono ?_
 rintro e_ w8 ⟨Ob,ob,Lb,lb,Fb,fb,he,hr,hb⟩
 have he2 : e_ = .returned (.tuple #[.agg #[.int .i64 4,.int .i64 2,.slice Ob 1 ob,.slice Lb 1 lb,.slice Fb 1 fb],.int .i64 0]) := he
 subst he2
 have HTb : Aside0 (TC w8 Ob ob [0] Lb lb [1] Fb fb [1]) := ⟨TR_TC hr⟩
 clear he hr
 replace HXa := mB HXa hb
 replace HTa := Aside0.mk (TC_below HTa.out hb)
 replace HB := mS HB hb
 clear hb
 go_upto_region 6 with ((with_reducible refine gate_dst (N := 5) rfl ?_); refine box_event ?hg (N := 5) ?hd (cs := #[.int .i64 0,.int .i64 0,.slice none 0 0,.slice none 0 0,.slice none 0 0]) (t := 28) ?hr ?_; (case hd => rfl); (case hg => rfl); (case hr => first | (go_simp; done) | (go_simp; rfl)); intro gb hgo w9 hbox hbb; have HBO := Aside0.mk hbox; have HBB := Aside0.mk hbb; have HGO := Aside0.mk hgo; have y0 : w9.cell? ⟨gb,0,none⟩ = some (.int .i64 0) := (blk_cell hbox 0).trans rfl; have y1 : w9.cell? ⟨gb,1,none⟩ = some (.int .i64 0) := (blk_cell hbox 1).trans rfl; have y2 : w9.cell? ⟨gb,2,none⟩ = some (.slice none 0 0) := (blk_cell hbox 2).trans rfl; have y3 : w9.cell? ⟨gb,3,none⟩ = some (.slice none 0 0) := (blk_cell hbox 3).trans rfl; have y4 : w9.cell? ⟨gb,4,none⟩ = some (.slice none 0 0) := (blk_cell hbox 4).trans rfl; have yf0 := blk_frozen hbox 0; have yf1 := blk_frozen hbox 1; have yf2 := blk_frozen hbox 2; have yf3 := blk_frozen hbox 3; have yf4 := blk_frozen hbox 4; clear hbox hbb hgo)
 clear y0 y1 y2 y3 y4 yf0 yf1 yf2 yf3 yf4
 obtain ⟨w10,hW⟩ : ∃ W_,W_ = (((((w9.setCell ⟨gb,0,none⟩ (.int .i64 4)).setCell ⟨gb,1,none⟩ (.int .i64 2)).setCell ⟨gb,2,none⟩ (.slice Ob 1 ob)).setCell ⟨gb,3,none⟩ (.slice Lb 1 lb)).setCell ⟨gb,4,none⟩ (.slice Fb 1 fb)) := ⟨_,rfl⟩
 rw [← hW]
 have h_ : Below w8.heap.size w8 w10 := below5 hW HBB.out (Nat.le_of_eq HGO.out.symm)
 have b_ := set5 hW HBO.out
 clear hW HBO HBB HGO
 replace HXa := mB HXa h_
 replace HTa := Aside0.mk (TC_below HTa.out h_)
 replace HB := mS HB h_
 have HXb := Aside0.mk b_
 replace HTb := Aside0.mk (TC_below HTb.out h_)
 clear b_ h_
 have sb_0 : w10.cell? ⟨gb,0,none⟩ = some (.int .i64 4) := cL HXb 0 rfl
 have sb_1 : w10.cell? ⟨gb,1,none⟩ = some (.int .i64 2) := cL HXb 1 rfl
 have sb_2 : w10.cell? ⟨gb,2,none⟩ = some (.slice Ob 1 ob) := cL HXb 2 rfl
 have sb_3 : w10.cell? ⟨gb,3,none⟩ = some (.slice Lb 1 lb) := cL HXb 3 rfl
 have sb_4 : w10.cell? ⟨gb,4,none⟩ = some (.slice Fb 1 fb) := cL HXb 4 rfl
 go_wp2_with fail
 clear sb_0 sb_1 sb_2 sb_3 sb_4
 refine (roll_yes 4 2 Ob ob [0] Lb lb [1] Fb fb [1] 3 _ HTb.out (by decide) (by decide) 1 [2,3] (by decide)).mono ?_
 rintro e_ w11 ⟨Oc,oc,Lc,lc,Fc,fc,he,hr,hb⟩
 have he2 : e_ = .returned (.tuple #[.agg #[.int .i64 4,.int .i64 2,.slice Oc 2 oc,.slice Lc 2 lc,.slice Fc 2 fc],.int .i64 0]) := he
 subst he2
 have HTc : Aside0 (TC w11 Oc oc [0,1] Lc lc [1,0] Fc fc [1,3]) := ⟨TR_TC hr⟩
 clear he hr
 replace HXa := mB HXa hb
 replace HTa := Aside0.mk (TC_below HTa.out hb)
 replace HXb := mB HXb hb
 replace HTb := Aside0.mk (TC_below HTb.out hb)
 replace HB := mS HB hb
 clear hb
 go_upto_region 7 with ((with_reducible refine gate_dst (N := 7) rfl ?_); refine box_event ?hg (N := 7) ?hd (cs := #[.int .i64 0,.int .i64 0,.slice none 0 0,.slice none 0 0,.slice none 0 0]) (t := 28) ?hr ?_; (case hd => rfl); (case hg => rfl); (case hr => first | (go_simp; done) | (go_simp; rfl)); intro gc hgo w12 hbox hbb; have HBO := Aside0.mk hbox; have HBB := Aside0.mk hbb; have HGO := Aside0.mk hgo; have y0 : w12.cell? ⟨gc,0,none⟩ = some (.int .i64 0) := (blk_cell hbox 0).trans rfl; have y1 : w12.cell? ⟨gc,1,none⟩ = some (.int .i64 0) := (blk_cell hbox 1).trans rfl; have y2 : w12.cell? ⟨gc,2,none⟩ = some (.slice none 0 0) := (blk_cell hbox 2).trans rfl; have y3 : w12.cell? ⟨gc,3,none⟩ = some (.slice none 0 0) := (blk_cell hbox 3).trans rfl; have y4 : w12.cell? ⟨gc,4,none⟩ = some (.slice none 0 0) := (blk_cell hbox 4).trans rfl; have yf0 := blk_frozen hbox 0; have yf1 := blk_frozen hbox 1; have yf2 := blk_frozen hbox 2; have yf3 := blk_frozen hbox 3; have yf4 := blk_frozen hbox 4; clear hbox hbb hgo)
 clear y0 y1 y2 y3 y4 yf0 yf1 yf2 yf3 yf4
 obtain ⟨w13,hW⟩ : ∃ W_,W_ = (((((w12.setCell ⟨gc,0,none⟩ (.int .i64 4)).setCell ⟨gc,1,none⟩ (.int .i64 2)).setCell ⟨gc,2,none⟩ (.slice Oc 2 oc)).setCell ⟨gc,3,none⟩ (.slice Lc 2 lc)).setCell ⟨gc,4,none⟩ (.slice Fc 2 fc)) := ⟨_,rfl⟩
 rw [← hW]
 have h_ : Below w11.heap.size w11 w13 := below5 hW HBB.out (Nat.le_of_eq HGO.out.symm)
 have b_ := set5 hW HBO.out
 clear hW HBO HBB HGO
 replace HXa := mB HXa h_
 replace HTa := Aside0.mk (TC_below HTa.out h_)
 replace HXb := mB HXb h_
 replace HTb := Aside0.mk (TC_below HTb.out h_)
 replace HB := mS HB h_
 have HXc := Aside0.mk b_
 replace HTc := Aside0.mk (TC_below HTc.out h_)
 clear b_ h_
 have sb_0 : w13.cell? ⟨gb,0,none⟩ = some (.int .i64 4) := cL HXb 0 rfl
 have sb_1 : w13.cell? ⟨gb,1,none⟩ = some (.int .i64 2) := cL HXb 1 rfl
 have sb_2 : w13.cell? ⟨gb,2,none⟩ = some (.slice Ob 1 ob) := cL HXb 2 rfl
 have sb_3 : w13.cell? ⟨gb,3,none⟩ = some (.slice Lb 1 lb) := cL HXb 3 rfl
 have sb_4 : w13.cell? ⟨gb,4,none⟩ = some (.slice Fb 1 fb) := cL HXb 4 rfl
 go_wp2_with fail
 clear sb_0 sb_1 sb_2 sb_3 sb_4
 refine (right_calls 4 2 Ob ob [0] Lb lb [1] Fb fb [1] _ HTb.out (by decide)).mono ?_
 rintro e_ w14 ⟨he,hb⟩
 have he2 : e_ = .returned (.bool true) := he.trans (congrArg (fun b_ => Ending.returned (.bool b_)) (by decide))
 subst he2
 clear he
 replace HXa := mB HXa hb
 replace HTa := Aside0.mk (TC_below HTa.out hb)
 replace HXb := mB HXb hb
 replace HTb := Aside0.mk (TC_below HTb.out hb)
 replace HXc := mB HXc hb
 replace HTc := Aside0.mk (TC_below HTc.out hb)
 replace HB := mS HB hb
 clear hb
 have sc_0 : w14.cell? ⟨gc,0,none⟩ = some (.int .i64 4) := cL HXc 0 rfl
 have sc_1 : w14.cell? ⟨gc,1,none⟩ = some (.int .i64 2) := cL HXc 1 rfl
 have sc_2 : w14.cell? ⟨gc,2,none⟩ = some (.slice Oc 2 oc) := cL HXc 2 rfl
 have sc_3 : w14.cell? ⟨gc,3,none⟩ = some (.slice Lc 2 lc) := cL HXc 3 rfl
 have sc_4 : w14.cell? ⟨gc,4,none⟩ = some (.slice Fc 2 fc) := cL HXc 4 rfl
 go_wp2_with fail
 clear sc_0 sc_1 sc_2 sc_3 sc_4
 refine (right_calls 4 2 Oc oc [0,1] Lc lc [1,0] Fc fc [1,3] _ HTc.out (by decide)).mono ?_
 rintro e_ w15 ⟨he,hb⟩
 have he2 : e_ = .returned (.bool true) := he.trans (congrArg (fun b_ => Ending.returned (.bool b_)) (by decide))
 subst he2
 clear he
 replace HXa := mB HXa hb
 replace HTa := Aside0.mk (TC_below HTa.out hb)
 replace HXb := mB HXb hb
 replace HTb := Aside0.mk (TC_below HTb.out hb)
 replace HXc := mB HXc hb
 replace HTc := Aside0.mk (TC_below HTc.out hb)
 replace HB := mS HB hb
 clear hb
 have sc_0 : w15.cell? ⟨gc,0,none⟩ = some (.int .i64 4) := cL HXc 0 rfl
 have sc_1 : w15.cell? ⟨gc,1,none⟩ = some (.int .i64 2) := cL HXc 1 rfl
 have sc_2 : w15.cell? ⟨gc,2,none⟩ = some (.slice Oc 2 oc) := cL HXc 2 rfl
 have sc_3 : w15.cell? ⟨gc,3,none⟩ = some (.slice Lc 2 lc) := cL HXc 3 rfl
 have sc_4 : w15.cell? ⟨gc,4,none⟩ = some (.slice Fc 2 fc) := cL HXc 4 rfl
 go_wp2_with fail
 clear sc_0 sc_1 sc_2 sc_3 sc_4
 refine (drop_yes 4 2 Oc oc [0,1] Lc lc [1,0] Fc fc [1,3] 0 _ HTc.out (by decide) (by decide) rfl rfl (by decide)).mono ?_
 rintro e_ w16 ⟨Od,od,Ld,ld,Fd,fd,he,hr,hb⟩
 have he2 : e_ = .returned (.tuple #[.agg #[.int .i64 4,.int .i64 2,.slice Od 1 od,.slice Ld 1 ld,.slice Fd 1 fd],.int .i64 0]) := he
 subst he2
 have HTd : Aside0 (TC w16 Od od [1] Ld ld [0] Fd fd [3]) := ⟨TR_TC hr⟩
 clear he hr
 replace HXa := mB HXa hb
 replace HTa := Aside0.mk (TC_below HTa.out hb)
 replace HXb := mB HXb hb
 replace HTb := Aside0.mk (TC_below HTb.out hb)
 replace HXc := mB HXc hb
 replace HTc := Aside0.mk (TC_below HTc.out hb)
 replace HB := mS HB hb
 clear hb
 go_upto_region 10 with ((with_reducible refine gate_dst (N := 9) rfl ?_); refine box_event ?hg (N := 9) ?hd (cs := #[.int .i64 0,.int .i64 0,.slice none 0 0,.slice none 0 0,.slice none 0 0]) (t := 28) ?hr ?_; (case hd => rfl); (case hg => rfl); (case hr => first | (go_simp; done) | (go_simp; rfl)); intro gd hgo w17 hbox hbb; have HBO := Aside0.mk hbox; have HBB := Aside0.mk hbb; have HGO := Aside0.mk hgo; have y0 : w17.cell? ⟨gd,0,none⟩ = some (.int .i64 0) := (blk_cell hbox 0).trans rfl; have y1 : w17.cell? ⟨gd,1,none⟩ = some (.int .i64 0) := (blk_cell hbox 1).trans rfl; have y2 : w17.cell? ⟨gd,2,none⟩ = some (.slice none 0 0) := (blk_cell hbox 2).trans rfl; have y3 : w17.cell? ⟨gd,3,none⟩ = some (.slice none 0 0) := (blk_cell hbox 3).trans rfl; have y4 : w17.cell? ⟨gd,4,none⟩ = some (.slice none 0 0) := (blk_cell hbox 4).trans rfl; have yf0 := blk_frozen hbox 0; have yf1 := blk_frozen hbox 1; have yf2 := blk_frozen hbox 2; have yf3 := blk_frozen hbox 3; have yf4 := blk_frozen hbox 4; clear hbox hbb hgo)
 clear y0 y1 y2 y3 y4 yf0 yf1 yf2 yf3 yf4
 obtain ⟨w18,hW⟩ : ∃ W_,W_ = (((((w17.setCell ⟨gd,0,none⟩ (.int .i64 4)).setCell ⟨gd,1,none⟩ (.int .i64 2)).setCell ⟨gd,2,none⟩ (.slice Od 1 od)).setCell ⟨gd,3,none⟩ (.slice Ld 1 ld)).setCell ⟨gd,4,none⟩ (.slice Fd 1 fd)) := ⟨_,rfl⟩
 rw [← hW]
 have h_ : Below w16.heap.size w16 w18 := below5 hW HBB.out (Nat.le_of_eq HGO.out.symm)
 have b_ := set5 hW HBO.out
 clear hW HBO HBB HGO
 replace HXa := mB HXa h_
 replace HTa := Aside0.mk (TC_below HTa.out h_)
 replace HXb := mB HXb h_
 replace HTb := Aside0.mk (TC_below HTb.out h_)
 replace HXc := mB HXc h_
 replace HTc := Aside0.mk (TC_below HTc.out h_)
 replace HB := mS HB h_
 have HXd := Aside0.mk b_
 replace HTd := Aside0.mk (TC_below HTd.out h_)
 clear b_ h_
 have sc_0 : w18.cell? ⟨gc,0,none⟩ = some (.int .i64 4) := cL HXc 0 rfl
 have sc_1 : w18.cell? ⟨gc,1,none⟩ = some (.int .i64 2) := cL HXc 1 rfl
 have sc_2 : w18.cell? ⟨gc,2,none⟩ = some (.slice Oc 2 oc) := cL HXc 2 rfl
 have sc_3 : w18.cell? ⟨gc,3,none⟩ = some (.slice Lc 2 lc) := cL HXc 3 rfl
 have sc_4 : w18.cell? ⟨gc,4,none⟩ = some (.slice Fc 2 fc) := cL HXc 4 rfl
 go_wp2_with fail
 clear sc_0 sc_1 sc_2 sc_3 sc_4
 refine (drop_last 4 2 Oc oc [0,1] Lc lc [1,0] Fc fc [1,3] 1 _ HTc.out (by decide) (by decide) rfl rfl (by decide)).mono ?_
 rintro e_ w19 ⟨rfl,hb⟩
 replace HXa := mB HXa hb
 replace HTa := Aside0.mk (TC_below HTa.out hb)
 replace HXb := mB HXb hb
 replace HTb := Aside0.mk (TC_below HTb.out hb)
 replace HXc := mB HXc hb
 replace HTc := Aside0.mk (TC_below HTc.out hb)
 replace HXd := mB HXd hb
 replace HTd := Aside0.mk (TC_below HTd.out hb)
 replace HB := mS HB hb
 clear hb
 go_upto_region 11 with ((with_reducible refine gate_dst (N := 11) rfl ?_); refine box_event ?hg (N := 11) ?hd (cs := #[.int .i64 0,.int .i64 0,.slice none 0 0,.slice none 0 0,.slice none 0 0]) (t := 28) ?hr ?_; (case hd => rfl); (case hg => rfl); (case hr => first | (go_simp; done) | (go_simp; rfl)); intro gz19 hgo w20 hbox hbb; have HBO := Aside0.mk hbox; have HBB := Aside0.mk hbb; have HGO := Aside0.mk hgo; have y0 : w20.cell? ⟨gz19,0,none⟩ = some (.int .i64 0) := (blk_cell hbox 0).trans rfl; have y1 : w20.cell? ⟨gz19,1,none⟩ = some (.int .i64 0) := (blk_cell hbox 1).trans rfl; have y2 : w20.cell? ⟨gz19,2,none⟩ = some (.slice none 0 0) := (blk_cell hbox 2).trans rfl; have y3 : w20.cell? ⟨gz19,3,none⟩ = some (.slice none 0 0) := (blk_cell hbox 3).trans rfl; have y4 : w20.cell? ⟨gz19,4,none⟩ = some (.slice none 0 0) := (blk_cell hbox 4).trans rfl; have yf0 := blk_frozen hbox 0; have yf1 := blk_frozen hbox 1; have yf2 := blk_frozen hbox 2; have yf3 := blk_frozen hbox 3; have yf4 := blk_frozen hbox 4; clear hbox hbb hgo)
 clear y0 y1 y2 y3 y4 yf0 yf1 yf2 yf3 yf4
 obtain ⟨w21,hW⟩ : ∃ W_,W_ = (((((w20.setCell ⟨gz19,0,none⟩ (.int .i64 0)).setCell ⟨gz19,1,none⟩ (.int .i64 0)).setCell ⟨gz19,2,none⟩ (.slice none 0 0)).setCell ⟨gz19,3,none⟩ (.slice none 0 0)).setCell ⟨gz19,4,none⟩ (.slice none 0 0)) := ⟨_,rfl⟩
 rw [← hW]
 have h_ : Below w19.heap.size w19 w21 := below5 hW HBB.out (Nat.le_of_eq HGO.out.symm)
 have b_ := set5 hW HBO.out
 clear hW HBO HBB HGO
 replace HXa := mB HXa h_
 replace HTa := Aside0.mk (TC_below HTa.out h_)
 replace HXb := mB HXb h_
 replace HTb := Aside0.mk (TC_below HTb.out h_)
 replace HXc := mB HXc h_
 replace HTc := Aside0.mk (TC_below HTc.out h_)
 replace HXd := mB HXd h_
 replace HTd := Aside0.mk (TC_below HTd.out h_)
 replace HB := mS HB h_
 clear b_ h_
 have sc_0 : w21.cell? ⟨gc,0,none⟩ = some (.int .i64 4) := cL HXc 0 rfl
 have sc_1 : w21.cell? ⟨gc,1,none⟩ = some (.int .i64 2) := cL HXc 1 rfl
 have sc_2 : w21.cell? ⟨gc,2,none⟩ = some (.slice Oc 2 oc) := cL HXc 2 rfl
 have sc_3 : w21.cell? ⟨gc,3,none⟩ = some (.slice Lc 2 lc) := cL HXc 3 rfl
 have sc_4 : w21.cell? ⟨gc,4,none⟩ = some (.slice Fc 2 fc) := cL HXc 4 rfl
 go_wp2_with fail
 clear sc_0 sc_1 sc_2 sc_3 sc_4
 refine (drop_neg 4 2 Oc oc [0,1] Lc lc [1,0] Fc fc [1,3] 2 _ HTc.out (by decide) (by decide) rfl rfl (by decide)).mono ?_
 rintro e_ w22 ⟨rfl,hb⟩
 replace HXa := mB HXa hb
 replace HTa := Aside0.mk (TC_below HTa.out hb)
 replace HXb := mB HXb hb
 replace HTb := Aside0.mk (TC_below HTb.out hb)
 replace HXc := mB HXc hb
 replace HTc := Aside0.mk (TC_below HTc.out hb)
 replace HXd := mB HXd hb
 replace HTd := Aside0.mk (TC_below HTd.out hb)
 replace HB := mS HB hb
 clear hb
 go_upto_region 12 with ((with_reducible refine gate_dst (N := 13) rfl ?_); refine box_event ?hg (N := 13) ?hd (cs := #[.int .i64 0,.int .i64 0,.slice none 0 0,.slice none 0 0,.slice none 0 0]) (t := 28) ?hr ?_; (case hd => rfl); (case hg => rfl); (case hr => first | (go_simp; done) | (go_simp; rfl)); intro gz22 hgo w23 hbox hbb; have HBO := Aside0.mk hbox; have HBB := Aside0.mk hbb; have HGO := Aside0.mk hgo; have y0 : w23.cell? ⟨gz22,0,none⟩ = some (.int .i64 0) := (blk_cell hbox 0).trans rfl; have y1 : w23.cell? ⟨gz22,1,none⟩ = some (.int .i64 0) := (blk_cell hbox 1).trans rfl; have y2 : w23.cell? ⟨gz22,2,none⟩ = some (.slice none 0 0) := (blk_cell hbox 2).trans rfl; have y3 : w23.cell? ⟨gz22,3,none⟩ = some (.slice none 0 0) := (blk_cell hbox 3).trans rfl; have y4 : w23.cell? ⟨gz22,4,none⟩ = some (.slice none 0 0) := (blk_cell hbox 4).trans rfl; have yf0 := blk_frozen hbox 0; have yf1 := blk_frozen hbox 1; have yf2 := blk_frozen hbox 2; have yf3 := blk_frozen hbox 3; have yf4 := blk_frozen hbox 4; clear hbox hbb hgo)
 clear y0 y1 y2 y3 y4 yf0 yf1 yf2 yf3 yf4
 obtain ⟨w24,hW⟩ : ∃ W_,W_ = (((((w23.setCell ⟨gz22,0,none⟩ (.int .i64 0)).setCell ⟨gz22,1,none⟩ (.int .i64 0)).setCell ⟨gz22,2,none⟩ (.slice none 0 0)).setCell ⟨gz22,3,none⟩ (.slice none 0 0)).setCell ⟨gz22,4,none⟩ (.slice none 0 0)) := ⟨_,rfl⟩
 rw [← hW]
 have h_ : Below w22.heap.size w22 w24 := below5 hW HBB.out (Nat.le_of_eq HGO.out.symm)
 have b_ := set5 hW HBO.out
 clear hW HBO HBB HGO
 replace HXa := mB HXa h_
 replace HTa := Aside0.mk (TC_below HTa.out h_)
 replace HXb := mB HXb h_
 replace HTb := Aside0.mk (TC_below HTb.out h_)
 replace HXc := mB HXc h_
 replace HTc := Aside0.mk (TC_below HTc.out h_)
 replace HXd := mB HXd h_
 replace HTd := Aside0.mk (TC_below HTd.out h_)
 replace HB := mS HB h_
 clear b_ h_
 have sd_0 : w24.cell? ⟨gd,0,none⟩ = some (.int .i64 4) := cL HXd 0 rfl
 have sd_1 : w24.cell? ⟨gd,1,none⟩ = some (.int .i64 2) := cL HXd 1 rfl
 have sd_2 : w24.cell? ⟨gd,2,none⟩ = some (.slice Od 1 od) := cL HXd 2 rfl
 have sd_3 : w24.cell? ⟨gd,3,none⟩ = some (.slice Ld 1 ld) := cL HXd 3 rfl
 have sd_4 : w24.cell? ⟨gd,4,none⟩ = some (.slice Fd 1 fd) := cL HXd 4 rfl
 go_wp2_with fail
 clear sd_0 sd_1 sd_2 sd_3 sd_4
 refine (right_calls 4 2 Od od [1] Ld ld [0] Fd fd [3] _ HTd.out (by decide)).mono ?_
 rintro e_ w25 ⟨he,hb⟩
 have he2 : e_ = .returned (.bool true) := he.trans (congrArg (fun b_ => Ending.returned (.bool b_)) (by decide))
 subst he2
 clear he
 replace HXa := mB HXa hb
 replace HTa := Aside0.mk (TC_below HTa.out hb)
 replace HXb := mB HXb hb
 replace HTb := Aside0.mk (TC_below HTb.out hb)
 replace HXc := mB HXc hb
 replace HTc := Aside0.mk (TC_below HTc.out hb)
 replace HXd := mB HXd hb
 replace HTd := Aside0.mk (TC_below HTd.out hb)
 replace HB := mS HB hb
 clear hb
 have sd_0 : w25.cell? ⟨gd,0,none⟩ = some (.int .i64 4) := cL HXd 0 rfl
 have sd_1 : w25.cell? ⟨gd,1,none⟩ = some (.int .i64 2) := cL HXd 1 rfl
 have sd_2 : w25.cell? ⟨gd,2,none⟩ = some (.slice Od 1 od) := cL HXd 2 rfl
 have sd_3 : w25.cell? ⟨gd,3,none⟩ = some (.slice Ld 1 ld) := cL HXd 3 rfl
 have sd_4 : w25.cell? ⟨gd,4,none⟩ = some (.slice Fd 1 fd) := cL HXd 4 rfl
 go_wp2_with fail
 clear sd_0 sd_1 sd_2 sd_3 sd_4
 refine (roll_yes 4 2 Od od [1] Ld ld [0] Fd fd [3] 9 _ HTd.out (by decide) (by decide) 0 [2,3] (by decide)).mono ?_
 rintro e_ w26 ⟨Ol,ol,Ll,ll,Fl,fl,he,hr,hb⟩
 have he2 : e_ = .returned (.tuple #[.agg #[.int .i64 4,.int .i64 2,.slice Ol 2 ol,.slice Ll 2 ll,.slice Fl 2 fl],.int .i64 0]) := he
 subst he2
 have HTl : Aside0 (TC w26 Ol ol [1,0] Ll ll [0,0] Fl fl [3,9]) := ⟨TR_TC hr⟩
 clear he hr
 replace HXa := mB HXa hb
 replace HTa := Aside0.mk (TC_below HTa.out hb)
 replace HXb := mB HXb hb
 replace HTb := Aside0.mk (TC_below HTb.out hb)
 replace HXc := mB HXc hb
 replace HTc := Aside0.mk (TC_below HTc.out hb)
 replace HXd := mB HXd hb
 replace HTd := Aside0.mk (TC_below HTd.out hb)
 replace HB := mS HB hb
 clear hb
 go_upto_region 15 with ((with_reducible refine gate_dst (N := 15) rfl ?_); refine box_event ?hg (N := 15) ?hd (cs := #[.int .i64 0,.int .i64 0,.slice none 0 0,.slice none 0 0,.slice none 0 0]) (t := 28) ?hr ?_; (case hd => rfl); (case hg => rfl); (case hr => first | (go_simp; done) | (go_simp; rfl)); intro gl hgo w27 hbox hbb; have HBO := Aside0.mk hbox; have HBB := Aside0.mk hbb; have HGO := Aside0.mk hgo; have y0 : w27.cell? ⟨gl,0,none⟩ = some (.int .i64 0) := (blk_cell hbox 0).trans rfl; have y1 : w27.cell? ⟨gl,1,none⟩ = some (.int .i64 0) := (blk_cell hbox 1).trans rfl; have y2 : w27.cell? ⟨gl,2,none⟩ = some (.slice none 0 0) := (blk_cell hbox 2).trans rfl; have y3 : w27.cell? ⟨gl,3,none⟩ = some (.slice none 0 0) := (blk_cell hbox 3).trans rfl; have y4 : w27.cell? ⟨gl,4,none⟩ = some (.slice none 0 0) := (blk_cell hbox 4).trans rfl; have yf0 := blk_frozen hbox 0; have yf1 := blk_frozen hbox 1; have yf2 := blk_frozen hbox 2; have yf3 := blk_frozen hbox 3; have yf4 := blk_frozen hbox 4; clear hbox hbb hgo)
 clear y0 y1 y2 y3 y4 yf0 yf1 yf2 yf3 yf4
 obtain ⟨w28,hW⟩ : ∃ W_,W_ = (((((w27.setCell ⟨gl,0,none⟩ (.int .i64 4)).setCell ⟨gl,1,none⟩ (.int .i64 2)).setCell ⟨gl,2,none⟩ (.slice Ol 2 ol)).setCell ⟨gl,3,none⟩ (.slice Ll 2 ll)).setCell ⟨gl,4,none⟩ (.slice Fl 2 fl)) := ⟨_,rfl⟩
 rw [← hW]
 have h_ : Below w26.heap.size w26 w28 := below5 hW HBB.out (Nat.le_of_eq HGO.out.symm)
 have b_ := set5 hW HBO.out
 clear hW HBO HBB HGO
 replace HXa := mB HXa h_
 replace HTa := Aside0.mk (TC_below HTa.out h_)
 replace HXb := mB HXb h_
 replace HTb := Aside0.mk (TC_below HTb.out h_)
 replace HXc := mB HXc h_
 replace HTc := Aside0.mk (TC_below HTc.out h_)
 replace HXd := mB HXd h_
 replace HTd := Aside0.mk (TC_below HTd.out h_)
 replace HB := mS HB h_
 have HXl := Aside0.mk b_
 replace HTl := Aside0.mk (TC_below HTl.out h_)
 clear b_ h_
 have sa_0 : w28.cell? ⟨ga,0,none⟩ = some (.int .i64 4) := cL HXa 0 rfl
 have sa_1 : w28.cell? ⟨ga,1,none⟩ = some (.int .i64 2) := cL HXa 1 rfl
 have sa_2 : w28.cell? ⟨ga,2,none⟩ = some (.slice Oa 1 oa) := cL HXa 2 rfl
 have sa_3 : w28.cell? ⟨ga,3,none⟩ = some (.slice La 1 la) := cL HXa 3 rfl
 have sa_4 : w28.cell? ⟨ga,4,none⟩ = some (.slice Fa 1 fa) := cL HXa 4 rfl
 go_wp2_with fail
 clear sa_0 sa_1 sa_2 sa_3 sa_4
 refine (room_calls 4 2 Oa oa [0] La la [0] Fa fa [1] _ HTa.out 8 (by kernel_rfl)).mono ?_
 rintro e_ w29 ⟨rfl,hb⟩
 replace HXa := mB HXa hb
 replace HTa := Aside0.mk (TC_below HTa.out hb)
 replace HXb := mB HXb hb
 replace HTb := Aside0.mk (TC_below HTb.out hb)
 replace HXc := mB HXc hb
 replace HTc := Aside0.mk (TC_below HTc.out hb)
 replace HXd := mB HXd hb
 replace HTd := Aside0.mk (TC_below HTd.out hb)
 replace HXl := mB HXl hb
 replace HTl := Aside0.mk (TC_below HTl.out hb)
 replace HB := mS HB hb
 clear hb
 have sb_0 : w29.cell? ⟨gb,0,none⟩ = some (.int .i64 4) := cL HXb 0 rfl
 have sb_1 : w29.cell? ⟨gb,1,none⟩ = some (.int .i64 2) := cL HXb 1 rfl
 have sb_2 : w29.cell? ⟨gb,2,none⟩ = some (.slice Ob 1 ob) := cL HXb 2 rfl
 have sb_3 : w29.cell? ⟨gb,3,none⟩ = some (.slice Lb 1 lb) := cL HXb 3 rfl
 have sb_4 : w29.cell? ⟨gb,4,none⟩ = some (.slice Fb 1 fb) := cL HXb 4 rfl
 go_wp2_with fail
 clear sb_0 sb_1 sb_2 sb_3 sb_4
 refine (room_calls 4 2 Ob ob [0] Lb lb [1] Fb fb [1] _ HTb.out 7 (by kernel_rfl)).mono ?_
 rintro e_ w30 ⟨rfl,hb⟩
 replace HXa := mB HXa hb
 replace HTa := Aside0.mk (TC_below HTa.out hb)
 replace HXb := mB HXb hb
 replace HTb := Aside0.mk (TC_below HTb.out hb)
 replace HXc := mB HXc hb
 replace HTc := Aside0.mk (TC_below HTc.out hb)
 replace HXd := mB HXd hb
 replace HTd := Aside0.mk (TC_below HTd.out hb)
 replace HXl := mB HXl hb
 replace HTl := Aside0.mk (TC_below HTl.out hb)
 replace HB := mS HB hb
 clear hb
 have sc_0 : w30.cell? ⟨gc,0,none⟩ = some (.int .i64 4) := cL HXc 0 rfl
 have sc_1 : w30.cell? ⟨gc,1,none⟩ = some (.int .i64 2) := cL HXc 1 rfl
 have sc_2 : w30.cell? ⟨gc,2,none⟩ = some (.slice Oc 2 oc) := cL HXc 2 rfl
 have sc_3 : w30.cell? ⟨gc,3,none⟩ = some (.slice Lc 2 lc) := cL HXc 3 rfl
 have sc_4 : w30.cell? ⟨gc,4,none⟩ = some (.slice Fc 2 fc) := cL HXc 4 rfl
 go_wp2_with fail
 clear sc_0 sc_1 sc_2 sc_3 sc_4
 refine (room_calls 4 2 Oc oc [0,1] Lc lc [1,0] Fc fc [1,3] _ HTc.out 6 (by kernel_rfl)).mono ?_
 rintro e_ w31 ⟨rfl,hb⟩
 replace HXa := mB HXa hb
 replace HTa := Aside0.mk (TC_below HTa.out hb)
 replace HXb := mB HXb hb
 replace HTb := Aside0.mk (TC_below HTb.out hb)
 replace HXc := mB HXc hb
 replace HTc := Aside0.mk (TC_below HTc.out hb)
 replace HXd := mB HXd hb
 replace HTd := Aside0.mk (TC_below HTd.out hb)
 replace HXl := mB HXl hb
 replace HTl := Aside0.mk (TC_below HTl.out hb)
 replace HB := mS HB hb
 clear hb
 have sd_0 : w31.cell? ⟨gd,0,none⟩ = some (.int .i64 4) := cL HXd 0 rfl
 have sd_1 : w31.cell? ⟨gd,1,none⟩ = some (.int .i64 2) := cL HXd 1 rfl
 have sd_2 : w31.cell? ⟨gd,2,none⟩ = some (.slice Od 1 od) := cL HXd 2 rfl
 have sd_3 : w31.cell? ⟨gd,3,none⟩ = some (.slice Ld 1 ld) := cL HXd 3 rfl
 have sd_4 : w31.cell? ⟨gd,4,none⟩ = some (.slice Fd 1 fd) := cL HXd 4 rfl
 go_wp2_with fail
 clear sd_0 sd_1 sd_2 sd_3 sd_4
 refine (room_calls 4 2 Od od [1] Ld ld [0] Fd fd [3] _ HTd.out 8 (by kernel_rfl)).mono ?_
 rintro e_ w32 ⟨rfl,hb⟩
 replace HXa := mB HXa hb
 replace HTa := Aside0.mk (TC_below HTa.out hb)
 replace HXb := mB HXb hb
 replace HTb := Aside0.mk (TC_below HTb.out hb)
 replace HXc := mB HXc hb
 replace HTc := Aside0.mk (TC_below HTc.out hb)
 replace HXd := mB HXd hb
 replace HTd := Aside0.mk (TC_below HTd.out hb)
 replace HXl := mB HXl hb
 replace HTl := Aside0.mk (TC_below HTl.out hb)
 replace HB := mS HB hb
 clear hb
 have sc_0 : w32.cell? ⟨gc,0,none⟩ = some (.int .i64 4) := cL HXc 0 rfl
 have sc_1 : w32.cell? ⟨gc,1,none⟩ = some (.int .i64 2) := cL HXc 1 rfl
 have sc_2 : w32.cell? ⟨gc,2,none⟩ = some (.slice Oc 2 oc) := cL HXc 2 rfl
 have sc_3 : w32.cell? ⟨gc,3,none⟩ = some (.slice Lc 2 lc) := cL HXc 3 rfl
 have sc_4 : w32.cell? ⟨gc,4,none⟩ = some (.slice Fc 2 fc) := cL HXc 4 rfl
 go_wp2_with fail
 clear sc_0 sc_1 sc_2 sc_3 sc_4
 refine (used_calls 12 4 2 Oc oc [0,1] Lc lc [1,0] Fc fc [1,3] _ HTc.out 1 (by kernel_rfl)).mono ?_
 rintro e_ w33 ⟨rfl,hb⟩
 replace HXa := mB HXa hb
 replace HTa := Aside0.mk (TC_below HTa.out hb)
 replace HXb := mB HXb hb
 replace HTb := Aside0.mk (TC_below HTb.out hb)
 replace HXc := mB HXc hb
 replace HTc := Aside0.mk (TC_below HTc.out hb)
 replace HXd := mB HXd hb
 replace HTd := Aside0.mk (TC_below HTd.out hb)
 replace HXl := mB HXl hb
 replace HTl := Aside0.mk (TC_below HTl.out hb)
 replace HB := mS HB hb
 clear hb
 have sc_0 : w33.cell? ⟨gc,0,none⟩ = some (.int .i64 4) := cL HXc 0 rfl
 have sc_1 : w33.cell? ⟨gc,1,none⟩ = some (.int .i64 2) := cL HXc 1 rfl
 have sc_2 : w33.cell? ⟨gc,2,none⟩ = some (.slice Oc 2 oc) := cL HXc 2 rfl
 have sc_3 : w33.cell? ⟨gc,3,none⟩ = some (.slice Lc 2 lc) := cL HXc 3 rfl
 have sc_4 : w33.cell? ⟨gc,4,none⟩ = some (.slice Fc 2 fc) := cL HXc 4 rfl
 go_wp2_with fail
 clear sc_0 sc_1 sc_2 sc_3 sc_4
 refine (len_calls 12 4 2 Oc oc [0,1] Lc lc [1,0] Fc fc [1,3] 0 _ HTc.out 1 (by kernel_rfl)).mono ?_
 rintro e_ w34 ⟨rfl,hb⟩
 replace HXa := mB HXa hb
 replace HTa := Aside0.mk (TC_below HTa.out hb)
 replace HXb := mB HXb hb
 replace HTb := Aside0.mk (TC_below HTb.out hb)
 replace HXc := mB HXc hb
 replace HTc := Aside0.mk (TC_below HTc.out hb)
 replace HXd := mB HXd hb
 replace HTd := Aside0.mk (TC_below HTd.out hb)
 replace HXl := mB HXl hb
 replace HTl := Aside0.mk (TC_below HTl.out hb)
 replace HB := mS HB hb
 clear hb
 have sc_0 : w34.cell? ⟨gc,0,none⟩ = some (.int .i64 4) := cL HXc 0 rfl
 have sc_1 : w34.cell? ⟨gc,1,none⟩ = some (.int .i64 2) := cL HXc 1 rfl
 have sc_2 : w34.cell? ⟨gc,2,none⟩ = some (.slice Oc 2 oc) := cL HXc 2 rfl
 have sc_3 : w34.cell? ⟨gc,3,none⟩ = some (.slice Lc 2 lc) := cL HXc 3 rfl
 have sc_4 : w34.cell? ⟨gc,4,none⟩ = some (.slice Fc 2 fc) := cL HXc 4 rfl
 go_wp2_with fail
 clear sc_0 sc_1 sc_2 sc_3 sc_4
 refine (len_calls 12 4 2 Oc oc [0,1] Lc lc [1,0] Fc fc [1,3] 3 _ HTc.out 0 (by kernel_rfl)).mono ?_
 rintro e_ w35 ⟨rfl,hb⟩
 replace HXa := mB HXa hb
 replace HTa := Aside0.mk (TC_below HTa.out hb)
 replace HXb := mB HXb hb
 replace HTb := Aside0.mk (TC_below HTb.out hb)
 replace HXc := mB HXc hb
 replace HTc := Aside0.mk (TC_below HTc.out hb)
 replace HXd := mB HXd hb
 replace HTd := Aside0.mk (TC_below HTd.out hb)
 replace HXl := mB HXl hb
 replace HTl := Aside0.mk (TC_below HTl.out hb)
 replace HB := mS HB hb
 clear hb
 have sc_0 : w35.cell? ⟨gc,0,none⟩ = some (.int .i64 4) := cL HXc 0 rfl
 have sc_1 : w35.cell? ⟨gc,1,none⟩ = some (.int .i64 2) := cL HXc 1 rfl
 have sc_2 : w35.cell? ⟨gc,2,none⟩ = some (.slice Oc 2 oc) := cL HXc 2 rfl
 have sc_3 : w35.cell? ⟨gc,3,none⟩ = some (.slice Lc 2 lc) := cL HXc 3 rfl
 have sc_4 : w35.cell? ⟨gc,4,none⟩ = some (.slice Fc 2 fc) := cL HXc 4 rfl
 go_wp2_with fail
 clear sc_0 sc_1 sc_2 sc_3 sc_4
 refine (Free_calls 4 2 Oc oc [0,1] _ _ _ HTc.out.1.1 HTc.out.1.2 (by decide) (by decide) (by decide)).mono ?_
 rintro e_ w36 ⟨v,rfl,hv,hb⟩
 obtain ⟨Av,cv,hv0,hcv,hCv⟩ := Kd.R_reads hv
 have hv1 : v = .slice Av 2 cv := hv0
 subst hv1
 have HCV : Aside0 (Kd.C (Kd.int .i64) w36 Av 2 [2,3]) := ⟨hCv⟩
 have HcV : Aside0 (2 ≤ cv) := ⟨hcv⟩
 clear hv0 hv hcv hCv
 replace HXa := mB HXa hb
 replace HTa := Aside0.mk (TC_below HTa.out hb)
 replace HXb := mB HXb hb
 replace HTb := Aside0.mk (TC_below HTb.out hb)
 replace HXc := mB HXc hb
 replace HTc := Aside0.mk (TC_below HTc.out hb)
 replace HXd := mB HXd hb
 replace HTd := Aside0.mk (TC_below HTd.out hb)
 replace HXl := mB HXl hb
 replace HTl := Aside0.mk (TC_below HTl.out hb)
 replace HB := mS HB hb
 clear hb
 go_wp2_with fail
 obtain ⟨w37,hW⟩ : ∃ W_,W_ = w36.alloc (.cells #[.int .i64 2,.int .i64 3] 3) := ⟨_,rfl⟩
 have hb : Below w36.heap.size w36 w37 := by rw [hW]; exact below_alloc (Below.refl _ _) _
 have hC2 : Kd.C (Kd.int .i64) w37 (some ⟨w36.heap.size,0,none⟩) 2 [2,3] := by rw [hW]; exact Clit (blk_new _ _) (by decide) rfl
 rw [← hW]
 have HCV2 := Aside0.mk (Kd.C_below HCV.out hb)
 replace HXa := mB HXa hb
 replace HTa := Aside0.mk (TC_below HTa.out hb)
 replace HXb := mB HXb hb
 replace HTb := Aside0.mk (TC_below HTb.out hb)
 replace HXc := mB HXc hb
 replace HTc := Aside0.mk (TC_below HTc.out hb)
 replace HXd := mB HXd hb
 replace HTd := Aside0.mk (TC_below HTd.out hb)
 replace HXl := mB HXl hb
 replace HTl := Aside0.mk (TC_below HTl.out hb)
 replace HB := mS HB hb
 refine (lodgerref07_Ints.calls 12 Av cv [2,3] _ 2 [2,3] true _ HCV2.out HcV.out hC2 (by decide) (by kernel_rfl)).mono ?_
 rintro e_ w38 ⟨rfl,hb2⟩
 replace hb2 := Drawn0.below hb2
 clear HCV HCV2 HcV hC2 hb hW
 replace HXa := mB HXa hb2
 replace HTa := Aside0.mk (TC_below HTa.out hb2)
 replace HXb := mB HXb hb2
 replace HTb := Aside0.mk (TC_below HTb.out hb2)
 replace HXc := mB HXc hb2
 replace HTc := Aside0.mk (TC_below HTc.out hb2)
 replace HXd := mB HXd hb2
 replace HTd := Aside0.mk (TC_below HTd.out hb2)
 replace HXl := mB HXl hb2
 replace HTl := Aside0.mk (TC_below HTl.out hb2)
 replace HB := mS HB hb2
 clear hb2
 have sl_0 : w38.cell? ⟨gl,0,none⟩ = some (.int .i64 4) := cL HXl 0 rfl
 have sl_1 : w38.cell? ⟨gl,1,none⟩ = some (.int .i64 2) := cL HXl 1 rfl
 have sl_2 : w38.cell? ⟨gl,2,none⟩ = some (.slice Ol 2 ol) := cL HXl 2 rfl
 have sl_3 : w38.cell? ⟨gl,3,none⟩ = some (.slice Ll 2 ll) := cL HXl 3 rfl
 have sl_4 : w38.cell? ⟨gl,4,none⟩ = some (.slice Fl 2 fl) := cL HXl 4 rfl
 go_wp2_with fail
 clear sl_0 sl_1 sl_2 sl_3 sl_4
 refine (ref_calls 4 2 Ol ol [1,0] Ll ll [0,0] Fl fl [3,9] _).mono ?_
 rintro e_ w39 ⟨rfl,hb⟩
 replace HXa := mB HXa hb
 replace HTa := Aside0.mk (TC_below HTa.out hb)
 replace HXb := mB HXb hb
 replace HTb := Aside0.mk (TC_below HTb.out hb)
 replace HXc := mB HXc hb
 replace HTc := Aside0.mk (TC_below HTc.out hb)
 replace HXd := mB HXd hb
 replace HTd := Aside0.mk (TC_below HTd.out hb)
 replace HXl := mB HXl hb
 replace HTl := Aside0.mk (TC_below HTl.out hb)
 replace HB := mS HB hb
 clear hb
 go_wp2_with fail
 obtain ⟨wx1,hW1⟩ : ∃ W_,W_ = w39.alloc (.cells #[.int .i64 1,.int .i64 0] 3) := ⟨_,rfl⟩
 rw [← hW1]
 obtain ⟨wx2,hW2⟩ : ∃ W_,W_ = wx1.alloc (.cells #[.int .i64 0,.int .i64 0] 3) := ⟨_,rfl⟩
 rw [← hW2]
 obtain ⟨w40,hW3⟩ : ∃ W_,W_ = wx2.alloc (.cells #[.int .u64 3,.int .u64 9] 23) := ⟨_,rfl⟩
 rw [← hW3]
 have b1 : Below w39.heap.size w39 wx1 := by rw [hW1]; exact below_alloc (Below.refl _ _) _
 have b2 : Below wx1.heap.size wx1 wx2 := by rw [hW2]; exact below_alloc (Below.refl _ _) _
 have b3 : Below wx2.heap.size wx2 w40 := by rw [hW3]; exact below_alloc (Below.refl _ _) _
 have hS : TC w40 (some ⟨w39.heap.size,0,none⟩) 2 [1,0] (some ⟨wx1.heap.size,0,none⟩) 2 [0,0] (some ⟨wx2.heap.size,0,none⟩) 2 [3,9] := ⟨⟨Kd.C_below (Kd.C_below (by rw [hW1]; exact Clit (xs := [1,0]) (blk_new _ _) (by decide) rfl) b2) b3,by decide⟩,⟨Kd.C_below (by rw [hW2]; exact Clit (xs := [0,0]) (blk_new _ _) (by decide) rfl) b3,by decide⟩,by rw [hW3]; exact Clit (xs := [3,9]) (blk_new _ _) (by decide) rfl,by decide⟩
 have z1 : wx1.heap.size = w39.heap.size + 1 := by rw [hW1]; exact World.size_alloc ..
 have z2 : wx2.heap.size = w39.heap.size + 1 + 1 := by rw [hW2,← z1]; exact World.size_alloc ..
 rw [z1,z2] at hS
 have hb := below_step (below_step b1 b2) b3
 clear b1 b2 b3 z1 z2
 replace HXa := mB HXa hb
 replace HTa := Aside0.mk (TC_below HTa.out hb)
 replace HXb := mB HXb hb
 replace HTb := Aside0.mk (TC_below HTb.out hb)
 replace HXc := mB HXc hb
 replace HTc := Aside0.mk (TC_below HTc.out hb)
 replace HXd := mB HXd hb
 replace HTd := Aside0.mk (TC_below HTd.out hb)
 replace HXl := mB HXl hb
 replace HTl := Aside0.mk (TC_below HTl.out hb)
 replace HB := mS HB hb
 refine (same_calls 4 2 Ol ol [1,0] Ll ll [0,0] Fl fl [3,9] _ 2 _ 2 _ 2 _ HTl.out hS (by decide)).mono ?_
 rintro e_ w41 ⟨rfl,hb2⟩
 clear hS hb hW1 hW2 hW3
 replace HXa := mB HXa hb2
 replace HTa := Aside0.mk (TC_below HTa.out hb2)
 replace HXb := mB HXb hb2
 replace HTb := Aside0.mk (TC_below HTb.out hb2)
 replace HXc := mB HXc hb2
 replace HTc := Aside0.mk (TC_below HTc.out hb2)
 replace HXd := mB HXd hb2
 replace HTd := Aside0.mk (TC_below HTd.out hb2)
 replace HXl := mB HXl hb2
 replace HTl := Aside0.mk (TC_below HTl.out hb2)
 replace HB := mS HB hb2
 clear hb2
 go_wp2_with fail
 refine (table_Sector.calls 2 1 2 7 _ (by kernel_rfl)).mono ?_
 rintro e_ w42 ⟨rfl,hb⟩
 replace HXa := mB HXa hb
 replace HTa := Aside0.mk (TC_below HTa.out hb)
 replace HXb := mB HXb hb
 replace HTb := Aside0.mk (TC_below HTb.out hb)
 replace HXc := mB HXc hb
 replace HTc := Aside0.mk (TC_below HTc.out hb)
 replace HXd := mB HXd hb
 replace HTd := Aside0.mk (TC_below HTd.out hb)
 replace HXl := mB HXl hb
 replace HTl := Aside0.mk (TC_below HTl.out hb)
 replace HB := mS HB hb
 clear hb
 go_wp2_with fail
 refine (table_Sector.calls 2 1 3 (-1) _ (by kernel_rfl)).mono ?_
 rintro e_ w43 ⟨rfl,hb⟩
 replace HXa := mB HXa hb
 replace HTa := Aside0.mk (TC_below HTa.out hb)
 replace HXb := mB HXb hb
 replace HTb := Aside0.mk (TC_below HTb.out hb)
 replace HXc := mB HXc hb
 replace HTc := Aside0.mk (TC_below HTc.out hb)
 replace HXd := mB HXd hb
 replace HTd := Aside0.mk (TC_below HTd.out hb)
 replace HXl := mB HXl hb
 replace HTl := Aside0.mk (TC_below HTl.out hb)
 replace HB := mS HB hb
 clear hb
 go_wp2_with fail
 refine (right_calls 0 0 none 0 [] none 0 [] none 0 [] _ (TC_nil _) (by decide)).mono ?_
 rintro e_ w44 ⟨he,hb⟩
 have he2 : e_ = .returned (.bool false) := he.trans (congrArg (fun b_ => Ending.returned (.bool b_)) (by decide))
 subst he2
 clear he
 replace HXa := mB HXa hb
 replace HTa := Aside0.mk (TC_below HTa.out hb)
 replace HXb := mB HXb hb
 replace HTb := Aside0.mk (TC_below HTb.out hb)
 replace HXc := mB HXc hb
 replace HTc := Aside0.mk (TC_below HTc.out hb)
 replace HXd := mB HXd hb
 replace HTd := Aside0.mk (TC_below HTd.out hb)
 replace HXl := mB HXl hb
 replace HTl := Aside0.mk (TC_below HTl.out hb)
 replace HB := mS HB hb
 clear hb
 go_wp2_with fail
 go_ret
 exact ⟨rfl,HB.out⟩
end Go.Proofs.Ytbefoehjlgdcgaa.H
