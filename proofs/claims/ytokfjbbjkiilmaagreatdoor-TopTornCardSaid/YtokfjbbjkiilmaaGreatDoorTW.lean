/-
TopTorn: part of its walk (To).
-/
import Derived.Test.YtokfjbbjkiilmaaGreatDoorTV
set_option linter.unusedVariables false
set_option linter.unusedSimpArgs false
namespace Go.Proofs.YtokfjbbjkiilmaaGreatDoor.H
open Go.RowKit Go.Proofs.YtokfjbbjkiilmaaGreatDoorW.PrintWords Go.Proofs.YtokfjbbjkiilmaaGreatDoorW.PrintLast Go.Proofs.YtokfjbbjkiilmaaGreatDoorW.PrintMore
set_option maxHeartbeats 8000000
set_option maxRecDepth 100000
attribute [local go_sem] max2_int min2_int min_two max_two
theorem Sto.far {W0 : World} {b : Bks} {wd : Nat} {left : Int} {pe : List Value} {es : Array MapEntry} {c : Nat} {dl : Int} {n : Nat} {ep gen : Int} {X : World → Prop} {i : Ids} {w : World} (h : Sto W0 b left pe es c dl n ep gen X i w) (hF : Far W0 b wd) : W0.heap.size ≤ i.k := by
 rw [h.ids]
 exact hF.all _ (by simp)
theorem Sto.tim {W0 : World} {b : Bks} {B : Nat} {left : Int} {pe : List Value} {es : Array MapEntry} {c : Nat} {dl : Int} {n : Nat} {ep gen : Int} {i : Ids} {w w' : World} (h : Sto W0 b left pe es c dl n ep gen (fun W => ∃ g,Tim W b.i.wh b.am g ∧ B ≤ g) i w) (k : Keep [b.i.d,b.m] w w') : ∃ g,Tim w' b.i.wh b.am g ∧ B ≤ g := by
 obtain ⟨_,⟨v,oo,ln,ff,x,z,hk,hp⟩,⟨g,ht,hg⟩,hB⟩ := h
 have hn := hk.nd
 simp at hn
 obtain ⟨⟨c1,hw1⟩,⟨c2,hw2⟩,e3,c3,hw3⟩ := ht.blk
 exact ⟨g,ht.keep k (by simp [tne hw1 hk.lg.hd (by decide),(map_ne hk.lg.hm hw1).symm]) (by simp [map_ne hw3 hk.lg.hd]; omega) (by simp [tne hw2 hk.lg.hd (by decide),(map_ne hk.lg.hm hw2).symm]),hg⟩
theorem torn_calls (s1 s2 : ByteArray) (at_ : Int) (w : World) :
 Calls Tryz.prog 4 #[.string s1,.string s2,.int .i64 at_] w fun e w' => e = .returned (.bool true) ∧ Below w.heap.size w w' := by
 go_enter Tryz.func4,Tryz.ntmps4
 go_wp2_with fail
 refine (tconf_calls _).mono ?_
 rintro e_ W1 ⟨rfl,hb⟩
 go_wp2_with fail
 refine (start_calls w _ hb).mono ?_
 rintro e_ W2 ⟨b,wd,rfl,hF,hA,hS⟩
 have HF := Aside0.mk hF
 have HA := Aside0.mk hA
 have HS := Aside0.mk (hS 99)
 clear hF hA hS hb
 go_upto_region 4 with fail
 go_cut [0] from 23 (fun v0 wx => (∃ o : ByteArray,v0 = .string o ∧ o.size ≤ 64) ∧ W2 = wx)
 case first =>
  go_wp2_with fail
  all_goals (go_meet; exact ⟨⟨_,rfl,by first | (simp; done) | (simp; omega) | omega⟩,rfl⟩)
 case rest =>
 obtain ⟨⟨o,rfl,hszo⟩,rfl⟩ := hcut
 have HZo := Aside0.mk hszo
 clear hszo
 go_upto_region 5 with fail
 go_cut [1] from 23 (fun v0 wx => (∃ o : ByteArray,v0 = .string o ∧ o.size ≤ 64) ∧ W2 = wx)
 case first =>
  go_wp2_with fail
  all_goals (go_meet; exact ⟨⟨_,rfl,by first | (simp; done) | (simp; omega) | omega⟩,rfl⟩)
 case rest =>
 obtain ⟨⟨f,rfl,hszf⟩,rfl⟩ := hcut
 have HZf := Aside0.mk hszf
 clear hszf
 go_upto_region 6 with fail
 go_cut [2] from 23 (fun v0 wx => (∃ a : Nat,v0 = .int .i64 (a : Int) ∧ a ≤ 128) ∧ W2 = wx)
 case first =>
  go_wp2_with fail
  all_goals (go_meet; first | exact ⟨⟨0,rfl,by omega⟩,rfl⟩ | exact ⟨⟨128,rfl,by omega⟩,rfl⟩ | exact ⟨⟨at_.toNat,by rw [Int.toNat_of_nonneg (by omega)],by omega⟩,rfl⟩)
 case rest =>
 obtain ⟨⟨a,rfl,hat⟩,rfl⟩ := hcut
 have HAT := Aside0.mk hat
 clear hat
 go_wp2_with fail
 refine (create_calls w b wd (-3) 99 es1 1 (fun W => ∃ g,Tim W b.i.wh b.am g ∧ w.heap.size ≤ g) o 4636666922610458624 _ _ (.inr (.inr (.inr rfl))) rfl (.inr rfl) HF.out HA.out HS.out (by decide) HZo.out Stab.tim (fun W hw hsz => ?_)).mono ?_
 ·obtain ⟨⟨fm,h1⟩,h2⟩ := hw
  refine (set0_99 b.i.wh fm b.am W h1 h2).mono ?_
  rintro e w' ⟨rfl,⟨g,h3,h5⟩,h4⟩
  exact ⟨_,rfl,⟨g,h3,Nat.le_trans hsz h5⟩,h4⟩
 rintro e_ W3 ⟨rfl,i3,hs,ha,hf⟩
 rw [show (-3 : Int) - 1 = -4 from rfl] at hs
 replace HS := Aside0.mk hs
 replace HA := Aside0.mk ha
 clear hs ha hf
 go_wp2_with fail
 refine (wsyn_calls w.heap.size (Sto w b (-5) [] (es1.push { key := .int .i64 2,val := .agg #[.int .i64 2,.string (lrec 1 1 1 99 o).enc],born := 1 }) 2 99 1 1 1 (fun W => ∃ g,Tim W b.i.wh b.am g ∧ w.heap.size ≤ g)) i3 wd W3 (Sto.sta Stab.tim) HS.out.b.size HF.out.wd (HS.out.far HF.out) HA.out (fun W hb => ?_)).mono ?_
 ·have hs : Sto w b (-4) [.int .i64 2,.string (lrec 1 1 1 99 o).enc] es1 1 99 1 1 1 (fun W => ∃ g,Tim W b.i.wh b.am g ∧ w.heap.size ≤ g) i3 W := ((Sto.sta Stab.tim).st _).below _ _ HS.out hb
  rw [show i3.co = b.i.co by rw [hs.ids]]
  exact syn_calls w b (-4) 2 (lrec 1 1 1 99 o).enc es1 1 99 1 _ i3 W hs (by decide) rfl (fun w' k => hs.tim k) ⟨HF.out.all _ (by simp),HF.out.all _ (by simp)⟩
 rintro e_ W4 ⟨rfl,i4,hs,ha,hf⟩
 replace HS := Aside0.mk hs
 replace HA := Aside0.mk ha
 clear hs ha hf
 go_wp2_with fail
 refine (put_calls2 w b wd (-5) (es1.push { key := .int .i64 2,val := .agg #[.int .i64 2,.string (lrec 1 1 1 99 o).enc],born := 1 }) 2 1 o f _ _ HF.out HA.out HS.out (by decide) HZf.out HZo.out rfl).mono ?_
 rintro e_ W5 ⟨rfl,i5,hs,ha,hf⟩
 rw [show (-5 : Int) - 1 = -6 from rfl] at hs
 replace HS := Aside0.mk hs
 replace HA := Aside0.mk ha
 clear hs ha hf
 go_upto_region 10 with (refine sr_ 9 48 #[.int .i64 0,.string { data := #[] },.int .u64 0,.int .i64 0,.int .i64 0] (blk_new W5 (.cells #[.int .i64 0,.string { data := #[] },.int .u64 0,.int .i64 0,.int .i64 0] 59)) ?_)
 obtain ⟨W6,hW_⟩ : ∃ W_,W_ = ((W5.alloc (.cells #[.int .i64 0,.string { data := #[] },.int .u64 0,.int .i64 0,.int .i64 0] 59)).setRow W5.heap.size #[.int .i64 0,.string { data := #[] },.int .u64 0,.int .i64 0,.int .i64 0]) := ⟨_,rfl⟩
 rw [← hW_]
 obtain ⟨g3,hg_⟩ : ∃ g_,g_ = W5.heap.size := ⟨_,rfl⟩
 have q_ : W6.heap[g3]? = some (.cells #[.int .i64 0,.string { data := #[] },.int .u64 0,.int .i64 0,.int .i64 0] 59 (0,0)) := by rw [hW_,hg_]; exact setRow_heap _ _ _ _ _ _ (blk_new W5 _)
 have H3 := Aside0.mk q_
 have hb : Below W5.heap.size W5 W6 := by rw [hW_]; exact below_setRow (below_alloc (Below.refl _ _) _) (Nat.le_refl _) _
 rw [← hg_]
 clear hg_ hW_ q_
 replace HS := Aside0.mk (((Sto.sta Stab.whn).st _).below _ _ HS.out hb)
 replace HA := Aside0.mk (HA.out.below hb)
 clear hb
 go_wp2_with fail
 have hR : (lrec 2 1 2 99 f).enc.size = 128 := Rec.enc_size _ (by have := HZf.out; show 1 + f.size ≤ 81; omega)
 have HR := Aside0.mk hR
 clear hR
 rcases Nat.lt_or_ge a 125 with ha | ha
 ·have HLT := Aside0.mk ha
  clear ha
  refine (crash_step w b wd (-6) 99 (es1.push { key := .int .i64 2,val := .agg #[.int .i64 2,.string (lrec 1 1 1 99 o).enc],born := 1 }) ((es1.push { key := .int .i64 2,val := .agg #[.int .i64 2,.string (lrec 1 1 1 99 o).enc],born := 1 }).push { key := .int .i64 3,val := .agg #[.int .i64 3,.string (tornS (lrec 2 1 2 99 f).enc a)],born := 2 }) 2 2 1 0 3 a (lrec 2 1 2 99 f).enc (tornS (lrec 2 1 2 99 f).enc a) (fun _ => o) none 0 _ _ _ HF.out HA.out HS.out (by decide) ⟨by omega,by have := HAT.out; omega⟩ (fun W hb => (eqnil_calls W).mono (fun e w' h => ⟨h.1,0,h.2⟩)) (fun W g cap hb h1 h2 h3 h4 => crash_torn b.i.d b.m (-6) g cap 3 (lrec 2 1 2 99 f).enc a (es1.push { key := .int .i64 2,val := .agg #[.int .i64 2,.string (lrec 1 1 1 99 o).enc],born := 1 }) 2 W h1 h2 rfl h3 h4 HR.out HAT.out) (.inl rfl) rfl rfl (fun k hk => ?_) ⟨torn_size _ _ HR.out HAT.out,torn_124 _ _ HR.out (by have := HLT.out; omega),.inl ⟨2,rfl⟩⟩ (.inr rfl)).mono ?_
  ·obtain rfl : k = 0 := by omega
   exact ⟨⟨by decide,by decide,by decide,by decide,HZo.out⟩,1,rfl⟩
  rintro e_ W7 ⟨rfl,i6,hs,ha,hf⟩
  replace H3 := Aside0.mk (hf.row _ _ _ (by decide) (tne H3.out HA.out.hw (by decide)) H3.out)
  obtain ⟨hk6,b6,hs6⟩ := hs
  replace HS := Aside0.mk hs6
  have HK6 := Aside0.mk hk6
  replace HA := Aside0.mk ha
  clear hk6 hs6 ha hf
  go_upto_region 11 with (refine sr_ 10 52 #[.int .i64 0,.string { data := #[] },.int .u64 0,.int .i64 0,.int .i64 0] (blk_new W7 (.cells #[.int .i64 0,.string { data := #[] },.int .u64 0,.int .i64 0,.int .i64 0] 59)) ?_)
  obtain ⟨W8,hW_⟩ : ∃ W_,W_ = ((W7.alloc (.cells #[.int .i64 0,.string { data := #[] },.int .u64 0,.int .i64 0,.int .i64 0] 59)).setRow W7.heap.size #[.int .i64 0,.string { data := #[] },.int .u64 0,.int .i64 0,.int .i64 0]) := ⟨_,rfl⟩
  rw [← hW_]
  obtain ⟨g4,hg_⟩ : ∃ g_,g_ = W7.heap.size := ⟨_,rfl⟩
  have q_ : W8.heap[g4]? = some (.cells #[.int .i64 0,.string { data := #[] },.int .u64 0,.int .i64 0,.int .i64 0] 59 (0,0)) := by rw [hW_,hg_]; exact setRow_heap _ _ _ _ _ _ (blk_new W7 _)
  have H4 := Aside0.mk q_
  have hb : Below W7.heap.size W7 W8 := by rw [hW_]; exact below_setRow (below_alloc (Below.refl _ _) _) (Nat.le_refl _) _
  rw [← hg_]
  clear hg_ hW_ q_
  replace H3 := mb H3 hb
  replace HS := Aside0.mk (((Sto.sta Stab.whn).st _).below _ _ HS.out hb)
  replace HA := Aside0.mk (HA.out.below hb)
  clear hb
  go_wp2_with fail
  refine (get_calls2 w b6 wd (-3) 99 _ _ 1 1 o _ _ (.inl rfl) (.inr rfl) HF.out.wd HK6.out HA.out HS.out HZo.out rfl).mono ?_
  rintro e_ W9 ⟨rfl,i8,hs,ha,hf⟩
  replace H3 := Aside0.mk (hf.row _ _ _ (by decide) (tne H3.out HA.out.hw (by decide)) H3.out)
  replace H4 := Aside0.mk (hf.row _ _ _ (by decide) (tne H4.out HA.out.hw (by decide)) H4.out)
  replace HS := Aside0.mk (hs)
  replace HA := Aside0.mk (ha)
  clear hs ha hf
  go_upto_region 12 with (refine sr_ 11 56 #[.int .i64 0,.string o,.int .u64 99,.int .i64 0,.int .i64 0] (blk_new W9 (.cells #[.int .i64 0,.string { data := #[] },.int .u64 0,.int .i64 0,.int .i64 0] 59)) ?_)
  obtain ⟨Wa,hW_⟩ : ∃ W_,W_ = ((W9.alloc (.cells #[.int .i64 0,.string { data := #[] },.int .u64 0,.int .i64 0,.int .i64 0] 59)).setRow W9.heap.size #[.int .i64 0,.string o,.int .u64 99,.int .i64 0,.int .i64 0]) := ⟨_,rfl⟩
  rw [← hW_]
  obtain ⟨g5,hg_⟩ : ∃ g_,g_ = W9.heap.size := ⟨_,rfl⟩
  have q_ : Wa.heap[g5]? = some (.cells #[.int .i64 0,.string o,.int .u64 99,.int .i64 0,.int .i64 0] 59 (0,0)) := by rw [hW_,hg_]; exact setRow_heap _ _ _ _ _ _ (blk_new W9 _)
  have H5 := Aside0.mk q_
  have hb : Below W9.heap.size W9 Wa := by rw [hW_]; exact below_setRow (below_alloc (Below.refl _ _) _) (Nat.le_refl _) _
  rw [← hg_]
  clear hg_ hW_ q_
  replace H3 := mb H3 hb
  replace H4 := mb H4 hb
  replace HS := Aside0.mk (((Sto.sta Stab.whn).st _).below _ _ HS.out hb)
  replace HA := Aside0.mk (HA.out.below hb)
  clear hb
  have HV : Aside0 (Wa.heap[wd]? = some (.cells (wrc i8.k i8.d 1) 98 (0,0))) := ⟨by have h1 := HA.out.hw; rw [show i8.ver = 1 by rw [HS.out.ids]; rfl] at h1; exact h1⟩
  have a0 : Wa.cell? ⟨g3,0,none⟩ = some (.int .i64 0) := cL H3 0 rfl
  have a1 : Wa.cell? ⟨g3,1,none⟩ = some (.string { data := #[] }) := cL H3 1 rfl
  have a2 : Wa.cell? ⟨g3,2,none⟩ = some (.int .u64 0) := cL H3 2 rfl
  have a3 : Wa.cell? ⟨g3,3,none⟩ = some (.int .i64 0) := cL H3 3 rfl
  have a4 : Wa.cell? ⟨g3,4,none⟩ = some (.int .i64 0) := cL H3 4 rfl
  have b0 : Wa.cell? ⟨g4,0,none⟩ = some (.int .i64 0) := cL H4 0 rfl
  have b1 : Wa.cell? ⟨g4,1,none⟩ = some (.string { data := #[] }) := cL H4 1 rfl
  have b2 : Wa.cell? ⟨g4,2,none⟩ = some (.int .u64 0) := cL H4 2 rfl
  have b3 : Wa.cell? ⟨g4,3,none⟩ = some (.int .i64 0) := cL H4 3 rfl
  have b4 : Wa.cell? ⟨g4,4,none⟩ = some (.int .i64 0) := cL H4 4 rfl
  have c0 : Wa.cell? ⟨g5,0,none⟩ = some (.int .i64 0) := cL H5 0 rfl
  have c1 : Wa.cell? ⟨g5,1,none⟩ = some (.string o) := cL H5 1 rfl
  have c2 : Wa.cell? ⟨g5,2,none⟩ = some (.int .u64 99) := cL H5 2 rfl
  have c3 : Wa.cell? ⟨g5,3,none⟩ = some (.int .i64 0) := cL H5 3 rfl
  have c4 : Wa.cell? ⟨g5,4,none⟩ = some (.int .i64 0) := cL H5 4 rfl
  have hlt : decide ((a : Int) < 128) = true := decide_eq_true (by have := HLT.out; omega)
  go_wp2_with fail
  refine (wver_calls wd i8.k i8.d 1 _ HV.out).mono ?_
  rintro e_ Wb ⟨rfl,rfl⟩
  go_wp2_with fail
  refine (wver_calls wd i8.k i8.d 1 _ HV.out).mono ?_
  rintro e_ Wc ⟨rfl,rfl⟩
  go_wp2_with fail
  refine (fixed_calls _).mono ?_
  rintro e_ Wd ⟨rfl,hb⟩
  go_wp2_with fail
  go_ret
  exact ⟨rfl,below_step HS.out.b hb⟩
 ·have HLT := Aside0.mk ha
  clear ha
  have hw_ : tornS (lrec 2 1 2 99 f).enc a = (lrec 2 1 2 99 f).enc := torn_whole _ _ HR.out ⟨HLT.out,HAT.out⟩ (fun j h1 h2 => by
   obtain ⟨k,rfl⟩ : ∃ k,j = 124 + k := ⟨j - 124,by omega⟩
   rw [enc_tail _ (by have := HZf.out; show 1 + f.size ≤ 81; omega) k (by omega)]
   have hk : k = 1 ∨ k = 2 ∨ k = 3 := by omega
   rcases hk with rfl | rfl | rfl <;> rfl)
  have HWH := Aside0.mk hw_
  clear hw_
  refine (crash_step w b wd (-6) 99 (es1.push { key := .int .i64 2,val := .agg #[.int .i64 2,.string (lrec 1 1 1 99 o).enc],born := 1 }) ((es1.push { key := .int .i64 2,val := .agg #[.int .i64 2,.string (lrec 1 1 1 99 o).enc],born := 1 }).push { key := .int .i64 3,val := .agg #[.int .i64 3,.string (lrec 2 1 2 99 f).enc],born := 2 }) 2 2 2 0 3 a (lrec 2 1 2 99 f).enc zsec (fun j => if j = 0 then o else f) none 0 _ _ _ HF.out HA.out HS.out (by decide) ⟨by omega,by have := HAT.out; omega⟩ (fun W hb => (eqnil_calls W).mono (fun e w' h => ⟨h.1,0,h.2⟩)) (fun W g cap hb h1 h2 h3 h4 => by have q_ := crash_torn b.i.d b.m (-6) g cap 3 (lrec 2 1 2 99 f).enc a (es1.push { key := .int .i64 2,val := .agg #[.int .i64 2,.string (lrec 1 1 1 99 o).enc],born := 1 }) 2 W h1 h2 rfl h3 h4 HR.out HAT.out; rw [HWH.out] at q_; exact q_) (.inr rfl) rfl rfl (fun k hk => ?_) ⟨by decide,sb_zsec 124,.inr ⟨rfl,rfl⟩⟩ (.inr rfl)).mono ?_
  ·have hk2 : k = 0 ∨ k = 1 := by omega
   rcases hk2 with rfl | rfl
   ·exact ⟨⟨by decide,by decide,by decide,by decide,HZo.out⟩,1,rfl⟩
   ·exact ⟨⟨by decide,by decide,by decide,by decide,HZf.out⟩,2,rfl⟩
  rintro e_ W7 ⟨rfl,i6,hs,ha,hf⟩
  replace H3 := Aside0.mk (hf.row _ _ _ (by decide) (tne H3.out HA.out.hw (by decide)) H3.out)
  obtain ⟨hk6,b6,hs6⟩ := hs
  replace HS := Aside0.mk hs6
  have HK6 := Aside0.mk hk6
  replace HA := Aside0.mk ha
  clear hk6 hs6 ha hf
  go_upto_region 11 with (refine sr_ 10 52 #[.int .i64 0,.string { data := #[] },.int .u64 0,.int .i64 0,.int .i64 0] (blk_new W7 (.cells #[.int .i64 0,.string { data := #[] },.int .u64 0,.int .i64 0,.int .i64 0] 59)) ?_)
  obtain ⟨W8,hW_⟩ : ∃ W_,W_ = ((W7.alloc (.cells #[.int .i64 0,.string { data := #[] },.int .u64 0,.int .i64 0,.int .i64 0] 59)).setRow W7.heap.size #[.int .i64 0,.string { data := #[] },.int .u64 0,.int .i64 0,.int .i64 0]) := ⟨_,rfl⟩
  rw [← hW_]
  obtain ⟨g4,hg_⟩ : ∃ g_,g_ = W7.heap.size := ⟨_,rfl⟩
  have q_ : W8.heap[g4]? = some (.cells #[.int .i64 0,.string { data := #[] },.int .u64 0,.int .i64 0,.int .i64 0] 59 (0,0)) := by rw [hW_,hg_]; exact setRow_heap _ _ _ _ _ _ (blk_new W7 _)
  have H4 := Aside0.mk q_
  have hb : Below W7.heap.size W7 W8 := by rw [hW_]; exact below_setRow (below_alloc (Below.refl _ _) _) (Nat.le_refl _) _
  rw [← hg_]
  clear hg_ hW_ q_
  replace H3 := mb H3 hb
  replace HS := Aside0.mk (((Sto.sta Stab.whn).st _).below _ _ HS.out hb)
  replace HA := Aside0.mk (HA.out.below hb)
  clear hb
  go_wp2_with fail
  refine (get_calls2 w b6 wd (-3) 99 _ _ 2 2 f _ _ (.inr rfl) (.inr rfl) HF.out.wd HK6.out HA.out HS.out HZf.out rfl).mono ?_
  rintro e_ W9 ⟨rfl,i8,hs,ha,hf⟩
  replace H3 := Aside0.mk (hf.row _ _ _ (by decide) (tne H3.out HA.out.hw (by decide)) H3.out)
  replace H4 := Aside0.mk (hf.row _ _ _ (by decide) (tne H4.out HA.out.hw (by decide)) H4.out)
  replace HS := Aside0.mk (hs)
  replace HA := Aside0.mk (ha)
  clear hs ha hf
  go_upto_region 12 with (refine sr_ 11 56 #[.int .i64 0,.string f,.int .u64 99,.int .i64 0,.int .i64 0] (blk_new W9 (.cells #[.int .i64 0,.string { data := #[] },.int .u64 0,.int .i64 0,.int .i64 0] 59)) ?_)
  obtain ⟨Wa,hW_⟩ : ∃ W_,W_ = ((W9.alloc (.cells #[.int .i64 0,.string { data := #[] },.int .u64 0,.int .i64 0,.int .i64 0] 59)).setRow W9.heap.size #[.int .i64 0,.string f,.int .u64 99,.int .i64 0,.int .i64 0]) := ⟨_,rfl⟩
  rw [← hW_]
  obtain ⟨g5,hg_⟩ : ∃ g_,g_ = W9.heap.size := ⟨_,rfl⟩
  have q_ : Wa.heap[g5]? = some (.cells #[.int .i64 0,.string f,.int .u64 99,.int .i64 0,.int .i64 0] 59 (0,0)) := by rw [hW_,hg_]; exact setRow_heap _ _ _ _ _ _ (blk_new W9 _)
  have H5 := Aside0.mk q_
  have hb : Below W9.heap.size W9 Wa := by rw [hW_]; exact below_setRow (below_alloc (Below.refl _ _) _) (Nat.le_refl _) _
  rw [← hg_]
  clear hg_ hW_ q_
  replace H3 := mb H3 hb
  replace H4 := mb H4 hb
  replace HS := Aside0.mk (((Sto.sta Stab.whn).st _).below _ _ HS.out hb)
  replace HA := Aside0.mk (HA.out.below hb)
  clear hb
  have HV : Aside0 (Wa.heap[wd]? = some (.cells (wrc i8.k i8.d 2) 98 (0,0))) := ⟨by have h1 := HA.out.hw; rw [show i8.ver = 2 by rw [HS.out.ids]; rfl] at h1; exact h1⟩
  have a0 : Wa.cell? ⟨g3,0,none⟩ = some (.int .i64 0) := cL H3 0 rfl
  have a1 : Wa.cell? ⟨g3,1,none⟩ = some (.string { data := #[] }) := cL H3 1 rfl
  have a2 : Wa.cell? ⟨g3,2,none⟩ = some (.int .u64 0) := cL H3 2 rfl
  have a3 : Wa.cell? ⟨g3,3,none⟩ = some (.int .i64 0) := cL H3 3 rfl
  have a4 : Wa.cell? ⟨g3,4,none⟩ = some (.int .i64 0) := cL H3 4 rfl
  have b0 : Wa.cell? ⟨g4,0,none⟩ = some (.int .i64 0) := cL H4 0 rfl
  have b1 : Wa.cell? ⟨g4,1,none⟩ = some (.string { data := #[] }) := cL H4 1 rfl
  have b2 : Wa.cell? ⟨g4,2,none⟩ = some (.int .u64 0) := cL H4 2 rfl
  have b3 : Wa.cell? ⟨g4,3,none⟩ = some (.int .i64 0) := cL H4 3 rfl
  have b4 : Wa.cell? ⟨g4,4,none⟩ = some (.int .i64 0) := cL H4 4 rfl
  have c0 : Wa.cell? ⟨g5,0,none⟩ = some (.int .i64 0) := cL H5 0 rfl
  have c1 : Wa.cell? ⟨g5,1,none⟩ = some (.string f) := cL H5 1 rfl
  have c2 : Wa.cell? ⟨g5,2,none⟩ = some (.int .u64 99) := cL H5 2 rfl
  have c3 : Wa.cell? ⟨g5,3,none⟩ = some (.int .i64 0) := cL H5 3 rfl
  have c4 : Wa.cell? ⟨g5,4,none⟩ = some (.int .i64 0) := cL H5 4 rfl
  go_wp2_with fail
  refine (wver_calls wd i8.k i8.d 2 _ HV.out).mono ?_
  rintro e_ Wb ⟨rfl,rfl⟩
  go_wp2_with fail
  refine (fixed_calls _).mono ?_
  rintro e_ Wd ⟨rfl,hb⟩
  go_wp2_with fail
  go_ret
  exact ⟨rfl,below_step HS.out.b hb⟩
end Go.Proofs.YtokfjbbjkiilmaaGreatDoor.H
