/-
TopTorn: part of its walk (St, Ac, Tp, Tc, Eq, Fi).
-/
import Derived.Test.YtokfjbbjkiilmaaGreatDoorTU
import Derived.Test.YtokfjbbjkiilmaaGreatDoorTA
set_option linter.unusedVariables false
set_option linter.unusedSimpArgs false
namespace Go.Proofs.YtokfjbbjkiilmaaGreatDoor.H
open Go.RowKit Go.Proofs.YtokfjbbjkiilmaaGreatDoorW.PrintWords Go.Proofs.YtokfjbbjkiilmaaGreatDoorW.PrintLast Go.Proofs.YtokfjbbjkiilmaaGreatDoorW.PrintMore
/-- What is pending. -/
def Pen (W : World) (v : Value) : List Value → Prop
 | [] => v = .slice none 0 0
 | x :: xs => W.ownsRow 0 286 2 v 1 (x :: xs)
theorem Pen.keep {L : List Nat} {w w' : World} {v : Value} {pe : List Value} (h : Pen w v pe) (k : Keep L w w') (hL : ∀ q,v.ownBlock = some q → q ∉ L) : Pen w' v pe := by
 cases pe with
 | nil => exact h
 | cons x xs => exact own_keep h (fun q hq => k.block q (own_lt h q hq) (hL q hq))
theorem Pen.ne {w : World} {v : Value} {pe : List Value} {g t : Nat} {c : Array Value} (h : Pen w v pe) (hg : w.heap[g]? = some (.cells c t (0,0))) (ht : t ≠ 286) : ∀ q,v.ownBlock = some q → q ≠ g := by
 cases pe with
 | nil => intro q hq; cases h; cases hq
 | cons x xs => exact own_ne h hg ht
/-- The blocks that stay the same from act to act. -/
structure Bks where
 i : Ids
 nm : Nat
 pm : Nat
 am : Nat
 m : Nat
structure Sto (W0 : World) (b : Bks) (left : Int) (pe : List Value) (es : Array MapEntry) (c : Nat) (dl : Int) (n : Nat) (ep gen : Int) (X : World → Prop) (i : Ids) (W : World) : Prop where
 ids : i = { b.i with ver := (n : Int) }
 kos : ∃ (v : Value) (oo ln ff : Nat) (x z : Int),Kos W b.i.co b.i.ix b.i.d b.i.l b.i.wh b.nm b.pm b.am b.m oo ln ff left v es c (n : Int) x (1 + (n : Int)) ep gen (n : Int) (nsI dl z n) (cnI n) (psI n) n ∧ Pen W v pe
 x : X W
 b : Below W0.heap.size W0 W
theorem tt_not {t : TypeId} (h : t ∈ TT) : t ∉ ([132,232,108,242,3,35] : List TypeId) ∧ t ≠ 239 ∧ t ≠ 317 ∧ t ≠ 286 := by
 revert h t
 decide
theorem keep1_new {w a b : World} {g : Nat} (h : Below w.heap.size w a) (k : Keep [g] a b) (hg : w.heap.size ≤ g) : Below w.heap.size w b :=
 keep_new h k (fun q hq => by rw [List.mem_singleton.1 hq]; exact hg)
theorem Sto.sta {W0 : World} {b : Bks} {left : Int} {pe : List Value} {es : Array MapEntry} {c : Nat} {dl : Int} {n : Nat} {ep gen : Int} {X : World → Prop} (hX : Stab W0.heap.size X) : Sta W0.heap.size (Sto W0 b left pe es c dl n ep gen X) where
 st i := {
  below := fun W W' h hb => by
   obtain ⟨h1,⟨v,oo,ln,ff,x,z,hk,hp⟩,h3,h4⟩ := h
   exact ⟨h1,⟨v,oo,ln,ff,x,z,hk.below hb,hp.keep (Keep.below (L := []) hb) (fun _ _ h => by cases h)⟩,hX.below _ _ h3 hb,below_step h4 hb⟩
  row := fun W W' g t cs h hg ht hr kk => by
   obtain ⟨h1,⟨v,oo,ln,ff,x,z,hk,hp⟩,h3,h4⟩ := h
   have q := tt_not ht
   exact ⟨h1,⟨v,oo,ln,ff,x,z,hk.other (L' := []) kk hr q.1,hp.keep kk (fun a ha hm => hp.ne hr q.2.2.2 a ha (List.mem_singleton.1 hm))⟩,hX.row _ _ _ _ _ h3 hg ht hr kk,keep1_new h4 kk hg⟩ }
 co i W h := by
  obtain ⟨h1,⟨v,oo,ln,ff,x,z,hk,hp⟩,h3,h4⟩ := h
  subst h1
  exact hk.hc
theorem Stab.whn {B wh : Nat} : Stab B (fun W => Whn W wh) where
 below W W' h hb := h.keep (Keep.below (L := []) hb) (by simp)
 row W W' g t cs h hg ht hr kk := by
  obtain ⟨c1,h1,h2⟩ := h
  exact ⟨c1,blk_keep h1 kk (fun hm => tne h1 hr (tt_not ht).2.1.symm (List.mem_singleton.1 hm)),h2⟩
theorem Tim.blk {w : World} {wh am g : Nat} (h : Tim w wh am g) : (∃ cs,w.heap[wh]? = some (.cells cs 239 (0,0))) ∧ (∃ cs,w.heap[g]? = some (.cells cs 317 (0,0))) ∧ ∃ es c,w.heap[am]? = some (.map es c) := by
 obtain ⟨⟨cs,cap,a1,a2,a3,a4,a5⟩,c,b,a6⟩ := h
 obtain ⟨g',cap',cur,e,hh,-⟩ := own_cells a5 (by decide)
 cases e
 exact ⟨⟨_,a1⟩,⟨_,hh⟩,_,_,a6⟩
theorem Tim.other {w w' : World} {wh am g a t : Nat} {cs : Array Value} (h : Tim w wh am g) (kk : Keep [a] w w') (hr : w.heap[a]? = some (.cells cs t (0,0))) (h1 : t ≠ 239) (h2 : t ≠ 317) : Tim w' wh am g := by
 obtain ⟨⟨_,a1⟩,⟨_,a2⟩,_,_,a3⟩ := h.blk
 exact h.keep kk (fun hm => tne a1 hr h1.symm (List.mem_singleton.1 hm)) (fun hm => map_ne a3 hr (List.mem_singleton.1 hm)) (fun hm => tne a2 hr h2.symm (List.mem_singleton.1 hm))
theorem Stab.tim {B C wh am : Nat} : Stab B (fun W => ∃ g,Tim W wh am g ∧ C ≤ g) where
 below W W' h hb := by
  obtain ⟨g,h,h2⟩ := h
  exact ⟨g,h.keep (Keep.below (L := []) hb) (by simp) (by simp) (by simp),h2⟩
 row W W' a t cs h hg ht hr kk := by
  obtain ⟨g,h,h2⟩ := h
  exact ⟨g,h.other kk hr (tt_not ht).2.1 (tt_not ht).2.2.1,h2⟩
/-- A wheel without timers. -/
def Wnew (wh am : Nat) (W : World) : Prop := (∃ fm,W.heap[wh]? = some (.cells (wrow 0 fm am) 239 (0,0))) ∧ W.heap[am]? = some (.map #[] 0)
theorem Wnew.keep {w w' : World} {wh am : Nat} {L : List Nat} (h : Wnew wh am w) (k : Keep L w w') (h1 : wh ∉ L) (h2 : am ∉ L) : Wnew wh am w' := by
 obtain ⟨⟨fm,a⟩,b⟩ := h
 exact ⟨⟨fm,blk_keep a k h1⟩,blk_keep b k h2⟩
theorem Stab.wnew {B wh am : Nat} : Stab B (Wnew wh am) where
 below W W' h hb := h.keep (Keep.below (L := []) hb) (by simp) (by simp)
 row W W' a t cs h hg ht hr kk := by
  obtain ⟨⟨fm,h1⟩,h2⟩ := id h
  exact h.keep kk (fun hm => tne h1 hr (tt_not ht).2.1.symm (List.mem_singleton.1 hm)) (fun hm => map_ne h2 hr (List.mem_singleton.1 hm))
/-- A disk alone. -/
structure Dsk (W0 : World) (d m : Nat) (es : Array MapEntry) (c : Nat) (W : World) : Prop where
 hd : W.heap[d]? = some (.cells (dkc 0 m (.slice none 0 0)) 108 (0,0))
 hm : W.heap[m]? = some (.map es c)
 b : Below W0.heap.size W0 W
theorem Stab.dsk {W0 : World} {d m : Nat} {es : Array MapEntry} {c : Nat} : Stab W0.heap.size (Dsk W0 d m es c) where
 below W W' h hb := ⟨blk_below h.hd hb,blk_below h.hm hb,below_step h.b hb⟩
 row W W' a t cs h hg ht hr kk := ⟨blk_keep h.hd kk (fun hm => tne h.hd hr (fun e => (tt_not ht).1 (by rw [← e]; decide)) (List.mem_singleton.1 hm)),blk_keep h.hm kk (fun hm => map_ne h.hm hr (List.mem_singleton.1 hm)),keep1_new h.b kk hg⟩
end Go.Proofs.YtokfjbbjkiilmaaGreatDoor.H
namespace Go.Proofs.YtokfjbbjkiilmaaGreatDoor.H
open Go.RowKit Go.Proofs.YtokfjbbjkiilmaaGreatDoorW.PrintWords Go.Proofs.YtokfjbbjkiilmaaGreatDoorW.PrintLast Go.Proofs.YtokfjbbjkiilmaaGreatDoorW.PrintMore
/-- Where an act begins: the world's block, the desk's, the cleaner's. -/
structure At (wd : Nat) (i : Ids) (w : World) : Prop where
 hw : w.heap[wd]? = some (.cells (wrc i.k i.d i.ver) 98 (0,0))
 hk : w.heap[i.k]? = some (.cells (dsc i.co i.cl) 76 (0,0))
 hc : w.heap[i.cl]? = some (.cells clc 117 (0,0))
theorem At.below {wd : Nat} {i : Ids} {w w' : World} (h : At wd i w) (hb : Below w.heap.size w w') : At wd i w' := ⟨blk_below h.hw hb,blk_below h.hk hb,blk_below h.hc hb⟩
/-- What is behind an act. -/
def Aft (P : Ids → World → Prop) (wd : Nat) (w w' : World) : Prop := ∃ i : Ids,P i w' ∧ At wd i w' ∧ Fr1 wd w w'
set_option maxHeartbeats 4000000 in
/-- A request, what it asks told of the layers below. -/
theorem wask_calls (B : Nat) (P : Ids → World → Prop) (i i2 : Ids) (wd : Nat) (kd rd a3 n te dx r : Int) (v a1 a2 rs : ByteArray) (x : Nat) (b ch : Bool) (w : World)
 (hP : Sta B P) (hBB : B ≤ w.heap.size) (hwB : B ≤ wd) (hkB : B ≤ i.k) (hi : i2.k = i.k ∧ i2.d = i.d ∧ i2.co = i.co ∧ i2.cl = i.cl)
 (ha : At wd i w) (hc : w.heap[i.co]? = some (.cells (coc i.ix i.d i.l i.wh i.ver) 132 (0,0))) (hwh : w.cell? ⟨i.wh,0,none⟩ = some (.int .u64 0)) (hv : v.size ≤ 64) (hk3 : 0 ≤ kd ∧ kd ≤ 3)
 (hval : ∀ W : World,Calls Tryz.prog 58 #[.agg #[.int .i64 kd,.string idA,.string v,.float .f64 x]] W fun e w' => e = .returned (.int .i64 0) ∧ Below W.heap.size W w')
 (hses : ∀ W : World,Below w.heap.size w W → Calls Tryz.prog 59 #[.pointer (some ⟨i.co,0,none⟩),.string idA] W fun e w' => e = .returned (.tuple #[.agg #[.string a1,.string a2,.int .u64 a3],.bool b]) ∧ Below W.heap.size W w')
 (hch : ∀ W : World,Calls Tryz.prog 31 #[.agg #[.int .i64 kd,.string idA,.string v,.float .f64 x]] W fun e w' => e = .returned (.bool ch) ∧ Below W.heap.size W w')
 (hlv : kd = 0 → ∀ W : World,Below w.heap.size w W → Calls Tryz.prog 60 #[.pointer (some ⟨i.ix,0,none⟩)] W fun e w' => e = .returned (.int .i64 0) ∧ Below W.heap.size W w')
 (hroom : ch = true → ∀ W : World,Below w.heap.size w W → Calls Tryz.prog 62 #[.pointer (some ⟨i.co,0,none⟩)] W fun e w' => e = .returned (.int .i64 r) ∧ Below W.heap.size W w')
 (hneed : ch = true → ∀ W : World,Below w.heap.size w W → Calls Tryz.prog 63 #[.pointer (some ⟨i.k,0,none⟩)] W fun e w' => e = .returned (.int .i64 2) ∧ Below W.heap.size W w') (hr : 2 < r)
 (htk : ∀ W : World,Calls Tryz.prog 65 #[.float .f64 x] W fun e w' => e = .returned (.tuple #[.int .u64 n,.int .i64 te]) ∧ w' = W) (hn : 0 ≤ n ∧ n < 18446744073709551616)
 (hlive : kd ≠ 1 → ∀ W : World,Below w.heap.size w W → Calls Tryz.prog 68 #[.pointer (some ⟨i.co,0,none⟩),.string idA,.string v,.int .u64 dx] W fun e w' => e = .returned (.int .i64 0) ∧ P i2 w' ∧ Frm W w')
 (hget : kd = 1 → ∀ W : World,Below w.heap.size w W → P i2 W)
 (hkd1 : (kd = 0 ∧ b = false ∧ ch = true) ∨ (kd = 3 ∧ b = true ∧ ch = true) ∨ (kd = 1 ∧ b = true ∧ ch = false))
 (hkd2 : (kd = 0 ∧ dx = n ∧ rs = { data := #[] } ∧ rd = n) ∨ (kd = 3 ∧ dx = a3 ∧ rs = { data := #[] } ∧ rd = 0) ∨ (kd = 1 ∧ rs = a2 ∧ rd = a3)) :
 Calls Tryz.prog 19 #[.pointer (some ⟨wd,0,none⟩),.agg #[.int .i64 0,.int .i64 kd,.string idA,.string v,.float .f64 x,.int .i64 0,.int .u64 0,.slice none 0 0,.int .i64 0,.int .i64 0]] w fun e w' => e = .returned (.agg #[.int .i64 0,.string rs,.int .u64 rd,.int .i64 0,.int .i64 0]) ∧ Aft P wd w w' := by
 refine (wdo_calls B P wd i.k i.d 87 Tryz.f87 i.ver 0 kd 0 0 rd 0 0 idA v rs x none 0 w hP hBB hwB ha.hw (fun W _ => right_ask kd idA v x W ⟨hk3.1,by omega⟩ (by decide) (by omega)) ⟨by kernel_rfl,by kernel_rfl,by kernel_rfl⟩ (fun g W h => run_look (key := .int .i64 0) (k := 3) (e := 60) (kd := .int .i64) (i := 0) (by kernel_rfl) (by kernel_rfl) rfl h (by rfl) false) (fun W hb => ?_)).mono ?_
 ·refine (ask_calls B (P i2) wd i.k i.d i.ver kd rd v rs x W (hP.st i2) (Nat.le_trans hBB hb.size) (blk_below ha.hw hb) (fun W2 hb2 => ?_)).mono ?_
  ·have hb3 := below_step hb hb2
   exact ddesk_calls B (P i2) i.k i.co i.cl kd rd v rs x ch W2 (hP.st i2) (Nat.le_trans hBB hb3.size) hkB (blk_below ha.hk hb3)
    (fun W3 hb4 => admit_calls i.k i.cl i.co i.ix i.d i.l i.wh i.ver kd a3 r v a1 a2 x b ch W3 (blk_below ha.hk (below_step hb3 hb4)) (blk_below hc (below_step hb3 hb4)) (fun W4 _ => hval W4) (fun W4 h4 => hses W4 (below_step (below_step hb3 hb4) h4)) (fun W4 _ => hch W4) (fun h W4 h4 => hlv h W4 (below_step (below_step hb3 hb4) h4)) (fun h W4 h4 => hroom h W4 (below_step (below_step hb3 hb4) h4)) (fun h W4 h4 => hneed h W4 (below_step (below_step hb3 hb4) h4)) hr hkd1)
    (fun W3 hb4 => answer_calls B (P i2) i.k i.cl i.co i.ix i.d i.l i.wh i.ver kd a3 n te dx rd v a1 a2 rs x b W3 (hP.st i2) (Nat.le_trans hBB (below_step hb3 hb4).size) (blk_below ha.hk (below_step hb3 hb4)) (blk_below hc (below_step hb3 hb4)) (cell_below (below_step hb3 hb4) hwh) (fun W4 h4 => hses W4 (below_step (below_step hb3 hb4) h4)) htk hn (fun h W4 h4 => hlive h W4 (below_step (below_step hb3 hb4) h4)) (fun h W4 h4 => hget h W4 (below_step (below_step hb3 hb4) h4)) hkd2)
    hch
  ·rintro e W' ⟨rfl,hp,hf⟩
   exact ⟨rfl,i2,hp,by rw [hi.1,hi.2.1]; exact hf.row _ _ _ (by decide) (blk_below ha.hw hb),by rw [hi.1,hi.2.2.1,hi.2.2.2]; exact hf.row _ _ _ (by decide) (blk_below ha.hk hb),by rw [hi.2.2.2]; exact hf.row _ _ _ (by decide) (blk_below ha.hc hb),hf.but⟩
 ·rintro e W' ⟨rfl,j,h1,h2,h3,h4,h5⟩
  exact ⟨rfl,j,h1,⟨h2,h3,h4⟩,h5⟩
set_option maxHeartbeats 4000000 in
/-- A sync, what the core's does told. -/
theorem wsyn_calls (B : Nat) (P : Ids → World → Prop) (i : Ids) (wd : Nat) (w : World) (hP : Sta B P) (hBB : B ≤ w.heap.size) (hwB : B ≤ wd) (hkB : B ≤ i.k) (ha : At wd i w)
 (hs : ∀ W : World,Below w.heap.size w W → Calls Tryz.prog 183 #[.pointer (some ⟨i.co,0,none⟩)] W fun e w' => e = .returned (.int .i64 0) ∧ P i w' ∧ Frm W w') :
 Calls Tryz.prog 19 #[.pointer (some ⟨wd,0,none⟩),.agg #[.int .i64 3,.int .i64 0,.string { data := #[] },.string { data := #[] },.float .f64 0,.int .i64 0,.int .u64 0,.slice none 0 0,.int .i64 0,.int .i64 0]] w fun e w' => e = .returned (.agg #[.int .i64 0,.string { data := #[] },.int .u64 0,.int .i64 0,.int .i64 0]) ∧ Aft P wd w w' := by
 refine (wdo_calls B P wd i.k i.d 90 Tryz.f90 i.ver 3 0 0 0 0 0 0 { data := #[] } { data := #[] } { data := #[] } 0 none 0 w hP hBB hwB ha.hw (fun W _ => right_sync W) ⟨by kernel_rfl,by kernel_rfl,by kernel_rfl⟩ (fun g W h => run_look (key := .int .i64 3) (k := 3) (e := 60) (kd := .int .i64) (i := 3) (by kernel_rfl) (by kernel_rfl) rfl h (by rfl) false) (fun W hb => ?_)).mono ?_
 ·refine (wsync_calls B (P i) wd i.k i.d i.ver W (hP.st i) (Nat.le_trans hBB hb.size) (blk_below ha.hw hb) (fun W2 hb2 => ?_)).mono ?_
  ·have hb3 := below_step hb hb2
   exact dsync_calls B (P i) i.k i.co i.cl W2 (hP.st i) hkB (blk_below ha.hk hb3) (hs W2 hb3)
  ·rintro e W' ⟨rfl,hp,hf⟩
   exact ⟨rfl,i,hp,hf.row _ _ _ (by decide) (blk_below ha.hw hb),hf.row _ _ _ (by decide) (blk_below ha.hk hb),hf.row _ _ _ (by decide) (blk_below ha.hc hb),hf.but⟩
 ·rintro e W' ⟨rfl,j,h1,h2,h3,h4,h5⟩
  exact ⟨rfl,j,h1,⟨h2,h3,h4⟩,h5⟩
set_option maxHeartbeats 4000000 in
/-- A crash, what the disk's and the new desk's do told. -/
theorem wcra_calls (B : Nat) (P : Ids → World → Prop) (Q : World → Prop) (i : Ids) (wd : Nat) (at_ : Int) (kp : Option Addr) (kl : Nat) (w : World) (hP : Sta B P) (hQ : Stab B Q) (hBB : B ≤ w.heap.size) (hwB : B ≤ wd) (ha : At wd i w) (hl : kl ≤ 255) (hat : 0 ≤ at_ ∧ at_ ≤ 128)
 (hke : ∀ W,Below w.heap.size w W → Calls Tryz.prog 132 #[.slice kp kl kl,.slice kp kl kl] W fun e w' => e = .returned (.bool true) ∧ ∃ m,w' = W.drewN m)
 (hcr : ∀ W : World,Below w.heap.size w W → Calls Tryz.prog 136 #[.pointer (some ⟨i.d,0,none⟩),(.slice kp kl kl),.int .i64 0,.int .i64 at_] W fun e w' => e = .returned (.tuple #[]) ∧ Q w' ∧ Frm W w')
 (hop : ∀ W : World,Q W → Calls Tryz.prog 137 #[.pointer (some ⟨i.d,0,none⟩),.agg cnf,.int .u64 0] W fun e w' => ∃ j : Ids,e = .returned (.tuple #[.pointer (some ⟨j.k,0,none⟩),.int .i64 0]) ∧ j.d = i.d ∧ P j w' ∧ w'.heap[j.k]? = some (.cells (dsc j.co j.cl) 76 (0,0)) ∧ w'.heap[j.cl]? = some (.cells clc 117 (0,0)) ∧ Frm W w') :
 Calls Tryz.prog 19 #[.pointer (some ⟨wd,0,none⟩),.agg #[.int .i64 5,.int .i64 0,.string { data := #[] },.string { data := #[] },.float .f64 0,.int .i64 0,.int .u64 0,(.slice kp kl kl),.int .i64 0,.int .i64 at_]] w fun e w' => e = .returned (.agg #[.int .i64 0,.string { data := #[] },.int .u64 0,.int .i64 0,.int .i64 0]) ∧ Aft P wd w w' := by
 refine (wdo_calls B P wd i.k i.d 92 Tryz.f92 i.ver 5 0 at_ 0 0 0 0 { data := #[] } { data := #[] } { data := #[] } 0 kp kl w hP hBB hwB ha.hw (fun W hb => right_crash kp kl at_ W hl hat (fun W2 hb2 => hke W2 (below_step hb hb2))) ⟨by kernel_rfl,by kernel_rfl,by kernel_rfl⟩ (fun g W h => run_look (key := .int .i64 5) (k := 3) (e := 60) (kd := .int .i64) (i := 5) (by kernel_rfl) (by kernel_rfl) rfl h (by rfl) false) (fun W hb => ?_)).mono ?_
 ·exact wcrash_calls B P Q wd i.k i.d i.ver at_ kp kl W hP (Nat.le_trans hBB hb.size) hwB hQ (blk_below ha.hw hb) (fun W2 hb2 => hcr W2 (below_step hb hb2)) hop
 ·rintro e W' ⟨rfl,j,h1,h2,h3,h4,h5⟩
  exact ⟨rfl,j,h1,⟨h2,h3,h4⟩,h5⟩
end Go.Proofs.YtokfjbbjkiilmaaGreatDoor.H
namespace Go.Proofs.YtokfjbbjkiilmaaGreatDoor.H
open Go.RowKit Go.Proofs.YtokfjbbjkiilmaaGreatDoorW.PrintWords Go.Proofs.YtokfjbbjkiilmaaGreatDoorW.PrintLast Go.Proofs.YtokfjbbjkiilmaaGreatDoorW.PrintMore
theorem Stab.of0 {X : World → Prop} {B : Nat} (h : Stab 0 X) : Stab B X := ⟨h.below,fun W W' g t cs hx _ ht hr hk => h.row W W' g t cs hx (Nat.zero_le _) ht hr hk⟩
theorem Kos.flush {w w' : World} {co ix d l wh nm pm am m oo ln ff : Nat} {left left' : Int} {v v' : Value} {es es' : Array MapEntry} {c c' : Nat} {k x lsn ep gen ver : Int} {ns : Array MapEntry} {cn : Nat} {ps : Array MapEntry} {cp : Nat} (h : Kos w co ix d l wh nm pm am m oo ln ff left v es c k x lsn ep gen ver ns cn ps cp) (kk : Keep [d,m] w w') (hd : w'.heap[d]? = some (.cells (dkc left' m v') 108 (0,0))) (hm : w'.heap[m]? = some (.map es' c')) : Kos w' co ix d l wh nm pm am m oo ln ff left' v' es' c' k x lsn ep gen ver ns cn ps cp := by
 have hr : ∀ (a t : Nat) (cs : Array Value),w.heap[a]? = some (.cells cs t (0,0)) → t ≠ 108 → w'.heap[a]? = some (.cells cs t (0,0)) := fun a t cs h1 h2 => blk_keep h1 kk (by simp [tne h1 h.lg.hd h2,(map_ne h.lg.hm h1).symm])
 have hn := h.nd
 simp at hn
 have hq : ∀ (a : Nat) (e : Array MapEntry) (c2 : Nat),w.heap[a]? = some (.map e c2) → a ≠ m → w'.heap[a]? = some (.map e c2) := fun a e c2 h1 h2 => blk_keep h1 kk (by simp [h2,map_ne h1 h.lg.hd])
 exact ⟨hr _ _ _ h.hc (by decide),hr _ _ _ h.hx (by decide),hq _ _ _ h.hn (by omega),hq _ _ _ h.hp (by omega),⟨hd,hm,hr _ _ _ h.lg.hl (by decide),hr _ _ _ h.lg.ho (by decide),hr _ _ _ h.lg.hn (by decide),hr _ _ _ h.lg.hf (by decide),h.lg.ne⟩,h.nd⟩
set_option maxHeartbeats 4000000 in
/-- core.Live. -/
theorem live_calls (W0 : World) (b : Bks) (left : Int) (es : Array MapEntry) (c : Nat) (dl : Int) (n : Nat) (X X' : World → Prop) (s : ByteArray) (L : List Nat) (i : Ids) (w : World) (hn : n = 0 ∨ n = 1) (h : Sto W0 b left [] es c dl n 1 1 X i w) (hlf : -1000 ≤ left ∧ left ≤ 0) (hdl : 0 < dl ∧ dl < 18446744073709551616) (hs : s.size ≤ 64) (hw : Whn w b.i.wh) (hL : ∀ q ∈ L,W0.heap.size ≤ q) (hb : ∀ q ∈ [b.i.d,b.i.l,b.nm,b.pm,b.i.co],W0.heap.size ≤ q) (hX : Stab 0 X')
 (hset : ∀ W : World,Keep [b.i.d,b.i.l,b.nm,b.pm,b.i.co] w W → Wof W b.am L ∧ Calls Tryz.prog 215 #[.pointer (some ⟨b.i.wh,0,none⟩),.string idA,.int .u64 dl] W fun e w' => ∃ b : Bool,e = .returned (.bool b) ∧ X' w' ∧ Keep L W w') :
 Calls Tryz.prog 68 #[.pointer (some ⟨b.i.co,0,none⟩),.string idA,.string s,.int .u64 dl] w fun e w' => e = .returned (.int .i64 0) ∧ Sto W0 b (left - 1) [.int .i64 (2 + (n : Int)),.string (lrec (1 + (n : Int)) 1 ((n : Int) + 1) dl s).enc] es c dl (n + 1) 1 1 X' { b.i with ver := ((n + 1 : Nat) : Int) } w' ∧ Frm w w' := by
 obtain ⟨rfl,⟨v,oo,ln,ff,x,z,hk,hp⟩,hx,hB⟩ := h
 cases hp
 have hW := (hset w (Keep.refl _ _)).1
 have hf : ∀ q ∈ [b.i.d,b.i.l,b.nm,b.pm,b.i.co] ++ L,(∃ es c,w.heap[q]? = some (.map es c)) ∨ ∃ cs t,t ∉ TT ∧ w.heap[q]? = some (.cells cs t (0,0)) := by
  intro q hq
  rcases List.mem_append.1 hq with hq | hq
  ·simp at hq
   rcases hq with rfl | rfl | rfl | rfl | rfl
   ·exact .inr ⟨_,_,by decide,hk.lg.hd⟩
   ·exact .inr ⟨_,_,by decide,hk.lg.hl⟩
   ·exact .inl ⟨_,_,hk.hn⟩
   ·exact .inl ⟨_,_,hk.hp⟩
   ·exact .inr ⟨_,_,by decide,hk.hc⟩
  ·rcases hW.all q hq with rfl | ⟨cs,t,rfl | rfl,h2⟩
   ·exact .inl hW.map
   ·exact .inr ⟨_,_,by decide,h2⟩
   ·exact .inr ⟨_,_,by decide,h2⟩
 have hg : ∀ q ∈ [b.i.d,b.i.l,b.nm,b.pm,b.i.co] ++ L,W0.heap.size ≤ q := fun q hq => (List.mem_append.1 hq).elim (hb q) (hL q)
 have hi : n < 2 := by omega
 refine (clive_calls b.i.co b.i.ix b.i.d b.i.l b.i.wh b.nm b.pm b.am b.m oo ln ff left es c n x (1 + (n : Int)) 1 1 n (nsI dl z n) (cnI n) (psI n) n dl s (psI (n + 1)) (n + 1) 1 (fun z' => nsI dl z' (n + 1)) (nV n n) (nV n dl) (nV n z) 0 (nV n ((n : Int) - 1)) (nB n) (nB n) X' L w hk ⟨by omega,by omega,by omega,by omega,hs⟩ (by omega) (by omega) hlf (fun W h => pl_look n b.pm hn W h) (fun W h => pl_up n b.pm hn W h) (fun W h => nw_look n b.nm dl z W h) (fun z' W h => nw_up n b.nm dl z z' W h) (by rcases hn with rfl | rfl <;> decide) (fun z' W h => ?_) hdl.1 hw hset (fun W W' g cs h1 h2 h3 => hX.row W W' g 39 cs h1 (Nat.zero_le _) (by decide) h2 h3)).mono ?_
 ·have := nw_look (n + 1) b.nm dl z' W h
  rcases hn with rfl | rfl <;> exact this
 ·rintro e w' ⟨rfl,v2,ao,al,af,z',ho,hk2,hx2,hkp⟩
  refine ⟨rfl,⟨rfl,⟨v2,ao,al,af,x,z',?_,ho⟩,hx2,keep_new hB hkp hg⟩,Frm.keep hkp hf⟩
  have e1 : 1 + (n : Int) + 1 = 1 + ((n + 1 : Nat) : Int) := by omega
  have e2 : (n : Int) + 1 = ((n + 1 : Nat) : Int) := by omega
  rw [e1,e2] at hk2
  exact hk2
set_option maxHeartbeats 4000000 in
/-- core.Sync, of one that is pending. -/
theorem syn_calls (W0 : World) (b : Bks) (left : Int) (j : Int) (s : ByteArray) (es : Array MapEntry) (c : Nat) (dl : Int) (n : Nat) (X : World → Prop) (i : Ids) (w : World) (h : Sto W0 b left [.int .i64 j,.string s] es c dl n 1 1 X i w) (hlf : -1000 ≤ left ∧ left ≤ 0) (hfi : Instr.findNow (.int .i64) (.int .i64 j) es.toList 0 = some none) (hX : ∀ w' : World,Keep [b.i.d,b.m] w w' → X w') (hb : W0.heap.size ≤ b.i.d ∧ W0.heap.size ≤ b.m) :
 Calls Tryz.prog 183 #[.pointer (some ⟨b.i.co,0,none⟩)] w fun e w' => e = .returned (.int .i64 0) ∧ Sto W0 b (left - 1) [] (es.push { key := .int .i64 j,val := .agg #[.int .i64 j,.string s],born := c }) (c + 1) dl n 1 1 X i w' ∧ Frm w w' := by
 obtain ⟨rfl,⟨v,oo,ln,ff,x,z,hk,hp⟩,hx,hB⟩ := h
 obtain ⟨g,cap,cur,rfl,hh,hc⟩ := own_cells (show w.ownsRow 0 286 2 v 1 [.int .i64 j,.string s] from hp) (by decide)
 refine csync_calls b.i.co b.i.ix b.i.d b.i.l b.i.wh n _ w hk.hc ((dflush1_calls b.i.d b.m g cap left j s es _ c (c + 1) w hk.lg.hd hk.lg.hm ⟨hc 0 _ rfl,hc 1 _ rfl⟩ ⟨tne hh hk.lg.hd (by decide),map_ne hk.lg.hm hk.lg.hd⟩ hlf (fun W hW => run_up_no (key := .int .i64 j) (k := 3) (e := 286) (kd := .int .i64) (by kernel_rfl) (by kernel_rfl) rfl hW hfi)).mono ?_)
 rintro e w' ⟨rfl,hd,hm,hkp⟩
 exact ⟨rfl,⟨rfl,⟨_,oo,ln,ff,x,z,hk.flush hkp hd hm,rfl⟩,hX w' hkp,keep_new hB hkp (by intro q hq; simp at hq; omega)⟩,Frm.keep hkp (by intro q hq; simp at hq; rcases hq with rfl | rfl <;> first | exact .inr ⟨_,_,by decide,hk.lg.hd⟩ | exact .inl ⟨_,_,hk.lg.hm⟩)⟩
theorem Whn.cell {w : World} {wh : Nat} (h : Whn w wh) : w.cell? ⟨wh,0,none⟩ = some (.int .u64 0) := by
 obtain ⟨cs,h1,h2⟩ := h
 exact (blk_cell h1 0).trans h2
theorem Wnew.whn {w : World} {wh am : Nat} (h : Wnew wh am w) : Whn w wh := by
 obtain ⟨⟨fm,h1⟩,h2⟩ := h
 exact ⟨_,h1,rfl⟩
/-- What all acts lean on: where the blocks lie. -/
structure Far (W0 : World) (b : Bks) (wd : Nat) : Prop where
 wd : W0.heap.size ≤ wd
 all : ∀ q ∈ [b.i.k,b.i.d,b.i.l,b.nm,b.pm,b.i.co,b.i.wh,b.am,b.m],W0.heap.size ≤ q
theorem Sto.core {W0 : World} {b : Bks} {left : Int} {pe : List Value} {es : Array MapEntry} {c : Nat} {dl : Int} {n : Nat} {ep gen : Int} {X : World → Prop} {i : Ids} {w : World} (h : Sto W0 b left pe es c dl n ep gen X i w) : w.heap[i.co]? = some (.cells (coc i.ix i.d i.l i.wh i.ver) 132 (0,0)) := by
 obtain ⟨rfl,⟨v,oo,ln,ff,x,z,hk,hp⟩,hx,hB⟩ := h
 exact hk.hc
set_option maxHeartbeats 4000000 in
/-- A session is created. -/
theorem create_calls (W0 : World) (b : Bks) (wd : Nat) (left dl : Int) (es : Array MapEntry) (c : Nat) (X' : World → Prop) (s : ByteArray) (x : Nat) (i : Ids) (w : World) (hx : met x) (htx : tick x = dl) (hd9 : dl = 5 ∨ dl = 99) (hF : Far W0 b wd) (ha : At wd i w) (h : Sto W0 b left [] es c dl 0 1 1 (Wnew b.i.wh b.am) i w) (hlf : -1000 ≤ left ∧ left ≤ 0) (hs : s.size ≤ 64) (hX : Stab 0 X')
 (hset : ∀ W : World,Wnew b.i.wh b.am W → W0.heap.size ≤ W.heap.size → Calls Tryz.prog 215 #[.pointer (some ⟨b.i.wh,0,none⟩),.string idA,.int .u64 dl] W fun e w' => ∃ b2 : Bool,e = .returned (.bool b2) ∧ X' w' ∧ Keep [b.i.wh,b.am] W w') :
 Calls Tryz.prog 19 #[.pointer (some ⟨wd,0,none⟩),.agg #[.int .i64 0,.int .i64 0,.string idA,.string s,.float .f64 x,.int .i64 0,.int .u64 0,.slice none 0 0,.int .i64 0,.int .i64 0]] w fun e w' => e = .returned (.agg #[.int .i64 0,.string { data := #[] },.int .u64 dl,.int .i64 0,.int .i64 0]) ∧ Aft (Sto W0 b (left - 1) [.int .i64 2,.string (lrec 1 1 1 dl s).enc] es c dl 1 1 1 X') wd w w' := by
 have hA := hF.all
 simp at hA
 obtain ⟨rfl,⟨v,oo,ln,ff,y,z,hk,hp⟩,hw,hB⟩ := id h
 cases hp
 refine wask_calls W0.heap.size (Sto W0 b (left - 1) [.int .i64 2,.string (lrec 1 1 1 dl s).enc] es c dl 1 1 1 X') { b.i with ver := ((0 : Nat) : Int) } { b.i with ver := ((1 : Nat) : Int) } wd 0 dl 0 dl 0 dl 8 s { data := #[] } { data := #[] } { data := #[] } x false true w (Sto.sta hX.of0) hB.size hF.wd hA.1 ⟨rfl,rfl,rfl,rfl⟩ ha hk.hc hw.whn.cell hs (by decide) (fun W => valid_create s x W hs hx)
  (fun W hb => csess0_calls b.i.co b.i.ix b.i.d b.i.l b.i.wh b.nm b.pm 0 0 #[] W (blk_below hk.hc hb) (blk_below hk.hx hb) (blk_below hk.hn hb) (fun W2 h2 => nw_look 0 b.nm dl z W2 h2))
  (fun W => changes_create s x W) (fun _ W hb => lives0_calls b.i.ix b.nm b.pm 0 W (blk_below hk.hx hb) (blk_below hk.hn hb))
  (fun _ W hb => room_calls b.i.co b.i.ix b.i.d b.i.l b.i.wh 0 b.m oo ln ff left es c 0 y 1 1 1 W (blk_below hk.hc hb) (hk.lg.below hb) (.inl rfl))
  (fun _ W hb => dneed_calls b.i.k b.i.co b.i.ix b.i.d b.i.l b.i.wh 0 b.i.cl b.m oo ln ff left es c 0 y 1 1 1 W (blk_below ha.hk hb) (blk_below hk.hc hb) (blk_below ha.hc hb) (hk.lg.below hb)) (by decide)
  (fun W => htx ▸ ticks_calls x W hx) (by omega) (fun _ W hb => ?_) (fun h0 => absurd h0 (by decide)) (.inl ⟨rfl,rfl,rfl⟩) (.inl ⟨rfl,rfl,rfl,rfl⟩)
 have hs2 : Sto W0 b left [] es c dl 0 1 1 (Wnew b.i.wh b.am) { b.i with ver := ((0 : Nat) : Int) } W := ((Sto.sta Stab.wnew).st _).below _ _ h hb
 refine live_calls W0 b left es c dl 0 (Wnew b.i.wh b.am) X' s [b.i.wh,b.am] _ W (.inl rfl) hs2 hlf (by omega) hs hs2.x.whn (by intro q hq; simp at hq; omega) (by intro q hq; simp at hq; omega) hX (fun W2 kk => ?_)
 have hk1 := hk.below hb
 have hn := hk1.nd
 simp at hn
 obtain ⟨fm,hw1⟩ := hs2.x.1
 have hw2 : Wnew b.i.wh b.am W2 := hs2.x.keep kk (by simp [tne hw1 hk1.lg.hd (by decide),tne hw1 hk1.lg.hl (by decide),tne hw1 hk1.hc (by decide),(map_ne hk1.hn hw1).symm,(map_ne hk1.hp hw1).symm]) (by simp [map_ne hs2.x.2 hk1.lg.hd,map_ne hs2.x.2 hk1.lg.hl,map_ne hs2.x.2 hk1.hc]; omega)
 refine ⟨⟨⟨_,_,hw2.2⟩,?_⟩,hset W2 hw2 (Nat.le_trans hs2.b.size kk.size)⟩
 intro q hq
 obtain ⟨fm2,hw3⟩ := hw2.1
 simp at hq
 rcases hq with rfl | rfl
 ·exact .inr ⟨_,_,.inl rfl,hw3⟩
 ·exact .inl rfl
set_option maxHeartbeats 4000000 in
/-- A session's value is put. -/
theorem put_calls2 (W0 : World) (b : Bks) (wd : Nat) (left : Int) (es : Array MapEntry) (c q : Nat) (o s : ByteArray) (i : Ids) (w : World) (hF : Far W0 b wd) (ha : At wd i w) (h : Sto W0 b left [] es c 99 1 1 1 (fun W => ∃ g,Tim W b.i.wh b.am g ∧ W0.heap.size ≤ g) i w) (hlf : -1000 ≤ left ∧ left ≤ 0) (hs : s.size ≤ 64) (ho : o.size ≤ 64)
 (hf : Instr.findNow (.int .i64) (.int .i64 2) es.toList 0 = some (some (q,.agg #[.int .i64 2,.string (lrec 1 1 1 99 o).enc]))) :
 Calls Tryz.prog 19 #[.pointer (some ⟨wd,0,none⟩),.agg #[.int .i64 0,.int .i64 3,.string idA,.string s,.float .f64 0,.int .i64 0,.int .u64 0,.slice none 0 0,.int .i64 0,.int .i64 0]] w fun e w' => e = .returned (.agg #[.int .i64 0,.string { data := #[] },.int .u64 0,.int .i64 0,.int .i64 0]) ∧ Aft (Sto W0 b (left - 1) [.int .i64 3,.string (lrec 2 1 2 99 s).enc] es c 99 2 1 1 (fun W => Whn W b.i.wh)) wd w w' := by
 have hA := hF.all
 simp at hA
 obtain ⟨rfl,⟨v,oo,ln,ff,y,z,hk,hp⟩,hw,hB⟩ := id h
 cases hp
 obtain ⟨g,ht,hg⟩ := hw
 refine wask_calls W0.heap.size (Sto W0 b (left - 1) [.int .i64 3,.string (lrec 2 1 2 99 s).enc] es c 99 2 1 1 (fun W => Whn W b.i.wh)) { b.i with ver := ((1 : Nat) : Int) } { b.i with ver := ((2 : Nat) : Int) } wd 3 0 99 0 1 99 7 s idA o { data := #[] } 0 true true w (Sto.sta Stab.whn) hB.size hF.wd hA.1 ⟨rfl,rfl,rfl,rfl⟩ ha hk.hc ht.now.cell hs (by decide) (fun W => valid_put s W hs)
  (fun W hb => csess1_calls b.i.co b.i.ix b.i.d b.i.l b.i.wh b.nm b.pm 1 1 (nsI 99 z 1) 1 99 z b.m oo ln ff left es c q 1 y 2 1 1 0 1 1 1 99 o W (blk_below hk.hc hb) (blk_below hk.hx hb) (blk_below hk.hn hb) (fun W2 h2 => nw_look 1 b.nm 99 z W2 h2) (hk.lg.below hb) ⟨by decide,by decide,by decide,by decide,ho⟩ (by decide) hf)
  (fun W => changes_put s 0 W) (fun h0 => absurd h0 (by decide))
  (fun _ W hb => room_calls b.i.co b.i.ix b.i.d b.i.l b.i.wh 1 b.m oo ln ff left es c 1 y 2 1 1 W (blk_below hk.hc hb) (hk.lg.below hb) (.inr (.inl rfl)))
  (fun _ W hb => dneed_calls b.i.k b.i.co b.i.ix b.i.d b.i.l b.i.wh 1 b.i.cl b.m oo ln ff left es c 1 y 2 1 1 W (blk_below ha.hk hb) (blk_below hk.hc hb) (blk_below ha.hc hb) (hk.lg.below hb)) (by decide)
  (fun W => ticks0_calls W) (by decide) (fun _ W hb => ?_) (fun h0 => absurd h0 (by decide)) (.inr (.inl ⟨rfl,rfl,rfl⟩)) (.inr (.inl ⟨rfl,rfl,rfl,rfl⟩))
 have hs2 : Sto W0 b left [] es c 99 1 1 1 (fun W => ∃ g,Tim W b.i.wh b.am g ∧ W0.heap.size ≤ g) { b.i with ver := ((1 : Nat) : Int) } W := ((Sto.sta (Stab.tim (B := W0.heap.size))).st _).below _ _ h hb
 have ht2 : Tim W b.i.wh b.am g := ht.keep (Keep.below (L := []) hb) (by simp) (by simp) (by simp)
 refine live_calls W0 b left es c 99 1 _ (fun W => Whn W b.i.wh) s [b.i.wh,b.am,g] _ W (.inr rfl) hs2 hlf (by decide) hs ht2.now (by intro q hq; simp at hq; omega) (by intro q hq; simp at hq; omega) Stab.whn (fun W2 kk => ?_)
 have hk1 := hk.below hb
 have hn := hk1.nd
 simp at hn
 obtain ⟨⟨c1,hw1⟩,⟨c2,hw2⟩,e3,c3,hw3⟩ := ht2.blk
 have ht3 : Tim W2 b.i.wh b.am g := ht2.keep kk (by simp [tne hw1 hk1.lg.hd (by decide),tne hw1 hk1.lg.hl (by decide),tne hw1 hk1.hc (by decide),(map_ne hk1.hn hw1).symm,(map_ne hk1.hp hw1).symm]) (by simp [map_ne hw3 hk1.lg.hd,map_ne hw3 hk1.lg.hl,map_ne hw3 hk1.hc]; omega) (by simp [tne hw2 hk1.lg.hd (by decide),tne hw2 hk1.lg.hl (by decide),tne hw2 hk1.hc (by decide),(map_ne hk1.hn hw2).symm,(map_ne hk1.hp hw2).symm])
 obtain ⟨⟨d1,hv1⟩,⟨d2,hv2⟩,e4,c4,hv3⟩ := ht3.blk
 refine ⟨⟨⟨_,_,hv3⟩,?_⟩,(set1_99 b.i.wh b.am g W2 ht3).mono ?_⟩
 ·intro q hq
  simp at hq
  rcases hq with rfl | rfl | rfl
  ·exact .inr ⟨_,_,.inl rfl,hv1⟩
  ·exact .inl rfl
  ·exact .inr ⟨_,_,.inr rfl,hv2⟩
 ·rintro e w' ⟨rfl,h1,h2⟩
  exact ⟨_,rfl,h1,h2⟩
set_option maxHeartbeats 4000000 in
/-- A session is asked for. -/
theorem get_calls2 (W0 : World) (b : Bks) (wd : Nat) (left dl : Int) (es : Array MapEntry) (c q n : Nat) (s : ByteArray) (i : Ids) (w : World) (hn : n = 1 ∨ n = 2) (hd9 : dl = 5 ∨ dl = 99) (hwd : W0.heap.size ≤ wd) (hkB : W0.heap.size ≤ i.k) (ha : At wd i w) (h : Sto W0 b left [] es c dl n 2 2 (fun W => Whn W b.i.wh) i w) (hs : s.size ≤ 64)
 (hf : Instr.findNow (.int .i64) (.int .i64 (1 + (n : Int))) es.toList 0 = some (some (q,.agg #[.int .i64 (1 + (n : Int)),.string (lrec n 1 n dl s).enc]))) :
 Calls Tryz.prog 19 #[.pointer (some ⟨wd,0,none⟩),.agg #[.int .i64 0,.int .i64 1,.string idA,.string { data := #[] },.float .f64 0,.int .i64 0,.int .u64 0,.slice none 0 0,.int .i64 0,.int .i64 0]] w fun e w' => e = .returned (.agg #[.int .i64 0,.string s,.int .u64 dl,.int .i64 0,.int .i64 0]) ∧ Aft (Sto W0 b left [] es c dl n 2 2 (fun W => Whn W b.i.wh)) wd w w' := by
 obtain ⟨rfl,⟨v,oo,ln,ff,y,z,hk,hp⟩,hw,hB⟩ := id h
 cases hp
 refine wask_calls W0.heap.size (Sto W0 b left [] es c dl n 2 2 (fun W => Whn W b.i.wh)) { b.i with ver := (n : Int) } { b.i with ver := (n : Int) } wd 1 dl dl 0 1 0 8 { data := #[] } idA s s 0 true false w (Sto.sta Stab.whn) hB.size hwd hkB ⟨rfl,rfl,rfl,rfl⟩ ha hk.hc hw.cell (by decide) (by decide) (fun W => valid_get { data := #[] } W (by decide))
  (fun W hb => csess1_calls b.i.co b.i.ix b.i.d b.i.l b.i.wh b.nm b.pm (cnI n) n (nsI dl z n) n dl z b.m oo ln ff left es c q n y (1 + (n : Int)) 2 2 ((n : Int) - 1) n 1 n dl s W (blk_below hk.hc hb) (blk_below hk.hx hb) (blk_below hk.hn hb) (fun W2 h2 => by have := nw_look n b.nm dl z W2 h2; rcases hn with rfl | rfl <;> exact this) (hk.lg.below hb) ⟨by omega,by decide,by omega,by omega,hs⟩ (by omega) (by rw [show (2 : Int) + ((n : Int) - 1) = 1 + (n : Int) by omega]; exact hf))
  (fun W => changes_get { data := #[] } 0 W) (fun h0 => absurd h0 (by decide)) (fun h0 => absurd h0 (by decide)) (fun h0 => absurd h0 (by decide)) (by decide)
  (fun W => ticks0_calls W) (by decide) (fun h0 => absurd rfl h0) (fun _ W hb => ((Sto.sta Stab.whn).st _).below _ _ h hb) (.inr (.inr ⟨rfl,rfl,rfl⟩)) (.inr (.inr ⟨rfl,rfl,rfl⟩))
end Go.Proofs.YtokfjbbjkiilmaaGreatDoor.H
namespace Go.Proofs.YtokfjbbjkiilmaaGreatDoor.H
open Go.RowKit Go.Proofs.YtokfjbbjkiilmaaGreatDoorW.PrintWords Go.Proofs.YtokfjbbjkiilmaaGreatDoorW.PrintLast Go.Proofs.YtokfjbbjkiilmaaGreatDoorW.PrintMore
/-- A store that was opened. -/
def PF (W0 : World) (es : Array MapEntry) (c : Nat) (dl : Int) (n : Nat) (i : Ids) (W : World) : Prop := W0.heap.size ≤ i.k ∧ ∃ b : Bks,Sto W0 b (-3) [] es c dl n 2 2 (fun W => Whn W b.i.wh) i W
theorem PF.sta {W0 : World} {es : Array MapEntry} {c : Nat} {dl : Int} {n : Nat} : Sta W0.heap.size (PF W0 es c dl n) where
 st i := {
  below := fun W W' h hb => by
   obtain ⟨h1,b,h2⟩ := h
   exact ⟨h1,b,((Sto.sta Stab.whn).st i).below _ _ h2 hb⟩
  row := fun W W' g t cs h hg ht hr kk => by
   obtain ⟨h1,b,h2⟩ := h
   exact ⟨h1,b,((Sto.sta Stab.whn).st i).row _ _ _ _ _ h2 hg ht hr kk⟩ }
 co i W h := by
  obtain ⟨h1,b,h2⟩ := h
  exact h2.core
/-- A disk's sector, by its map. -/
theorem Dsk.rd {W0 : World} {d m : Nat} {es : Array MapEntry} {c : Nat} {W : World} (h : Dsk W0 d m es c W) (j : Int) (s : ByteArray) (hf : (∃ q,Instr.findNow (.int .i64) (.int .i64 j) es.toList 0 = some (some (q,.agg #[.int .i64 j,.string s]))) ∨ Instr.findNow (.int .i64) (.int .i64 j) es.toList 0 = some none ∧ s = zsec) : Rd W d j s := by
 intro W2 hb
 rcases hf with ⟨q,hf⟩ | ⟨hf,rfl⟩
 ·exact dholds_calls d m 0 (.slice none 0 0) j s es c q W2 (blk_below h.hd hb) (blk_below h.hm hb) hf
 ·exact dholds_no d m 0 (.slice none 0 0) j es c W2 (blk_below h.hd hb) (blk_below h.hm hb) hf
set_option maxHeartbeats 4000000 in
/-- A crash, what the disk's does told. -/
theorem crash_step (W0 : World) (b : Bks) (wd : Nat) (left dl : Int) (es es' : Array MapEntry) (c n' n q1 : Nat) (j at_ : Int) (s send : ByteArray) (vs : Nat → ByteArray) (kp : Option Addr) (kl : Nat) (X : World → Prop) (i : Ids) (w : World) (hF : Far W0 b wd) (ha : At wd i w) (h : Sto W0 b left [.int .i64 j,.string s] es c dl n' 1 1 X i w) (hl : kl ≤ 255) (hat : 0 ≤ at_ ∧ at_ ≤ 128)
 (hke : ∀ W,Below w.heap.size w W → Calls Tryz.prog 132 #[.slice kp kl kl,.slice kp kl kl] W fun e w' => e = .returned (.bool true) ∧ ∃ m,w' = W.drewN m)
 (hcr : ∀ (W : World) (g cap : Nat),Below w.heap.size w W → W.heap[b.i.d]? = some (.cells (dkc left b.m (.slice (some ⟨g,0,none⟩) 1 cap)) 108 (0,0)) → W.heap[b.m]? = some (.map es c) → (W.cell? ⟨g,0,none⟩ = some (.int .i64 j) ∧ W.cell? ⟨g,1,none⟩ = some (.string s)) → (g ≠ b.i.d ∧ b.m ≠ b.i.d) →
  Calls Tryz.prog 136 #[.pointer (some ⟨b.i.d,0,none⟩),(.slice kp kl kl),.int .i64 0,.int .i64 at_] W fun e w' => e = .returned (.tuple #[]) ∧ w'.heap[b.i.d]? = some (.cells (dkc 0 b.m (.slice none 0 0)) 108 (0,0)) ∧ w'.heap[b.m]? = some (.map es' (c + 1)) ∧ Keep [b.i.d,b.m] W w')
 (hn2 : n = 1 ∨ n = 2) (hfi : Instr.findNow (.int .i64) (.int .i64 0) es'.toList 0 = some none) (h1 : Instr.findNow (.int .i64) (.int .i64 1) es'.toList 0 = some (some (q1,.agg #[.int .i64 1,.string (ckS 1 1 1 0 0)])))
 (hrd : ∀ k : Nat,k < n → lok (1 + k) 1 (1 + k) dl (vs k) ∧ ∃ q,Instr.findNow (.int .i64) (.int .i64 (2 + k)) es'.toList 0 = some (some (q,.agg #[.int .i64 (2 + k),.string (lrec (1 + k) 1 (1 + k) dl (vs k)).enc])))
 (hend : send.size = 128 ∧ sb send 124 = 0 ∧ ((∃ q,Instr.findNow (.int .i64) (.int .i64 (2 + n)) es'.toList 0 = some (some (q,.agg #[.int .i64 (2 + n),.string send]))) ∨ Instr.findNow (.int .i64) (.int .i64 (2 + n)) es'.toList 0 = some none ∧ send = zsec)) (hd9 : dl = 5 ∨ dl = 99) :
 Calls Tryz.prog 19 #[.pointer (some ⟨wd,0,none⟩),.agg #[.int .i64 5,.int .i64 0,.string { data := #[] },.string { data := #[] },.float .f64 0,.int .i64 0,.int .u64 0,(.slice kp kl kl),.int .i64 0,.int .i64 at_]] w fun e w' => e = .returned (.agg #[.int .i64 0,.string { data := #[] },.int .u64 0,.int .i64 0,.int .i64 0]) ∧
  Aft (PF W0 (es'.push { key := .int .i64 0,val := .agg #[.int .i64 0,.string (ckS 2 2 (1 + n) n n)],born := c + 1 }) (c + 2) dl n) wd w w' := by
 have hA := hF.all
 simp at hA
 obtain ⟨rfl,⟨v,oo,ln,ff,y,z,hk,hp⟩,hw,hB⟩ := id h
 obtain ⟨g,cap,cur,rfl,hh,hc⟩ := own_cells (show w.ownsRow 0 286 2 v 1 [.int .i64 j,.string s] from hp) (by decide)
 refine wcra_calls W0.heap.size _ (Dsk W0 b.i.d b.m es' (c + 1)) { b.i with ver := (n' : Int) } wd at_ kp kl w PF.sta Stab.dsk hB.size hF.wd ha hl hat hke (fun W hb => ?_) (fun W hD => ?_)
 ·refine (hcr W g cap hb (blk_below hk.lg.hd hb) (blk_below hk.lg.hm hb) ⟨cell_below hb (hc 0 _ rfl),cell_below hb (hc 1 _ rfl)⟩ ⟨tne hh hk.lg.hd (by decide),map_ne hk.lg.hm hk.lg.hd⟩).mono ?_
  rintro e w' ⟨rfl,a1,a2,a3⟩
  refine ⟨rfl,⟨a1,a2,keep_new (below_step hB hb) a3 (by intro q hq; simp at hq; omega)⟩,Frm.keep a3 ?_⟩
  intro q hq
  simp at hq
  rcases hq with rfl | rfl
  ·exact .inr ⟨_,_,by decide,blk_below hk.lg.hd hb⟩
  ·exact .inl ⟨_,_,blk_below hk.lg.hm hb⟩
 ·refine (dopen_calls b.i.d b.m n 0 dl vs send es' (c + 1) W hn2 hD.hd hD.hm (by decide) hfi (hD.rd 0 zsec (.inr ⟨hfi,rfl⟩)) (hD.rd 1 _ (.inl ⟨q1,h1⟩)) (fun k hk => ⟨(hrd k hk).1,hD.rd _ _ (.inl (hrd k hk).2)⟩) ⟨hend.1,hend.2.1,hD.rd _ _ hend.2.2⟩ (by omega) (fun wh fm am W2 h2 h3 => ?_)).mono ?_
  ·rcases hd9 with rfl | rfl
   ·refine (set0_5 wh fm am W2 h2 h3).mono ?_
    rintro e w' ⟨rfl,a,b⟩
    exact ⟨_,rfl,a,b⟩
   ·refine (set0_99 wh fm am W2 h2 h3).mono ?_
    rintro e w' ⟨rfl,⟨g,a,_⟩,b⟩
    exact ⟨_,rfl,a.now,b⟩
  ·rintro e w' ⟨k,cl,co,ix,l,wh,nm,pm,am,oo2,ln2,ff2,z2,rfl,hks,hkk,hwn,hkp,hge⟩
   refine ⟨⟨k,co,cl,ix,b.i.d,l,wh,n⟩,rfl,rfl,⟨Nat.le_trans hD.b.size hge,⟨⟨k,co,cl,ix,b.i.d,l,wh,n⟩,nm,pm,am,b.m⟩,rfl,⟨_,oo2,ln2,ff2,1,z2,hks,rfl⟩,hwn,keep_new hD.b hkp (by intro q hq; simp at hq; omega)⟩,hkk.1,hkk.2,Frm.keep hkp ?_⟩
   intro q hq
   simp at hq
   rcases hq with rfl | rfl
   ·exact .inr ⟨_,_,by decide,hD.hd⟩
   ·exact .inl ⟨_,_,hD.hm⟩
end Go.Proofs.YtokfjbbjkiilmaaGreatDoor.H
namespace Go.Proofs.YtokfjbbjkiilmaaGreatDoor.H
open Go.RowKit Go.Proofs.YtokfjbbjkiilmaaGreatDoorW.PrintWords Go.Proofs.YtokfjbbjkiilmaaGreatDoorW.PrintLast Go.Proofs.YtokfjbbjkiilmaaGreatDoorW.PrintMore
set_option maxHeartbeats 4000000 in
set_option maxRecDepth 100000 in
theorem eqone_calls (g : Nat) (w : World) (hc : w.cell? ⟨g,0,none⟩ = some (.bool true)) :
 Calls Tryz.prog 132 #[.slice (some ⟨g,0,none⟩) 1 1,.slice (some ⟨g,0,none⟩) 1 1] w fun e w' => e = .returned (.bool true) ∧ ∃ m,w' = w.drewN m := by
 have HC := Aside0.mk hc
 clear hc
 go_enter Tryz.func132,Tryz.ntmps132
 go_wp2_with fail
 go_loopw [13] (fun v wr => (v = .int .i64 0 ∧ wr = w ∨ v = .int .i64 1 ∧ ∃ m,wr = w.drewN m)) (fun v _ => 1 - (intOf v).toNat)
 case atStart => exact .inl ⟨rfl,rfl⟩
 case round =>
  rcases hrel with ⟨rfl,rfl⟩ | ⟨rfl,m,rfl⟩
  ·have c0 := HC.out
   go_wp2_with fail
   go_quiet (fail)
   go_wp2_with fail
   exact ⟨.inr ⟨rfl,_,rfl⟩,by decide⟩
  ·go_wp2_with fail
   go_ret
   exact ⟨rfl,_,rfl⟩
end Go.Proofs.YtokfjbbjkiilmaaGreatDoor.H
namespace Go.Proofs.YtokfjbbjkiilmaaGreatDoor.H
open Go.RowKit Go.Proofs.YtokfjbbjkiilmaaGreatDoorW.PrintWords Go.Proofs.YtokfjbbjkiilmaaGreatDoorW.PrintLast Go.Proofs.YtokfjbbjkiilmaaGreatDoorW.PrintMore
set_option maxHeartbeats 8000000
set_option maxRecDepth 100000
attribute [local go_sem] max2_int min2_int min_two max_two
/-- A new store. -/
theorem start_calls (w W : World) (hb : Below w.heap.size w W) : Calls Tryz.prog 17 #[.agg cnf] W fun e w' => ∃ (b : Bks) (wd : Nat),e = .returned (.tuple #[.pointer (some ⟨wd,0,none⟩),.int .i64 0]) ∧ Far w b wd ∧ At wd { b.i with ver := ((0 : Nat) : Int) } w' ∧ ∀ dl : Int,Sto w b (-3) [] es1 1 dl 0 1 1 (Wnew b.i.wh b.am) { b.i with ver := ((0 : Nat) : Int) } w' := by
 refine (wonew_calls W).mono ?_
 rintro e w' ⟨wd,i,nm,pm,am,m,oo,ln,ff,fm,rfl,hr,hk,hkk,hwh,ham,hb2,hwd,hge⟩
 have hB : w.heap.size ≤ W.heap.size := hb.size
 refine ⟨⟨i,nm,pm,am,m⟩,wd,rfl,⟨Nat.le_trans hB hwd,fun q hq => Nat.le_trans hB (hge q ?_)⟩,⟨hr,hkk.1,hkk.2⟩,fun dl => ⟨rfl,⟨_,oo,ln,ff,1,0,hk,rfl⟩,⟨⟨fm,hwh⟩,ham⟩,below_step hb hb2⟩⟩
 simp at hq ⊢
 rcases hq with h | h | h | h | h | h | h | h | h <;> simp [h]
theorem fixed_calls (w : World) :
 Calls Tryz.prog 7 #[] w fun e w' => e = .returned (.bool true) ∧ Below w.heap.size w w' := by
 go_enter Tryz.func7,Tryz.ntmps7
 go_wp2_with fail
 refine (tconf_calls _).mono ?_
 rintro e_ W1 ⟨rfl,hb⟩
 go_wp2_with fail
 refine (start_calls w _ hb).mono ?_
 rintro e_ W2 ⟨b,wd,rfl,hF,hA,hS⟩
 have HF := Aside0.mk hF
 have HA := Aside0.mk hA
 have HS := Aside0.mk (hS 5)
 clear hF hA hS hb
 go_wp2_with fail
 refine (create_calls w b wd (-3) 5 es1 1 (fun W => Whn W b.i.wh) ({ data := #[118] } : ByteArray) 4617315517961601024 _ _ (.inr (.inr (.inl rfl))) rfl (.inl rfl) HF.out HA.out HS.out (by decide) (by decide) Stab.whn (fun W hw _ => ?_)).mono ?_
 ·obtain ⟨⟨fm,h1⟩,h2⟩ := hw
  refine (set0_5 b.i.wh fm b.am W h1 h2).mono ?_
  rintro e w' ⟨rfl,h3,h4⟩
  exact ⟨_,rfl,h3,h4⟩
 rintro e_ W3 ⟨rfl,i3,hs,ha,hf⟩
 rw [show (-3 : Int) - 1 = -4 from rfl] at hs
 replace HS := Aside0.mk hs
 replace HA := Aside0.mk ha
 clear hs ha hf
 go_upto_region 5 with (refine sr_ 3 20 #[.int .i64 0,.string { data := #[] },.int .u64 5,.int .i64 0,.int .i64 0] (blk_new W3 (.cells #[.int .i64 0,.string { data := #[] },.int .u64 0,.int .i64 0,.int .i64 0] 59)) ?_)
 obtain ⟨W4,hW_⟩ : ∃ W_,W_ = ((W3.alloc (.cells #[.int .i64 0,.string { data := #[] },.int .u64 0,.int .i64 0,.int .i64 0] 59)).setRow W3.heap.size #[.int .i64 0,.string { data := #[] },.int .u64 5,.int .i64 0,.int .i64 0]) := ⟨_,rfl⟩
 rw [← hW_]
 obtain ⟨g3,hg_⟩ : ∃ g_,g_ = W3.heap.size := ⟨_,rfl⟩
 have q_ : W4.heap[g3]? = some (.cells #[.int .i64 0,.string { data := #[] },.int .u64 5,.int .i64 0,.int .i64 0] 59 (0,0)) := by rw [hW_,hg_]; exact setRow_heap _ _ _ _ _ _ (blk_new W3 _)
 have H3 := Aside0.mk q_
 have hb : Below W3.heap.size W3 W4 := by rw [hW_]; exact below_setRow (below_alloc (Below.refl _ _) _) (Nat.le_refl _) _
 rw [← hg_]
 clear hg_ hW_ q_
 replace HS := Aside0.mk (((Sto.sta Stab.whn).st _).below _ _ HS.out hb)
 replace HA := Aside0.mk (HA.out.below hb)
 clear hb
 go_wp2_with fail
 have hb5 := below_alloc (Below.refl W4.heap.size W4) (.cells #[.bool true] 4)
 have hk5 := (blk_cell (blk_new W4 (.cells #[.bool true] 4)) 0).trans rfl
 obtain ⟨gk,hgk⟩ : ∃ g_,g_ = W4.heap.size := ⟨_,rfl⟩
 obtain ⟨W5,hW5⟩ : ∃ W_,W_ = W4.alloc (.cells #[.bool true] 4) := ⟨_,rfl⟩
 rw [← hW5] at hb5 hk5 ⊢
 have HK : Aside0 (W5.cell? ⟨gk,0,none⟩ = some (.bool true)) := ⟨by rw [hgk]; exact hk5⟩
 rw [← hgk]
 clear hk5 hgk hW5
 replace HS := Aside0.mk (((Sto.sta Stab.whn).st _).below _ _ HS.out hb5)
 replace HA := Aside0.mk (HA.out.below hb5)
 replace H3 := mb H3 hb5
 clear hb5
 refine (crash_step w b wd (-4) 5 es1 (es1.push { key := .int .i64 2,val := .agg #[.int .i64 2,.string (lrec 1 1 1 5 ({ data := #[118] } : ByteArray)).enc],born := 1 }) 1 1 1 0 2 0 (lrec 1 1 1 5 ({ data := #[118] } : ByteArray)).enc zsec (fun _ => ({ data := #[118] } : ByteArray)) (some ⟨gk,0,none⟩) 1 _ _ _ HF.out HA.out HS.out (by decide) (by decide) (fun W hb => eqone_calls gk W (cell_below hb HK.out)) (fun W g cap hb h1 h2 h3 h4 => crash_keep b.i.d b.m (-4) g cap 2 (lrec 1 1 1 5 ({ data := #[118] } : ByteArray)).enc ⟨gk,0,none⟩ es1 1 W h1 h2 rfl h3 h4 (cell_below hb HK.out)) (.inl rfl) rfl rfl (fun k hk => ?_) ⟨by decide,sb_zsec 124,.inr ⟨rfl,rfl⟩⟩ (.inl rfl)).mono ?_
 ·obtain rfl : k = 0 := by omega
  exact ⟨⟨by decide,by decide,by decide,by decide,by decide⟩,1,rfl⟩
 rintro e_ W6 ⟨rfl,i6,hs,ha,hf⟩
 replace H3 := Aside0.mk (hf.row _ _ _ (by decide) (tne H3.out HA.out.hw (by decide)) H3.out)
 obtain ⟨hk6,b6,hs6⟩ := hs
 replace HS := Aside0.mk hs6
 have HK6 := Aside0.mk hk6
 replace HA := Aside0.mk ha
 clear hk6 hs6 ha hf HK
 go_upto_region 6 with (refine sr_ 4 24 #[.int .i64 0,.string { data := #[] },.int .u64 0,.int .i64 0,.int .i64 0] (blk_new W6 (.cells #[.int .i64 0,.string { data := #[] },.int .u64 0,.int .i64 0,.int .i64 0] 59)) ?_)
 obtain ⟨W7,hW_⟩ : ∃ W_,W_ = ((W6.alloc (.cells #[.int .i64 0,.string { data := #[] },.int .u64 0,.int .i64 0,.int .i64 0] 59)).setRow W6.heap.size #[.int .i64 0,.string { data := #[] },.int .u64 0,.int .i64 0,.int .i64 0]) := ⟨_,rfl⟩
 rw [← hW_]
 obtain ⟨g4,hg_⟩ : ∃ g_,g_ = W6.heap.size := ⟨_,rfl⟩
 have q_ : W7.heap[g4]? = some (.cells #[.int .i64 0,.string { data := #[] },.int .u64 0,.int .i64 0,.int .i64 0] 59 (0,0)) := by rw [hW_,hg_]; exact setRow_heap _ _ _ _ _ _ (blk_new W6 _)
 have H4 := Aside0.mk q_
 have hb : Below W6.heap.size W6 W7 := by rw [hW_]; exact below_setRow (below_alloc (Below.refl _ _) _) (Nat.le_refl _) _
 rw [← hg_]
 clear hg_ hW_ q_
 replace H3 := mb H3 hb
 replace HS := Aside0.mk (((Sto.sta Stab.whn).st _).below _ _ HS.out hb)
 replace HA := Aside0.mk (HA.out.below hb)
 clear hb
 go_wp2_with fail
 refine (get_calls2 w b6 wd (-3) 5 _ _ 1 1 ({ data := #[118] } : ByteArray) _ _ (.inl rfl) (.inl rfl) HF.out.wd HK6.out HA.out HS.out (by decide) rfl).mono ?_
 rintro e_ W8 ⟨rfl,i8,hs,ha,hf⟩
 replace H3 := Aside0.mk (hf.row _ _ _ (by decide) (tne H3.out HA.out.hw (by decide)) H3.out)
 replace H4 := Aside0.mk (hf.row _ _ _ (by decide) (tne H4.out HA.out.hw (by decide)) H4.out)
 replace HS := Aside0.mk (hs)
 replace HA := Aside0.mk (ha)
 clear hs ha hf
 go_upto_region 7 with (refine sr_ 5 28 #[.int .i64 0,.string ({ data := #[118] } : ByteArray),.int .u64 5,.int .i64 0,.int .i64 0] (blk_new W8 (.cells #[.int .i64 0,.string { data := #[] },.int .u64 0,.int .i64 0,.int .i64 0] 59)) ?_)
 obtain ⟨W9,hW_⟩ : ∃ W_,W_ = ((W8.alloc (.cells #[.int .i64 0,.string { data := #[] },.int .u64 0,.int .i64 0,.int .i64 0] 59)).setRow W8.heap.size #[.int .i64 0,.string ({ data := #[118] } : ByteArray),.int .u64 5,.int .i64 0,.int .i64 0]) := ⟨_,rfl⟩
 rw [← hW_]
 obtain ⟨g5,hg_⟩ : ∃ g_,g_ = W8.heap.size := ⟨_,rfl⟩
 have q_ : W9.heap[g5]? = some (.cells #[.int .i64 0,.string ({ data := #[118] } : ByteArray),.int .u64 5,.int .i64 0,.int .i64 0] 59 (0,0)) := by rw [hW_,hg_]; exact setRow_heap _ _ _ _ _ _ (blk_new W8 _)
 have H5 := Aside0.mk q_
 have hb : Below W8.heap.size W8 W9 := by rw [hW_]; exact below_setRow (below_alloc (Below.refl _ _) _) (Nat.le_refl _) _
 rw [← hg_]
 clear hg_ hW_ q_
 replace H3 := mb H3 hb
 replace H4 := mb H4 hb
 replace HS := Aside0.mk (((Sto.sta Stab.whn).st _).below _ _ HS.out hb)
 replace HA := Aside0.mk (HA.out.below hb)
 clear hb
 have a0 : W9.cell? ⟨g3,0,none⟩ = some (.int .i64 0) := cL H3 0 rfl
 have a1 : W9.cell? ⟨g3,1,none⟩ = some (.string { data := #[] }) := cL H3 1 rfl
 have a2 : W9.cell? ⟨g3,2,none⟩ = some (.int .u64 5) := cL H3 2 rfl
 have a3 : W9.cell? ⟨g3,3,none⟩ = some (.int .i64 0) := cL H3 3 rfl
 have a4 : W9.cell? ⟨g3,4,none⟩ = some (.int .i64 0) := cL H3 4 rfl
 have b0 : W9.cell? ⟨g4,0,none⟩ = some (.int .i64 0) := cL H4 0 rfl
 have b1 : W9.cell? ⟨g4,1,none⟩ = some (.string { data := #[] }) := cL H4 1 rfl
 have b2 : W9.cell? ⟨g4,2,none⟩ = some (.int .u64 0) := cL H4 2 rfl
 have b3 : W9.cell? ⟨g4,3,none⟩ = some (.int .i64 0) := cL H4 3 rfl
 have b4 : W9.cell? ⟨g4,4,none⟩ = some (.int .i64 0) := cL H4 4 rfl
 have c0 : W9.cell? ⟨g5,0,none⟩ = some (.int .i64 0) := cL H5 0 rfl
 have c1 : W9.cell? ⟨g5,1,none⟩ = some (.string ({ data := #[118] } : ByteArray)) := cL H5 1 rfl
 have c2 : W9.cell? ⟨g5,2,none⟩ = some (.int .u64 5) := cL H5 2 rfl
 have c3 : W9.cell? ⟨g5,3,none⟩ = some (.int .i64 0) := cL H5 3 rfl
 have c4 : W9.cell? ⟨g5,4,none⟩ = some (.int .i64 0) := cL H5 4 rfl
 go_wp2_with fail
 refine (tconf_calls _).mono ?_
 rintro e_ Wa ⟨rfl,hb⟩
 go_wp2_with fail
 refine (bound_calls _).mono ?_
 rintro e_ Wb ⟨rfl,hb2⟩
 go_wp2_with fail
 go_ret
 exact ⟨rfl,below_step (below_step HS.out.b hb) hb2⟩
end Go.Proofs.YtokfjbbjkiilmaaGreatDoor.H
