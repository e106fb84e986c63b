/-
TopTorn: part of its walk (Fw).
-/
import Derived.Test.YtokfjbbjkiilmaaGreatDoorTP
import Derived.WalkMore
set_option linter.unusedVariables false
set_option linter.unusedSimpArgs false
namespace Go.Proofs.YtokfjbbjkiilmaaGreatDoor.H
open Go.RowKit Go.Proofs.YtokfjbbjkiilmaaGreatDoorW.PrintWords Go.Proofs.YtokfjbbjkiilmaaGreatDoorW.PrintLast Go.Proofs.YtokfjbbjkiilmaaGreatDoorW.PrintMore
set_option maxHeartbeats 8000000
set_option maxRecDepth 100000
attribute [local go_sem] max2_int min2_int min_two max_two
/-- What the first n records are, as they are found. -/
def xsF (dl : Int) (vs : Nat → ByteArray) : Nat → List Value
 | 0 => []
 | j + 1 => xsF dl vs j ++ [.int .i64 0,.int .i64 j,.int .u64 (1 + j),.int .u32 1,.int .i64 1,.int .u64 (1 + j),.int .u64 dl,.string idA,.string (vs j)]
/-- An image that has found j records. -/
structure Fwd (w0 w : World) (g o1 d1 l1 e1 : Nat) (dl : Int) (vs : Nat → ByteArray) (j oo c1 ln c2 ff c3 : Nat) (fv : Value) (ro rn rf : Array Value) : Prop where
 hg : w.heap[g]? = some (.cells (img o1 d1 l1 e1 oo c1 ln c2 ff c3 (1 + j) j fv) 323 (0,0))
 ho : w.heap[oo]? = some (.cells ro 3 (0,0))
 hn : w.heap[ln]? = some (.cells rn 3 (0,0))
 hf : w.heap[ff]? = some (.cells rf 35 (0,0))
 r0 : ro[0]? = some (.int .i64 0)
 r1 : rn[0]? = some (.int .i64 j)
 r2 : rf[0]? = some (.int .u64 1)
 cp : 1 ≤ c1
 own : w.ownsRow w0.heap.size 327 9 fv j (xsF dl vs j)
 fin : j = 0 ∨ (ro = #[.int .i64 0] ∧ rn = #[.int .i64 j] ∧ rf = #[.int .u64 1] ∧ c1 = 1 ∧ c2 = 1 ∧ c3 = 1 ∧ oo ≠ ln)
 bel : Keep [g] w0 w
section
variable {w0 w w' : World} {g o1 d1 l1 e1 : Nat} {dl : Int} {vs : Nat → ByteArray} {j oo c1 ln c2 ff c3 : Nat} {fv : Value} {ro rn rf : Array Value}
theorem ownB_keep {b e z n : Nat} {v : Value} {xs : List Value} (h : w.ownsRow b e z v n xs) (hk : ∀ k,v.ownBlock = some k → w'.heap[k]? = w.heap[k]?) : w'.ownsRow b e z v n xs := by
 obtain ⟨h1,h2⟩ := h
 refine ⟨h1,?_⟩
 rcases h2 with h2 | ⟨g,cap,cur,rfl,hb,hh,hr⟩
 ·exact .inl h2
 ·exact .inr ⟨g,cap,cur,rfl,hb,(hk g rfl).trans hh,hr⟩
theorem ownB_0 {b e z n : Nat} {v : Value} {xs : List Value} (h : w.ownsRow b e z v n xs) : w.ownsRow 0 e z v n xs := ⟨h.1,h.2.imp id (fun ⟨g,cap,cur,e,_,r⟩ => ⟨g,cap,cur,e,Nat.zero_le _,r⟩)⟩
theorem ownB_le {b e z n : Nat} {v : Value} {xs : List Value} (h : w.ownsRow b e z v n xs) : ∀ k,v.ownBlock = some k → b ≤ k := fun k hk => by
 rcases h.2 with ⟨rfl,_⟩ | ⟨g,cap,cur,rfl,hb,_⟩
 ·cases hk
 ·cases hk; exact hb
theorem Fwd.below (h : Fwd w0 w g o1 d1 l1 e1 dl vs j oo c1 ln c2 ff c3 fv ro rn rf) (hb : Below w.heap.size w w') : Fwd w0 w' g o1 d1 l1 e1 dl vs j oo c1 ln c2 ff c3 fv ro rn rf :=
 ⟨blk_below h.hg hb,blk_below h.ho hb,blk_below h.hn hb,blk_below h.hf hb,h.r0,h.r1,h.r2,h.cp,ownB_keep h.own (fun k hk => hb.block k (own_lt (ownB_0 h.own) k hk)),h.fin,h.bel.trans (Keep.below hb)⟩
/-- A row of another type, in a new block, is stored to. -/
theorem Fwd.row {a t : Nat} {old cs : Array Value} (h : Fwd w0 w g o1 d1 l1 e1 dl vs j oo c1 ln c2 ff c3 fv ro rn rf) (ha : w.heap[a]? = some (.cells old t (0,0))) (ht : t ∉ [323,3,35,327]) (hw : w0.heap.size ≤ a) : Fwd w0 (w.setRow a cs) g o1 d1 l1 e1 dl vs j oo c1 ln c2 ff c3 fv ro rn rf := by
 simp at ht
 obtain ⟨t1,t2,t3,t4⟩ := ht
 exact ⟨mR cs h.hg (tne h.hg ha (Ne.symm t1)),mR cs h.ho (tne h.ho ha (Ne.symm t2)),mR cs h.hn (tne h.hn ha (Ne.symm t2)),mR cs h.hf (tne h.hf ha (Ne.symm t3)),h.r0,h.r1,h.r2,h.cp,ownB_keep h.own (fun k hk => setRow_other w a k cs (own_ne (ownB_0 h.own) ha t4 k hk)),h.fin,h.bel.setRow _ (.inr hw)⟩
end
theorem img_table {W : World} {g o1 d1 l1 e1 oo c1 ln c2 ff c3 ao k1 al k2 af k3 : Nat} {lsn ver : Int} {fv : Value} (h : W.heap[g]? = some (.cells (img o1 d1 l1 e1 oo c1 ln c2 ff c3 lsn ver fv) 323 (0,0))) :
 ((((W.setCell ⟨g,6,none⟩ (.int .i64 4)).setCell ⟨g,7,none⟩ (.int .i64 2)).setCell ⟨g,8,none⟩ (.slice (some ⟨ao,0,none⟩) 1 k1)).setCell ⟨g,9,none⟩ (.slice (some ⟨al,0,none⟩) 1 k2)).setCell ⟨g,10,none⟩ (.slice (some ⟨af,0,none⟩) 1 k3) = W.setRow g (img o1 d1 l1 e1 ao k1 al k2 af k3 lsn ver fv) :=
 setCells_eq (o := 6) (vs := [.int .i64 4,.int .i64 2,.slice (some ⟨ao,0,none⟩) 1 k1,.slice (some ⟨al,0,none⟩) 1 k2,.slice (some ⟨af,0,none⟩) 1 k3]) h (by simp [img]) (by simp [Value.oneCell'])
section
variable {P : Program} {w : World} {t e : TypeId} {size bytes base : Nat}
theorem appB_ {ops : Array Oper} {Q : Exit → Act → World → Prop} {oi : Oper} {N : Tmp} {a : Act} {K : Act → World → Prop} (s x : Operand) (z : Value) (hw : Region.wanted oi (yielded ops a.tmps) = true) (hN : oi.dst = some N) (ho : oi.op = .call { callee := .builtin .append,args := #[s,x],argTypes := #[t,t] })
 (ht : P.underlying t = some (.slice e)) (hi : (P.info? e).map (fun i => (i.zero,i.size,i.bytes)) = some (some z,size,bytes)) (hzs : z.cells.size = size) (hsz : 0 < size) (v : Value) (n : Nat) (xs : List Value) (hs : a.eval s = v) (hown : w.ownsRow base e size v n xs) (ad : Addr) (c : Nat) (news : List Value) (hx : a.eval x = .slice (some ad) 1 c) (hl : news.length = 1 * size) (hnews : ∀ j u,news[j]? = some u → w.cell? (ad.add j) = some u) (h1 : ∀ u ∈ news,u.oneCell' = true) (h63 : n + 1 ≤ maxLen) (hbytes : (n + 1) * bytes ≤ 140737488355328) (hbase : base ≤ w.heap.size)
 (h : ∀ v' W,W.ownsRow base e size v' (n + 1) (xs ++ news) → w.grownBy W v.ownBlock → K (a.put (some N) v') W) : if Region.wanted oi (yielded ops a.tmps) = true then Oper.wp P oi a w K Q else K (a.put (some N) undef) w := by
 rw [if_pos hw]
 obtain ⟨i,e1,e2,e3,e4⟩ := infoE hi
 obtain ⟨v',W,hr,h2,h3,h4,h5⟩ := run_append_own_at (P := P) w base t oi.type e i z size bytes ht e1 e2 e3 e4 hzs hsz v n xs hown ad 1 c news hl hnews h1 h63 hbytes hbase
 unfold Oper.wp execOp
 simp only [ho,resolve,invoke,builtin,Sem.run_bind,Sem.run_pure,Result.andThen_ok,List.map_toArray,List.map_cons,List.map_nil,hs,hx,hr]
 have := h v' W h2 h3
 rw [← hN] at this
 exact this
end
def rfwd.T2 : Bool × List (List Nat × List Nat) := (true,[([],[]),([0],[0]),([1],[1]),([2],[2]),([3],[3]),([],[]),([4,5],[4,5]),([6],[6]),([],[]),([8],[8]),([9],[9]),([10],[10]),([11],[11]),([],[]),([12,13],[12,13]),([14],[14]),([7,15],[7,15]),([],[]),([17,16,0,1,2,3,4,5,6,7,8,9,10,11,12,13,14,15,16,17],[16,17])])
def rfwd.B2 : List Nat := [0,1,3,7,15,0,63,127,0,256,768,1792,3840,0,16128,32512,65535,0,262143]
theorem rfwd.tab2 : rtab .any (opsOf Tryz.f279 2) = rfwd.T2 := by kernel_rfl
theorem rfwd.bits2 : waitsOk rfwd.T2.2 rfwd.B2 = true := by kernel_rfl
def rfwd.T7 : Bool × List (List Nat × List Nat) := (true,[([],[]),([0],[0]),([1],[1]),([2],[2]),([3],[3]),([4,3],[3,4]),([5,3],[3,5]),([3,6],[3,6]),([7,3],[7]),([8],[8]),([9,8],[8,9]),([10,8],[8,10]),([11,8],[8,11]),([8],[8]),([13,8],[8,13]),([12,14,8],[8,12,14]),([8,15],[8,15]),([16,8],[16])])
def rfwd.B7 : List Nat := [0,1,3,7,15,31,63,127,255,511,1023,2047,4095,511,8703,32767,65535,131071]
theorem rfwd.tab7 : rtab .any (opsOf Tryz.f279 7) = rfwd.T7 := by kernel_rfl
theorem rfwd.bits7 : waitsOk rfwd.T7.2 rfwd.B7 = true := by kernel_rfl
def rfwd.T9 : Bool × List (List Nat × List Nat) := (true,[([],[]),([0],[0]),([],[]),([2],[2]),([3],[3]),([4],[4]),([5],[5]),([1,6],[1,6]),([7],[7])])
def rfwd.B9 : List Nat := [0,1,0,4,12,28,60,127,255]
theorem rfwd.tab9 : rtab .any (opsOf Tryz.f279 9) = rfwd.T9 := by kernel_rfl
theorem rfwd.bits9 : waitsOk rfwd.T9.2 rfwd.B9 = true := by kernel_rfl
def rfwd.T13 : Bool × List (List Nat × List Nat) := (true,[([],[]),([],[]),([],[]),([],[]),([3],[3]),([4],[4]),([5],[5]),([],[]),([7],[7]),([6,8],[6,8]),([0,0,2,6],[0]),([10,0,2,6],[10]),([11,2,0,2,6],[2,11]),([1,0,1,2,3,4,5,6,7,8,9,10,11,12],[1]),([13,0,1,2,3,4,5,6,7,8,9,10,11,12],[13]),([14,9,12,0,1,2,3,4,5,6,7,8,9,10,11,12],[9,14])])
def rfwd.B13 : List Nat := [0,0,0,0,8,24,56,0,128,504,125,1149,3197,8191,16383,32767]
theorem rfwd.tab13 : rtab .any (opsOf Tryz.f279 13) = rfwd.T13 := by kernel_rfl
theorem rfwd.bits13 : waitsOk rfwd.T13.2 rfwd.B13 = true := by kernel_rfl
def rfwd.T14 : Bool × List (List Nat × List Nat) := (true,[([],[]),([],[]),([1],[1]),([2],[2]),([3],[3]),([],[]),([],[]),([5,6],[5,6]),([7],[7]),([4,8],[4,8]),([0,0,1,2,3,4,5,6,7,8,9],[0]),([10,0,1,2,3,4,5,6,7,8,9],[10]),([11,9,9,0,1,2,3,4,5,6,7,8,9],[9,11])])
def rfwd.B14 : List Nat := [0,0,2,6,14,0,0,96,224,510,1023,2047,4095]
theorem rfwd.tab14 : rtab .any (opsOf Tryz.f279 14) = rfwd.T14 := by kernel_rfl
theorem rfwd.bits14 : waitsOk rfwd.T14.2 rfwd.B14 = true := by kernel_rfl
theorem rforward_calls (g o1 d1 l1 e1 d m oo c1 ln c2 ff c3 n : Nat) (left dl : Int) (vs : Nat → ByteArray) (fv : Value) (ro rn rf : Array Value) (send : ByteArray) (ws w : World) (hb0 : Below ws.heap.size ws w) (hfw : Fwd w w g o1 d1 l1 e1 dl vs 0 oo c1 ln c2 ff c3 fv ro rn rf) (hg0 : ws.heap.size ≤ g) (hn2 : n = 1 ∨ n = 2) (hd : ws.heap[d]? = some (.cells (dkc left m (.slice none 0 0)) 108 (0,0))) (hrd : ∀ j : Nat,j < n → lok (1 + j) 1 (1 + j) dl (vs j) ∧ Rd ws d (2 + j) (lrec (1 + j) 1 (1 + j) dl (vs j)).enc) (hend : send.size = 128 ∧ sb send 124 = 0 ∧ Rd ws d (2 + n) send) :
 Calls Tryz.prog 279 #[.pointer (some ⟨g,0,none⟩),.pointer (some ⟨d,0,none⟩)] w fun e w' => e = .returned (.tuple #[]) ∧ ∃ (oo ln ff : Nat) (fv : Value),Fwd w w' g o1 d1 l1 e1 dl vs n oo 1 ln 1 ff 1 fv #[.int .i64 0] #[.int .i64 n] #[.int .u64 1] ∧ oo ≠ ln := by
 have HBS := Aside0.mk hb0
 have HF := Aside0.mk hfw
 have HD := Aside0.mk hd
 have HRD := Aside0.mk hrd
 have HEND := Aside0.mk hend
 have HG0 := Aside0.mk hg0
 have HN2 := Aside0.mk hn2
 clear hfw hd hrd hend hg0 hn2 hb0
 go_enter Tryz.func279,Tryz.ntmps279
 go_upto_region 1 with fail
 obtain ⟨W1,b2,b3,hW_,hb2,hb3,H2,H3,hb_⟩ := new2 w #[.pointer (some ⟨g,0,none⟩)] 418 #[.pointer (some ⟨d,0,none⟩)] 30
 rw [← hW_,← hb3.out,← hb2.out]
 have HB := Aside0.mk hb_
 replace HF := Aside0.mk (HF.out.below hb_)
 clear hW_ hb_
 have x2 : W1.cell? ⟨b2,0,none⟩ = some (.pointer (some ⟨g,0,none⟩)) := cL H2 0 rfl
 have y8 : W1.cell? ⟨g,8,none⟩ = some (.slice (some ⟨oo,0,none⟩) 1 c1) := (blk_cell HF.out.hg 8).trans rfl
 go_step3
 go_wp2_with fail
 clear x2 y8
 refine st_ 19 (fun w' => w'.cell? ⟨b2,0,none⟩ = some (.pointer (some ⟨g,0,none⟩)) ∧ w'.cell? ⟨g,8,none⟩ = some (.slice (some ⟨oo,0,none⟩) 1 c1) ∧ w'.cell? ⟨g,9,none⟩ = some (.slice (some ⟨ln,0,none⟩) 1 c2) ∧ w'.cell? ⟨oo,0,none⟩ = some (.int .i64 0) ∧ w'.cell? ⟨ln,0,none⟩ = some (.int .i64 ((0 : Nat) : Int))) [18] ⟨(cD H2 0 rfl),((blk_cell (blk_drew HF.out.hg) 8).trans rfl),((blk_cell (blk_drew HF.out.hg) 9).trans rfl),((blk_cell (blk_drew HF.out.ho) 0).trans HF.out.r0),((blk_cell (blk_drew HF.out.hn) 0).trans HF.out.r1)⟩ fun hHeld => ?_
 refine with_tabW rfwd.tab2 rfwd.bits2 (fun HT_ HW_ => ?_)
 replace H2 := mD H2
 replace H3 := mD H3
 replace HF := Aside0.mk (HF.out.below (below_drew (Below.refl _ _)))
 generalize W1.drew = wd1 at *
 refine pa_ 5 26 HT_ ?_
 refine pa_ 13 34 HT_ ?_
 refine ta_ 0 21 HT_ HW_ hHeld ?_
 refine pa_ 1 22 HT_ ?_
 refine pa_ 2 23 HT_ ?_
 refine pa_ 3 24 HT_ ?_
 refine ta_ 4 25 HT_ HW_ hHeld ?_
 refine pa_ 6 27 HT_ ?_
 refine ta_ 7 28 HT_ HW_ hHeld ?_
 refine ta_ 8 29 HT_ HW_ hHeld ?_
 refine pa_ 9 30 HT_ ?_
 refine pa_ 10 31 HT_ ?_
 refine pa_ 11 32 HT_ ?_
 refine ta_ 12 33 HT_ HW_ hHeld ?_
 refine pa_ 14 35 HT_ ?_
 refine ta_ 15 36 HT_ HW_ hHeld ?_
 refine pa_ 16 37 HT_ ?_
 refine on_ 17 HT_ fun K hK => ?_
 refine allocR_ #[.int .i64 0,.int .i64 0] 177 (by rfl) rfl (by first | (go_simp; done) | (go_simp; rfl)) ?_
 intro b5 Wa hge hq hb
 have HS_ := Aside0.mk hq
 have G5 : Aside0 (w.heap.size ≤ b5) := ⟨by have := HF.out.bel.size; omega⟩
 have NSH2 : Aside0 (b2 ≠ b5) := ⟨new_ne H2.out hge⟩
 have NSH3 : Aside0 (b3 ≠ b5) := ⟨new_ne H3.out hge⟩
 replace H2 := mb H2 hb
 replace H3 := mb H3 hb
 replace HF := Aside0.mk (HF.out.below hb)
 clear hq hge hb
 refine hK.out _ _ ⟨(cL H2 0 rfl),((blk_cell HF.out.hg 8).trans rfl),((blk_cell HF.out.hg 9).trans rfl),((blk_cell HF.out.ho 0).trans HF.out.r0),((blk_cell HF.out.hn 0).trans HF.out.r1)⟩ (fun hHeld => ?_)
 clear hK K
 refine no_ 5 ?_
 refine la_ 18 HT_ fun K hK => ?_
 refine sR_ 5 37 #[.int .i64 0,.int .i64 ((0 : Nat) : Int)] HS_.out ?_
 refine hK.out _ _ ?_
 clear hK K
 refine dn_ HT_ ?_
 clear HT_ HW_ hHeld
 obtain ⟨W2,hW⟩ : ∃ W_,W_ = Wa.setRow b5 #[.int .i64 0,.int .i64 ((0 : Nat) : Int)] := ⟨_,rfl⟩
 rw [← hW]
 have q_ := mR #[.int .i64 0,.int .i64 ((0 : Nat) : Int)] H2.out NSH2.out
 rw [← hW] at q_
 replace H2 := Aside0.mk q_
 clear q_
 have q_ := mR #[.int .i64 0,.int .i64 ((0 : Nat) : Int)] H3.out NSH3.out
 rw [← hW] at q_
 replace H3 := Aside0.mk q_
 clear q_
 have q_ := HF.out.row (cs := #[.int .i64 0,.int .i64 ((0 : Nat) : Int)]) HS_.out (by decide) G5.out
 rw [← hW] at q_
 replace HF := Aside0.mk q_
 clear q_
 have q_ := setRow_heap Wa b5 _ #[.int .i64 0,.int .i64 ((0 : Nat) : Int)] _ _ HS_.out
 rw [← hW] at q_
 replace HS_ := Aside0.mk q_
 clear q_
 clear hW
 go_wp2_with fail
 go_step3
 go_wp2_with fail
 go_loopg [] n (fun gk wr => ∃ (j oo c1 ln c2 ff c3 : Nat) (fv : Value) (ro rn rf : Array Value),Aside0 (j + gk = n) ∧ Aside0 (Fwd w wr g o1 d1 l1 e1 dl vs j oo c1 ln c2 ff c3 fv ro rn rf) ∧ Aside0 (wr.heap[b5]? = some (.cells #[.int .i64 0,.int .i64 (j : Int)] 177 (0,0))) ∧ Aside0 (wr.heap[b2]? = some (.cells #[.pointer (some ⟨g,0,none⟩)] 418 (0,0))) ∧ Aside0 (wr.heap[b3]? = some (.cells #[.pointer (some ⟨d,0,none⟩)] 30 (0,0))))
 case atStart => exact ⟨0,oo,c1,ln,c2,ff,c3,fv,ro,rn,rf,⟨by omega⟩,HF,HS_,H2,H3⟩
 case round =>
  clear HF HS_ H2 H3 NSH2 NSH3
  obtain ⟨j,oo,c1,ln,c2,ff,c3,fv,ro,rn,rf,hjn,HF,H5,H2,H3⟩ := hrel
  have HJN := hjn
  rcases Nat.eq_zero_or_pos gk with hz | hz
  ·have HE : Aside0 (j = n) := ⟨by have := HJN.out; omega⟩
   go_wp2_with fail
   refine (rnext_calls g o1 d1 l1 e1 oo c1 ln c2 ff c3 d m b2 b3 b5 (1 + j) j left j 0 0 0 0 0 { data := #[] } { data := #[] } send false fv ws _ (below_keep HBS.out HF.out.bel (by simpa using HG0.out)) HF.out.hg H5.out (cL H3 0 rfl) (cL H2 0 rfl) HD.out (by rw [HE.out]; exact HEND.out.2.2) (by have := HN2.out; have := HJN.out; omega) (fun W _ => next_no send (1 + j) W HEND.out.1 HEND.out.2.1)).mono ?_
   rintro e_ w2 ⟨rfl,hb⟩
   replace H2 := mb H2 hb
   replace H3 := mb H3 hb
   replace H5 := mb H5 hb
   replace HF := Aside0.mk (HF.out.below hb)
   clear hb
   go_wp2_with (refine sr_ 7 42 #[.int .u64 0,.int .u32 0,.int .i64 0,.int .u64 0,.int .u64 0,.string { data := #[] },.string { data := #[] }] (blk_new w2 (.cells #[.int .u64 0,.int .u32 0,.int .i64 0,.int .u64 0,.int .u64 0,.string { data := #[] },.string { data := #[] }] 188)) ?_)
   have hlast := HF.out.below (below_setRow (below_alloc (Below.refl w2.heap.size w2) (.cells #[.int .u64 0,.int .u32 0,.int .i64 0,.int .u64 0,.int .u64 0,.string { data := #[] },.string { data := #[] }] 188)) (Nat.le_refl _) #[.int .u64 0,.int .u32 0,.int .i64 0,.int .u64 0,.int .u64 0,.string { data := #[] },.string { data := #[] }])
   obtain ⟨Wl,hWl⟩ : ∃ W_,W_ = (w2.alloc (.cells #[.int .u64 0,.int .u32 0,.int .i64 0,.int .u64 0,.int .u64 0,.string { data := #[] },.string { data := #[] }] 188)).setRow w2.heap.size #[.int .u64 0,.int .u32 0,.int .i64 0,.int .u64 0,.int .u64 0,.string { data := #[] },.string { data := #[] }] := ⟨_,rfl⟩
   rw [← hWl] at hlast ⊢
   clear hWl
   have hj := HE.out
   subst hj
   rcases hlast.fin with h0 | ⟨rfl,rfl,rfl,rfl,rfl,rfl,hne⟩
   ·have := HN2.out; omega
   ·rw [Exit.noGoto_normal]
    exact end0 rfl rfl ⟨rfl,oo,ln,ff,fv,hlast,hne⟩
  ·have HLT : Aside0 (j < n ∧ j < 2) := ⟨by have := HN2.out; have := HJN.out; omega⟩
   have HOK := Aside0.mk (HRD.out j HLT.out.1)
   have HGK := Aside0.mk hz
   clear hz
   go_wp2_with fail
   refine (rnext_calls g o1 d1 l1 e1 oo c1 ln c2 ff c3 d m b2 b3 b5 (1 + j) j left j (1 + j) 1 1 (1 + j) dl idA (vs j) _ true fv ws _ (below_keep HBS.out HF.out.bel (by simpa using HG0.out)) HF.out.hg H5.out (cL H3 0 rfl) (cL H2 0 rfl) HD.out HOK.out.2 (by have := HN2.out; have := HJN.out; omega) (fun W _ => next_live (1 + j) 1 (1 + j) dl (vs j) W HOK.out.1)).mono ?_
   rintro e_ w2 ⟨rfl,hb⟩
   replace H2 := mb H2 hb
   replace H3 := mb H3 hb
   replace H5 := mb H5 hb
   replace HF := Aside0.mk (HF.out.below hb)
   clear hb
   go_upto_region 5 with (refine sr_ 7 42 #[.int .u64 (1 + j),.int .u32 1,.int .i64 1,.int .u64 (1 + j),.int .u64 dl,.string idA,.string (vs j)] (blk_new w2 (.cells #[.int .u64 0,.int .u32 0,.int .i64 0,.int .u64 0,.int .u64 0,.string { data := #[] },.string { data := #[] }] 188)) ?_)
   obtain ⟨W3,hW_⟩ : ∃ W_,W_ = ((w2.alloc (.cells #[.int .u64 0,.int .u32 0,.int .i64 0,.int .u64 0,.int .u64 0,.string { data := #[] },.string { data := #[] }] 188)).setRow w2.heap.size #[.int .u64 (1 + j),.int .u32 1,.int .i64 1,.int .u64 (1 + j),.int .u64 dl,.string idA,.string (vs j)]) := ⟨_,rfl⟩
   obtain ⟨g7,hg_⟩ : ∃ g_,g_ = w2.heap.size := ⟨_,rfl⟩
   rw [← hW_,← hg_]
   have hb_ : Below w2.heap.size w2 W3 := by rw [hW_]; exact below_setRow (below_alloc (Below.refl _ _) _) (Nat.le_refl _) _
   have H7 : Aside0 (W3.heap[g7]? = some (.cells #[.int .u64 (1 + j),.int .u32 1,.int .i64 1,.int .u64 (1 + j),.int .u64 dl,.string idA,.string (vs j)] 188 (0,0))) := ⟨by rw [hW_,hg_]; exact setRow_heap _ _ _ _ _ _ (blk_new w2 (.cells #[.int .u64 0,.int .u32 0,.int .i64 0,.int .u64 0,.int .u64 0,.string { data := #[] },.string { data := #[] }] 188))⟩
   have Gg7 : Aside0 (w.heap.size ≤ g7) := ⟨by rw [hg_]; exact HF.out.bel.size⟩
   replace H2 := mb H2 hb_
   replace H3 := mb H3 hb_
   replace H5 := mb H5 hb_
   replace HF := Aside0.mk (HF.out.below hb_)
   clear hW_ hg_ hb_
   have x2 : W3.cell? ⟨b2,0,none⟩ = some (.pointer (some ⟨g,0,none⟩)) := cL H2 0 rfl
   have y6 : W3.cell? ⟨g,6,none⟩ = some (.int .i64 4) := (blk_cell HF.out.hg 6).trans rfl
   have y7 : W3.cell? ⟨g,7,none⟩ = some (.int .i64 2) := (blk_cell HF.out.hg 7).trans rfl
   have y8 : W3.cell? ⟨g,8,none⟩ = some (.slice (some ⟨oo,0,none⟩) 1 c1) := (blk_cell HF.out.hg 8).trans rfl
   have y9 : W3.cell? ⟨g,9,none⟩ = some (.slice (some ⟨ln,0,none⟩) 1 c2) := (blk_cell HF.out.hg 9).trans rfl
   have y10 : W3.cell? ⟨g,10,none⟩ = some (.slice (some ⟨ff,0,none⟩) 1 c3) := (blk_cell HF.out.hg 10).trans rfl
   go_wp2_with fail
   refine (Free_calls 4 2 oo c1 [0] (.slice (some ⟨ln,0,none⟩) 1 c2) (.slice (some ⟨ff,0,none⟩) 1 c3) _ (fun q hq => by rcases q with _ | q; exact (blk_cell HF.out.ho 0).trans HF.out.r0; simp at hq) HF.out.cp (by decide) (by decide) (by decide)).mono ?_
   rintro e_ W4 ⟨vF,rfl,-,hb⟩
   clear x2 y6 y7 y8 y9 y10
   replace H2 := mb H2 hb
   replace H3 := mb H3 hb
   replace H5 := mb H5 hb
   replace H7 := mb H7 hb
   replace HF := Aside0.mk (HF.out.below hb)
   clear hb
   go_upto_region 7 with fail
   refine st_ 18 (fun w' => w'.cell? ⟨g7,2,none⟩ = some (.int .i64 1)) [] ((cD H7 2 rfl)) fun hHeld => ?_
   refine with_tabW rfwd.tab7 rfwd.bits7 (fun HT_ HW_ => ?_)
   replace H2 := mD H2
   replace H3 := mD H3
   replace H5 := mD H5
   replace H7 := mD H7
   replace HF := Aside0.mk (HF.out.below (below_drew (Below.refl _ _)))
   generalize W4.drew = wd2 at *
   refine pa_ 0 52 HT_ ?_
   refine ta_ 1 53 HT_ HW_ hHeld ?_
   refine pa_ 2 54 HT_ ?_
   refine pa_ 3 55 HT_ ?_
   refine po_ 4 56 HT_ ?_
   refine po_ 5 57 HT_ ?_
   refine po_ 6 58 HT_ ?_
   refine pa_ 7 59 HT_ ?_
   refine pa_ 8 60 HT_ ?_
   refine po_ 9 61 HT_ ?_
   refine po_ 10 62 HT_ ?_
   refine po_ 11 63 HT_ ?_
   refine po_ 12 64 HT_ ?_
   refine po_ 13 65 HT_ ?_
   refine po_ 14 66 HT_ ?_
   refine po_ 15 67 HT_ ?_
   refine pa_ 16 68 HT_ ?_
   refine pa_ 17 51 HT_ ?_
   refine dn_ HT_ ?_
   clear HT_ HW_ hHeld
   have z2 : wd2.cell? ⟨g7,2,none⟩ = some (.int .i64 1) := cL H7 2 rfl
   go_upto_region 9 with fail
   clear z2
   have t2 : decide (2 ≤ (j : Int)) = false := decide_eq_false (by have := HLT.out; omega)
   refine st_ 9 (fun w' => w'.cell? ⟨b5,1,none⟩ = some (.int .i64 (j : Int)) ∧ w'.cell? ⟨b2,0,none⟩ = some (.pointer (some ⟨g,0,none⟩)) ∧ w'.cell? ⟨g,7,none⟩ = some (.int .i64 2)) [] ⟨(cD H5 1 rfl),(cD H2 0 rfl),((blk_cell (blk_drew HF.out.hg) 7).trans rfl)⟩ fun hHeld => ?_
   refine with_tabW rfwd.tab9 rfwd.bits9 (fun HT_ HW_ => ?_)
   replace H2 := mD H2
   replace H3 := mD H3
   replace H5 := mD H5
   replace H7 := mD H7
   replace HF := Aside0.mk (HF.out.below (below_drew (Below.refl _ _)))
   generalize wd2.drew = wd3 at *
   refine pa_ 0 74 HT_ ?_
   refine ta_ 1 75 HT_ HW_ hHeld ?_
   refine ta_ 2 76 HT_ HW_ hHeld ?_
   refine pa_ 3 77 HT_ ?_
   refine pa_ 4 78 HT_ ?_
   refine pa_ 5 79 HT_ ?_
   refine ta_ 6 80 HT_ HW_ hHeld ?_
   refine pa_ 7 81 HT_ ?_
   refine pa_ 8 73 HT_ ?_
   refine dn_ HT_ ?_
   clear HT_ HW_ hHeld
   have x2 : wd3.cell? ⟨b2,0,none⟩ = some (.pointer (some ⟨g,0,none⟩)) := cL H2 0 rfl
   have y6 : wd3.cell? ⟨g,6,none⟩ = some (.int .i64 4) := (blk_cell HF.out.hg 6).trans rfl
   have y7 : wd3.cell? ⟨g,7,none⟩ = some (.int .i64 2) := (blk_cell HF.out.hg 7).trans rfl
   have y8 : wd3.cell? ⟨g,8,none⟩ = some (.slice (some ⟨oo,0,none⟩) 1 c1) := (blk_cell HF.out.hg 8).trans rfl
   have y9 : wd3.cell? ⟨g,9,none⟩ = some (.slice (some ⟨ln,0,none⟩) 1 c2) := (blk_cell HF.out.hg 9).trans rfl
   have y10 : wd3.cell? ⟨g,10,none⟩ = some (.slice (some ⟨ff,0,none⟩) 1 c3) := (blk_cell HF.out.hg 10).trans rfl
   go_wp2_with fail
   refine (tcount_calls oo c1 ln c2 ff c3 j 1 _ ((blk_cell HF.out.ho 0).trans HF.out.r0) ((blk_cell HF.out.hn 0).trans HF.out.r1) ((blk_cell HF.out.hf 0).trans HF.out.r2) (by have := HLT.out; omega)).mono ?_
   rintro e_ W5 ⟨ao,al,af,rfl,hn,h1,h2,h3,hb⟩
   clear x2 y6 y7 y8 y9 y10
   have HNE := Aside0.mk hn.2.2.2
   have GAO : Aside0 (w.heap.size ≤ ao ∧ w.heap.size ≤ al ∧ w.heap.size ≤ af) := ⟨by have := HF.out.bel.size; have := hn.1; have := hn.2.1; have := hn.2.2.1; omega⟩
   have HO := Aside0.mk h1
   have HL := Aside0.mk h2
   have HX := Aside0.mk h3
   replace H2 := mb H2 hb
   replace H3 := mb H3 hb
   replace H5 := mb H5 hb
   replace H7 := mb H7 hb
   replace HF := Aside0.mk (HF.out.below hb)
   clear hn h1 h2 h3 hb
   go_upto_region 13 with (refine sr_ 12 109 #[.int .i64 4,.int .i64 2,.slice (some ⟨ao,0,none⟩) 1 1,.slice (some ⟨al,0,none⟩) 1 1,.slice (some ⟨af,0,none⟩) 1 1] (blk_new W5 (.cells #[.int .i64 0,.int .i64 0,.slice none 0 0,.slice none 0 0,.slice none 0 0] 162)) ?_)
   obtain ⟨W6,hW_⟩ : ∃ W_,W_ = ((W5.alloc (.cells #[.int .i64 0,.int .i64 0,.slice none 0 0,.slice none 0 0,.slice none 0 0] 162)).setRow W5.heap.size #[.int .i64 4,.int .i64 2,.slice (some ⟨ao,0,none⟩) 1 1,.slice (some ⟨al,0,none⟩) 1 1,.slice (some ⟨af,0,none⟩) 1 1]) := ⟨_,rfl⟩
   obtain ⟨g12,hg_⟩ : ∃ g_,g_ = W5.heap.size := ⟨_,rfl⟩
   rw [← hW_,← hg_]
   have hb_ : Below W5.heap.size W5 W6 := by rw [hW_]; exact below_setRow (below_alloc (Below.refl _ _) _) (Nat.le_refl _) _
   have H12 : Aside0 (W6.heap[g12]? = some (.cells #[.int .i64 4,.int .i64 2,.slice (some ⟨ao,0,none⟩) 1 1,.slice (some ⟨al,0,none⟩) 1 1,.slice (some ⟨af,0,none⟩) 1 1] 162 (0,0))) := ⟨by rw [hW_,hg_]; exact setRow_heap _ _ _ _ _ _ (blk_new W5 (.cells #[.int .i64 0,.int .i64 0,.slice none 0 0,.slice none 0 0,.slice none 0 0] 162))⟩
   have Gg12 : Aside0 (w.heap.size ≤ g12) := ⟨by rw [hg_]; exact HF.out.bel.size⟩
   replace H2 := mb H2 hb_
   replace H3 := mb H3 hb_
   replace H5 := mb H5 hb_
   replace H7 := mb H7 hb_
   replace HO := mb HO hb_
   replace HL := mb HL hb_
   replace HX := mb HX hb_
   replace HF := Aside0.mk (HF.out.below hb_)
   clear hW_ hg_ hb_
   have HG := Aside0.mk HF.out.hg
   have OWN := Aside0.mk HF.out.own
   have BEL := Aside0.mk HF.out.bel
   clear HF
   have hmx : ((j : Int) < 1 + (j : Int)) = True := eq_true (by omega)
   refine st_ 16 (fun w' => w'.cell? ⟨b2,0,none⟩ = some (.pointer (some ⟨g,0,none⟩)) ∧ w'.cell? ⟨g12,0,none⟩ = some (.int .i64 4) ∧ w'.cell? ⟨g12,1,none⟩ = some (.int .i64 2) ∧ w'.cell? ⟨g12,2,none⟩ = some (.slice (some ⟨ao,0,none⟩) 1 1) ∧ w'.cell? ⟨g12,3,none⟩ = some (.slice (some ⟨al,0,none⟩) 1 1) ∧ w'.cell? ⟨g12,4,none⟩ = some (.slice (some ⟨af,0,none⟩) 1 1) ∧ w'.cell? ⟨g,12,none⟩ = some (.int .u64 j) ∧ w'.cell? ⟨g7,3,none⟩ = some (.int .u64 (1 + j))) [15] ⟨(cD H2 0 rfl),(cD H12 0 rfl),(cD H12 1 rfl),(cD H12 2 rfl),(cD H12 3 rfl),(cD H12 4 rfl),(cD HG 12 rfl),(cD H7 3 rfl)⟩ fun hHeld => ?_
   refine with_tabW rfwd.tab13 rfwd.bits13 (fun HT_ HW_ => ?_)
   replace H2 := mD H2
   replace H3 := mD H3
   replace H5 := mD H5
   replace H7 := mD H7
   replace HO := mD HO
   replace HL := mD HL
   replace HX := mD HX
   replace H12 := mD H12
   replace HG := mD HG
   replace BEL := Aside0.mk BEL.out.drew
   replace OWN : Aside0 (W6.drew.ownsRow w.heap.size 327 9 fv j (xsF dl vs j)) := ⟨ownB_keep OWN.out (fun q hq => (below_drew (Below.refl W6.heap.size W6)).block q (own_lt (ownB_0 OWN.out) q hq))⟩
   generalize W6.drew = wd4 at *
   refine pa_ 7 118 HT_ ?_
   refine ta_ 0 111 HT_ HW_ hHeld ?_
   refine ta_ 1 112 HT_ HW_ hHeld ?_
   refine ta_ 2 113 HT_ HW_ hHeld ?_
   refine ta_ 3 114 HT_ HW_ hHeld ?_
   refine pa_ 4 115 HT_ ?_
   refine pa_ 5 116 HT_ ?_
   refine ta_ 6 117 HT_ HW_ hHeld ?_
   refine pa_ 10 121 HT_ ?_
   refine pa_ 11 122 HT_ ?_
   refine ta_ 8 119 HT_ HW_ hHeld ?_
   refine pa_ 9 120 HT_ ?_
   refine on_ 12 HT_ fun K hK => ?_
   have y6 : wd4.cell? ⟨g,6,none⟩ = some (.int .i64 4) := cL HG 6 rfl
   have y7 : wd4.cell? ⟨g,7,none⟩ = some (.int .i64 2) := cL HG 7 rfl
   have y8 : wd4.cell? ⟨g,8,none⟩ = some (.slice (some ⟨oo,0,none⟩) 1 c1) := cL HG 8 rfl
   have y9 : wd4.cell? ⟨g,9,none⟩ = some (.slice (some ⟨ln,0,none⟩) 1 c2) := cL HG 9 rfl
   have y10 : wd4.cell? ⟨g,10,none⟩ = some (.slice (some ⟨ff,0,none⟩) 1 c3) := cL HG 10 rfl
   have f6 := blk_frozen HG.out 6
   have f7 := blk_frozen HG.out 7
   have f8 := blk_frozen HG.out 8
   have f9 := blk_frozen HG.out 9
   have f10 := blk_frozen HG.out 10
   refine skip_ (w1 := ?_) (by rfl) rfl ?_ ?_
   rotate_left
   ·go_simp
    rfl
   clear y6 f6 y7 f7 y8 f8 y9 f9 y10 f10
   rw [img_table HG.out]
   obtain ⟨Wp,hW⟩ : ∃ W_,W_ = wd4.setRow g (img o1 d1 l1 e1 ao 1 al 1 af 1 (1 + j) j fv) := ⟨_,rfl⟩
   rw [← hW]
   have q_ := mR (img o1 d1 l1 e1 ao 1 al 1 af 1 (1 + j) j fv) H2.out (tne H2.out HG.out (by decide))
   rw [← hW] at q_
   replace H2 := Aside0.mk q_
   clear q_
   have q_ := mR (img o1 d1 l1 e1 ao 1 al 1 af 1 (1 + j) j fv) H3.out (tne H3.out HG.out (by decide))
   rw [← hW] at q_
   replace H3 := Aside0.mk q_
   clear q_
   have q_ := mR (img o1 d1 l1 e1 ao 1 al 1 af 1 (1 + j) j fv) H5.out (tne H5.out HG.out (by decide))
   rw [← hW] at q_
   replace H5 := Aside0.mk q_
   clear q_
   have q_ := mR (img o1 d1 l1 e1 ao 1 al 1 af 1 (1 + j) j fv) H7.out (tne H7.out HG.out (by decide))
   rw [← hW] at q_
   replace H7 := Aside0.mk q_
   clear q_
   have q_ := mR (img o1 d1 l1 e1 ao 1 al 1 af 1 (1 + j) j fv) HO.out (tne HO.out HG.out (by decide))
   rw [← hW] at q_
   replace HO := Aside0.mk q_
   clear q_
   have q_ := mR (img o1 d1 l1 e1 ao 1 al 1 af 1 (1 + j) j fv) HL.out (tne HL.out HG.out (by decide))
   rw [← hW] at q_
   replace HL := Aside0.mk q_
   clear q_
   have q_ := mR (img o1 d1 l1 e1 ao 1 al 1 af 1 (1 + j) j fv) HX.out (tne HX.out HG.out (by decide))
   rw [← hW] at q_
   replace HX := Aside0.mk q_
   clear q_
   have q_ := mR (img o1 d1 l1 e1 ao 1 al 1 af 1 (1 + j) j fv) H12.out (tne H12.out HG.out (by decide))
   rw [← hW] at q_
   replace H12 := Aside0.mk q_
   clear q_
   have q_ := (show (wd4.setRow g (img o1 d1 l1 e1 ao 1 al 1 af 1 (1 + j) j fv)).ownsRow w.heap.size 327 9 fv j (xsF dl vs j) from ownB_keep OWN.out (fun q hq => setRow_other wd4 g q _ (own_ne (ownB_0 OWN.out) HG.out (by decide) q hq)))
   rw [← hW] at q_
   replace OWN := Aside0.mk q_
   clear q_
   have q_ := BEL.out.setRow (g := g) (img o1 d1 l1 e1 ao 1 al 1 af 1 (1 + j) j fv) (.inl (by simp))
   rw [← hW] at q_
   replace BEL := Aside0.mk q_
   clear q_
   have q_ := setRow_heap wd4 g _ (img o1 d1 l1 e1 ao 1 al 1 af 1 (1 + j) j fv) _ _ HG.out
   rw [← hW] at q_
   replace HG := Aside0.mk q_
   clear q_
   clear hW
   refine hK.out _ _ ⟨(cL H2 0 rfl),(cL H12 0 rfl),(cL H12 1 rfl),(cL H12 2 rfl),(cL H12 3 rfl),(cL H12 4 rfl),(cL HG 12 rfl),(cL H7 3 rfl)⟩ (fun hHeld => ?_)
   clear hK K
   refine pa_ 13 123 HT_ ?_
   refine pa_ 14 124 HT_ ?_
   refine la_ 15 HT_ fun K hK => ?_
   have y_ : Wp.cell? ⟨g,12,none⟩ = some (.int .u64 j) := cL HG 12 rfl
   have f_ := blk_frozen HG.out 12
   refine skip_ (w1 := ?_) (by rfl) rfl ?_ ?_
   rotate_left
   ·go_simp
    rfl
   clear y_ f_
   rw [show Wp.setCell ⟨g,12,none⟩ (.int .u64 (1 + j)) = Wp.setRow g (img o1 d1 l1 e1 ao 1 al 1 af 1 (1 + j) (1 + j) fv) from setCell_eq_setRow Wp g 12 _ _ _ _ HG.out]
   refine hK.out _ _ ?_
   clear hK K
   refine dn_ HT_ ?_
   clear HT_ HW_ hHeld
   obtain ⟨W7,hW⟩ : ∃ W_,W_ = Wp.setRow g (img o1 d1 l1 e1 ao 1 al 1 af 1 (1 + j) (1 + j) fv) := ⟨_,rfl⟩
   rw [← hW]
   have q_ := mR (img o1 d1 l1 e1 ao 1 al 1 af 1 (1 + j) (1 + j) fv) H2.out (tne H2.out HG.out (by decide))
   rw [← hW] at q_
   replace H2 := Aside0.mk q_
   clear q_
   have q_ := mR (img o1 d1 l1 e1 ao 1 al 1 af 1 (1 + j) (1 + j) fv) H3.out (tne H3.out HG.out (by decide))
   rw [← hW] at q_
   replace H3 := Aside0.mk q_
   clear q_
   have q_ := mR (img o1 d1 l1 e1 ao 1 al 1 af 1 (1 + j) (1 + j) fv) H5.out (tne H5.out HG.out (by decide))
   rw [← hW] at q_
   replace H5 := Aside0.mk q_
   clear q_
   have q_ := mR (img o1 d1 l1 e1 ao 1 al 1 af 1 (1 + j) (1 + j) fv) H7.out (tne H7.out HG.out (by decide))
   rw [← hW] at q_
   replace H7 := Aside0.mk q_
   clear q_
   have q_ := mR (img o1 d1 l1 e1 ao 1 al 1 af 1 (1 + j) (1 + j) fv) HO.out (tne HO.out HG.out (by decide))
   rw [← hW] at q_
   replace HO := Aside0.mk q_
   clear q_
   have q_ := mR (img o1 d1 l1 e1 ao 1 al 1 af 1 (1 + j) (1 + j) fv) HL.out (tne HL.out HG.out (by decide))
   rw [← hW] at q_
   replace HL := Aside0.mk q_
   clear q_
   have q_ := mR (img o1 d1 l1 e1 ao 1 al 1 af 1 (1 + j) (1 + j) fv) HX.out (tne HX.out HG.out (by decide))
   rw [← hW] at q_
   replace HX := Aside0.mk q_
   clear q_
   have q_ := mR (img o1 d1 l1 e1 ao 1 al 1 af 1 (1 + j) (1 + j) fv) H12.out (tne H12.out HG.out (by decide))
   rw [← hW] at q_
   replace H12 := Aside0.mk q_
   clear q_
   have q_ := (show (Wp.setRow g (img o1 d1 l1 e1 ao 1 al 1 af 1 (1 + j) (1 + j) fv)).ownsRow w.heap.size 327 9 fv j (xsF dl vs j) from ownB_keep OWN.out (fun q hq => setRow_other Wp g q _ (own_ne (ownB_0 OWN.out) HG.out (by decide) q hq)))
   rw [← hW] at q_
   replace OWN := Aside0.mk q_
   clear q_
   have q_ := BEL.out.setRow (g := g) (img o1 d1 l1 e1 ao 1 al 1 af 1 (1 + j) (1 + j) fv) (.inl (by simp))
   rw [← hW] at q_
   replace BEL := Aside0.mk q_
   clear q_
   have q_ := setRow_heap Wp g _ (img o1 d1 l1 e1 ao 1 al 1 af 1 (1 + j) (1 + j) fv) _ _ HG.out
   rw [← hW] at q_
   replace HG := Aside0.mk q_
   clear q_
   clear hW
   go_wp2_with fail
   refine st_ 13 (fun w' => w'.cell? ⟨b2,0,none⟩ = some (.pointer (some ⟨g,0,none⟩)) ∧ w'.cell? ⟨g,13,none⟩ = some (fv) ∧ w'.cell? ⟨b5,0,none⟩ = some (.int .i64 0) ∧ w'.cell? ⟨b5,1,none⟩ = some (.int .i64 (j : Int)) ∧ w'.cell? ⟨g7,0,none⟩ = some (.int .u64 (1 + j)) ∧ w'.cell? ⟨g7,1,none⟩ = some (.int .u32 1) ∧ w'.cell? ⟨g7,2,none⟩ = some (.int .i64 1) ∧ w'.cell? ⟨g7,3,none⟩ = some (.int .u64 (1 + j)) ∧ w'.cell? ⟨g7,4,none⟩ = some (.int .u64 dl) ∧ w'.cell? ⟨g7,5,none⟩ = some (.string idA) ∧ w'.cell? ⟨g7,6,none⟩ = some (.string (vs j))) [12] ⟨(cD H2 0 rfl),(cD HG 13 rfl),(cD H5 0 rfl),(cD H5 1 rfl),(cD H7 0 rfl),(cD H7 1 rfl),(cD H7 2 rfl),(cD H7 3 rfl),(cD H7 4 rfl),(cD H7 5 rfl),(cD H7 6 rfl)⟩ fun hHeld => ?_
   refine with_tabW rfwd.tab14 rfwd.bits14 (fun HT_ HW_ => ?_)
   replace H2 := mD H2
   replace H3 := mD H3
   replace H5 := mD H5
   replace H7 := mD H7
   replace HO := mD HO
   replace HL := mD HL
   replace HX := mD HX
   replace H12 := mD H12
   replace HG := mD HG
   replace BEL := Aside0.mk BEL.out.drew
   replace OWN : Aside0 (W7.drew.ownsRow w.heap.size 327 9 fv j (xsF dl vs j)) := ⟨ownB_keep OWN.out (fun q hq => (below_drew (Below.refl W7.heap.size W7)).block q (own_lt (ownB_0 OWN.out) q hq))⟩
   generalize W7.drew = wd5 at *
   refine ta_ 0 125 HT_ HW_ hHeld ?_
   refine ta_ 1 126 HT_ HW_ hHeld ?_
   refine pa_ 2 127 HT_ ?_
   refine pa_ 3 128 HT_ ?_
   refine ta_ 4 129 HT_ HW_ hHeld ?_
   refine ta_ 5 130 HT_ HW_ hHeld ?_
   refine ta_ 6 131 HT_ HW_ hHeld ?_
   refine pa_ 7 132 HT_ ?_
   refine on_ 8 HT_ fun K hK => ?_
   refine va_ ?_
   obtain ⟨wk,hW_⟩ : ∃ W_,W_ = wd5.alloc (.cells #[.int .i64 0,.int .i64 (j : Int),.int .u64 (1 + j),.int .u32 1,.int .i64 1,.int .u64 (1 + j),.int .u64 dl,.string idA,.string (vs j)] 327) := ⟨_,rfl⟩
   obtain ⟨g14,hh_⟩ : ∃ g_,g_ = wd5.heap.size := ⟨_,rfl⟩
   rw [← hW_,← hh_]
   have hb_ : Below wd5.heap.size wd5 wk := by rw [hW_]; exact below_alloc (Below.refl _ _) _
   have H14 : Aside0 (wk.heap[g14]? = some (.cells #[.int .i64 0,.int .i64 (j : Int),.int .u64 (1 + j),.int .u32 1,.int .i64 1,.int .u64 (1 + j),.int .u64 dl,.string idA,.string (vs j)] 327 (0,0))) := ⟨by rw [hW_,hh_]; exact blk_new _ _⟩
   replace H2 := mb H2 hb_
   replace H3 := mb H3 hb_
   replace H5 := mb H5 hb_
   replace H7 := mb H7 hb_
   replace HO := mb HO hb_
   replace HL := mb HL hb_
   replace HX := mb HX hb_
   replace H12 := mb H12 hb_
   replace HG := mb HG hb_
   replace BEL := Aside0.mk (BEL.out.trans (Keep.below hb_))
   replace OWN := Aside0.mk (ownB_keep OWN.out (fun q hq => hb_.block q (own_lt (ownB_0 OWN.out) q hq)))
   clear hb_ hW_ hh_
   refine hK.out _ _ ⟨(cL H2 0 rfl),(cL HG 13 rfl),(cL H5 0 rfl),(cL H5 1 rfl),(cL H7 0 rfl),(cL H7 1 rfl),(cL H7 2 rfl),(cL H7 3 rfl),(cL H7 4 rfl),(cL H7 5 rfl),(cL H7 6 rfl)⟩ (fun hHeld => ?_)
   clear hK K
   refine no_ 133 ?_
   refine on_ 9 HT_ fun K hK => ?_
   refine appB_ (P := Tryz.prog) (t := 321) (e := 327) (size := 9) (bytes := 88) (base := w.heap.size) (.tmp 129) (.tmp 133) (.agg #[.int .i64 0,.int .i64 0,.int .u64 0,.int .u32 0,.int .i64 0,.int .u64 0,.int .u64 0,.string { data := #[] },.string { data := #[] }]) (by rfl) rfl rfl (by kernel_rfl) (by kernel_rfl) rfl (by decide) fv j (xsF dl vs j) (by rfl) OWN.out ⟨g14,0,none⟩ 1 [.int .i64 0,.int .i64 (j : Int),.int .u64 (1 + j),.int .u32 1,.int .i64 1,.int .u64 (1 + j),.int .u64 dl,.string idA,.string (vs j)] (by rfl) rfl (fun q u hq => by rcases q with _ | _ | _ | _ | _ | _ | _ | _ | _ | q <;> simp at hq <;> subst hq <;> exact (blk_cell H14.out _).trans rfl) (by simp [Value.oneCell']) (by have := HLT.out; simp only [maxLen]; omega) (by have := HLT.out; omega) BEL.out.size ?_
   intro fv2 W9 hown hgr
   obtain ⟨va,vl,vc,rfl⟩ := own_one (ownB_0 hown)
   have HO2 := Aside0.mk hown
   have HGR := Aside0.mk hgr
   clear hown hgr
   replace H2 := Aside0.mk (blk_grown H2.out HGR.out (fun e => own_ne (ownB_0 OWN.out) H2.out (by decide) _ e.symm rfl))
   replace H3 := Aside0.mk (blk_grown H3.out HGR.out (fun e => own_ne (ownB_0 OWN.out) H3.out (by decide) _ e.symm rfl))
   replace H5 := Aside0.mk (blk_grown H5.out HGR.out (fun e => own_ne (ownB_0 OWN.out) H5.out (by decide) _ e.symm rfl))
   replace H7 := Aside0.mk (blk_grown H7.out HGR.out (fun e => own_ne (ownB_0 OWN.out) H7.out (by decide) _ e.symm rfl))
   replace HO := Aside0.mk (blk_grown HO.out HGR.out (fun e => own_ne (ownB_0 OWN.out) HO.out (by decide) _ e.symm rfl))
   replace HL := Aside0.mk (blk_grown HL.out HGR.out (fun e => own_ne (ownB_0 OWN.out) HL.out (by decide) _ e.symm rfl))
   replace HX := Aside0.mk (blk_grown HX.out HGR.out (fun e => own_ne (ownB_0 OWN.out) HX.out (by decide) _ e.symm rfl))
   replace H12 := Aside0.mk (blk_grown H12.out HGR.out (fun e => own_ne (ownB_0 OWN.out) H12.out (by decide) _ e.symm rfl))
   replace HG := Aside0.mk (blk_grown HG.out HGR.out (fun e => own_ne (ownB_0 OWN.out) HG.out (by decide) _ e.symm rfl))
   replace BEL := Aside0.mk (BEL.out.grown HGR.out (fun k hk => .inr (ownB_le OWN.out k hk)))
   refine hK.out _ _ ⟨(cL H2 0 rfl),(cL HG 13 rfl),(cL H5 0 rfl),(cL H5 1 rfl),(cL H7 0 rfl),(cL H7 1 rfl),(cL H7 2 rfl),(cL H7 3 rfl),(cL H7 4 rfl),(cL H7 5 rfl),(cL H7 6 rfl)⟩ (fun hHeld => ?_)
   clear hK K
   refine no_ 134 ?_
   refine pa_ 10 135 HT_ ?_
   refine pa_ 11 136 HT_ ?_
   refine la_ 12 HT_ fun K hK => ?_
   have y_ : W9.cell? ⟨g,13,none⟩ = some fv := cL HG 13 rfl
   have f_ := blk_frozen HG.out 13
   refine skip_ (w1 := ?_) (by rfl) rfl ?_ ?_
   rotate_left
   ·go_simp
    rfl
   clear y_ f_
   rw [show W9.setCell ⟨g,13,none⟩ (.slice va vl vc) = W9.setRow g (img o1 d1 l1 e1 ao 1 al 1 af 1 (1 + j) (1 + j) (.slice va vl vc)) from setCell_eq_setRow W9 g 13 _ _ _ _ HG.out]
   refine hK.out _ _ ?_
   clear hK K
   refine dn_ HT_ ?_
   clear HT_ HW_ hHeld
   clear OWN
   obtain ⟨W10,hW⟩ : ∃ W_,W_ = W9.setRow g (img o1 d1 l1 e1 ao 1 al 1 af 1 (1 + j) (1 + j) (.slice va vl vc)) := ⟨_,rfl⟩
   rw [← hW]
   have q_ := mR (img o1 d1 l1 e1 ao 1 al 1 af 1 (1 + j) (1 + j) (.slice va vl vc)) H2.out (tne H2.out HG.out (by decide))
   rw [← hW] at q_
   replace H2 := Aside0.mk q_
   clear q_
   have q_ := mR (img o1 d1 l1 e1 ao 1 al 1 af 1 (1 + j) (1 + j) (.slice va vl vc)) H3.out (tne H3.out HG.out (by decide))
   rw [← hW] at q_
   replace H3 := Aside0.mk q_
   clear q_
   have q_ := mR (img o1 d1 l1 e1 ao 1 al 1 af 1 (1 + j) (1 + j) (.slice va vl vc)) H5.out (tne H5.out HG.out (by decide))
   rw [← hW] at q_
   replace H5 := Aside0.mk q_
   clear q_
   have q_ := mR (img o1 d1 l1 e1 ao 1 al 1 af 1 (1 + j) (1 + j) (.slice va vl vc)) H7.out (tne H7.out HG.out (by decide))
   rw [← hW] at q_
   replace H7 := Aside0.mk q_
   clear q_
   have q_ := mR (img o1 d1 l1 e1 ao 1 al 1 af 1 (1 + j) (1 + j) (.slice va vl vc)) HO.out (tne HO.out HG.out (by decide))
   rw [← hW] at q_
   replace HO := Aside0.mk q_
   clear q_
   have q_ := mR (img o1 d1 l1 e1 ao 1 al 1 af 1 (1 + j) (1 + j) (.slice va vl vc)) HL.out (tne HL.out HG.out (by decide))
   rw [← hW] at q_
   replace HL := Aside0.mk q_
   clear q_
   have q_ := mR (img o1 d1 l1 e1 ao 1 al 1 af 1 (1 + j) (1 + j) (.slice va vl vc)) HX.out (tne HX.out HG.out (by decide))
   rw [← hW] at q_
   replace HX := Aside0.mk q_
   clear q_
   have q_ := mR (img o1 d1 l1 e1 ao 1 al 1 af 1 (1 + j) (1 + j) (.slice va vl vc)) H12.out (tne H12.out HG.out (by decide))
   rw [← hW] at q_
   replace H12 := Aside0.mk q_
   clear q_
   have q_ := (show (W9.setRow g (img o1 d1 l1 e1 ao 1 al 1 af 1 (1 + j) (1 + j) (.slice va vl vc))).ownsRow w.heap.size 327 9 (.slice va vl vc) (j + 1) (xsF dl vs j ++ [.int .i64 0,.int .i64 (j : Int),.int .u64 (1 + j),.int .u32 1,.int .i64 1,.int .u64 (1 + j),.int .u64 dl,.string idA,.string (vs j)]) from ownB_keep HO2.out (fun q hq => setRow_other W9 g q _ (own_ne (ownB_0 HO2.out) HG.out (by decide) q hq)))
   rw [← hW] at q_
   replace HO2 := Aside0.mk q_
   clear q_
   have q_ := BEL.out.setRow (g := g) (img o1 d1 l1 e1 ao 1 al 1 af 1 (1 + j) (1 + j) (.slice va vl vc)) (.inl (by simp))
   rw [← hW] at q_
   replace BEL := Aside0.mk q_
   clear q_
   have q_ := setRow_heap W9 g _ (img o1 d1 l1 e1 ao 1 al 1 af 1 (1 + j) (1 + j) (.slice va vl vc)) _ _ HG.out
   rw [← hW] at q_
   replace HG := Aside0.mk q_
   clear q_
   clear hW
   have x5 : W10.cell? ⟨b5,1,none⟩ = some (.int .i64 (j : Int)) := cL H5 1 rfl
   have f5 := blk_frozen H5.out 1
   have q1_ : (0 : Int) ≤ j := by omega
   have q2_ : (j : Int) + 1 ≤ 9223372036854775807 := by have := HLT.out; omega
   go_upto_region 16 with fail
   clear x5 f5
   rw [show W10.setCell ⟨b5,1,none⟩ (.int .i64 ((j : Int) + 1)) = W10.setRow b5 #[.int .i64 0,.int .i64 ((j : Int) + 1)] from setCell_eq_setRow W10 b5 1 _ _ _ _ H5.out]
   obtain ⟨W11,hW⟩ : ∃ W_,W_ = W10.setRow b5 #[.int .i64 0,.int .i64 ((j : Int) + 1)] := ⟨_,rfl⟩
   rw [← hW]
   have q_ := mR #[.int .i64 0,.int .i64 ((j : Int) + 1)] H2.out (tne H2.out H5.out (by decide))
   rw [← hW] at q_
   replace H2 := Aside0.mk q_
   clear q_
   have q_ := mR #[.int .i64 0,.int .i64 ((j : Int) + 1)] H3.out (tne H3.out H5.out (by decide))
   rw [← hW] at q_
   replace H3 := Aside0.mk q_
   clear q_
   have q_ := mR #[.int .i64 0,.int .i64 ((j : Int) + 1)] H7.out (tne H7.out H5.out (by decide))
   rw [← hW] at q_
   replace H7 := Aside0.mk q_
   clear q_
   have q_ := mR #[.int .i64 0,.int .i64 ((j : Int) + 1)] HO.out (tne HO.out H5.out (by decide))
   rw [← hW] at q_
   replace HO := Aside0.mk q_
   clear q_
   have q_ := mR #[.int .i64 0,.int .i64 ((j : Int) + 1)] HL.out (tne HL.out H5.out (by decide))
   rw [← hW] at q_
   replace HL := Aside0.mk q_
   clear q_
   have q_ := mR #[.int .i64 0,.int .i64 ((j : Int) + 1)] HX.out (tne HX.out H5.out (by decide))
   rw [← hW] at q_
   replace HX := Aside0.mk q_
   clear q_
   have q_ := mR #[.int .i64 0,.int .i64 ((j : Int) + 1)] H12.out (tne H12.out H5.out (by decide))
   rw [← hW] at q_
   replace H12 := Aside0.mk q_
   clear q_
   have q_ := mR #[.int .i64 0,.int .i64 ((j : Int) + 1)] HG.out (tne HG.out H5.out (by decide))
   rw [← hW] at q_
   replace HG := Aside0.mk q_
   clear q_
   have q_ := (show (W10.setRow b5 #[.int .i64 0,.int .i64 ((j : Int) + 1)]).ownsRow w.heap.size 327 9 (.slice va vl vc) (j + 1) (xsF dl vs j ++ [.int .i64 0,.int .i64 (j : Int),.int .u64 (1 + j),.int .u32 1,.int .i64 1,.int .u64 (1 + j),.int .u64 dl,.string idA,.string (vs j)]) from ownB_keep HO2.out (fun q hq => setRow_other W10 b5 q _ (own_ne (ownB_0 HO2.out) H5.out (by decide) q hq)))
   rw [← hW] at q_
   replace HO2 := Aside0.mk q_
   clear q_
   have q_ := BEL.out.setRow (g := b5) #[.int .i64 0,.int .i64 ((j : Int) + 1)] (.inr G5.out)
   rw [← hW] at q_
   replace BEL := Aside0.mk q_
   clear q_
   have q_ := setRow_heap W10 b5 _ #[.int .i64 0,.int .i64 ((j : Int) + 1)] _ _ H5.out
   rw [← hW] at q_
   replace H5 := Aside0.mk q_
   clear q_
   clear hW
   have x2 : W11.cell? ⟨b2,0,none⟩ = some (.pointer (some ⟨g,0,none⟩)) := cL H2 0 rfl
   have y11 : W11.cell? ⟨g,11,none⟩ = some (.int .u64 (1 + (j : Int))) := cL HG 11 rfl
   have f11 := blk_frozen HG.out 11
   have hw_ : IntKind.u64.wrap (1 + (j : Int) + 1) = 1 + (j : Int) + 1 := by have := HLT.out; simp only [IntKind.wrap_u64]; omega
   go_wp2_with fail
   clear x2 y11 f11
   rw [show W11.setCell ⟨g,11,none⟩ (.int .u64 (1 + (j : Int) + 1)) = W11.setRow g (img o1 d1 l1 e1 ao 1 al 1 af 1 (1 + j + 1) (1 + j) (.slice va vl vc)) from setCell_eq_setRow W11 g 11 _ _ _ _ HG.out]
   obtain ⟨W12,hW⟩ : ∃ W_,W_ = W11.setRow g (img o1 d1 l1 e1 ao 1 al 1 af 1 (1 + j + 1) (1 + j) (.slice va vl vc)) := ⟨_,rfl⟩
   rw [← hW]
   have q_ := mR (img o1 d1 l1 e1 ao 1 al 1 af 1 (1 + j + 1) (1 + j) (.slice va vl vc)) H2.out (tne H2.out HG.out (by decide))
   rw [← hW] at q_
   replace H2 := Aside0.mk q_
   clear q_
   have q_ := mR (img o1 d1 l1 e1 ao 1 al 1 af 1 (1 + j + 1) (1 + j) (.slice va vl vc)) H3.out (tne H3.out HG.out (by decide))
   rw [← hW] at q_
   replace H3 := Aside0.mk q_
   clear q_
   have q_ := mR (img o1 d1 l1 e1 ao 1 al 1 af 1 (1 + j + 1) (1 + j) (.slice va vl vc)) H5.out (tne H5.out HG.out (by decide))
   rw [← hW] at q_
   replace H5 := Aside0.mk q_
   clear q_
   have q_ := mR (img o1 d1 l1 e1 ao 1 al 1 af 1 (1 + j + 1) (1 + j) (.slice va vl vc)) H7.out (tne H7.out HG.out (by decide))
   rw [← hW] at q_
   replace H7 := Aside0.mk q_
   clear q_
   have q_ := mR (img o1 d1 l1 e1 ao 1 al 1 af 1 (1 + j + 1) (1 + j) (.slice va vl vc)) HO.out (tne HO.out HG.out (by decide))
   rw [← hW] at q_
   replace HO := Aside0.mk q_
   clear q_
   have q_ := mR (img o1 d1 l1 e1 ao 1 al 1 af 1 (1 + j + 1) (1 + j) (.slice va vl vc)) HL.out (tne HL.out HG.out (by decide))
   rw [← hW] at q_
   replace HL := Aside0.mk q_
   clear q_
   have q_ := mR (img o1 d1 l1 e1 ao 1 al 1 af 1 (1 + j + 1) (1 + j) (.slice va vl vc)) HX.out (tne HX.out HG.out (by decide))
   rw [← hW] at q_
   replace HX := Aside0.mk q_
   clear q_
   have q_ := mR (img o1 d1 l1 e1 ao 1 al 1 af 1 (1 + j + 1) (1 + j) (.slice va vl vc)) H12.out (tne H12.out HG.out (by decide))
   rw [← hW] at q_
   replace H12 := Aside0.mk q_
   clear q_
   have q_ := (show (W11.setRow g (img o1 d1 l1 e1 ao 1 al 1 af 1 (1 + j + 1) (1 + j) (.slice va vl vc))).ownsRow w.heap.size 327 9 (.slice va vl vc) (j + 1) (xsF dl vs j ++ [.int .i64 0,.int .i64 (j : Int),.int .u64 (1 + j),.int .u32 1,.int .i64 1,.int .u64 (1 + j),.int .u64 dl,.string idA,.string (vs j)]) from ownB_keep HO2.out (fun q hq => setRow_other W11 g q _ (own_ne (ownB_0 HO2.out) HG.out (by decide) q hq)))
   rw [← hW] at q_
   replace HO2 := Aside0.mk q_
   clear q_
   have q_ := BEL.out.setRow (g := g) (img o1 d1 l1 e1 ao 1 al 1 af 1 (1 + j + 1) (1 + j) (.slice va vl vc)) (.inl (by simp))
   rw [← hW] at q_
   replace BEL := Aside0.mk q_
   clear q_
   have q_ := setRow_heap W11 g _ (img o1 d1 l1 e1 ao 1 al 1 af 1 (1 + j + 1) (1 + j) (.slice va vl vc)) _ _ HG.out
   rw [← hW] at q_
   replace HG := Aside0.mk q_
   clear q_
   clear hW
   obtain ⟨k',rfl⟩ : ∃ k',gk = k' + 1 := ⟨gk - 1,by have := HGK.out; omega⟩
   go_roundg k'
   case measure => omega
   case rel =>
    have z1_ : (1 + (j : Int) + 1) = 1 + ((j + 1 : Nat) : Int) := by omega
    have z2_ : (1 + (j : Int)) = ((j + 1 : Nat) : Int) := by omega
    have z3_ : ((j : Int) + 1) = ((j + 1 : Nat) : Int) := by omega
    have hG := HG.out
    rw [z1_] at hG
    have hq : img o1 d1 l1 e1 ao 1 al 1 af 1 (1 + ((j + 1 : Nat) : Int)) (1 + j) (.slice va vl vc) = img o1 d1 l1 e1 ao 1 al 1 af 1 (1 + ((j + 1 : Nat) : Int)) ((j + 1 : Nat) : Int) (.slice va vl vc) := by rw [z2_]
    rw [hq] at hG
    have h5 := H5.out
    rw [z3_] at h5
    have hL := HL.out
    rw [z3_] at hL
    exact ⟨j + 1,ao,1,al,1,af,1,(.slice va vl vc),_,_,_,⟨by have := HJN.out; omega⟩,⟨⟨hG,HO.out,hL,HX.out,rfl,rfl,rfl,Nat.le_refl _,HO2.out,.inr ⟨rfl,rfl,rfl,rfl,rfl,rfl,HNE.out⟩,BEL.out⟩⟩,⟨h5⟩,H2,H3⟩
end Go.Proofs.YtokfjbbjkiilmaaGreatDoor.H
