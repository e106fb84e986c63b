/-
TopTorn: part of its walk (Cp4, Ap, Cp5, Cp6, Tab).
-/
import Derived.Test.YtokfjbbjkiilmaaGreatDoorTG
set_option linter.unusedVariables false
set_option linter.unusedSimpArgs false
namespace Go.Proofs.YtokfjbbjkiilmaaGreatDoor.H
open Go.RowKit Go.Proofs.YtokfjbbjkiilmaaGreatDoorW.PrintWords Go.Proofs.YtokfjbbjkiilmaaGreatDoorW.PrintLast Go.Proofs.YtokfjbbjkiilmaaGreatDoorW.PrintMore
set_option maxHeartbeats 8000000
set_option maxRecDepth 100000
attribute [local go_sem] max2_int min2_int min_two max_two
open Go.Proofs.YtokfjbbjkiilmaaGreatDoor.Rf in
theorem noOut {P : Program} {c : Code} {K : Act → World → Prop} {Q : Exit → Act → World → Prop} {a : Act} {w : World} (h : c.wp P (QN K) a w) : c.wp P (Exit.then K Q) a w :=
 wp_mono h (fun e a w q => by cases e <;> first | exact q | exact False.elim q)
theorem results_cs {P : Program} {fn : Func} {p p' : Tmp} {ty ty' : TypeId} (h : fn.results = #[.cell p ty,.cell p' ty']) (tmps : Array Value) (w : World) (g : Nat) (t : TypeId) (cs : Array Value) (fr : Nat × Nat) (d : TypeDesc) (q : Addr) (v : Value)
 (hp : tmps.getD p undef = .pointer (some ⟨g,0,none⟩)) (hg : w.heap[g]? = some (.cells cs t fr))
 (hu : P.underlying ty = some d) (hd : (match d with | .struct _ | .array _ _ => true | _ => false) = true) (hi : (P.info? ty).map (·.size) = some cs.size)
 (hp' : tmps.getD p' undef = .pointer (some q)) (hl : (loadVar ty' q).run P w = .ok v w) :
 (results fn tmps).run P w = .ok (.tuple #[.agg cs,v]) w := by
 have h1 : tmps[p]?.getD undef = .pointer (some ⟨g,0,none⟩) := by simpa using hp
 have h2 : tmps[p']?.getD undef = .pointer (some q) := by simpa using hp'
 simp [results,h,h1,h2,asAddr,run_loadVar_row w g t ty cs fr d hg hu hd hi,hl]
theorem acc_zeros (s : ByteArray) (h : ∀ j,sb s j = 0) : ∀ n,acc s n = 0
 | 0 => rfl
 | n + 1 => by
  show acc s n + sb s n * 256 ^ n = 0
  rw [acc_zeros s h n,h n]
  simp
theorem sb_ext (s : ByteArray) (a b j : Nat) : sb (s.extract a b) j = if j < b - a then sb s (a + j) else 0 := by
 unfold sb
 rw [ex_list,List.getD,List.getD]
 split
 ·rename_i h
  rw [List.getElem?_take_of_lt h,List.getElem?_drop]
 ·rename_i h
  rw [List.getElem?_eq_none (by rw [List.length_take]; omega)]
  rfl
theorem sb_idx (s : ByteArray) (j : Nat) (h : j < s.size) : ((s[j]'h).toNat : Int) = sb s j := by
 have h2 : j < s.data.toList.length := by rw [ba_len]; exact h
 unfold sb
 rw [List.getD,List.getElem?_eq_getElem h2]
 rfl
def ckdec.T5 : Bool × List (List Nat × List Nat) := (true,[([],[]),([0],[0]),([],[]),([2],[2]),([3,1],[3]),([4],[4]),([],[]),([6],[6]),([7,4],[7]),([],[]),([9],[9]),([10,8],[10]),([1,5,8,11],[1,5,8,11]),([12,11,0,1,2,3,4,5,6,7,8,9,10,11,12],[12])])
def ckdec.B5 : List Nat := [0,1,0,4,15,31,0,64,223,0,512,2015,4095,8191]
theorem ckdec.tab5 : rtab .any (opsOf Tryz.f311 5) = ckdec.T5 := by kernel_rfl
theorem ckdec.bits5 : waitsOk ckdec.T5.2 ckdec.B5 = true := by kernel_rfl
theorem ckdec0_calls (s : ByteArray) (w : World) (hs : s.size = 128) (hn : sb s 28 = 0) (e0 : acc s 8 = 0) (e1 : acc (s.extract 8 12) 8 = 0) (e2 : acc (s.extract 12 20) 8 = 0) (e3 : acc (s.extract 20 28) 8 = 0) :
 Calls Tryz.prog 311 #[.string s] w fun e w' => e = .returned (.tuple #[.agg #[.int .u64 0,.int .u32 0,.int .u64 0,.int .u64 0,.slice none 0 0,.slice none 0 0],.int .i64 5]) ∧ Below w.heap.size w w' := by
 have HS := Aside0.mk hs
 have hb0 : (28 < s.size) = True := eq_true (by omega)
 have hidx := sb_idx s 28 (by omega)
 rw [hn] at hidx
 have hsz : (s.size : Int) = 128 := by omega
 have E0 := Aside0.mk e0
 have E1 := Aside0.mk e1
 have E2 := Aside0.mk e2
 have E3 := Aside0.mk e3
 clear hn e0 e1 e2 e3
 go_enter_defers Tryz.func311,Tryz.ntmps311
 go_upto_region 2 with fail
 obtain ⟨W1,g2,g3,hW_,hg2,hg3,HZ,H3,hb_⟩ := new2 w #[.int .u64 0,.int .u32 0,.int .u64 0,.int .u64 0,.slice none 0 0,.slice none 0 0] 292 #[.int .i64 0] 39
 rw [← hW_,← hg3.out,← hg2.out]
 have HB := Aside0.mk hb_
 clear hW_ hb_
 have N32 : Aside0 (g3 ≠ g2) := ⟨tne H3.out HZ.out (by decide)⟩
 have G2 : Aside0 (w.heap.size ≤ g2) := ⟨by have := hg2.out; omega⟩
 have G3 : Aside0 (w.heap.size ≤ g3) := ⟨by have := hg3.out; omega⟩
 go_wp2_with fail
 refine (ckmust_yes _).mono ?_
 rintro e_ w2 ⟨rfl,rfl⟩
 go_wp2_with fail
 refine (ckmust_yes _).mono ?_
 rintro e_ w3 ⟨rfl,rfl⟩
 go_upto_region 5 with fail
 have ew : IntKind.u32.wrap (0 : Int) = 0 := by rfl
 have hc1 : (8 ≤ s.size) = True := eq_true (by omega)
 have hc2 : (12 ≤ s.size) = True := eq_true (by omega)
 have hc3 : (20 ≤ s.size) = True := eq_true (by omega)
 have hc4 : (28 ≤ s.size) = True := eq_true (by omega)
 refine noOut ?_
 refine st_ 14 (fun w' => True) [13] trivial fun hHeld => ?_
 refine with_tabW ckdec.tab5 ckdec.bits5 (fun HT_ HW_ => ?_)
 replace HZ := mD HZ
 replace H3 := mD H3
 replace HB := bD HB
 generalize w3.drew = wd1 at *
 refine pa_ 0 19 HT_ ?_
 refine pa_ 2 21 HT_ ?_
 refine pa_ 3 22 HT_ ?_
 refine pa_ 6 25 HT_ ?_
 refine pa_ 7 26 HT_ ?_
 refine pa_ 9 28 HT_ ?_
 refine pa_ 10 29 HT_ ?_
 refine on_ 1 HT_ fun K hK => ?_
 refine gc_ Tryz.func206 #[.string (s)] ?_
 with_reducible refine (get_calls (s) _).mono ?_
 rintro e_ Wa ⟨rfl,hb⟩
 rw [E0.out]
 refine ⟨_,rfl,?_⟩
 replace HZ := mb HZ hb
 replace H3 := mb H3 hb
 replace HB := mS HB hb
 clear hb
 refine hK.out _ _ trivial (fun hHeld => ?_)
 clear hK K
 refine no_ 20 ?_
 refine on_ 4 HT_ fun K hK => ?_
 refine gc_ Tryz.func206 #[.string (s.extract 8 12)] ?_
 with_reducible refine (get_calls (s.extract 8 12) _).mono ?_
 rintro e_ Wb ⟨rfl,hb⟩
 rw [E1.out]
 refine ⟨_,rfl,?_⟩
 replace HZ := mb HZ hb
 replace H3 := mb H3 hb
 replace HB := mS HB hb
 clear hb
 refine hK.out _ _ trivial (fun hHeld => ?_)
 clear hK K
 refine no_ 23 ?_
 refine pa_ 5 24 HT_ ?_
 refine on_ 8 HT_ fun K hK => ?_
 refine gc_ Tryz.func206 #[.string (s.extract 12 20)] ?_
 with_reducible refine (get_calls (s.extract 12 20) _).mono ?_
 rintro e_ Wc ⟨rfl,hb⟩
 rw [E2.out]
 refine ⟨_,rfl,?_⟩
 replace HZ := mb HZ hb
 replace H3 := mb H3 hb
 replace HB := mS HB hb
 clear hb
 refine hK.out _ _ trivial (fun hHeld => ?_)
 clear hK K
 refine no_ 27 ?_
 refine on_ 11 HT_ fun K hK => ?_
 refine gc_ Tryz.func206 #[.string (s.extract 20 28)] ?_
 with_reducible refine (get_calls (s.extract 20 28) _).mono ?_
 rintro e_ Wd ⟨rfl,hb⟩
 rw [E3.out]
 refine ⟨_,rfl,?_⟩
 replace HZ := mb HZ hb
 replace H3 := mb H3 hb
 replace HB := mS HB hb
 clear hb
 refine hK.out _ _ trivial (fun hHeld => ?_)
 clear hK K
 refine no_ 30 ?_
 refine pa_ 12 31 HT_ ?_
 refine la_ 13 HT_ fun K hK => ?_
 refine sR_ 2 31 #[.int .u64 0,.int .u32 0,.int .u64 0,.int .u64 0,.slice none 0 0,.slice none 0 0] HZ.out ?_
 refine hK.out _ _ ?_
 clear hK K
 refine dn_ HT_ ?_
 clear HT_ HW_ hHeld
 dsimp only [Go.Proofs.YtokfjbbjkiilmaaGreatDoor.Rf.QN]
 obtain ⟨We,hw⟩ : ∃ W_,W_ = Wd.setRow g2 #[.int .u64 0,.int .u32 0,.int .u64 0,.int .u64 0,.slice none 0 0,.slice none 0 0] := ⟨_,rfl⟩
 rw [← hw]
 have q_ := setRow_heap Wd g2 _ #[.int .u64 0,.int .u32 0,.int .u64 0,.int .u64 0,.slice none 0 0,.slice none 0 0] _ _ HZ.out
 rw [← hw] at q_
 replace HZ := Aside0.mk q_
 clear q_
 have q_ := mR #[.int .u64 0,.int .u32 0,.int .u64 0,.int .u64 0,.slice none 0 0,.slice none 0 0] H3.out N32.out
 rw [← hw] at q_
 replace H3 := Aside0.mk q_
 clear q_
 have q_ := below_setRow HB.out G2.out #[.int .u64 0,.int .u32 0,.int .u64 0,.int .u64 0,.slice none 0 0,.slice none 0 0]
 rw [← hw] at q_
 replace HB := Aside0.mk q_
 clear q_ hw
 go_wp2_with fail
 go_loopw [33] (fun v wr => v = .int .i64 0 ∧ Aside0 (wr = We)) (fun v _ => 1)
 case atStart => exact ⟨rfl,⟨rfl⟩⟩
 case round =>
  obtain ⟨rfl,⟨hw⟩⟩ := hrel
  subst hw
  go_wp2_with (refine lr_ 2 HZ.out Tryz.underlying292 ?_)
  refine (ckenc0_calls _).mono ?_
  rintro e_ Wf ⟨rfl,hb⟩
  replace HZ := mb HZ hb
  replace H3 := mb H3 hb
  replace HB := mS HB hb
  clear hb
  go_wp2_with fail
  refine (ckmust_no _).mono ?_
  rintro e_ Wg ⟨rfl,rfl⟩
  dsimp only
  refine leaves_cons (f := 313) (args := #[.pointer (some ⟨g2,0,none⟩),.pointer (some ⟨g3,0,none⟩)]) (by simp) (by simp [go_sem]) ?_
  refine (ckcatch_panic g2 g3 #[.int .u64 0,.int .u32 0,.int .u64 0,.int .u64 0,.slice none 0 0,.slice none 0 0] 0 [] _ HZ.out rfl H3.out N32.out).mono ?_
  rintro e_ u_ W9 ⟨rfl,rfl,q2,q3,qk⟩
  dsimp only
  have hl : (loadVar 39 ⟨g3,0,none⟩).run Tryz.prog W9 = .ok (.int .i64 5) W9 := by have c3 : W9.cell? ⟨g3,0,none⟩ = some (.int .i64 5) := (blk_cell q3 0).trans rfl; simp [go_sem,c3]
  have hbf := below_keep HB.out qk (by intro q hq; simp at hq; rcases hq with rfl | rfl; exact G2.out; exact G3.out)
  simp only [Leaves,settle]
  trace_state
  exact ⟨_,results_cs rfl _ _ g2 292 _ (0,0) _ _ _ rfl q2 Tryz.underlying292 rfl (by kernel_rfl) rfl hl,rfl,hbf⟩
end Go.Proofs.YtokfjbbjkiilmaaGreatDoor.H
namespace Go.Proofs.YtokfjbbjkiilmaaGreatDoor.H
open Go.RowKit Go.Proofs.YtokfjbbjkiilmaaGreatDoorW.PrintWords Go.Proofs.YtokfjbbjkiilmaaGreatDoorW.PrintLast Go.Proofs.YtokfjbbjkiilmaaGreatDoorW.PrintMore
/-- A new row of one element. -/
structure New1 (w : World) (e size : Nat) (news : List Value) (g cap : Nat) (W : World) : Prop where
 below : Below w.heap.size w W
 at_ : w.heap.size ≤ g
 row : ∃ cur,W.heap[g]? = some (.cells cur e (0,0)) ∧ cur.size = cap * size ∧ cur.toList.take size = news
 cap : 1 ≤ cap ∧ cap ≤ maxLen
theorem New1.cell {w W : World} {e size g cap : Nat} {news : List Value} (h : New1 w e size news g cap W) (j : Nat) (u : Value) (hj : news[j]? = some u) : W.cell? ⟨g,j,none⟩ = some u := by
 obtain ⟨cur,h1,h2,h3⟩ := h.row
 rw [blk_cell h1,← Array.getElem?_toList]
 rw [← h3] at hj
 have hlt : j < size := by
  rcases Nat.lt_or_ge j size with h | h
  ·exact h
  ·rw [List.getElem?_eq_none (by rw [List.length_take]; omega)] at hj
   cases hj
 rwa [List.getElem?_take_of_lt hlt] at hj
theorem New1.own {w W : World} {e size g cap : Nat} {news : List Value} (h : New1 w e size news g cap W) (hl : news.length = size) : W.ownsRow 0 e size (.slice (some ⟨g,0,none⟩) 1 cap) 1 news := by
 obtain ⟨cur,h1,h2,h3⟩ := h.row
 exact ⟨by rw [hl,Nat.one_mul],.inr ⟨g,cap,cur,rfl,Nat.zero_le _,h1,h.cap.1,h.cap.2,h2,by rw [Nat.one_mul]; exact h3⟩⟩
theorem below_grown_none {w W : World} (h : w.grownBy W none) : Below w.heap.size w W := ⟨h.os,h.tape,h.output,h.size,fun k hk => h.block k hk (fun e => by cases e)⟩
section
variable {P : Program} {w : World} {t e : TypeId} {size bytes : Nat}
theorem run_app1 (ty : TypeId) (z : Value) (ht : P.underlying t = some (.slice e)) (hi : (P.info? e).map (fun i => (i.zero,i.size,i.bytes)) = some (some z,size,bytes)) (hzs : z.cells.size = size) (hsz : 0 < size) (ad : Addr) (c : Nat) (news : List Value) (hl : news.length = size) (hnews : ∀ j u,news[j]? = some u → w.cell? (ad.add j) = some u) (h1 : ∀ u ∈ news,u.oneCell' = true) (hbytes : bytes ≤ 140737488355328) :
 ∃ g cap W,(Builtin.append_ #[t,t] ty #[.slice none 0 0,.slice (some ad) 1 c]).run P w = .ok (.slice (some ⟨g,0,none⟩) 1 cap) W ∧ New1 w e size news g cap W := by
 obtain ⟨i,e1,e2,e3,e4⟩ := infoE hi
 obtain ⟨v,W,hr,ho,hg,hn,ha⟩ := run_append_own_at (P := P) w w.heap.size t ty e i z size bytes ht e1 e2 e3 e4 hzs hsz (.slice none 0 0) 0 [] ⟨by simp,.inl ⟨rfl,rfl⟩⟩ ad 1 c news (by rw [hl,Nat.one_mul]) hnews h1 (by decide) (by omega) (Nat.le_refl _)
 obtain ⟨o1,o2⟩ := ho
 rcases o2 with ⟨rfl,h⟩ | ⟨g,cap,cur,rfl,hb,hh,c1,c2,c3,c4⟩
 ·exact absurd h (by decide)
 ·exact ⟨g,cap,W,hr,below_grown_none hg,hb,⟨cur,hh,c3,by simpa using c4⟩,by simpa using c1,c2⟩
theorem appR_ {ops : Array Oper} {Q : Exit → Act → World → Prop} {oi : Oper} {N : Tmp} {a : Act} {K : Act → World → Prop} (s x : Operand) (z : Value) (hw : Region.wanted oi (yielded ops a.tmps) = true) (hN : oi.dst = some N) (ho : oi.op = .call { callee := .builtin .append,args := #[s,x],argTypes := #[t,t] })
 (ht : P.underlying t = some (.slice e)) (hi : (P.info? e).map (fun i => (i.zero,i.size,i.bytes)) = some (some z,size,bytes)) (hzs : z.cells.size = size) (hsz : 0 < size) (ad : Addr) (c : Nat) (news : List Value) (hs : a.eval s = .slice none 0 0) (hx : a.eval x = .slice (some ad) 1 c) (hl : news.length = size) (hnews : ∀ j u,news[j]? = some u → w.cell? (ad.add j) = some u) (h1 : ∀ u ∈ news,u.oneCell' = true) (hbytes : bytes ≤ 140737488355328)
 (h : ∀ g cap W,New1 w e size news g cap W → K (a.put (some N) (.slice (some ⟨g,0,none⟩) 1 cap)) W) : if Region.wanted oi (yielded ops a.tmps) = true then Oper.wp P oi a w K Q else K (a.put (some N) undef) w := by
 rw [if_pos hw]
 obtain ⟨g,cap,W,hr,hn⟩ := run_app1 (P := P) (w := w) oi.type z ht hi hzs hsz ad c news hl hnews h1 hbytes
 unfold Oper.wp execOp
 simp only [ho,resolve,invoke,builtin,Sem.run_bind,Sem.run_pure,Result.andThen_ok,List.map_toArray,List.map_cons,List.map_nil,hs,hx,hr]
 have := h g cap W hn
 rw [← hN] at this
 exact this
end
/-- A cell of another block than the one that is stored to. -/
theorem cell_far {w : World} {o g i : Nat} (hn : o ≠ g) (j : Nat) (v : Value) : (w.setCell ⟨g,j,none⟩ v).cell? ⟨o,i,none⟩ = w.cell? ⟨o,i,none⟩ :=
 World.cell?_setCell_other _ _ _ _ (fun e => by injection e with e1 _; first | exact hn e1 | exact hn e1.symm)
open Go.Proofs.YtokfjbbjkiilmaaGreatDoor.Rf in
theorem noOut' {P : Program} {c : Code} {Q : Exit → Act → World → Prop} {a : Act} {w : World} (h : c.wp P (QN (fun a w => Q .normal a w)) a w) : c.wp P Q a w :=
 wp_mono h (fun e a w q => by cases e <;> first | exact q | exact False.elim q)
end Go.Proofs.YtokfjbbjkiilmaaGreatDoor.H
namespace Go.Proofs.YtokfjbbjkiilmaaGreatDoor.H
open Go.RowKit Go.Proofs.YtokfjbbjkiilmaaGreatDoorW.PrintWords Go.Proofs.YtokfjbbjkiilmaaGreatDoorW.PrintLast Go.Proofs.YtokfjbbjkiilmaaGreatDoorW.PrintMore
set_option maxHeartbeats 8000000
set_option maxRecDepth 100000
attribute [local go_sem] max2_int min2_int min_two max_two
def ckdec.T9 : Bool × List (List Nat × List Nat) := (true,[([],[]),([0],[0]),([],[]),([],[]),([3],[3]),([4],[4]),([2,5],[2,5]),([6],[6]),([7],[7]),([1,8],[1,8]),([0,1,2,3,4,5,6,7,8,9],[]),([10,9,9,0,1,2,3,4,5,6,7,8,9],[9,10])])
def ckdec.B9 : List Nat := [0,1,0,0,8,24,60,124,252,511,1023,2047]
theorem ckdec.tab9 : rtab .any (opsOf Tryz.f311 9) = ckdec.T9 := by kernel_rfl
theorem ckdec.bits9 : waitsOk ckdec.T9.2 ckdec.B9 = true := by kernel_rfl
def ckdec.T10 : Bool × List (List Nat × List Nat) := (true,[([],[]),([0],[0]),([],[]),([],[]),([3],[3]),([4],[4]),([5],[5]),([2,6],[2,6]),([7],[7]),([8],[8]),([1,9],[1,9]),([0,1,2,3,4,5,6,7,8,9,10],[]),([11,10,10,0,1,2,3,4,5,6,7,8,9,10],[10,11])])
def ckdec.B10 : List Nat := [0,1,0,0,8,24,56,124,252,508,1023,2047,4095]
theorem ckdec.tab10 : rtab .any (opsOf Tryz.f311 10) = ckdec.T10 := by kernel_rfl
theorem ckdec.bits10 : waitsOk ckdec.T10.2 ckdec.B10 = true := by kernel_rfl
theorem ckdec1_calls (s : ByteArray) (gn ep ls vr k : Int) (w : World) (hs : s.size = 128) (hn : sb s 28 = 1) (x29 : sb s 29 = 0) (x30 : sb s 30 = k) (e0 : acc s 8 = gn) (e1 : acc (s.extract 8 12) 8 = ep) (e2 : acc (s.extract 12 20) 8 = ls) (e3 : acc (s.extract 20 28) 8 = vr) (hnn : (0 < gn ∧ gn < 18446744073709551616) ∧ (0 ≤ ep ∧ ep < 4294967296) ∧ (0 < ls ∧ ls < 18446744073709551616) ∧ (0 ≤ vr ∧ vr < 18446744073709551616) ∧ (0 ≤ k ∧ k ≤ 30)) (hck : s = ckS gn ep ls vr k) :
 Calls Tryz.prog 311 #[.string s] w fun e w' => ∃ oo co ln cl : Nat,e = .returned (.tuple #[.agg #[.int .u64 gn,.int .u32 ep,.int .u64 ls,.int .u64 vr,.slice (some ⟨oo,0,none⟩) 1 co,.slice (some ⟨ln,0,none⟩) 1 cl],.int .i64 0]) ∧ w'.cell? ⟨oo,0,none⟩ = some (.int .i64 0) ∧ w'.cell? ⟨ln,0,none⟩ = some (.int .i64 k) ∧ Below w.heap.size w w' := by
 have HS := Aside0.mk hs
 have hb0 : (28 < s.size) = True := eq_true (by omega)
 have hidx := sb_idx s 28 (by omega)
 rw [hn] at hidx
 have hsz : (s.size : Int) = 128 := by omega
 have E0 := Aside0.mk e0
 have E1 := Aside0.mk e1
 have E2 := Aside0.mk e2
 have E3 := Aside0.mk e3
 clear hn e0 e1 e2 e3
 have HNN := Aside0.mk hnn
 have X29 := Aside0.mk x29
 have X30 := Aside0.mk x30
 have HCK := Aside0.mk hck
 clear hnn x29 x30 hck
 go_enter_defers Tryz.func311,Tryz.ntmps311
 go_upto_region 2 with fail
 obtain ⟨W1,g2,g3,hW_,hg2,hg3,HZ,H3,hb_⟩ := new2 w #[.int .u64 0,.int .u32 0,.int .u64 0,.int .u64 0,.slice none 0 0,.slice none 0 0] 292 #[.int .i64 0] 39
 rw [← hW_,← hg3.out,← hg2.out]
 have HB := Aside0.mk hb_
 clear hW_ hb_
 have N32 : Aside0 (g3 ≠ g2) := ⟨tne H3.out HZ.out (by decide)⟩
 have G2 : Aside0 (w.heap.size ≤ g2) := ⟨by have := hg2.out; omega⟩
 have G3 : Aside0 (w.heap.size ≤ g3) := ⟨by have := hg3.out; omega⟩
 go_wp2_with fail
 refine (ckmust_yes _).mono ?_
 rintro e_ w2 ⟨rfl,rfl⟩
 go_wp2_with fail
 refine (ckmust_yes _).mono ?_
 rintro e_ w3 ⟨rfl,rfl⟩
 go_upto_region 5 with fail
 have ew : IntKind.u32.wrap (ep : Int) = ep := by have := HNN.out.2.1; rw [IntKind.wrap_u32]; omega
 have hc1 : (8 ≤ s.size) = True := eq_true (by omega)
 have hc2 : (12 ≤ s.size) = True := eq_true (by omega)
 have hc3 : (20 ≤ s.size) = True := eq_true (by omega)
 have hc4 : (28 ≤ s.size) = True := eq_true (by omega)
 refine noOut ?_
 refine st_ 14 (fun w' => True) [13] trivial fun hHeld => ?_
 refine with_tabW ckdec.tab5 ckdec.bits5 (fun HT_ HW_ => ?_)
 replace HZ := mD HZ
 replace H3 := mD H3
 replace HB := bD HB
 generalize w3.drew = wd1 at *
 refine pa_ 0 19 HT_ ?_
 refine pa_ 2 21 HT_ ?_
 refine pa_ 3 22 HT_ ?_
 refine pa_ 6 25 HT_ ?_
 refine pa_ 7 26 HT_ ?_
 refine pa_ 9 28 HT_ ?_
 refine pa_ 10 29 HT_ ?_
 refine on_ 1 HT_ fun K hK => ?_
 refine gc_ Tryz.func206 #[.string (s)] ?_
 with_reducible refine (get_calls (s) _).mono ?_
 rintro e_ Wa ⟨rfl,hb⟩
 rw [E0.out]
 refine ⟨_,rfl,?_⟩
 replace HZ := mb HZ hb
 replace H3 := mb H3 hb
 replace HB := mS HB hb
 clear hb
 refine hK.out _ _ trivial (fun hHeld => ?_)
 clear hK K
 refine no_ 20 ?_
 refine on_ 4 HT_ fun K hK => ?_
 refine gc_ Tryz.func206 #[.string (s.extract 8 12)] ?_
 with_reducible refine (get_calls (s.extract 8 12) _).mono ?_
 rintro e_ Wb ⟨rfl,hb⟩
 rw [E1.out]
 refine ⟨_,rfl,?_⟩
 replace HZ := mb HZ hb
 replace H3 := mb H3 hb
 replace HB := mS HB hb
 clear hb
 refine hK.out _ _ trivial (fun hHeld => ?_)
 clear hK K
 refine no_ 23 ?_
 refine pa_ 5 24 HT_ ?_
 refine on_ 8 HT_ fun K hK => ?_
 refine gc_ Tryz.func206 #[.string (s.extract 12 20)] ?_
 with_reducible refine (get_calls (s.extract 12 20) _).mono ?_
 rintro e_ Wc ⟨rfl,hb⟩
 rw [E2.out]
 refine ⟨_,rfl,?_⟩
 replace HZ := mb HZ hb
 replace H3 := mb H3 hb
 replace HB := mS HB hb
 clear hb
 refine hK.out _ _ trivial (fun hHeld => ?_)
 clear hK K
 refine no_ 27 ?_
 refine on_ 11 HT_ fun K hK => ?_
 refine gc_ Tryz.func206 #[.string (s.extract 20 28)] ?_
 with_reducible refine (get_calls (s.extract 20 28) _).mono ?_
 rintro e_ Wd ⟨rfl,hb⟩
 rw [E3.out]
 refine ⟨_,rfl,?_⟩
 replace HZ := mb HZ hb
 replace H3 := mb H3 hb
 replace HB := mS HB hb
 clear hb
 refine hK.out _ _ trivial (fun hHeld => ?_)
 clear hK K
 refine no_ 30 ?_
 refine pa_ 12 31 HT_ ?_
 refine la_ 13 HT_ fun K hK => ?_
 refine sR_ 2 31 #[.int .u64 gn,.int .u32 ep,.int .u64 ls,.int .u64 vr,.slice none 0 0,.slice none 0 0] HZ.out ?_
 refine hK.out _ _ ?_
 clear hK K
 refine dn_ HT_ ?_
 clear HT_ HW_ hHeld
 dsimp only [Go.Proofs.YtokfjbbjkiilmaaGreatDoor.Rf.QN]
 obtain ⟨We,hw⟩ : ∃ W_,W_ = Wd.setRow g2 #[.int .u64 gn,.int .u32 ep,.int .u64 ls,.int .u64 vr,.slice none 0 0,.slice none 0 0] := ⟨_,rfl⟩
 rw [← hw]
 have q_ := setRow_heap Wd g2 _ #[.int .u64 gn,.int .u32 ep,.int .u64 ls,.int .u64 vr,.slice none 0 0,.slice none 0 0] _ _ HZ.out
 rw [← hw] at q_
 replace HZ := Aside0.mk q_
 clear q_
 have q_ := mR #[.int .u64 gn,.int .u32 ep,.int .u64 ls,.int .u64 vr,.slice none 0 0,.slice none 0 0] H3.out N32.out
 rw [← hw] at q_
 replace H3 := Aside0.mk q_
 clear q_
 have q_ := below_setRow HB.out G2.out #[.int .u64 gn,.int .u32 ep,.int .u64 ls,.int .u64 vr,.slice none 0 0,.slice none 0 0]
 rw [← hw] at q_
 replace HB := Aside0.mk q_
 clear q_ hw
 have HB0 := HB
 go_wp2_with fail
 go_loopw [33] (fun v wr => (v = .int .i64 0 ∧ Aside0 (wr.heap[g2]? = some (.cells #[.int .u64 gn,.int .u32 ep,.int .u64 ls,.int .u64 vr,.slice none 0 0,.slice none 0 0] 292 (0,0))) ∧ Aside0 (wr.heap[g3]? = some (.cells #[.int .i64 0] 39 (0,0))) ∧ Aside0 (Below w.heap.size w wr)) ∨ (v = .int .i64 1 ∧ ∃ oo co ln cl : Nat,Aside0 (wr.heap[g2]? = some (.cells #[.int .u64 gn,.int .u32 ep,.int .u64 ls,.int .u64 vr,.slice (some ⟨oo,0,none⟩) 1 co,.slice (some ⟨ln,0,none⟩) 1 cl] 292 (0,0))) ∧ Aside0 (wr.cell? ⟨oo,0,none⟩ = some (.int .i64 0)) ∧ Aside0 (wr.cell? ⟨ln,0,none⟩ = some (.int .i64 k)) ∧ Aside0 ((oo ≠ g2 ∧ ln ≠ g2) ∧ oo ≠ g3 ∧ ln ≠ g3) ∧ Aside0 (wr.heap[g3]? = some (.cells #[.int .i64 0] 39 (0,0))) ∧ Aside0 (Below w.heap.size w wr))) (fun v _ => 1 - (intOf v).toNat)
 case atStart => exact .inl ⟨rfl,HZ,H3,HB⟩
 case round =>
  clear HZ H3 HB HB0
  rcases hrel with ⟨rfl,HZ,H3,HB⟩ | ⟨rfl,oo,co,ln,cl,HZ,HCO,HCL,HNE,H3,HB⟩
  ·have b29 : (29 < s.size) = True := eq_true (by have := HS.out; omega)
   have x29 := sb_idx s 29 (by have := HS.out; omega)
   rw [X29.out] at x29
   have u0 : wrap64 (0) = 0 := by kernel_rfl
   have uu : wrap64 (29 + wrap64 0) = 29 := by kernel_rfl
   have u29 : wrap64 (29) = 29 := by kernel_rfl
   have u29a : wrap64 (29 + 0) = 29 := by kernel_rfl
   have u30 : wrap64 (30) = 30 := by kernel_rfl
   have u30a : wrap64 (29 + 1) = 30 := by kernel_rfl
   have k0 : 0 ≤ k := by have := HNN.out; omega
   have k30 : k ≤ 30 := by have := HNN.out; omega
   have wk_ : IntKind.i64.wrap k = k := by rw [IntKind.wrap_i64]; omega
   go_upto_region 9 with fail
   refine noOut' ?_
   refine st_ 12 (fun w' => w'.cell? ⟨g2,4,none⟩ = some (.slice none 0 0)) [11] ((cD HZ 4 rfl)) fun hHeld => ?_
   refine with_tabW ckdec.tab9 ckdec.bits9 (fun HT_ HW_ => ?_)
   replace HZ := mD HZ
   replace H3 := mD H3
   replace HB := bD HB
   generalize wr.drew = wd1 at *
   refine pa_ 0 36 HT_ ?_
   refine pa_ 2 38 HT_ ?_
   refine pa_ 3 39 HT_ ?_
   refine pa_ 4 40 HT_ ?_
   refine pa_ 5 41 HT_ ?_
   refine ta_ 1 37 HT_ HW_ hHeld ?_
   refine ta_ 6 42 HT_ HW_ hHeld ?_
   refine pa_ 7 43 HT_ ?_
   refine on_ 8 HT_ fun K hK => ?_
   refine va_ ?_
   obtain ⟨wk,hW⟩ : ∃ W_,W_ = wd1.alloc (.cells #[.int .i64 0] 3) := ⟨_,rfl⟩
   obtain ⟨gb,hh⟩ : ∃ g_,g_ = wd1.heap.size := ⟨_,rfl⟩
   rw [← hW,← hh]
   have hb_ : Below wd1.heap.size wd1 wk := by rw [hW]; exact below_alloc (Below.refl _ _) _
   have HBB : Aside0 (wk.heap[gb]? = some (.cells #[.int .i64 0] 3 (0,0))) := ⟨by rw [hW,hh]; exact blk_new _ _⟩
   clear hW hh
   replace HZ := mb HZ hb_
   replace H3 := mb H3 hb_
   replace HB := mS HB hb_
   clear hb_
   refine hK.out _ _ ((cL HZ 4 rfl)) (fun hHeld => ?_)
   clear hK K
   refine no_ 44 ?_
   refine on_ 9 HT_ fun K hK => ?_
   refine appR_ (t := 113) (e := 3) (size := 1) (bytes := 8) (.tmp 37) (.tmp 44) (.int .i64 0) (by rfl) rfl rfl Tryz.underlying113 (by kernel_rfl) rfl (by decide) ⟨gb,0,none⟩ 1 [.int .i64 0] rfl rfl rfl (fun j u hj => by rcases j with _ | j <;> simp at hj; subst hj; exact (blk_cell HBB.out 0).trans rfl) (by simp [Value.oneCell']) (by decide) ?_
   intro oo co wq hn
   have hb_ := hn.below
   have Noo : Aside0 (oo ≠ g2) := ⟨by have := hn.at_; have := blk_lt HZ.out; omega⟩
   have Moo : Aside0 (oo ≠ g3) := ⟨by have := hn.at_; have := blk_lt H3.out; omega⟩
   have HCO : Aside0 (wq.cell? ⟨oo,0,none⟩ = some (.int .i64 0)) := ⟨hn.cell 0 _ rfl⟩
   clear hn HBB
   replace HZ := mb HZ hb_
   replace H3 := mb H3 hb_
   replace HB := mS HB hb_
   clear hb_
   refine hK.out _ _ ((cL HZ 4 rfl)) (fun hHeld => ?_)
   clear hK K
   refine no_ 45 ?_
   refine pa_ 10 46 HT_ ?_
   refine la_ 11 HT_ fun K hK => ?_
   have f4 := blk_frozen HZ.out 4
   have y0 : wq.cell? ⟨g2,0,none⟩ = some (.int .u64 gn) := cL HZ 0 rfl
   have y1 : wq.cell? ⟨g2,1,none⟩ = some (.int .u32 ep) := cL HZ 1 rfl
   have y2 : wq.cell? ⟨g2,2,none⟩ = some (.int .u64 ls) := cL HZ 2 rfl
   have y3 : wq.cell? ⟨g2,3,none⟩ = some (.int .u64 vr) := cL HZ 3 rfl
   have y4 : wq.cell? ⟨g2,4,none⟩ = some (.slice none 0 0) := cL HZ 4 rfl
   have y5 : wq.cell? ⟨g2,5,none⟩ = some (.slice none 0 0) := cL HZ 5 rfl
   refine skip_ (w1 := ?_) (by rfl) rfl ?_ ?_
   rotate_left
   ·go_simp
    rfl
   clear f4
   clear y0 y1 y2 y3 y4 y5
   refine hK.out _ _ ?_
   clear hK K
   refine dn_ HT_ ?_
   clear HT_ HW_ hHeld
   dsimp only [Go.Proofs.YtokfjbbjkiilmaaGreatDoor.Rf.QN]
   obtain ⟨wx,hW_⟩ : ∃ W_,W_ = (wq.setCell ⟨g2,4,none⟩ (.slice (some ⟨oo,0,none⟩) 1 co)) := ⟨_,rfl⟩
   rw [← hW_]
   have q_ := (blk_far H3.out (p := ⟨g2,4,none⟩) N32.out (.slice (some ⟨oo,0,none⟩) 1 co))
   rw [← hW_] at q_
   replace H3 := Aside0.mk q_
   clear q_
   have q_ := ((cell_far Noo.out (4) (.slice (some ⟨oo,0,none⟩) 1 co)).trans HCO.out)
   rw [← hW_] at q_
   replace HCO := Aside0.mk q_
   clear q_
   have q_ : wx.heap[g2]? = some (.cells #[.int .u64 gn,.int .u32 ep,.int .u64 ls,.int .u64 vr,.slice (some ⟨oo,0,none⟩) 1 co,.slice none 0 0] 292 (0,0)) := by rw [hW_]; exact (blk_set HZ.out 4 (.slice (some ⟨oo,0,none⟩) 1 co))
   replace HZ := Aside0.mk q_
   clear q_
   have q_ : Below w.heap.size w wx := by rw [hW_]; exact (below_set HB.out G2.out)
   replace HB := Aside0.mk q_
   clear q_
   clear hW_
   have b30 : (30 < s.size) = True := eq_true (by have := HS.out; omega)
   have x30 := sb_idx s 30 (by have := HS.out; omega)
   rw [X30.out] at x30
   have HNO2 : Aside0 (oo ≠ g2) := Noo
   go_upto_region 10 with fail
   refine noOut' ?_
   refine st_ 13 (fun w' => w'.cell? ⟨g2,5,none⟩ = some (.slice none 0 0)) [12] ((cD HZ 5 rfl)) fun hHeld => ?_
   refine with_tabW ckdec.tab10 ckdec.bits10 (fun HT_ HW_ => ?_)
   replace HZ := mD HZ
   replace H3 := mD H3
   replace HB := bD HB
   replace HCO := Aside0.mk (pw_cell_below (below_drew (Below.refl _ _)) HCO.out)
   generalize wx.drew = wd1 at *
   refine pa_ 0 47 HT_ ?_
   refine pa_ 2 49 HT_ ?_
   refine pa_ 3 50 HT_ ?_
   refine pa_ 4 51 HT_ ?_
   refine pa_ 5 52 HT_ ?_
   refine pa_ 6 53 HT_ ?_
   refine ta_ 1 48 HT_ HW_ hHeld ?_
   refine ta_ 7 54 HT_ HW_ hHeld ?_
   refine pa_ 8 55 HT_ ?_
   refine on_ 9 HT_ fun K hK => ?_
   refine va_ ?_
   obtain ⟨wk,hW⟩ : ∃ W_,W_ = wd1.alloc (.cells #[.int .i64 k] 3) := ⟨_,rfl⟩
   obtain ⟨gb,hh⟩ : ∃ g_,g_ = wd1.heap.size := ⟨_,rfl⟩
   rw [← hW,← hh]
   have hb_ : Below wd1.heap.size wd1 wk := by rw [hW]; exact below_alloc (Below.refl _ _) _
   have HBB : Aside0 (wk.heap[gb]? = some (.cells #[.int .i64 k] 3 (0,0))) := ⟨by rw [hW,hh]; exact blk_new _ _⟩
   clear hW hh
   replace HCO := Aside0.mk (pw_cell_below hb_ HCO.out)
   replace HZ := mb HZ hb_
   replace H3 := mb H3 hb_
   replace HB := mS HB hb_
   clear hb_
   refine hK.out _ _ ((cL HZ 5 rfl)) (fun hHeld => ?_)
   clear hK K
   refine no_ 56 ?_
   refine on_ 10 HT_ fun K hK => ?_
   refine appR_ (t := 113) (e := 3) (size := 1) (bytes := 8) (.tmp 48) (.tmp 56) (.int .i64 0) (by rfl) rfl rfl Tryz.underlying113 (by kernel_rfl) rfl (by decide) ⟨gb,0,none⟩ 1 [.int .i64 k] rfl rfl rfl (fun j u hj => by rcases j with _ | j <;> simp at hj; subst hj; exact (blk_cell HBB.out 0).trans rfl) (by simp [Value.oneCell']) (by decide) ?_
   intro ln cl wq hn
   have hb_ := hn.below
   have Nln : Aside0 (ln ≠ g2) := ⟨by have := hn.at_; have := blk_lt HZ.out; omega⟩
   have Mln : Aside0 (ln ≠ g3) := ⟨by have := hn.at_; have := blk_lt H3.out; omega⟩
   have HCL : Aside0 (wq.cell? ⟨ln,0,none⟩ = some (.int .i64 k)) := ⟨hn.cell 0 _ rfl⟩
   clear hn HBB
   replace HCO := Aside0.mk (pw_cell_below hb_ HCO.out)
   replace HZ := mb HZ hb_
   replace H3 := mb H3 hb_
   replace HB := mS HB hb_
   clear hb_
   refine hK.out _ _ ((cL HZ 5 rfl)) (fun hHeld => ?_)
   clear hK K
   refine no_ 57 ?_
   refine pa_ 11 58 HT_ ?_
   refine la_ 12 HT_ fun K hK => ?_
   have f5 := blk_frozen HZ.out 5
   have y0 : wq.cell? ⟨g2,0,none⟩ = some (.int .u64 gn) := cL HZ 0 rfl
   have y1 : wq.cell? ⟨g2,1,none⟩ = some (.int .u32 ep) := cL HZ 1 rfl
   have y2 : wq.cell? ⟨g2,2,none⟩ = some (.int .u64 ls) := cL HZ 2 rfl
   have y3 : wq.cell? ⟨g2,3,none⟩ = some (.int .u64 vr) := cL HZ 3 rfl
   have y4 : wq.cell? ⟨g2,4,none⟩ = some (.slice (some ⟨oo,0,none⟩) 1 co) := cL HZ 4 rfl
   have y5 : wq.cell? ⟨g2,5,none⟩ = some (.slice none 0 0) := cL HZ 5 rfl
   refine skip_ (w1 := ?_) (by rfl) rfl ?_ ?_
   rotate_left
   ·go_simp
    rfl
   clear f5
   clear y0 y1 y2 y3 y4 y5
   refine hK.out _ _ ?_
   clear hK K
   refine dn_ HT_ ?_
   clear HT_ HW_ hHeld
   dsimp only [Go.Proofs.YtokfjbbjkiilmaaGreatDoor.Rf.QN]
   obtain ⟨wy,hW_⟩ : ∃ W_,W_ = (wq.setCell ⟨g2,5,none⟩ (.slice (some ⟨ln,0,none⟩) 1 cl)) := ⟨_,rfl⟩
   rw [← hW_]
   have q_ := (blk_far H3.out (p := ⟨g2,5,none⟩) N32.out (.slice (some ⟨ln,0,none⟩) 1 cl))
   rw [← hW_] at q_
   replace H3 := Aside0.mk q_
   clear q_
   have q_ := ((cell_far HNO2.out (5) (.slice (some ⟨ln,0,none⟩) 1 cl)).trans HCO.out)
   rw [← hW_] at q_
   replace HCO := Aside0.mk q_
   clear q_
   have q_ := ((cell_far Nln.out (5) (.slice (some ⟨ln,0,none⟩) 1 cl)).trans HCL.out)
   rw [← hW_] at q_
   replace HCL := Aside0.mk q_
   clear q_
   have q_ : wy.heap[g2]? = some (.cells #[.int .u64 gn,.int .u32 ep,.int .u64 ls,.int .u64 vr,.slice (some ⟨oo,0,none⟩) 1 co,.slice (some ⟨ln,0,none⟩) 1 cl] 292 (0,0)) := by rw [hW_]; exact (blk_set HZ.out 5 (.slice (some ⟨ln,0,none⟩) 1 cl))
   replace HZ := Aside0.mk q_
   clear q_
   have q_ : Below w.heap.size w wy := by rw [hW_]; exact (below_set HB.out G2.out)
   replace HB := Aside0.mk q_
   clear q_
   clear hW_
   go_wp2_with fail
   exact ⟨.inr ⟨rfl,oo,co,ln,cl,HZ,HCO,HCL,⟨⟨HNO2.out,Nln.out⟩,Moo.out,Mln.out⟩,H3,HB⟩,by decide⟩
  ·have hq : ((ckS gn ep ls vr k).toList == s.toList) = true := by rw [← HCK.out]; simp
   go_wp2_with (refine lr_ 2 HZ.out Tryz.underlying292 ?_)
   refine (ckenc1_calls gn ep ls vr k oo co ln cl _ HNN.out HCO.out HCL.out).mono ?_
   rintro e_ Wf ⟨rfl,hb⟩
   replace HCL := Aside0.mk (pw_cell_below hb HCL.out)
   replace HCO := Aside0.mk (pw_cell_below hb HCO.out)
   replace HZ := mb HZ hb
   replace H3 := mb H3 hb
   replace HB := mS HB hb
   clear hb
   go_wp2_with fail
   refine (ckmust_yes _).mono ?_
   rintro e_ Wg ⟨rfl,rfl⟩
   have h3_ := mR (#[.int .u64 gn,.int .u32 ep,.int .u64 ls,.int .u64 vr,.slice (some ⟨oo,0,none⟩) 1 co,.slice (some ⟨ln,0,none⟩) 1 cl]) H3.out N32.out
   have z3 : (Wg.setRow g2 #[.int .u64 gn,.int .u32 ep,.int .u64 ls,.int .u64 vr,.slice (some ⟨oo,0,none⟩) 1 co,.slice (some ⟨ln,0,none⟩) 1 cl]).cell? ⟨g3,0,none⟩ = some (.int .i64 0) := (blk_cell h3_ 0).trans rfl
   have f3 := blk_frozen h3_ 0
   have H3S := Aside0.mk h3_
   clear h3_
   go_wp2_with (first | (refine lr_ 2 HZ.out Tryz.underlying292 ?_) | (refine sr_ 2 73 #[.int .u64 gn,.int .u32 ep,.int .u64 ls,.int .u64 vr,.slice (some ⟨oo,0,none⟩) 1 co,.slice (some ⟨ln,0,none⟩) 1 cl] HZ.out ?_))
   rw [setCell_eq_setRow _ g3 0 _ _ _ _ H3S.out]
   have hbf : Below w.heap.size w ((Wg.setRow g2 #[.int .u64 gn,.int .u32 ep,.int .u64 ls,.int .u64 vr,.slice (some ⟨oo,0,none⟩) 1 co,.slice (some ⟨ln,0,none⟩) 1 cl]).setRow g3 #[.int .i64 0]) := below_setRow (below_setRow HB.out G2.out _) G3.out _
   have q2 : ((Wg.setRow g2 #[.int .u64 gn,.int .u32 ep,.int .u64 ls,.int .u64 vr,.slice (some ⟨oo,0,none⟩) 1 co,.slice (some ⟨ln,0,none⟩) 1 cl]).setRow g3 #[.int .i64 0]).heap[g2]? = some (.cells #[.int .u64 gn,.int .u32 ep,.int .u64 ls,.int .u64 vr,.slice (some ⟨oo,0,none⟩) 1 co,.slice (some ⟨ln,0,none⟩) 1 cl] 292 (0,0)) := mR _ (setRow_heap _ _ _ _ _ _ HZ.out) N32.out.symm
   have q3 : ((Wg.setRow g2 #[.int .u64 gn,.int .u32 ep,.int .u64 ls,.int .u64 vr,.slice (some ⟨oo,0,none⟩) 1 co,.slice (some ⟨ln,0,none⟩) 1 cl]).setRow g3 #[.int .i64 0]).heap[g3]? = some (.cells #[.int .i64 0] 39 (0,0)) := setRow_heap _ _ _ _ _ _ H3S.out
   have qo : ((Wg.setRow g2 #[.int .u64 gn,.int .u32 ep,.int .u64 ls,.int .u64 vr,.slice (some ⟨oo,0,none⟩) 1 co,.slice (some ⟨ln,0,none⟩) 1 cl]).setRow g3 #[.int .i64 0]).cell? ⟨oo,0,none⟩ = some (.int .i64 0) := by rw [cell_setRow_other _ _ _ _ HNE.out.2.1,cell_setRow_other _ _ _ _ HNE.out.1.1]; exact HCO.out
   have ql : ((Wg.setRow g2 #[.int .u64 gn,.int .u32 ep,.int .u64 ls,.int .u64 vr,.slice (some ⟨oo,0,none⟩) 1 co,.slice (some ⟨ln,0,none⟩) 1 cl]).setRow g3 #[.int .i64 0]).cell? ⟨ln,0,none⟩ = some (.int .i64 k) := by rw [cell_setRow_other _ _ _ _ HNE.out.2.2,cell_setRow_other _ _ _ _ HNE.out.1.2]; exact HCL.out
   show bodyPostD _ _ _ _ _ ((Wg.setRow g2 #[.int .u64 gn,.int .u32 ep,.int .u64 ls,.int .u64 vr,.slice (some ⟨oo,0,none⟩) 1 co,.slice (some ⟨ln,0,none⟩) 1 cl]).setRow g3 #[.int .i64 0])
   generalize (Wg.setRow g2 #[.int .u64 gn,.int .u32 ep,.int .u64 ls,.int .u64 vr,.slice (some ⟨oo,0,none⟩) 1 co,.slice (some ⟨ln,0,none⟩) 1 cl]).setRow g3 #[.int .i64 0] = Wh at *
   refine leaves_cons (f := 313) (args := #[.pointer (some ⟨g2,0,none⟩),.pointer (some ⟨g3,0,none⟩)]) (by simp) (by simp [go_sem]) ?_
   refine (ckcatch_idle ⟨g2,0,none⟩ ⟨g3,0,none⟩ _).mono ?_
   rintro e_ u_ W9 ⟨rfl,rfl,hb⟩
   have c3 : W9.cell? ⟨g3,0,none⟩ = some (.int .i64 0) := (blk_cell (blk_below q3 hb) 0).trans rfl
   have hl : (loadVar 39 ⟨g3,0,none⟩).run Tryz.prog W9 = .ok (.int .i64 0) W9 := by simp [go_sem,c3]
   simp only [Leaves,settle]
   exact ⟨_,results_cs rfl _ _ g2 292 _ (0,0) _ _ _ rfl (blk_below q2 hb) Tryz.underlying292 rfl (by kernel_rfl) rfl hl,oo,co,ln,cl,rfl,pw_cell_below hb qo,pw_cell_below hb ql,below_step hbf hb⟩
end Go.Proofs.YtokfjbbjkiilmaaGreatDoor.H
namespace Go.Proofs.YtokfjbbjkiilmaaGreatDoor.H
open Go.RowKit Go.Proofs.YtokfjbbjkiilmaaGreatDoorW.PrintWords Go.Proofs.YtokfjbbjkiilmaaGreatDoorW.PrintLast Go.Proofs.YtokfjbbjkiilmaaGreatDoorW.PrintMore
set_option maxHeartbeats 8000000
set_option maxRecDepth 100000
attribute [local go_sem] max2_int min2_int min_two max_two
theorem ckdecz_calls (w : World) : Calls Tryz.prog 311 #[.string zsec] w fun e w' => e = .returned (.tuple #[.agg #[.int .u64 0,.int .u32 0,.int .u64 0,.int .u64 0,.slice none 0 0,.slice none 0 0],.int .i64 5]) ∧ Below w.heap.size w w' :=
 ckdec0_calls zsec w (by kernel_rfl) (sb_zsec 28) (acc_zeros _ sb_zsec 8) (acc_zeros _ (fun j => by rw [sb_ext]; split <;> first | exact sb_zsec _ | rfl) 8) (acc_zeros _ (fun j => by rw [sb_ext]; split <;> first | exact sb_zsec _ | rfl) 8) (acc_zeros _ (fun j => by rw [sb_ext]; split <;> first | exact sb_zsec _ | rfl) 8)
theorem ckdecs_calls (gn ep ls vr k : Int) (w : World) (h : (0 < gn ∧ gn < 18446744073709551616) ∧ (0 ≤ ep ∧ ep < 4294967296) ∧ (0 < ls ∧ ls < 18446744073709551616) ∧ (0 ≤ vr ∧ vr < 18446744073709551616) ∧ (0 ≤ k ∧ k ≤ 30)) : Calls Tryz.prog 311 #[.string (ckS gn ep ls vr k)] w fun e w' => ∃ oo co ln cl : Nat,e = .returned (.tuple #[.agg #[.int .u64 gn,.int .u32 ep,.int .u64 ls,.int .u64 vr,.slice (some ⟨oo,0,none⟩) 1 co,.slice (some ⟨ln,0,none⟩) 1 cl],.int .i64 0]) ∧ w'.cell? ⟨oo,0,none⟩ = some (.int .i64 0) ∧ w'.cell? ⟨ln,0,none⟩ = some (.int .i64 k) ∧ Below w.heap.size w w' :=
 ckdec1_calls (ckS gn ep ls vr k) gn ep ls vr k w (ckS_size ..) ((ck_at gn ep ls vr k 0 (by decide)).trans (sb_num _ 0 1 rfl (by decide))) ((ck_at gn ep ls vr k 1 (by decide)).trans (sb_num _ 1 0 rfl (by decide))) ((ck_at gn ep ls vr k 2 (by decide)).trans (sb_num _ 2 k rfl (by omega))) (ck_gen gn ep ls vr k (by omega)) (by rw [ck_ep]; exact acc4 ep h.2.1) (by rw [ck_lsn]; exact acc8 ls (by omega)) (by rw [ck_ver]; exact acc8 vr h.2.2.2.1) h rfl
theorem best0_calls (s : ByteArray) (gn ep ls vr k : Int) (w : World) (hg : (0 < gn ∧ gn < 18446744073709551616) ∧ (0 ≤ ep ∧ ep < 4294967296) ∧ (0 < ls ∧ ls < 18446744073709551616) ∧ (0 ≤ vr ∧ vr < 18446744073709551616) ∧ (0 ≤ k ∧ k ≤ 30)) (hD : ∀ W,Calls Tryz.prog 311 #[.string s] W fun e w' => ∃ oo co ln cl : Nat,e = .returned (.tuple #[.agg #[.int .u64 gn,.int .u32 ep,.int .u64 ls,.int .u64 vr,.slice (some ⟨oo,0,none⟩) 1 co,.slice (some ⟨ln,0,none⟩) 1 cl],.int .i64 0]) ∧ w'.cell? ⟨oo,0,none⟩ = some (.int .i64 0) ∧ w'.cell? ⟨ln,0,none⟩ = some (.int .i64 k) ∧ Below W.heap.size W w') :
 Calls Tryz.prog 301 #[.string zsec,.string s] w fun e w' => ∃ oo co ln cl : Nat,e = .returned (.tuple #[.agg #[.int .u64 gn,.int .u32 ep,.int .u64 ls,.int .u64 vr,.slice (some ⟨oo,0,none⟩) 1 co,.slice (some ⟨ln,0,none⟩) 1 cl],.int .i64 1,.int .i64 0]) ∧ w'.cell? ⟨oo,0,none⟩ = some (.int .i64 0) ∧ w'.cell? ⟨ln,0,none⟩ = some (.int .i64 k) ∧ Below w.heap.size w w' := by
 have HD : Aside0 (∀ W,Calls Tryz.prog 311 #[.string s] W fun e w' => ∃ oo co ln cl : Nat,e = .returned (.tuple #[.agg #[.int .u64 gn,.int .u32 ep,.int .u64 ls,.int .u64 vr,.slice (some ⟨oo,0,none⟩) 1 co,.slice (some ⟨ln,0,none⟩) 1 cl],.int .i64 0]) ∧ w'.cell? ⟨oo,0,none⟩ = some (.int .i64 0) ∧ w'.cell? ⟨ln,0,none⟩ = some (.int .i64 k) ∧ Below W.heap.size W w') := ⟨hD⟩
 have HG := Aside0.mk hg
 clear hD hg
 go_enter Tryz.func301,Tryz.ntmps301
 go_upto_region 1 with fail
 obtain ⟨W1,g4,hW_,hg4,HZ,hb_⟩ := new1 w #[.int .u64 0,.int .u32 0,.int .u64 0,.int .u64 0,.slice none 0 0,.slice none 0 0] 292
 rw [← hW_,← hg4.out]
 have HB := Aside0.mk hb_
 clear hW_ hb_
 have G4 : Aside0 (w.heap.size ≤ g4) := ⟨by have := hg4.out; omega⟩
 go_wp2_with fail
 refine (ckdecz_calls _).mono ?_
 rintro e_ W2 ⟨rfl,hb⟩
 replace HZ := mb HZ hb
 replace HB := mS HB hb
 clear hb
 go_upto_region 2 with fail
 have HLT := Aside0.mk (blk_lt HZ.out)
 obtain ⟨W3,g7,hW_,hg7,H7,hb_⟩ := new1 W2 #[.int .u64 0,.int .u32 0,.int .u64 0,.int .u64 0,.slice none 0 0,.slice none 0 0] 292
 rw [← hW_,← hg7.out]
 replace HZ := mb HZ hb_
 replace HB := Aside0.mk (below_step (HB.out) hb_)
 clear hW_ hb_
 have N47 : Aside0 (g4 ≠ g7) := ⟨by rw [hg7.out]; exact Nat.ne_of_lt HLT.out⟩
 go_wp2_with fail
 refine (HD.out _).mono ?_
 rintro e_ W4 ⟨oo,co,ln,cl,rfl,hc1,hc2,hb⟩
 replace H7 := mb H7 hb
 replace HZ := mb HZ hb
 replace HB := mS HB hb
 have HC1 := Aside0.mk hc1
 have HC2 := Aside0.mk hc2
 clear hb hc1 hc2
 go_upto_region 3 with fail
 replace HC1 := Aside0.mk (pw_cell_below (below_alloc (Below.refl _ _) (.cells #[.int .u64 gn,.int .u32 ep,.int .u64 ls,.int .u64 vr,.slice (some ⟨oo,0,none⟩) 1 co,.slice (some ⟨ln,0,none⟩) 1 cl] 292)) HC1.out)
 replace HC2 := Aside0.mk (pw_cell_below (below_alloc (Below.refl _ _) (.cells #[.int .u64 gn,.int .u32 ep,.int .u64 ls,.int .u64 vr,.slice (some ⟨oo,0,none⟩) 1 co,.slice (some ⟨ln,0,none⟩) 1 cl] 292)) HC2.out)
 obtain ⟨W5,g9,hW_,hg9,H9,hb_⟩ := new1 W4 #[.int .u64 gn,.int .u32 ep,.int .u64 ls,.int .u64 vr,.slice (some ⟨oo,0,none⟩) 1 co,.slice (some ⟨ln,0,none⟩) 1 cl] 292
 rw [← hW_,← hg9.out]
 rw [← hW_] at HC1 HC2
 replace HZ := mb HZ hb_
 replace H7 := mb H7 hb_
 replace HB := Aside0.mk (below_step (HB.out) hb_)
 clear hW_ hb_
 have hgt : (gn > 0) = True := eq_true HG.out.1.1
 have hgt2 : decide (0 < gn) = true := decide_eq_true HG.out.1.1
 have y0 : W5.cell? ⟨g9,0,none⟩ = some (.int .u64 gn) := cL H9 0 rfl
 have y1 : W5.cell? ⟨g9,1,none⟩ = some (.int .u32 ep) := cL H9 1 rfl
 have y2 : W5.cell? ⟨g9,2,none⟩ = some (.int .u64 ls) := cL H9 2 rfl
 have y3 : W5.cell? ⟨g9,3,none⟩ = some (.int .u64 vr) := cL H9 3 rfl
 have y4 : W5.cell? ⟨g9,4,none⟩ = some (.slice (some ⟨oo,0,none⟩) 1 co) := cL H9 4 rfl
 have y5 : W5.cell? ⟨g9,5,none⟩ = some (.slice (some ⟨ln,0,none⟩) 1 cl) := cL H9 5 rfl
 have z0 : W5.cell? ⟨g7,0,none⟩ = some (.int .u64 0) := cL H7 0 rfl
 have z1 : W5.cell? ⟨g7,1,none⟩ = some (.int .u32 0) := cL H7 1 rfl
 have z2 : W5.cell? ⟨g7,2,none⟩ = some (.int .u64 0) := cL H7 2 rfl
 have z3 : W5.cell? ⟨g7,3,none⟩ = some (.int .u64 0) := cL H7 3 rfl
 have z4 : W5.cell? ⟨g7,4,none⟩ = some (.slice none 0 0) := cL H7 4 rfl
 have z5 : W5.cell? ⟨g7,5,none⟩ = some (.slice none 0 0) := cL H7 5 rfl
 have NC : Aside0 (oo ≠ g4 ∧ ln ≠ g4) := ⟨by constructor <;> (intro e_; subst e_; first | (have a_ := HC1.out; rw [blk_cell HZ.out] at a_; cases a_; done) | (have a_ := HC2.out; rw [blk_cell HZ.out] at a_; cases a_))⟩
 go_wp2_with (first | (refine lr_ 9 H9.out Tryz.underlying292 ?_) | (refine sr_ 4 43 #[.int .u64 gn,.int .u32 ep,.int .u64 ls,.int .u64 vr,.slice (some ⟨oo,0,none⟩) 1 co,.slice (some ⟨ln,0,none⟩) 1 cl] HZ.out ?_))
 refine bodyPost_ret (results_ctt rfl _ _ g4 292 #[.int .u64 gn,.int .u32 ep,.int .u64 ls,.int .u64 vr,.slice (some ⟨oo,0,none⟩) 1 co,.slice (some ⟨ln,0,none⟩) 1 cl] (0,0) _ rfl (setRow_heap _ _ _ _ _ _ HZ.out) Tryz.underlying292 rfl (by kernel_rfl)) rfl ?_
 exact ⟨oo,co,ln,cl,rfl,(cell_setRow_other _ _ _ _ NC.out.1).trans HC1.out,(cell_setRow_other _ _ _ _ NC.out.2).trans HC2.out,below_setRow HB.out G4.out _⟩
end Go.Proofs.YtokfjbbjkiilmaaGreatDoor.H
namespace Go.Proofs.YtokfjbbjkiilmaaGreatDoor.H
open Go.RowKit Go.Proofs.YtokfjbbjkiilmaaGreatDoorW.PrintWords Go.Proofs.YtokfjbbjkiilmaaGreatDoorW.PrintLast Go.Proofs.YtokfjbbjkiilmaaGreatDoorW.PrintMore
set_option maxHeartbeats 8000000
set_option maxRecDepth 100000
attribute [local go_sem] max2_int min2_int min_two max_two
theorem tmay_calls (w : World) :
 Calls Tryz.prog 187 #[.int .i64 4,.int .i64 2] w fun e w' => e = .returned (.bool true) ∧ w' = w := by
 go_enter Tryz.func187,Tryz.ntmps187
 go_wp2_with fail
 go_ret
 exact ⟨rfl,rfl⟩
theorem tnew_calls (x : Int) (w : World) :
 Calls Tryz.prog 139 #[.int .i64 4,.int .i64 2,.int .u64 x] w fun e w' => ∃ oo ln ff : Nat,e = .returned (.tuple #[.agg #[.int .i64 4,.int .i64 2,.slice (some ⟨oo,0,none⟩) 1 1,.slice (some ⟨ln,0,none⟩) 1 1,.slice (some ⟨ff,0,none⟩) 1 1],.int .i64 0]) ∧ (w.heap.size ≤ oo ∧ w.heap.size ≤ ln ∧ w.heap.size ≤ ff ∧ oo ≠ ln) ∧ w'.heap[oo]? = some (.cells #[.int .i64 0] 3 (0,0)) ∧ w'.heap[ln]? = some (.cells #[.int .i64 0] 3 (0,0)) ∧ w'.heap[ff]? = some (.cells #[.int .u64 x] 35 (0,0)) ∧ Below w.heap.size w w' := by
 go_enter Tryz.func139,Tryz.ntmps139
 go_upto_region 1 with fail
 obtain ⟨W1,g6,hW_,hg6,HX,hb_⟩ := new1 w #[.int .i64 0,.int .i64 0,.slice none 0 0,.slice none 0 0,.slice none 0 0] 162
 rw [← hW_,← hg6.out]
 have HB := Aside0.mk hb_
 clear hW_ hb_
 have HG : Aside0 (w.heap.size ≤ g6) := ⟨by have := hg6.out; omega⟩
 go_wp2_with fail
 refine (tmay_calls _).mono ?_
 rintro e_ w2 ⟨rfl,rfl⟩
 skip
 go_wp2_with (refine sr_ 6 19 #[.int .i64 4,.int .i64 2,.slice (some ⟨w2.heap.size,0,none⟩) 1 1,.slice (some ⟨w2.heap.size + 1,0,none⟩) 1 1,.slice (some ⟨w2.heap.size + 1 + 1,0,none⟩) 1 1] (blk_alloc (blk_alloc (blk_alloc HX.out _) _) _) ?_)
 refine bodyPost_ret (results_ct rfl _ _ g6 162 #[.int .i64 4,.int .i64 2,.slice (some ⟨w2.heap.size,0,none⟩) 1 1,.slice (some ⟨w2.heap.size + 1,0,none⟩) 1 1,.slice (some ⟨w2.heap.size + 1 + 1,0,none⟩) 1 1] (0,0) _ rfl (setRow_heap (((w2.alloc (.cells #[.int .i64 0] 3)).alloc (.cells #[.int .i64 0] 3)).alloc (.cells #[.int .u64 x] 35)) _ _ _ _ _ (blk_alloc (blk_alloc (blk_alloc HX.out _) _) _)) Tryz.underlying162 rfl (by kernel_rfl)) rfl ?_
 have a1 : (((w2.alloc (.cells #[.int .i64 0] 3)).alloc (.cells #[.int .i64 0] 3)).alloc (.cells #[.int .u64 x] 35)).heap[w2.heap.size]? = some (.cells #[.int .i64 0] 3 (0,0)) := blk_alloc (blk_alloc (blk_new w2 _) _) _
 have a2 : (((w2.alloc (.cells #[.int .i64 0] 3)).alloc (.cells #[.int .i64 0] 3)).alloc (.cells #[.int .u64 x] 35)).heap[w2.heap.size + 1]? = some (.cells #[.int .i64 0] 3 (0,0)) := blk_alloc (show ((w2.alloc (.cells #[.int .i64 0] 3)).alloc (.cells #[.int .i64 0] 3)).heap[w2.heap.size + 1]? = _ from by have h_ := blk_new (w2.alloc (.cells #[.int .i64 0] 3)) (.cells #[.int .i64 0] 3); simpa using h_) _
 have a3 : (((w2.alloc (.cells #[.int .i64 0] 3)).alloc (.cells #[.int .i64 0] 3)).alloc (.cells #[.int .u64 x] 35)).heap[w2.heap.size + 1 + 1]? = some (.cells #[.int .u64 x] 35 (0,0)) := by have h_ := blk_new ((w2.alloc (.cells #[.int .i64 0] 3)).alloc (.cells #[.int .i64 0] 3)) (.cells #[.int .u64 x] 35); simpa using h_
 have hl := HB.out.size
 have hx := blk_lt HX.out
 exact ⟨w2.heap.size,w2.heap.size + 1,w2.heap.size + 1 + 1,rfl,⟨by omega,by omega,by omega,by omega⟩,mR _ a1 (by omega),mR _ a2 (by omega),mR _ a3 (by omega),below_setRow (below_alloc (below_alloc (below_alloc HB.out _) _) _) HG.out _⟩
theorem tlast_calls (oo co ln cl ff cf : Nat) (w : World) :
 Calls Tryz.prog 145 #[.agg #[.int .i64 4,.int .i64 2,.slice (some ⟨oo,0,none⟩) 1 co,.slice (some ⟨ln,0,none⟩) 1 cl,.slice (some ⟨ff,0,none⟩) 1 cf]] w fun e w' => e = .returned (.int .i64 0) ∧ Below w.heap.size w w' := by
 go_enter Tryz.func145,Tryz.ntmps145
 go_upto_region 1 with fail
 obtain ⟨W1,g,hW_,hg,HX,hb_⟩ := new1 w #[.int .i64 4,.int .i64 2,.slice (some ⟨oo,0,none⟩) 1 co,.slice (some ⟨ln,0,none⟩) 1 cl,.slice (some ⟨ff,0,none⟩) 1 cf] 162
 rw [← hW_,← hg.out]
 have HB := Aside0.mk hb_
 clear hW_ hb_
 have y0 : W1.cell? ⟨g,0,none⟩ = some (.int .i64 4) := cL HX 0 rfl
 have y1 : W1.cell? ⟨g,1,none⟩ = some (.int .i64 2) := cL HX 1 rfl
 have y2 : W1.cell? ⟨g,2,none⟩ = some (.slice (some ⟨oo,0,none⟩) 1 co) := cL HX 2 rfl
 have y3 : W1.cell? ⟨g,3,none⟩ = some (.slice (some ⟨ln,0,none⟩) 1 cl) := cL HX 3 rfl
 have y4 : W1.cell? ⟨g,4,none⟩ = some (.slice (some ⟨ff,0,none⟩) 1 cf) := cL HX 4 rfl
 go_wp2_with fail
 go_ret
 exact ⟨rfl,HB.out⟩
theorem tlen_calls (oo co ln cl ff cf : Nat) (k : Int) (w : World) (ho : w.cell? ⟨oo,0,none⟩ = some (.int .i64 0)) (hl : w.cell? ⟨ln,0,none⟩ = some (.int .i64 k)) :
 Calls Tryz.prog 164 #[.agg #[.int .i64 4,.int .i64 2,.slice (some ⟨oo,0,none⟩) 1 co,.slice (some ⟨ln,0,none⟩) 1 cl,.slice (some ⟨ff,0,none⟩) 1 cf],.int .i64 0] w fun e w' => e = .returned (.int .i64 k) ∧ Below w.heap.size w w' := by
 have HO := Aside0.mk ho
 have HL := Aside0.mk hl
 clear ho hl
 go_enter Tryz.func164,Tryz.ntmps164
 go_upto_region 1 with fail
 obtain ⟨W1,g,hW_,hg,HX,hb_⟩ := new1 w #[.int .i64 4,.int .i64 2,.slice (some ⟨oo,0,none⟩) 1 co,.slice (some ⟨ln,0,none⟩) 1 cl,.slice (some ⟨ff,0,none⟩) 1 cf] 162
 rw [← hW_,← hg.out]
 have HB := Aside0.mk hb_
 clear hW_ hb_
 have y0 : W1.cell? ⟨g,0,none⟩ = some (.int .i64 4) := cL HX 0 rfl
 have y1 : W1.cell? ⟨g,1,none⟩ = some (.int .i64 2) := cL HX 1 rfl
 have y2 : W1.cell? ⟨g,2,none⟩ = some (.slice (some ⟨oo,0,none⟩) 1 co) := cL HX 2 rfl
 have y3 : W1.cell? ⟨g,3,none⟩ = some (.slice (some ⟨ln,0,none⟩) 1 cl) := cL HX 3 rfl
 have y4 : W1.cell? ⟨g,4,none⟩ = some (.slice (some ⟨ff,0,none⟩) 1 cf) := cL HX 4 rfl
 have HOW := pw_cell_below HB.out HO.out
 have q1 := pw_cell_below HB.out HL.out
 go_wp2_with fail
 refine (Tryz.slices_Index_int oo 0 1 co [0] 0 _ (by decide) (by decide) (fun j hj => by rcases j with _ | j; exact HOW; simp at hj)).mono ?_
 rintro e_ w2 ⟨rfl,rfl⟩
 rw [show Lib.idxOf (List.take 1 [(0 : Int)]) 0 = 0 from by rfl]
 clear HOW
 go_wp2_with fail
 go_ret
 exact ⟨rfl,HB.out⟩
theorem tsector_calls (j : Int) (w : World) (hj : j = 0 ∨ j = 1 ∨ j = 2) :
 Calls Tryz.prog 166 #[.int .i64 2,.agg #[.int .i64 0,.int .i64 j]] w fun e w' => e = .returned (.int .i64 (2 + j)) ∧ Below w.heap.size w w' := by
 rcases hj with rfl | rfl | rfl
 ·go_enter Tryz.func166,Tryz.ntmps166
  go_upto_region 1 with fail
  obtain ⟨W1,g,hW_,hg,HX,hb_⟩ := new1 w #[.int .i64 0,.int .i64 0] 177
  rw [← hW_,← hg.out]
  have HB := Aside0.mk hb_
  clear hW_ hb_
  have y0 : W1.cell? ⟨g,0,none⟩ = some (.int .i64 0) := cL HX 0 rfl
  have y1 : W1.cell? ⟨g,1,none⟩ = some (.int .i64 0) := cL HX 1 rfl
  go_wp2_with fail
  go_ret
  exact ⟨rfl,HB.out⟩
 ·go_enter Tryz.func166,Tryz.ntmps166
  go_upto_region 1 with fail
  obtain ⟨W1,g,hW_,hg,HX,hb_⟩ := new1 w #[.int .i64 0,.int .i64 1] 177
  rw [← hW_,← hg.out]
  have HB := Aside0.mk hb_
  clear hW_ hb_
  have y0 : W1.cell? ⟨g,0,none⟩ = some (.int .i64 0) := cL HX 0 rfl
  have y1 : W1.cell? ⟨g,1,none⟩ = some (.int .i64 1) := cL HX 1 rfl
  go_wp2_with fail
  go_ret
  exact ⟨rfl,HB.out⟩
 ·go_enter Tryz.func166,Tryz.ntmps166
  go_upto_region 1 with fail
  obtain ⟨W1,g,hW_,hg,HX,hb_⟩ := new1 w #[.int .i64 0,.int .i64 2] 177
  rw [← hW_,← hg.out]
  have HB := Aside0.mk hb_
  clear hW_ hb_
  have y0 : W1.cell? ⟨g,0,none⟩ = some (.int .i64 0) := cL HX 0 rfl
  have y1 : W1.cell? ⟨g,1,none⟩ = some (.int .i64 2) := cL HX 1 rfl
  go_wp2_with fail
  go_ret
  exact ⟨rfl,HB.out⟩
def troom.T1 : Bool × List (List Nat × List Nat) := (true,[([],[]),([0],[0]),([],[]),([2],[2]),([],[]),([4],[4]),([3,5],[3,5]),([6],[6]),([1,7],[1,7]),([],[]),([9],[9]),([],[]),([11],[11]),([],[]),([13],[13]),([14],[14]),([12,15],[12,15]),([10,16],[10,16]),([8,17],[8,17]),([18,5,0,1,2,3,4,5,6,7,8,9,10,11,12,13,14,15,16,17,18],[18])])
def troom.B1 : List Nat := [0,1,0,4,0,16,60,124,255,0,512,0,2048,0,8192,24576,63488,130560,262143,524287]
theorem troom.tab1 : rtab .any (opsOf Tryz.f100 1) = troom.T1 := by kernel_rfl
theorem troom.bits1 : waitsOk troom.T1.2 troom.B1 = true := by kernel_rfl
theorem troom_calls (oo co ln cl ff cf : Nat) (k : Int) (w : World) (hl : w.cell? ⟨ln,0,none⟩ = some (.int .i64 k)) (hk : k = 0 ∨ k = 1 ∨ k = 2) :
 Calls Tryz.prog 100 #[.agg #[.int .i64 4,.int .i64 2,.slice (some ⟨oo,0,none⟩) 1 co,.slice (some ⟨ln,0,none⟩) 1 cl,.slice (some ⟨ff,0,none⟩) 1 cf]] w fun e w' => e = .returned (.int .i64 (8 - k)) ∧ Below w.heap.size w w' := by
 rcases hk with rfl | rfl | rfl
 ·have HL := Aside0.mk hl
  clear hl
  go_enter Tryz.func100,Tryz.ntmps100
  go_upto_region 1 with fail
  obtain ⟨W1,g,hW_,hg,HX,hb_⟩ := new1 w #[.int .i64 4,.int .i64 2,.slice (some ⟨oo,0,none⟩) 1 co,.slice (some ⟨ln,0,none⟩) 1 cl,.slice (some ⟨ff,0,none⟩) 1 cf] 162
  rw [← hW_,← hg.out]
  have HB := Aside0.mk hb_
  clear hW_ hb_
  have HC : Aside0 (W1.cell? ⟨ln,0,none⟩ = some (.int .i64 0)) := ⟨pw_cell_below HB.out HL.out⟩
  refine st_ 20 (fun w' => w'.cell? ⟨g,0,none⟩ = some (.int .i64 4) ∧ w'.cell? ⟨g,1,none⟩ = some (.int .i64 2) ∧ w'.cell? ⟨g,2,none⟩ = some (.slice (some ⟨oo,0,none⟩) 1 co) ∧ w'.cell? ⟨g,3,none⟩ = some (.slice (some ⟨ln,0,none⟩) 1 cl) ∧ w'.cell? ⟨g,4,none⟩ = some (.slice (some ⟨ff,0,none⟩) 1 cf) ∧ w'.cell? ⟨ln,0,none⟩ = some (.int .i64 0)) [] ⟨(cD HX 0 rfl),(cD HX 1 rfl),(cD HX 2 rfl),(cD HX 3 rfl),(cD HX 4 rfl),(pw_cell_below (below_drew (Below.refl _ _)) HC.out)⟩ fun hHeld => ?_
  refine with_tabW troom.tab1 troom.bits1 (fun HT_ HW_ => ?_)
  replace HX := mD HX
  replace HB := bD HB
  replace HC := Aside0.mk (pw_cell_below (below_drew (Below.refl _ _)) HC.out)
  generalize W1.drew = wd1 at *
  refine pa_ 0 3 HT_ ?_
  refine pa_ 2 5 HT_ ?_
  refine pa_ 9 12 HT_ ?_
  refine pa_ 11 14 HT_ ?_
  refine pa_ 13 16 HT_ ?_
  refine ta_ 1 4 HT_ HW_ hHeld ?_
  refine ta_ 3 6 HT_ HW_ hHeld ?_
  refine ta_ 4 7 HT_ HW_ hHeld ?_
  refine ta_ 10 13 HT_ HW_ hHeld ?_
  refine ta_ 12 15 HT_ HW_ hHeld ?_
  refine ta_ 14 17 HT_ HW_ hHeld ?_
  refine pa_ 15 18 HT_ ?_
  refine pa_ 16 19 HT_ ?_
  refine pa_ 17 20 HT_ ?_
  refine on_ 5 HT_ fun K hK => ?_
  refine gc_ Tryz.func145 #[.agg #[.int .i64 4,.int .i64 2,.slice (some ⟨oo,0,none⟩) 1 co,.slice (some ⟨ln,0,none⟩) 1 cl,.slice (some ⟨ff,0,none⟩) 1 cf]] ?_
  with_reducible refine (tlast_calls oo co ln cl ff cf _).mono ?_
  rintro e_ wa ⟨rfl,hb⟩
  refine ⟨_,rfl,?_⟩
  replace HX := mb HX hb
  replace HC := Aside0.mk (pw_cell_below hb HC.out)
  replace HB := mS HB hb
  clear hb
  refine hK.out _ _ ⟨(cL HX 0 rfl),(cL HX 1 rfl),(cL HX 2 rfl),(cL HX 3 rfl),(cL HX 4 rfl),HC.out⟩ (fun hHeld => ?_)
  clear hK K
  refine no_ 8 ?_
  refine pa_ 6 9 HT_ ?_
  refine ta_ 7 10 HT_ HW_ hHeld ?_
  refine pa_ 8 11 HT_ ?_
  refine pa_ 18 21 HT_ ?_
  refine pa_ 19 2 HT_ ?_
  refine dn_ HT_ ?_
  clear HT_ HW_ hHeld
  go_wp2_with fail
  go_ret
  exact ⟨by kernel_rfl,HB.out⟩
 ·have HL := Aside0.mk hl
  clear hl
  go_enter Tryz.func100,Tryz.ntmps100
  go_upto_region 1 with fail
  obtain ⟨W1,g,hW_,hg,HX,hb_⟩ := new1 w #[.int .i64 4,.int .i64 2,.slice (some ⟨oo,0,none⟩) 1 co,.slice (some ⟨ln,0,none⟩) 1 cl,.slice (some ⟨ff,0,none⟩) 1 cf] 162
  rw [← hW_,← hg.out]
  have HB := Aside0.mk hb_
  clear hW_ hb_
  have HC : Aside0 (W1.cell? ⟨ln,0,none⟩ = some (.int .i64 1)) := ⟨pw_cell_below HB.out HL.out⟩
  refine st_ 20 (fun w' => w'.cell? ⟨g,0,none⟩ = some (.int .i64 4) ∧ w'.cell? ⟨g,1,none⟩ = some (.int .i64 2) ∧ w'.cell? ⟨g,2,none⟩ = some (.slice (some ⟨oo,0,none⟩) 1 co) ∧ w'.cell? ⟨g,3,none⟩ = some (.slice (some ⟨ln,0,none⟩) 1 cl) ∧ w'.cell? ⟨g,4,none⟩ = some (.slice (some ⟨ff,0,none⟩) 1 cf) ∧ w'.cell? ⟨ln,0,none⟩ = some (.int .i64 1)) [] ⟨(cD HX 0 rfl),(cD HX 1 rfl),(cD HX 2 rfl),(cD HX 3 rfl),(cD HX 4 rfl),(pw_cell_below (below_drew (Below.refl _ _)) HC.out)⟩ fun hHeld => ?_
  refine with_tabW troom.tab1 troom.bits1 (fun HT_ HW_ => ?_)
  replace HX := mD HX
  replace HB := bD HB
  replace HC := Aside0.mk (pw_cell_below (below_drew (Below.refl _ _)) HC.out)
  generalize W1.drew = wd1 at *
  refine pa_ 0 3 HT_ ?_
  refine pa_ 2 5 HT_ ?_
  refine pa_ 9 12 HT_ ?_
  refine pa_ 11 14 HT_ ?_
  refine pa_ 13 16 HT_ ?_
  refine ta_ 1 4 HT_ HW_ hHeld ?_
  refine ta_ 3 6 HT_ HW_ hHeld ?_
  refine ta_ 4 7 HT_ HW_ hHeld ?_
  refine ta_ 10 13 HT_ HW_ hHeld ?_
  refine ta_ 12 15 HT_ HW_ hHeld ?_
  refine ta_ 14 17 HT_ HW_ hHeld ?_
  refine pa_ 15 18 HT_ ?_
  refine pa_ 16 19 HT_ ?_
  refine pa_ 17 20 HT_ ?_
  refine on_ 5 HT_ fun K hK => ?_
  refine gc_ Tryz.func145 #[.agg #[.int .i64 4,.int .i64 2,.slice (some ⟨oo,0,none⟩) 1 co,.slice (some ⟨ln,0,none⟩) 1 cl,.slice (some ⟨ff,0,none⟩) 1 cf]] ?_
  with_reducible refine (tlast_calls oo co ln cl ff cf _).mono ?_
  rintro e_ wa ⟨rfl,hb⟩
  refine ⟨_,rfl,?_⟩
  replace HX := mb HX hb
  replace HC := Aside0.mk (pw_cell_below hb HC.out)
  replace HB := mS HB hb
  clear hb
  refine hK.out _ _ ⟨(cL HX 0 rfl),(cL HX 1 rfl),(cL HX 2 rfl),(cL HX 3 rfl),(cL HX 4 rfl),HC.out⟩ (fun hHeld => ?_)
  clear hK K
  refine no_ 8 ?_
  refine pa_ 6 9 HT_ ?_
  refine ta_ 7 10 HT_ HW_ hHeld ?_
  refine pa_ 8 11 HT_ ?_
  refine pa_ 18 21 HT_ ?_
  refine pa_ 19 2 HT_ ?_
  refine dn_ HT_ ?_
  clear HT_ HW_ hHeld
  go_wp2_with fail
  go_ret
  exact ⟨by kernel_rfl,HB.out⟩
 ·have HL := Aside0.mk hl
  clear hl
  go_enter Tryz.func100,Tryz.ntmps100
  go_upto_region 1 with fail
  obtain ⟨W1,g,hW_,hg,HX,hb_⟩ := new1 w #[.int .i64 4,.int .i64 2,.slice (some ⟨oo,0,none⟩) 1 co,.slice (some ⟨ln,0,none⟩) 1 cl,.slice (some ⟨ff,0,none⟩) 1 cf] 162
  rw [← hW_,← hg.out]
  have HB := Aside0.mk hb_
  clear hW_ hb_
  have HC : Aside0 (W1.cell? ⟨ln,0,none⟩ = some (.int .i64 2)) := ⟨pw_cell_below HB.out HL.out⟩
  refine st_ 20 (fun w' => w'.cell? ⟨g,0,none⟩ = some (.int .i64 4) ∧ w'.cell? ⟨g,1,none⟩ = some (.int .i64 2) ∧ w'.cell? ⟨g,2,none⟩ = some (.slice (some ⟨oo,0,none⟩) 1 co) ∧ w'.cell? ⟨g,3,none⟩ = some (.slice (some ⟨ln,0,none⟩) 1 cl) ∧ w'.cell? ⟨g,4,none⟩ = some (.slice (some ⟨ff,0,none⟩) 1 cf) ∧ w'.cell? ⟨ln,0,none⟩ = some (.int .i64 2)) [] ⟨(cD HX 0 rfl),(cD HX 1 rfl),(cD HX 2 rfl),(cD HX 3 rfl),(cD HX 4 rfl),(pw_cell_below (below_drew (Below.refl _ _)) HC.out)⟩ fun hHeld => ?_
  refine with_tabW troom.tab1 troom.bits1 (fun HT_ HW_ => ?_)
  replace HX := mD HX
  replace HB := bD HB
  replace HC := Aside0.mk (pw_cell_below (below_drew (Below.refl _ _)) HC.out)
  generalize W1.drew = wd1 at *
  refine pa_ 0 3 HT_ ?_
  refine pa_ 2 5 HT_ ?_
  refine pa_ 9 12 HT_ ?_
  refine pa_ 11 14 HT_ ?_
  refine pa_ 13 16 HT_ ?_
  refine ta_ 1 4 HT_ HW_ hHeld ?_
  refine ta_ 3 6 HT_ HW_ hHeld ?_
  refine ta_ 4 7 HT_ HW_ hHeld ?_
  refine ta_ 10 13 HT_ HW_ hHeld ?_
  refine ta_ 12 15 HT_ HW_ hHeld ?_
  refine ta_ 14 17 HT_ HW_ hHeld ?_
  refine pa_ 15 18 HT_ ?_
  refine pa_ 16 19 HT_ ?_
  refine pa_ 17 20 HT_ ?_
  refine on_ 5 HT_ fun K hK => ?_
  refine gc_ Tryz.func145 #[.agg #[.int .i64 4,.int .i64 2,.slice (some ⟨oo,0,none⟩) 1 co,.slice (some ⟨ln,0,none⟩) 1 cl,.slice (some ⟨ff,0,none⟩) 1 cf]] ?_
  with_reducible refine (tlast_calls oo co ln cl ff cf _).mono ?_
  rintro e_ wa ⟨rfl,hb⟩
  refine ⟨_,rfl,?_⟩
  replace HX := mb HX hb
  replace HC := Aside0.mk (pw_cell_below hb HC.out)
  replace HB := mS HB hb
  clear hb
  refine hK.out _ _ ⟨(cL HX 0 rfl),(cL HX 1 rfl),(cL HX 2 rfl),(cL HX 3 rfl),(cL HX 4 rfl),HC.out⟩ (fun hHeld => ?_)
  clear hK K
  refine no_ 8 ?_
  refine pa_ 6 9 HT_ ?_
  refine ta_ 7 10 HT_ HW_ hHeld ?_
  refine pa_ 8 11 HT_ ?_
  refine pa_ 18 21 HT_ ?_
  refine pa_ 19 2 HT_ ?_
  refine dn_ HT_ ?_
  clear HT_ HW_ hHeld
  go_wp2_with fail
  go_ret
  exact ⟨by kernel_rfl,HB.out⟩
end Go.Proofs.YtokfjbbjkiilmaaGreatDoor.H
