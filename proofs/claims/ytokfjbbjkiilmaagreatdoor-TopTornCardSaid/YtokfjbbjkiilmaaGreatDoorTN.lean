/-
TopTorn: part of its walk (Wh, Wh2).
-/
import Derived.Test.YtokfjbbjkiilmaaGreatDoorTM
set_option linter.unusedVariables false
set_option linter.unusedSimpArgs false
namespace Go.Proofs.YtokfjbbjkiilmaaGreatDoor.H
open Go.RowKit Go.Proofs.YtokfjbbjkiilmaaGreatDoorW.PrintWords Go.Proofs.YtokfjbbjkiilmaaGreatDoorW.PrintLast Go.Proofs.YtokfjbbjkiilmaaGreatDoorW.PrintMore
set_option maxHeartbeats 8000000
set_option maxRecDepth 100000
attribute [local go_sem] max2_int min2_int min_two max_two
attribute [local go_sem] run_makeMap0
/-- A wheel's block, with no timer. -/
def wrow (now : Int) (fm am : Nat) : Array Value := #[.int .u64 now,.slice none 0 0,.slice none 0 0,.slice none 0 0,.slice none 0 0,.slice none 0 0,.slice none 0 0,.slice none 0 0,.slice none 0 0,.slice none 0 0,.slice none 0 0,.slice none 0 0,.slice none 0 0,.slice none 0 0,.slice none 0 0,.slice none 0 0,.slice none 0 0,.slice none 0 0,.slice none 0 0,.slice none 0 0,.slice none 0 0,.slice none 0 0,.slice none 0 0,.slice none 0 0,.slice none 0 0,.slice none 0 0,.slice none 0 0,.slice none 0 0,.slice none 0 0,.slice none 0 0,.slice none 0 0,.slice none 0 0,.slice none 0 0,.slice none 0 0,.slice none 0 0,.slice none 0 0,.slice none 0 0,.slice none 0 0,.slice none 0 0,.slice none 0 0,.slice none 0 0,.slice none 0 0,.slice none 0 0,.slice none 0 0,.slice none 0 0,.slice none 0 0,.slice none 0 0,.slice none 0 0,.slice none 0 0,.slice none 0 0,.slice none 0 0,.slice none 0 0,.slice none 0 0,.slice none 0 0,.slice none 0 0,.slice none 0 0,.slice none 0 0,.slice none 0 0,.slice none 0 0,.slice none 0 0,.slice none 0 0,.slice none 0 0,.slice none 0 0,.slice none 0 0,.slice none 0 0,.map (some fm),.map (some am)]
theorem setMap_other2 {w : World} {r q c' : Nat} {es' : Array MapEntry} (hn : q ≠ r) : (setMap w r es' c').heap[q]? = w.heap[q]? := by
 unfold setMap
 simp [Ne.symm hn]
/-- An owned row's block is no map. -/
theorem own_map {w : World} {e : TypeId} {z n g c : Nat} {v : Value} {xs : List Value} {es : Array MapEntry} (h : w.ownsRow 0 e z v n xs) (hg : w.heap[g]? = some (.map es c)) : ∀ k,v.ownBlock = some k → k ≠ g := by
 intro k hk
 obtain ⟨h1,h2⟩ := h
 rcases h2 with ⟨rfl,_⟩ | ⟨b,cap,cur,rfl,hb,hh,hr⟩
 ·cases hk
 ·cases hk
  exact (map_ne hg hh).symm
theorem Keep.setCell {L : List Nat} {w0 w : World} {a : Addr} (v : Value) (h : Keep L w0 w) (hg : a.block ∈ L ∨ w0.heap.size ≤ a.block) : Keep L w0 (w.setCell a v) :=
 ⟨h.os,h.tape,h.output,by simpa [World.setCell] using h.size,fun k hk hn => (Below.heap_setCell w a v k (fun e => hg.elim (fun h => hn (e ▸ h)) (by omega))).trans (h.block k hk hn)⟩
section
variable {P : Program} {w : World} {t e : TypeId} {size bytes : Nat}
/-- An append of one element to an owned row, in a region of open order. -/
theorem appO_ {ops : Array Oper} {Q : Exit → Act → World → Prop} {oi : Oper} {N : Tmp} {a : Act} {K : Act → World → Prop} (s x : Operand) (z : Value) (hw : Region.wanted oi (yielded ops a.tmps) = true) (hN : oi.dst = some N) (ho : oi.op = .call { callee := .builtin .append,args := #[s,x],argTypes := #[t,t] })
 (ht : P.underlying t = some (.slice e)) (hi : (P.info? e).map (fun i => (i.zero,i.size,i.bytes)) = some (some z,size,bytes)) (hzs : z.cells.size = size) (hsz : 0 < size) (v : Value) (n : Nat) (xs : List Value) (hs : a.eval s = v) (hown : w.ownsRow 0 e size v n xs) (ad : Addr) (c : Nat) (news : List Value) (hx : a.eval x = .slice (some ad) 1 c) (hl : news.length = 1 * size) (hnews : ∀ j u,news[j]? = some u → w.cell? (ad.add j) = some u) (h1 : ∀ u ∈ news,u.oneCell' = true) (h63 : n + 1 ≤ maxLen) (hbytes : (n + 1) * bytes ≤ 140737488355328)
 (h : ∀ v' W,W.ownsRow 0 e size v' (n + 1) (xs ++ news) → w.grownBy W v.ownBlock → (v'.ownBlock = v.ownBlock ∨ v'.ownBlock = some w.heap.size) → K (a.put (some N) v') W) : if Region.wanted oi (yielded ops a.tmps) = true then Oper.wp P oi a w K Q else K (a.put (some N) undef) w := by
 rw [if_pos hw]
 obtain ⟨i,e1,e2,e3,e4⟩ := infoE hi
 obtain ⟨v',W,hr,h2,h3,h4,h5⟩ := run_append_own_at (P := P) w 0 t oi.type e i z size bytes ht e1 e2 e3 e4 hzs hsz v n xs hown ad 1 c news hl hnews h1 h63 hbytes (Nat.zero_le _)
 unfold Oper.wp execOp
 simp only [ho,resolve,invoke,builtin,Sem.run_bind,Sem.run_pure,Result.andThen_ok,List.map_toArray,List.map_cons,List.map_nil,hs,hx,hr]
 have := h v' W h2 h3 h5
 rw [← hN] at this
 exact this
end
theorem wnew_calls (now : Int) (w : World) :
 Calls Tryz.prog 97 #[.int .u64 now] w fun e w' => ∃ wh fm am : Nat,e = .returned (.pointer (some ⟨wh,0,none⟩)) ∧ (w.heap.size ≤ wh ∧ w.heap.size ≤ fm ∧ w.heap.size ≤ am ∧ fm ≠ am) ∧ w'.heap[wh]? = some (.cells (wrow now fm am) 239 (0,0)) ∧ w'.heap[am]? = some (.map #[] 0) ∧ Below w.heap.size w w' := by
 go_enter Tryz.func97,Tryz.ntmps97
 go_wp2_with fail
 go_ret
 refine ⟨w.heap.size + 1 + 1,w.heap.size,w.heap.size + 1,by simp,⟨by omega,by omega,by omega,by omega⟩,?_,?_,below_alloc (below_alloc (below_alloc (Below.refl _ _) _) _) _⟩
 ·have h_ := blk_new ((w.alloc (.map #[] 0)).alloc (.map #[] 0)) (.cells (wrow now w.heap.size (w.heap.size + 1)) 239)
  have e_ : ((w.alloc (.map #[] 0)).alloc (.map #[] 0)).heap.size = w.heap.size + 1 + 1 := by simp
  rw [e_] at h_
  exact h_
 ·have h_ := blk_alloc (blk_new (w.alloc (.map #[] 0)) (.map #[] 0)) (.cells (wrow now w.heap.size (w.heap.size + 1)) 239)
  have e_ : (w.alloc (.map #[] 0)).heap.size = w.heap.size + 1 := by simp
  rw [e_] at h_
  exact h_
def place99.T6 : Bool × List (List Nat × List Nat) := (true,[([],[]),([],[]),([],[]),([2],[2]),([1,3],[1,3]),([4],[4]),([5],[5]),([0,0],[0]),([6,7,0,1,2,3,4,5,6,7],[6])])
def place99.B6 : List Nat := [0,0,0,4,14,30,62,1,255]
theorem place99.tab6 : rtab .any (opsOf Tryz.f273 6) = place99.T6 := by kernel_rfl
theorem place99.bits6 : waitsOk place99.T6.2 place99.B6 = true := by kernel_rfl
theorem place99 (w : World) :
 Calls Tryz.prog 273 #[.int .u64 0,.int .u64 99] w fun e w' => e = .returned (.tuple #[.int .i64 1,.int .i64 6]) ∧ Below w.heap.size w w' := by
 go_enter Tryz.func273,Tryz.ntmps273
 go_wp2_with fail
 refine (Tryz.bits_Len64 99 _ (by decide) (by decide)).mono ?_
 rintro e_ w2 ⟨rfl,rfl⟩
 have hbl : (Lib.bitLen (99 : Int).toNat : Int) = 7 := by decide
 rw [hbl]
 go_upto_region 6 with fail
 have hsh : ∀ W : World,Sem.run Tryz.prog (Op.shift BinOp.shr IntKind.u64 99 IntKind.i64 (wrap64 4)) W = .ok (.int .u64 6) W := fun W => by kernel_rfl
 refine st_ 9 (fun w' => True) [] trivial fun hHeld => ?_
 refine with_tabW place99.tab6 place99.bits6 (fun HT_ HW_ => ?_)
 have HB := Aside0.mk (below_drew (Below.refl w2.heap.size w2))
 generalize w2.drew = wd1 at *
 refine pa_ 0 21 HT_ ?_
 refine pa_ 1 22 HT_ ?_
 refine pa_ 2 23 HT_ ?_
 refine pa_ 3 24 HT_ ?_
 refine pa_ 4 25 HT_ ?_
 refine pa_ 5 26 HT_ ?_
 refine pa_ 6 27 HT_ ?_
 refine pa_ 7 4 HT_ ?_
 refine pa_ 8 5 HT_ ?_
 refine dn_ HT_ ?_
 clear HT_ HW_ hHeld
 have hwr : wrap64 6 = 6 := by kernel_rfl
 rw [hwr]
 go_wp2_with fail
 exact ret2 rfl rfl ⟨rfl,HB.out⟩
def place5.T6 : Bool × List (List Nat × List Nat) := (true,[([],[]),([],[]),([],[]),([2],[2]),([1,3],[1,3]),([4],[4]),([5],[5]),([0,0],[0]),([6,7,0,1,2,3,4,5,6,7],[6])])
def place5.B6 : List Nat := [0,0,0,4,14,30,62,1,255]
theorem place5.tab6 : rtab .any (opsOf Tryz.f273 6) = place5.T6 := by kernel_rfl
theorem place5.bits6 : waitsOk place5.T6.2 place5.B6 = true := by kernel_rfl
theorem place5 (w : World) :
 Calls Tryz.prog 273 #[.int .u64 0,.int .u64 5] w fun e w' => e = .returned (.tuple #[.int .i64 0,.int .i64 5]) ∧ Below w.heap.size w w' := by
 go_enter Tryz.func273,Tryz.ntmps273
 go_wp2_with fail
 refine (Tryz.bits_Len64 5 _ (by decide) (by decide)).mono ?_
 rintro e_ w2 ⟨rfl,rfl⟩
 have hbl : (Lib.bitLen (5 : Int).toNat : Int) = 3 := by decide
 rw [hbl]
 go_upto_region 6 with fail
 have hsh : ∀ W : World,Sem.run Tryz.prog (Op.shift BinOp.shr IntKind.u64 5 IntKind.i64 (wrap64 0)) W = .ok (.int .u64 5) W := fun W => by kernel_rfl
 refine st_ 9 (fun w' => True) [] trivial fun hHeld => ?_
 refine with_tabW place5.tab6 place5.bits6 (fun HT_ HW_ => ?_)
 have HB := Aside0.mk (below_drew (Below.refl w2.heap.size w2))
 generalize w2.drew = wd1 at *
 refine pa_ 0 21 HT_ ?_
 refine pa_ 1 22 HT_ ?_
 refine pa_ 2 23 HT_ ?_
 refine pa_ 3 24 HT_ ?_
 refine pa_ 4 25 HT_ ?_
 refine pa_ 5 26 HT_ ?_
 refine pa_ 6 27 HT_ ?_
 refine pa_ 7 4 HT_ ?_
 refine pa_ 8 5 HT_ ?_
 refine dn_ HT_ ?_
 clear HT_ HW_ hHeld
 have hwr : wrap64 5 = 5 := by kernel_rfl
 rw [hwr]
 go_wp2_with fail
 exact ret2 rfl rfl ⟨rfl,HB.out⟩
def put99.T1 : Bool × List (List Nat × List Nat) := (true,[([],[]),([0],[0]),([1],[1]),([2],[2]),([],[]),([4],[4]),([3,5],[3,5]),([6],[6]),([7],[7]),([7],[7]),([8,6,0,1,2,3,4,5,6,7,8],[8]),([9,10,0,1,2,3,4,5,6,7,8,9,10],[9])])
def put99.B1 : List Nat := [0,1,3,7,0,16,63,127,255,255,511,2047]
theorem put99.tab1 : rtab .any (opsOf Tryz.f242 1) = put99.T1 := by kernel_rfl
theorem put99.bits1 : waitsOk put99.T1.2 put99.B1 = true := by kernel_rfl
def put99.T2 : Bool × List (List Nat × List Nat) := (true,[([],[]),([0],[0]),([1],[1]),([2],[2]),([],[]),([4],[4]),([],[]),([6],[6]),([],[]),([],[]),([7,8,9],[7,8,9]),([3,5,10,0,1,2,3,4,5,6,7,8,9,10],[3,5,10])])
def put99.B2 : List Nat := [0,1,3,7,0,16,0,64,0,0,960,2047]
theorem put99.tab2 : rtab .any (opsOf Tryz.f242 2) = put99.T2 := by kernel_rfl
theorem put99.bits2 : waitsOk put99.T2.2 put99.B2 = true := by kernel_rfl
def put99.T5 : Bool × List (List Nat × List Nat) := (true,[([],[]),([],[]),([],[]),([],[]),([],[]),([],[]),([3],[3]),([6],[6]),([7,4],[4,7]),([8,5],[5,8]),([9],[9]),([],[]),([11],[11]),([10,12],[10,12]),([0],[0]),([14],[14]),([15,1],[1,15]),([16,2,0,1,2,3,4,5,6,7,8,9,10,11,12,13],[2,16]),([17,13,13,0,1,2,3,4,5,6,7,8,9,10,11,12,13],[13,17])])
def put99.B5 : List Nat := [0,0,0,0,0,0,8,72,216,504,1016,0,2048,8184,1,16385,49155,131071,262143]
theorem put99.tab5 : rtab .any (opsOf Tryz.f242 5) = put99.T5 := by kernel_rfl
theorem put99.bits5 : waitsOk put99.T5.2 put99.B5 = true := by kernel_rfl
theorem put99_calls (wh am c c' : Nat) (cs : Array Value) (rv : Value) (es es' : Array MapEntry) (w : World) (hw : w.heap[wh]? = some (.cells cs 239 (0,0))) (h0 : cs[0]? = some (.int .u64 0)) (h66 : cs[66]? = some (.map (some am))) (hr : cs[23]? = some rv) (hrv : w.ownsRow 0 317 2 rv 0 []) (ha : w.heap[am]? = some (.map es c)) (hup : ∀ W : World,W.heap[am]? = some (.map es c) → (Instr.mapUpdate 234 (.map (some am)) (.string idA) (.agg #[.int .u64 99,.int .i64 1,.int .i64 6])).run Tryz.prog W = .ok () (setMap W am es' c')) :
 Calls Tryz.prog 242 #[.pointer (some ⟨wh,0,none⟩),.agg #[.string idA,.int .u64 99]] w fun e w' => e = .returned (.tuple #[]) ∧ ∃ rv',w'.ownsRow 0 317 2 rv' 1 [.string idA,.int .u64 99] ∧ w'.heap[wh]? = some (.cells (cs.setIfInBounds 23 rv') 239 (0,0)) ∧ w'.heap[am]? = some (.map es' c') ∧ Keep (wh :: am :: rv.ownBlock.toList) w w' ∧ ∀ q,rv'.ownBlock = some q → rv.ownBlock = some q ∨ w.heap.size ≤ q := by
 have HW := Aside0.mk hw
 have HA := Aside0.mk ha
 have HC0 := Aside0.mk h0
 have HC6 := Aside0.mk h66
 have HCR := Aside0.mk hr
 have HRV := Aside0.mk hrv
 have HU := Aside0.mk hup
 clear hw ha h0 h66 hr hrv hup
 go_enter Tryz.func242,Tryz.ntmps242
 go_upto_region 1 with fail
 obtain ⟨W1,g3,hW_,hg3,H3,hb_⟩ := new1 w #[.string idA,.int .u64 99] 317
 rw [← hW_,← hg3.out]
 replace HW := mb HW hb_
 replace HA := mb HA hb_
 have HB := Aside0.mk hb_
 clear hW_ hb_
 have G3 : Aside0 (w.heap.size ≤ g3) := ⟨by have := hg3.out; omega⟩
 refine st_ 12 (fun w' => w'.cell? ⟨wh,0,none⟩ = some (.int .u64 0) ∧ w'.cell? ⟨g3,1,none⟩ = some (.int .u64 99)) [] ⟨((blk_cell (blk_drew HW.out) 0).trans HC0.out),(cD H3 1 rfl)⟩ fun hHeld => ?_
 refine with_tabW put99.tab1 put99.bits1 (fun HT_ HW_ => ?_)
 replace HW := mD HW
 replace HA := mD HA
 replace H3 := mD H3
 replace HB := bD HB
 generalize W1.drew = wd1 at *
 refine pa_ 0 7 HT_ ?_
 refine pa_ 1 8 HT_ ?_
 refine pa_ 2 9 HT_ ?_
 refine pa_ 4 11 HT_ ?_
 refine ta_ 3 10 HT_ HW_ hHeld ?_
 refine ta_ 5 12 HT_ HW_ hHeld ?_
 refine on_ 6 HT_ fun K hK => ?_
 refine gc_ Tryz.func273 #[.int .u64 0,.int .u64 99] ?_
 with_reducible refine (place99 _).mono ?_
 rintro e_ Wa ⟨rfl,hb⟩
 refine ⟨_,rfl,?_⟩
 replace HW := mb HW hb
 replace HA := mb HA hb
 replace H3 := mb H3 hb
 replace HB := mS HB hb
 clear hb
 refine hK.out _ _ ⟨((blk_cell HW.out 0).trans HC0.out),(cL H3 1 rfl)⟩ (fun hHeld => ?_)
 clear hK K
 refine no_ 13 ?_
 refine pa_ 7 6 HT_ ?_
 refine pa_ 8 14 HT_ ?_
 refine pa_ 9 15 HT_ ?_
 refine pa_ 10 4 HT_ ?_
 refine pa_ 11 5 HT_ ?_
 refine dn_ HT_ ?_
 clear HT_ HW_ hHeld
 go_upto_region 2 with fail
 refine st_ 12 (fun w' => w'.cell? ⟨wh,66,none⟩ = some (.map (some am)) ∧ w'.cell? ⟨g3,0,none⟩ = some (.string idA) ∧ w'.cell? ⟨g3,1,none⟩ = some (.int .u64 99)) [11] ⟨((blk_cell (blk_drew HW.out) 66).trans HC6.out),(cD H3 0 rfl),(cD H3 1 rfl)⟩ fun hHeld => ?_
 refine with_tabW put99.tab2 put99.bits2 (fun HT_ HW_ => ?_)
 replace HW := mD HW
 replace HA := mD HA
 replace H3 := mD H3
 replace HB := bD HB
 generalize Wa.drew = wd2 at *
 refine pa_ 0 16 HT_ ?_
 refine pa_ 1 17 HT_ ?_
 refine pa_ 2 18 HT_ ?_
 refine pa_ 4 20 HT_ ?_
 refine pa_ 6 22 HT_ ?_
 refine pa_ 8 24 HT_ ?_
 refine pa_ 9 25 HT_ ?_
 refine ta_ 3 19 HT_ HW_ hHeld ?_
 refine ta_ 5 21 HT_ HW_ hHeld ?_
 refine ta_ 7 23 HT_ HW_ hHeld ?_
 refine pa_ 10 26 HT_ ?_
 refine la_ 11 HT_ fun K hK => ?_
 have hup := HU.out wd2 HA.out
 refine skip_ (w1 := ?_) (by rfl) rfl ?_ ?_
 rotate_left
 ·go_simp
  rfl
 refine hK.out _ _ ?_
 clear hK K
 refine dn_ HT_ ?_
 clear HT_ HW_ hHeld
 have HRV2 : Aside0 (wd2.ownsRow 0 317 2 rv 0 []) := ⟨own_keep HRV.out (fun q hq => HB.out.block q (own_lt HRV.out q hq))⟩
 obtain ⟨Wc,hW_⟩ : ∃ W_,W_ = setMap wd2 am es' c' := ⟨_,rfl⟩
 rw [← hW_]
 have q_ := setMap_other (c' := c') (es' := es') HW.out ((map_ne HA.out HW.out).symm)
 rw [← hW_] at q_
 have NHW : Aside0 (Wc.heap[wh]? = _) := ⟨q_⟩
 clear q_
 have q_ := setMap_other (c' := c') (es' := es') H3.out ((map_ne HA.out H3.out).symm)
 rw [← hW_] at q_
 have NH3 : Aside0 (Wc.heap[g3]? = _) := ⟨q_⟩
 clear q_
 have HRV3 : Aside0 (Wc.ownsRow 0 317 2 rv 0 []) := ⟨own_keep HRV2.out (fun q hq => by rw [hW_]; exact setMap_other2 (own_map HRV2.out HA.out q hq))⟩
 have NA : Aside0 (Wc.heap[am]? = some (.map es' c')) := ⟨by rw [hW_]; exact setMap_heap HA.out⟩
 have HK : Aside0 (Keep (wh :: am :: rv.ownBlock.toList) w Wc) := ⟨by rw [hW_]; exact (Keep.below HB.out).setMap _ _ (.inl (by simp))⟩
 have NR3 : Aside0 (∀ k,rv.ownBlock = some k → g3 ≠ k) := ⟨fun k hk => by have := own_lt HRV.out k hk; have := G3.out; omega⟩
 clear hW_ HW H3 HA HB HRV2 HRV
 have HW := NHW
 have H3 := NH3
 have HA := NA
 have HB := Aside0.mk (Below.refl Wc.heap.size Wc)
 clear NHW NH3 NA
 go_upto_region 5 with fail
 refine st_ 19 (fun w' => w'.cell? ⟨wh,23,none⟩ = some (rv) ∧ w'.cell? ⟨g3,0,none⟩ = some (.string idA) ∧ w'.cell? ⟨g3,1,none⟩ = some (.int .u64 99)) [13,18] ⟨((blk_cell (blk_drew HW.out) 23).trans HCR.out),(cD H3 0 rfl),(cD H3 1 rfl)⟩ fun hHeld => ?_
 refine with_tabW put99.tab5 put99.bits5 (fun HT_ HW_ => ?_)
 replace HW := mD HW
 replace HA := mD HA
 replace H3 := mD H3
 replace HB := bD HB
 generalize Wc.drew = wd3 at *
 refine pa_ 0 36 HT_ ?_
 refine pa_ 1 37 HT_ ?_
 refine pa_ 2 38 HT_ ?_
 refine pa_ 3 39 HT_ ?_
 refine pa_ 4 40 HT_ ?_
 refine pa_ 5 41 HT_ ?_
 refine pa_ 6 42 HT_ ?_
 refine pa_ 7 43 HT_ ?_
 refine pa_ 8 44 HT_ ?_
 refine pa_ 9 45 HT_ ?_
 refine pa_ 14 50 HT_ ?_
 refine pa_ 15 51 HT_ ?_
 refine pa_ 16 52 HT_ ?_
 refine ta_ 10 46 HT_ HW_ hHeld ?_
 refine ta_ 11 47 HT_ HW_ hHeld ?_
 refine on_ 12 HT_ fun K hK => ?_
 refine va_ ?_
 obtain ⟨wk,hW_⟩ : ∃ W_,W_ = wd3.alloc (.cells #[.string idA,.int .u64 99] 317) := ⟨_,rfl⟩
 obtain ⟨g5,hh_⟩ : ∃ g_,g_ = wd3.heap.size := ⟨_,rfl⟩
 rw [← hW_,← hh_]
 have hb_ : Below wd3.heap.size wd3 wk := by rw [hW_]; exact below_alloc (Below.refl _ _) _
 have H5 : Aside0 (wk.heap[g5]? = some (.cells #[.string idA,.int .u64 99] 317 (0,0))) := ⟨by rw [hW_,hh_]; exact blk_new _ _⟩
 replace HW := mb HW hb_
 replace HA := mb HA hb_
 replace H3 := mb H3 hb_
 replace HB := mS HB hb_
 clear hb_ hW_ hh_
 refine hK.out _ _ ⟨((blk_cell HW.out 23).trans HCR.out),(cL H3 0 rfl),(cL H3 1 rfl)⟩ (fun hHeld => ?_)
 clear hK K
 refine no_ 48 ?_
 refine la_ 13 HT_ fun K hK => ?_
 have HRV4 : Aside0 (wk.ownsRow 0 317 2 rv 0 []) := ⟨own_keep HRV3.out (fun q hq => HB.out.block q (own_lt HRV3.out q hq))⟩
 refine appO_ (P := Tryz.prog) (t := 235) (e := 317) (size := 2) (bytes := 24) (.tmp 46) (.tmp 48) (.agg #[.string { data := #[] },.int .u64 0]) (by rfl) rfl rfl (by kernel_rfl) (by kernel_rfl) rfl (by decide) rv 0 [] (by rfl) HRV4.out ⟨g5,0,none⟩ 1 [.string idA,.int .u64 99] (by rfl) rfl (fun j u hj => by rcases j with _ | _ | j <;> simp at hj <;> subst hj <;> exact (blk_cell H5.out _).trans rfl) (by simp [Value.oneCell']) (by decide) (by decide) ?_
 intro rv' W5 hown hgr hnb
 obtain ⟨va,vl,vc,rfl⟩ := own_one hown
 have HNB : Aside0 (∀ q,Value.ownBlock (.slice va vl vc) = some q → rv.ownBlock = some q ∨ w.heap.size ≤ q) := ⟨fun q hq => hnb.elim (fun e => .inl (e ▸ hq)) (fun e => .inr (by rw [hq] at e; cases e; exact Nat.le_trans HK.out.size HB.out.size))⟩
 clear hnb
 have HO := Aside0.mk hown
 have HGR := Aside0.mk hgr
 clear hown hgr
 refine hK.out _ _ ?_
 clear hK K
 refine no_ 49 ?_
 refine pa_ 17 53 HT_ ?_
 refine la_ 18 HT_ fun K hK => ?_
 have q_ : W5.heap[wh]? = _ := (HGR.out.block wh (blk_lt HW.out) (fun e => own_ne HRV4.out HW.out (by decide) wh e.symm rfl)).trans HW.out
 have f_ := blk_frozen q_ 23
 have y_ : W5.cell? ⟨wh,23,none⟩ = some rv := (blk_cell q_ 23).trans HCR.out
 have HW5 := Aside0.mk q_
 clear q_
 refine skip_ (w1 := ?_) (by rfl) rfl ?_ ?_
 rotate_left
 ·go_simp
  rfl
 refine hK.out _ _ ?_
 clear hK K
 refine dn_ HT_ ?_
 clear HT_ HW_ hHeld
 clear y_ f_
 refine end0 rfl rfl ⟨rfl,.slice va vl vc,own_keep HO.out (fun q hq => ?_),blk_set HW5.out 23 _,?_,?_,HNB.out⟩
 ·have := own_ne HO.out HW5.out (by decide) q hq
  exact Below.heap_setCell _ _ _ q (by simpa using this)
 ·refine (Below.heap_setCell _ _ _ am (by simpa using map_ne HA.out HW.out)).trans ((HGR.out.block am (blk_lt HA.out) (fun e => own_map HRV4.out HA.out am e.symm rfl)).trans HA.out)
 ·exact ((HK.out.trans (Keep.below HB.out)).grown HGR.out (fun k hk => .inl (by simp [hk]))).setCell _ (.inl (by simp))
def put5.T1 : Bool × List (List Nat × List Nat) := (true,[([],[]),([0],[0]),([1],[1]),([2],[2]),([],[]),([4],[4]),([3,5],[3,5]),([6],[6]),([7],[7]),([7],[7]),([8,6,0,1,2,3,4,5,6,7,8],[8]),([9,10,0,1,2,3,4,5,6,7,8,9,10],[9])])
def put5.B1 : List Nat := [0,1,3,7,0,16,63,127,255,255,511,2047]
theorem put5.tab1 : rtab .any (opsOf Tryz.f242 1) = put5.T1 := by kernel_rfl
theorem put5.bits1 : waitsOk put5.T1.2 put5.B1 = true := by kernel_rfl
def put5.T2 : Bool × List (List Nat × List Nat) := (true,[([],[]),([0],[0]),([1],[1]),([2],[2]),([],[]),([4],[4]),([],[]),([6],[6]),([],[]),([],[]),([7,8,9],[7,8,9]),([3,5,10,0,1,2,3,4,5,6,7,8,9,10],[3,5,10])])
def put5.B2 : List Nat := [0,1,3,7,0,16,0,64,0,0,960,2047]
theorem put5.tab2 : rtab .any (opsOf Tryz.f242 2) = put5.T2 := by kernel_rfl
theorem put5.bits2 : waitsOk put5.T2.2 put5.B2 = true := by kernel_rfl
def put5.T5 : Bool × List (List Nat × List Nat) := (true,[([],[]),([],[]),([],[]),([],[]),([],[]),([],[]),([3],[3]),([6],[6]),([7,4],[4,7]),([8,5],[5,8]),([9],[9]),([],[]),([11],[11]),([10,12],[10,12]),([0],[0]),([14],[14]),([15,1],[1,15]),([16,2,0,1,2,3,4,5,6,7,8,9,10,11,12,13],[2,16]),([17,13,13,0,1,2,3,4,5,6,7,8,9,10,11,12,13],[13,17])])
def put5.B5 : List Nat := [0,0,0,0,0,0,8,72,216,504,1016,0,2048,8184,1,16385,49155,131071,262143]
theorem put5.tab5 : rtab .any (opsOf Tryz.f242 5) = put5.T5 := by kernel_rfl
theorem put5.bits5 : waitsOk put5.T5.2 put5.B5 = true := by kernel_rfl
theorem put5_calls (wh am c c' : Nat) (cs : Array Value) (rv : Value) (es es' : Array MapEntry) (w : World) (hw : w.heap[wh]? = some (.cells cs 239 (0,0))) (h0 : cs[0]? = some (.int .u64 0)) (h66 : cs[66]? = some (.map (some am))) (hr : cs[6]? = some rv) (hrv : w.ownsRow 0 317 2 rv 0 []) (ha : w.heap[am]? = some (.map es c)) (hup : ∀ W : World,W.heap[am]? = some (.map es c) → (Instr.mapUpdate 234 (.map (some am)) (.string idA) (.agg #[.int .u64 5,.int .i64 0,.int .i64 5])).run Tryz.prog W = .ok () (setMap W am es' c')) :
 Calls Tryz.prog 242 #[.pointer (some ⟨wh,0,none⟩),.agg #[.string idA,.int .u64 5]] w fun e w' => e = .returned (.tuple #[]) ∧ ∃ rv',w'.ownsRow 0 317 2 rv' 1 [.string idA,.int .u64 5] ∧ w'.heap[wh]? = some (.cells (cs.setIfInBounds 6 rv') 239 (0,0)) ∧ w'.heap[am]? = some (.map es' c') ∧ Keep (wh :: am :: rv.ownBlock.toList) w w' ∧ ∀ q,rv'.ownBlock = some q → rv.ownBlock = some q ∨ w.heap.size ≤ q := by
 have HW := Aside0.mk hw
 have HA := Aside0.mk ha
 have HC0 := Aside0.mk h0
 have HC6 := Aside0.mk h66
 have HCR := Aside0.mk hr
 have HRV := Aside0.mk hrv
 have HU := Aside0.mk hup
 clear hw ha h0 h66 hr hrv hup
 go_enter Tryz.func242,Tryz.ntmps242
 go_upto_region 1 with fail
 obtain ⟨W1,g3,hW_,hg3,H3,hb_⟩ := new1 w #[.string idA,.int .u64 5] 317
 rw [← hW_,← hg3.out]
 replace HW := mb HW hb_
 replace HA := mb HA hb_
 have HB := Aside0.mk hb_
 clear hW_ hb_
 have G3 : Aside0 (w.heap.size ≤ g3) := ⟨by have := hg3.out; omega⟩
 refine st_ 12 (fun w' => w'.cell? ⟨wh,0,none⟩ = some (.int .u64 0) ∧ w'.cell? ⟨g3,1,none⟩ = some (.int .u64 5)) [] ⟨((blk_cell (blk_drew HW.out) 0).trans HC0.out),(cD H3 1 rfl)⟩ fun hHeld => ?_
 refine with_tabW put5.tab1 put5.bits1 (fun HT_ HW_ => ?_)
 replace HW := mD HW
 replace HA := mD HA
 replace H3 := mD H3
 replace HB := bD HB
 generalize W1.drew = wd1 at *
 refine pa_ 0 7 HT_ ?_
 refine pa_ 1 8 HT_ ?_
 refine pa_ 2 9 HT_ ?_
 refine pa_ 4 11 HT_ ?_
 refine ta_ 3 10 HT_ HW_ hHeld ?_
 refine ta_ 5 12 HT_ HW_ hHeld ?_
 refine on_ 6 HT_ fun K hK => ?_
 refine gc_ Tryz.func273 #[.int .u64 0,.int .u64 5] ?_
 with_reducible refine (place5 _).mono ?_
 rintro e_ Wa ⟨rfl,hb⟩
 refine ⟨_,rfl,?_⟩
 replace HW := mb HW hb
 replace HA := mb HA hb
 replace H3 := mb H3 hb
 replace HB := mS HB hb
 clear hb
 refine hK.out _ _ ⟨((blk_cell HW.out 0).trans HC0.out),(cL H3 1 rfl)⟩ (fun hHeld => ?_)
 clear hK K
 refine no_ 13 ?_
 refine pa_ 7 6 HT_ ?_
 refine pa_ 8 14 HT_ ?_
 refine pa_ 9 15 HT_ ?_
 refine pa_ 10 4 HT_ ?_
 refine pa_ 11 5 HT_ ?_
 refine dn_ HT_ ?_
 clear HT_ HW_ hHeld
 go_upto_region 2 with fail
 refine st_ 12 (fun w' => w'.cell? ⟨wh,66,none⟩ = some (.map (some am)) ∧ w'.cell? ⟨g3,0,none⟩ = some (.string idA) ∧ w'.cell? ⟨g3,1,none⟩ = some (.int .u64 5)) [11] ⟨((blk_cell (blk_drew HW.out) 66).trans HC6.out),(cD H3 0 rfl),(cD H3 1 rfl)⟩ fun hHeld => ?_
 refine with_tabW put5.tab2 put5.bits2 (fun HT_ HW_ => ?_)
 replace HW := mD HW
 replace HA := mD HA
 replace H3 := mD H3
 replace HB := bD HB
 generalize Wa.drew = wd2 at *
 refine pa_ 0 16 HT_ ?_
 refine pa_ 1 17 HT_ ?_
 refine pa_ 2 18 HT_ ?_
 refine pa_ 4 20 HT_ ?_
 refine pa_ 6 22 HT_ ?_
 refine pa_ 8 24 HT_ ?_
 refine pa_ 9 25 HT_ ?_
 refine ta_ 3 19 HT_ HW_ hHeld ?_
 refine ta_ 5 21 HT_ HW_ hHeld ?_
 refine ta_ 7 23 HT_ HW_ hHeld ?_
 refine pa_ 10 26 HT_ ?_
 refine la_ 11 HT_ fun K hK => ?_
 have hup := HU.out wd2 HA.out
 refine skip_ (w1 := ?_) (by rfl) rfl ?_ ?_
 rotate_left
 ·go_simp
  rfl
 refine hK.out _ _ ?_
 clear hK K
 refine dn_ HT_ ?_
 clear HT_ HW_ hHeld
 have HRV2 : Aside0 (wd2.ownsRow 0 317 2 rv 0 []) := ⟨own_keep HRV.out (fun q hq => HB.out.block q (own_lt HRV.out q hq))⟩
 obtain ⟨Wc,hW_⟩ : ∃ W_,W_ = setMap wd2 am es' c' := ⟨_,rfl⟩
 rw [← hW_]
 have q_ := setMap_other (c' := c') (es' := es') HW.out ((map_ne HA.out HW.out).symm)
 rw [← hW_] at q_
 have NHW : Aside0 (Wc.heap[wh]? = _) := ⟨q_⟩
 clear q_
 have q_ := setMap_other (c' := c') (es' := es') H3.out ((map_ne HA.out H3.out).symm)
 rw [← hW_] at q_
 have NH3 : Aside0 (Wc.heap[g3]? = _) := ⟨q_⟩
 clear q_
 have HRV3 : Aside0 (Wc.ownsRow 0 317 2 rv 0 []) := ⟨own_keep HRV2.out (fun q hq => by rw [hW_]; exact setMap_other2 (own_map HRV2.out HA.out q hq))⟩
 have NA : Aside0 (Wc.heap[am]? = some (.map es' c')) := ⟨by rw [hW_]; exact setMap_heap HA.out⟩
 have HK : Aside0 (Keep (wh :: am :: rv.ownBlock.toList) w Wc) := ⟨by rw [hW_]; exact (Keep.below HB.out).setMap _ _ (.inl (by simp))⟩
 have NR3 : Aside0 (∀ k,rv.ownBlock = some k → g3 ≠ k) := ⟨fun k hk => by have := own_lt HRV.out k hk; have := G3.out; omega⟩
 clear hW_ HW H3 HA HB HRV2 HRV
 have HW := NHW
 have H3 := NH3
 have HA := NA
 have HB := Aside0.mk (Below.refl Wc.heap.size Wc)
 clear NHW NH3 NA
 go_upto_region 5 with fail
 refine st_ 19 (fun w' => w'.cell? ⟨wh,6,none⟩ = some (rv) ∧ w'.cell? ⟨g3,0,none⟩ = some (.string idA) ∧ w'.cell? ⟨g3,1,none⟩ = some (.int .u64 5)) [13,18] ⟨((blk_cell (blk_drew HW.out) 6).trans HCR.out),(cD H3 0 rfl),(cD H3 1 rfl)⟩ fun hHeld => ?_
 refine with_tabW put5.tab5 put5.bits5 (fun HT_ HW_ => ?_)
 replace HW := mD HW
 replace HA := mD HA
 replace H3 := mD H3
 replace HB := bD HB
 generalize Wc.drew = wd3 at *
 refine pa_ 0 36 HT_ ?_
 refine pa_ 1 37 HT_ ?_
 refine pa_ 2 38 HT_ ?_
 refine pa_ 3 39 HT_ ?_
 refine pa_ 4 40 HT_ ?_
 refine pa_ 5 41 HT_ ?_
 refine pa_ 6 42 HT_ ?_
 refine pa_ 7 43 HT_ ?_
 refine pa_ 8 44 HT_ ?_
 refine pa_ 9 45 HT_ ?_
 refine pa_ 14 50 HT_ ?_
 refine pa_ 15 51 HT_ ?_
 refine pa_ 16 52 HT_ ?_
 refine ta_ 10 46 HT_ HW_ hHeld ?_
 refine ta_ 11 47 HT_ HW_ hHeld ?_
 refine on_ 12 HT_ fun K hK => ?_
 refine va_ ?_
 obtain ⟨wk,hW_⟩ : ∃ W_,W_ = wd3.alloc (.cells #[.string idA,.int .u64 5] 317) := ⟨_,rfl⟩
 obtain ⟨g5,hh_⟩ : ∃ g_,g_ = wd3.heap.size := ⟨_,rfl⟩
 rw [← hW_,← hh_]
 have hb_ : Below wd3.heap.size wd3 wk := by rw [hW_]; exact below_alloc (Below.refl _ _) _
 have H5 : Aside0 (wk.heap[g5]? = some (.cells #[.string idA,.int .u64 5] 317 (0,0))) := ⟨by rw [hW_,hh_]; exact blk_new _ _⟩
 replace HW := mb HW hb_
 replace HA := mb HA hb_
 replace H3 := mb H3 hb_
 replace HB := mS HB hb_
 clear hb_ hW_ hh_
 refine hK.out _ _ ⟨((blk_cell HW.out 6).trans HCR.out),(cL H3 0 rfl),(cL H3 1 rfl)⟩ (fun hHeld => ?_)
 clear hK K
 refine no_ 48 ?_
 refine la_ 13 HT_ fun K hK => ?_
 have HRV4 : Aside0 (wk.ownsRow 0 317 2 rv 0 []) := ⟨own_keep HRV3.out (fun q hq => HB.out.block q (own_lt HRV3.out q hq))⟩
 refine appO_ (P := Tryz.prog) (t := 235) (e := 317) (size := 2) (bytes := 24) (.tmp 46) (.tmp 48) (.agg #[.string { data := #[] },.int .u64 0]) (by rfl) rfl rfl (by kernel_rfl) (by kernel_rfl) rfl (by decide) rv 0 [] (by rfl) HRV4.out ⟨g5,0,none⟩ 1 [.string idA,.int .u64 5] (by rfl) rfl (fun j u hj => by rcases j with _ | _ | j <;> simp at hj <;> subst hj <;> exact (blk_cell H5.out _).trans rfl) (by simp [Value.oneCell']) (by decide) (by decide) ?_
 intro rv' W5 hown hgr hnb
 obtain ⟨va,vl,vc,rfl⟩ := own_one hown
 have HNB : Aside0 (∀ q,Value.ownBlock (.slice va vl vc) = some q → rv.ownBlock = some q ∨ w.heap.size ≤ q) := ⟨fun q hq => hnb.elim (fun e => .inl (e ▸ hq)) (fun e => .inr (by rw [hq] at e; cases e; exact Nat.le_trans HK.out.size HB.out.size))⟩
 clear hnb
 have HO := Aside0.mk hown
 have HGR := Aside0.mk hgr
 clear hown hgr
 refine hK.out _ _ ?_
 clear hK K
 refine no_ 49 ?_
 refine pa_ 17 53 HT_ ?_
 refine la_ 18 HT_ fun K hK => ?_
 have q_ : W5.heap[wh]? = _ := (HGR.out.block wh (blk_lt HW.out) (fun e => own_ne HRV4.out HW.out (by decide) wh e.symm rfl)).trans HW.out
 have f_ := blk_frozen q_ 6
 have y_ : W5.cell? ⟨wh,6,none⟩ = some rv := (blk_cell q_ 6).trans HCR.out
 have HW5 := Aside0.mk q_
 clear q_
 refine skip_ (w1 := ?_) (by rfl) rfl ?_ ?_
 rotate_left
 ·go_simp
  rfl
 refine hK.out _ _ ?_
 clear hK K
 refine dn_ HT_ ?_
 clear HT_ HW_ hHeld
 clear y_ f_
 refine end0 rfl rfl ⟨rfl,.slice va vl vc,own_keep HO.out (fun q hq => ?_),blk_set HW5.out 6 _,?_,?_,HNB.out⟩
 ·have := own_ne HO.out HW5.out (by decide) q hq
  exact Below.heap_setCell _ _ _ q (by simpa using this)
 ·refine (Below.heap_setCell _ _ _ am (by simpa using map_ne HA.out HW.out)).trans ((HGR.out.block am (blk_lt HA.out) (fun e => own_map HRV4.out HA.out am e.symm rfl)).trans HA.out)
 ·exact ((HK.out.trans (Keep.below HB.out)).grown HGR.out (fun k hk => .inl (by simp [hk]))).setCell _ (.inl (by simp))
end Go.Proofs.YtokfjbbjkiilmaaGreatDoor.H
namespace Go.Proofs.YtokfjbbjkiilmaaGreatDoor.H
open Go.RowKit Go.Proofs.YtokfjbbjkiilmaaGreatDoorW.PrintWords Go.Proofs.YtokfjbbjkiilmaaGreatDoorW.PrintLast Go.Proofs.YtokfjbbjkiilmaaGreatDoorW.PrintMore
set_option maxHeartbeats 8000000
set_option maxRecDepth 100000
attribute [local go_sem] max2_int min2_int min_two max_two
theorem cell_below {w W : World} {a : Addr} {v : Value} (hb : Below w.heap.size w W) (h : w.cell? a = some v) : W.cell? a = some v := by
 have hl := World.block_lt_of_cell? w a h
 simpa [World.cell?,hb.block a.block hl] using h
theorem own_cap {w : World} {e z n g cap : Nat} {xs : List Value} (h : w.ownsRow 0 e z (.slice (some ⟨g,0,none⟩) (n + 1) cap) (n + 1) xs) : (cap = 0) = False ∧ (1 : Nat) ≤ cap := by
 obtain ⟨_,h⟩ := h
 rcases h with ⟨he,_⟩ | ⟨g',cap',cur,he,hg,hh,c1,c2,c3,c4⟩
 ·cases he
 ·cases he
  exact ⟨eq_false (by omega),by omega⟩
theorem run_delete {P : Program} {w : World} {t k e : TypeId} {kd : TypeDesc} {r c i : Nat} {es : Array MapEntry} {key v : Value} (ht : P.underlying t = some (.map k e)) (hk : P.underlying k = some kd) (hkey : Go.MapKept.IsKey kd key) (hb : w.heap[r]? = some (.map es c)) (hf : Instr.findNow kd key es.toList 0 = some (some (i,v))) (ty : TypeId) :
 (Builtin.delete_ #[t,k] ty #[.map (some r),key]).run P w = .ok (.tuple #[]) (setMap w r (es.eraseIdxIfInBounds i) c) := by
 simp [Builtin.delete_,run_underlying ht,Go.MapKept.run_getObj_map hb,Go.MapKept.run_checkKey hk hkey,Go.MapKept.run_findKey hk hf,Go.MapKept.run_setObj_map _ hb,Result.andThen,setMap]
theorem run_clear1 {w : World} {g cap : Nat} (ty : TypeId) (h : w.ownsRow 0 317 2 (.slice (some ⟨g,0,none⟩) 1 cap) 1 [.string idA,.int .u64 99]) :
 (Builtin.clear_ #[235] ty #[.slice (some ⟨g,0,none⟩) 1 cap]).run Tryz.prog w = .ok (.tuple #[]) ((w.setCell ⟨g,0,none⟩ (.string { data := #[] })).setCell ⟨g,1,none⟩ (.int .u64 0)) := by
 obtain ⟨g',cap',cur,he,hh,hc⟩ := own_cells h (by decide)
 cases he
 have hst := run_storeCells_cells (P := Tryz.prog) g 0 [.string { data := #[] },.int .u64 0] 0 w (fun j hj => by
  rcases j with _ | _ | j
  ·simp only [Nat.add_zero]; rw [hc 0 _ rfl]; rfl
  ·simp only [Nat.add_zero,Nat.zero_add]; rw [hc 1 _ rfl]; rfl
  ·exact absurd hj (by simp only [List.length_cons,List.length_nil]; omega)) (fun j hj => blk_frozen hh _) (by simp [Value.oneCell'])
 have hz : ∀ w,(zeroValue 317).run Tryz.prog w = .ok (.agg #[.string { data := #[] },.int .u64 0]) w := fun w => by kernel_rfl
 have hzc : (Builtin.zeroCells (Value.agg #[.string { data := #[] },.int .u64 0]).cells 1).toList = [.string { data := #[] },.int .u64 0] := by kernel_rfl
 simp only [Nat.add_zero] at hst
 simp [Builtin.clear_,run_underlying (show Tryz.prog.underlying 235 = some (.slice 317) by kernel_rfl),hz,hzc,hst,World.setCells]
theorem own_cleared {w : World} {g cap : Nat} {a b : Value} (h : w.ownsRow 0 317 2 (.slice (some ⟨g,0,none⟩) 1 cap) 1 [.string idA,.int .u64 99]) : ((w.setCell ⟨g,0,none⟩ a).setCell ⟨g,1,none⟩ b).ownsRow 0 317 2 (.slice (some ⟨g,0,none⟩) 0 cap) 0 [] := by
 obtain ⟨_,h⟩ := h
 rcases h with ⟨he,_⟩ | ⟨g',cap',cur,he,hg,hh,c1,c2,c3,c4⟩
 ·cases he
 ·cases he
  exact ⟨by simp,.inr ⟨g,cap,_,rfl,hg,blk_set (blk_set hh 0 a) 1 b,Nat.zero_le _,c2,by simpa using c3,by simp⟩⟩
theorem wlit_calls (bx : Nat) (w : World) (hbx : w.cell? ⟨bx,0,none⟩ = some (.string idA)) :
 Calls Tryz.prog 241 #[.agg #[.string idA,.int .u64 99],.pointer (some ⟨bx,0,none⟩)] w fun e w' => e = .returned (.bool true) ∧ Below w.heap.size w w' := by
 have hl : bx < w.heap.size := World.block_lt_of_cell? w _ hbx
 have HBX := Aside0.mk hbx
 clear hbx
 go_enter Tryz.func241,Tryz.ntmps241
 go_upto_region 1 with fail
 obtain ⟨W1,g,hW_,hg,HX,hb_⟩ := new1 w #[.string idA,.int .u64 99] 317
 rw [← hW_,← hg.out]
 have HB := Aside0.mk hb_
 clear hW_ hb_
 have x0 : W1.cell? ⟨bx,0,none⟩ = some (.string idA) := cell_below HB.out HBX.out
 have x1 : W1.cell? ⟨g,0,none⟩ = some (.string idA) := cL HX 0 rfl
 go_wp2_with fail
 go_ret
 exact ⟨by simp,HB.out⟩
theorem windex_calls (g cap bx : Nat) (w : World) (h : w.ownsRow 0 317 2 (.slice (some ⟨g,0,none⟩) 1 cap) 1 [.string idA,.int .u64 99]) (hbx : w.cell? ⟨bx,0,none⟩ = some (.string idA)) :
 Calls Tryz.prog 272 #[.slice (some ⟨g,0,none⟩) 1 cap,.func (.func 241) #[] #[.pointer (some ⟨bx,0,none⟩)]] w fun e w' => e = .returned (.int .i64 0) ∧ Below w.heap.size w w' := by
 obtain ⟨_,_,cur,he,hh,hc⟩ := own_cells h (by decide)
 cases he
 have y0 : w.cell? ⟨g,0,none⟩ = some (.string idA) := hc 0 _ rfl
 have y1 : w.cell? ⟨g,1,none⟩ = some (.int .u64 99) := hc 1 _ rfl
 have H := Aside0.mk h
 clear hc
 clear hh
 have HBX := Aside0.mk hbx
 clear hbx h
 go_enter Tryz.func272,Tryz.ntmps272
 go_wp2_with fail
 go_loopw [8] (fun v wr => v = .int .i64 0 ∧ wr = w) (fun v _ => 1 - (intOf v).toNat)
 case atStart => exact ⟨rfl,rfl⟩
 case round =>
  obtain ⟨rfl,rfl⟩ := hrel
  go_wp2_with fail
  refine (wlit_calls bx _ HBX.out).mono ?_
  rintro e_ w2 ⟨rfl,hb⟩
  go_wp2_with fail
  go_ret
  exact ⟨rfl,hb⟩
theorem wdel_calls (g cap bx : Nat) (w : World) (h : w.ownsRow 0 317 2 (.slice (some ⟨g,0,none⟩) 1 cap) 1 [.string idA,.int .u64 99]) (hbx : w.cell? ⟨bx,0,none⟩ = some (.string idA)) :
 Calls Tryz.prog 240 #[.slice (some ⟨g,0,none⟩) 1 cap,.func (.func 241) #[] #[.pointer (some ⟨bx,0,none⟩)]] w fun e w' => e = .returned (.slice (some ⟨g,0,none⟩) 0 cap) ∧ w'.ownsRow 0 317 2 (.slice (some ⟨g,0,none⟩) 0 cap) 0 [] ∧ Keep [g] w w' := by
 have H := Aside0.mk h
 have HBX := Aside0.mk hbx
 clear hbx h
 go_enter Tryz.func240,Tryz.ntmps240
 go_wp2_with fail
 refine (windex_calls g cap bx _ H.out HBX.out).mono ?_
 rintro e_ w2 ⟨rfl,hb⟩
 have H2 : Aside0 (w2.ownsRow 0 317 2 (.slice (some ⟨g,0,none⟩) 1 cap) 1 [.string idA,.int .u64 99]) := ⟨own_keep H.out (fun q hq => hb.block q (own_lt H.out q hq))⟩
 have HB := Aside0.mk hb
 clear hb
 go_wp2_with fail
 go_loopw [6,5] (fun v a wr => v = .int .i64 1 ∧ a = .int .i64 0 ∧ wr = w2) (fun v _ _ => 1 - (intOf v).toNat)
 case atStart => exact ⟨rfl,rfl,rfl⟩
 case round =>
  obtain ⟨rfl,rfl,rfl⟩ := hrel
  obtain ⟨q1,q2⟩ := own_cap H2.out
  have hcl := fun ty => run_clear1 ty H2.out
  go_wp2_with fail
  trace_state
  go_ret
  refine ⟨rfl,own_cleared H2.out,((Keep.below HB.out).setCell _ (.inl (by simp))).setCell _ (.inl (by simp))⟩
def cancel.T1 : Bool × List (List Nat × List Nat) := (true,[([],[]),([0],[0]),([1],[1]),([2],[2]),([],[]),([3,4],[3,4]),([5],[5]),([6],[6]),([6],[6]),([],[]),([9,7,0,1,2,3,4,5,6,7,9],[7,9]),([8,10,0,1,2,3,4,5,6,7,8,9,10],[8])])
def cancel.B1 : List Nat := [0,1,3,7,0,31,63,127,127,0,767,2047]
theorem cancel.tab1 : rtab .any (opsOf Tryz.f214 1) = cancel.T1 := by kernel_rfl
theorem cancel.bits1 : waitsOk cancel.T1.2 cancel.B1 = true := by kernel_rfl
def cancel.T4 : Bool × List (List Nat × List Nat) := (true,[([],[]),([0],[0]),([1],[1]),([2],[2]),([],[]),([3,4],[3,4])])
def cancel.B4 : List Nat := [0,1,3,7,0,31]
theorem cancel.tab4 : rtab .any (opsOf Tryz.f214 4) = cancel.T4 := by kernel_rfl
theorem cancel.bits4 : waitsOk cancel.T4.2 cancel.B4 = true := by kernel_rfl
def cancel.T8 : Bool × List (List Nat × List Nat) := (true,[([],[]),([],[]),([1],[1]),([],[]),([3],[3]),([0],[0]),([5],[5]),([6,2],[2,6]),([7,4],[4,7]),([8,0,1,2,3,4,5,6,7,8],[8])])
def cancel.B8 : List Nat := [0,0,2,0,8,1,33,103,255,511]
theorem cancel.tab8 : rtab .any (opsOf Tryz.f214 8) = cancel.T8 := by kernel_rfl
theorem cancel.bits8 : waitsOk cancel.T8.2 cancel.B8 = true := by kernel_rfl
theorem cancel0_calls (wh am c : Nat) (cs : Array Value) (es : Array MapEntry) (w : World) (hw : w.heap[wh]? = some (.cells cs 239 (0,0))) (h66 : cs[66]? = some (.map (some am))) (ha : w.heap[am]? = some (.map es c)) (hlk : ∀ W : World,W.heap[am]? = some (.map es c) → (Instr.lookup 234 (.map (some am)) (.string idA) true).run Tryz.prog W = .ok (.tuple #[.agg #[.int .u64 0,.int .i64 0,.int .i64 0],.bool false]) W) :
 Calls Tryz.prog 214 #[.pointer (some ⟨wh,0,none⟩),.string idA] w fun e w' => e = .returned (.bool false) ∧ Below w.heap.size w w' := by
 have HW := Aside0.mk hw
 have HA := Aside0.mk ha
 have HC6 := Aside0.mk h66
 have HLK := Aside0.mk hlk
 clear hw ha h66 hlk
 go_enter Tryz.func214,Tryz.ntmps214
 go_upto_region 1 with fail
 obtain ⟨W1,g3,hW_,hg3,H3,hb_⟩ := new1 w #[.string idA] 9
 rw [← hW_,← hg3.out]
 replace HW := mb HW hb_
 replace HA := mb HA hb_
 have HB := Aside0.mk hb_
 clear hW_ hb_
 have G3 : Aside0 (w.heap.size ≤ g3) := ⟨by have := hg3.out; omega⟩
 refine st_ 12 (fun w' => w'.cell? ⟨wh,66,none⟩ = some (.map (some am)) ∧ w'.cell? ⟨g3,0,none⟩ = some (.string idA) ∧ (Instr.lookup 234 (.map (some am)) (.string idA) true).run Tryz.prog w' = .ok (.tuple #[.agg #[.int .u64 0,.int .i64 0,.int .i64 0],.bool false]) w') [10] ⟨((blk_cell (blk_drew HW.out) 66).trans HC6.out),(cD H3 0 rfl),(HLK.out _ (blk_drew HA.out))⟩ fun hHeld => ?_
 refine with_tabW cancel.tab1 cancel.bits1 (fun HT_ HW_ => ?_)
 replace HW := mD HW
 replace HA := mD HA
 replace H3 := mD H3
 replace HB := bD HB
 generalize W1.drew = wd1 at *
 refine pa_ 0 9 HT_ ?_
 refine pa_ 1 10 HT_ ?_
 refine pa_ 2 11 HT_ ?_
 refine ta_ 3 12 HT_ HW_ hHeld ?_
 refine ta_ 4 13 HT_ HW_ hHeld ?_
 refine ta_ 5 14 HT_ HW_ hHeld ?_
 refine pa_ 6 8 HT_ ?_
 refine pa_ 7 15 HT_ ?_
 refine pa_ 8 16 HT_ ?_
 refine on_ 9 HT_ fun K hK => ?_
 refine allocR_ #[.int .u64 0,.int .i64 0,.int .i64 0] 355 (by rfl) rfl (by first | (go_simp; done) | (go_simp; rfl)) ?_
 intro g5 Wa hge hq hb
 have G_ : Aside0 (w.heap.size ≤ g5) := ⟨by have := HB.out.size; omega⟩
 have HS_ := Aside0.mk hq
 have NSHW : Aside0 (wh ≠ g5) := ⟨new_ne HW.out hge⟩
 have NSHA : Aside0 (am ≠ g5) := ⟨new_ne HA.out hge⟩
 have NSH3 : Aside0 (g3 ≠ g5) := ⟨new_ne H3.out hge⟩
 replace HW := mb HW hb
 replace HA := mb HA hb
 replace H3 := mb H3 hb
 replace HB := mS HB hb
 clear hq hge hb
 refine hK.out _ _ ⟨((blk_cell HW.out 66).trans HC6.out),(cL H3 0 rfl),(HLK.out _ HA.out)⟩ (fun hHeld => ?_)
 clear hK K
 refine no_ 5 ?_
 refine la_ 10 HT_ fun K hK => ?_
 refine sR_ 5 15 #[.int .u64 0,.int .i64 0,.int .i64 0] HS_.out ?_
 refine hK.out _ _ ?_
 clear hK K
 refine pa_ 11 6 HT_ ?_
 refine dn_ HT_ ?_
 clear HT_ HW_ hHeld
 obtain ⟨Wb,hW_⟩ : ∃ W_,W_ = Wa.setRow g5 #[.int .u64 0,.int .i64 0,.int .i64 0] := ⟨_,rfl⟩
 rw [← hW_]
 have q_ := mR #[.int .u64 0,.int .i64 0,.int .i64 0] HW.out NSHW.out
 rw [← hW_] at q_
 replace HW := Aside0.mk q_
 clear q_
 have q_ := mR #[.int .u64 0,.int .i64 0,.int .i64 0] HA.out NSHA.out
 rw [← hW_] at q_
 replace HA := Aside0.mk q_
 clear q_
 have q_ := mR #[.int .u64 0,.int .i64 0,.int .i64 0] H3.out NSH3.out
 rw [← hW_] at q_
 replace H3 := Aside0.mk q_
 clear q_
 have q_ : Wb.heap[g5]? = some (.cells #[.int .u64 0,.int .i64 0,.int .i64 0] 355 (0,0)) := by rw [hW_]; exact setRow_heap _ _ _ _ _ _ HS_.out
 have H5 := Aside0.mk q_
 clear q_
 have q_ : Below w.heap.size w Wb := by rw [hW_]; exact below_setRow HB.out G_.out _
 replace HB := Aside0.mk q_
 clear q_ hW_ HS_
 go_wp2_with fail
 go_ret
 exact ⟨rfl,HB.out⟩
theorem cancel1_calls (g cap c' : Nat) (es' : Array MapEntry) (wh am c : Nat) (cs : Array Value) (es : Array MapEntry) (w : World) (hw : w.heap[wh]? = some (.cells cs 239 (0,0))) (h66 : cs[66]? = some (.map (some am))) (ha : w.heap[am]? = some (.map es c)) (hlk : ∀ W : World,W.heap[am]? = some (.map es c) → (Instr.lookup 234 (.map (some am)) (.string idA) true).run Tryz.prog W = .ok (.tuple #[.agg #[.int .u64 99,.int .i64 1,.int .i64 6],.bool true]) W) (hr : cs[23]? = some (.slice (some ⟨g,0,none⟩) 1 cap)) (hrv : w.ownsRow 0 317 2 (.slice (some ⟨g,0,none⟩) 1 cap) 1 [.string idA,.int .u64 99]) (hdel : ∀ (ty : TypeId) (W : World),W.heap[am]? = some (.map es c) → (Builtin.delete_ #[234,9] ty #[.map (some am),.string idA]).run Tryz.prog W = .ok (.tuple #[]) (setMap W am es' c')) :
 Calls Tryz.prog 214 #[.pointer (some ⟨wh,0,none⟩),.string idA] w fun e w' => e = .returned (.bool true) ∧ w'.ownsRow 0 317 2 (.slice (some ⟨g,0,none⟩) 0 cap) 0 [] ∧ w'.heap[wh]? = some (.cells (cs.setIfInBounds 23 (.slice (some ⟨g,0,none⟩) 0 cap)) 239 (0,0)) ∧ w'.heap[am]? = some (.map es' c') ∧ Keep [wh,am,g] w w' := by
 have HW := Aside0.mk hw
 have HA := Aside0.mk ha
 have HC6 := Aside0.mk h66
 have HLK := Aside0.mk hlk
 have HCR := Aside0.mk hr
 have HRV := Aside0.mk hrv
 have HD := Aside0.mk hdel
 clear hr hrv hdel
 clear hw ha h66 hlk
 go_enter Tryz.func214,Tryz.ntmps214
 go_upto_region 1 with fail
 obtain ⟨W1,g3,hW_,hg3,H3,hb_⟩ := new1 w #[.string idA] 9
 rw [← hW_,← hg3.out]
 replace HW := mb HW hb_
 replace HA := mb HA hb_
 have HB := Aside0.mk hb_
 clear hW_ hb_
 have G3 : Aside0 (w.heap.size ≤ g3) := ⟨by have := hg3.out; omega⟩
 refine st_ 12 (fun w' => w'.cell? ⟨wh,66,none⟩ = some (.map (some am)) ∧ w'.cell? ⟨g3,0,none⟩ = some (.string idA) ∧ (Instr.lookup 234 (.map (some am)) (.string idA) true).run Tryz.prog w' = .ok (.tuple #[.agg #[.int .u64 99,.int .i64 1,.int .i64 6],.bool true]) w') [10] ⟨((blk_cell (blk_drew HW.out) 66).trans HC6.out),(cD H3 0 rfl),(HLK.out _ (blk_drew HA.out))⟩ fun hHeld => ?_
 refine with_tabW cancel.tab1 cancel.bits1 (fun HT_ HW_ => ?_)
 replace HW := mD HW
 replace HA := mD HA
 replace H3 := mD H3
 replace HB := bD HB
 generalize W1.drew = wd1 at *
 refine pa_ 0 9 HT_ ?_
 refine pa_ 1 10 HT_ ?_
 refine pa_ 2 11 HT_ ?_
 refine ta_ 3 12 HT_ HW_ hHeld ?_
 refine ta_ 4 13 HT_ HW_ hHeld ?_
 refine ta_ 5 14 HT_ HW_ hHeld ?_
 refine pa_ 6 8 HT_ ?_
 refine pa_ 7 15 HT_ ?_
 refine pa_ 8 16 HT_ ?_
 refine on_ 9 HT_ fun K hK => ?_
 refine allocR_ #[.int .u64 0,.int .i64 0,.int .i64 0] 355 (by rfl) rfl (by first | (go_simp; done) | (go_simp; rfl)) ?_
 intro g5 Wa hge hq hb
 have G_ : Aside0 (w.heap.size ≤ g5) := ⟨by have := HB.out.size; omega⟩
 have HS_ := Aside0.mk hq
 have NSHW : Aside0 (wh ≠ g5) := ⟨new_ne HW.out hge⟩
 have NSHA : Aside0 (am ≠ g5) := ⟨new_ne HA.out hge⟩
 have NSH3 : Aside0 (g3 ≠ g5) := ⟨new_ne H3.out hge⟩
 replace HW := mb HW hb
 replace HA := mb HA hb
 replace H3 := mb H3 hb
 replace HB := mS HB hb
 clear hq hge hb
 refine hK.out _ _ ⟨((blk_cell HW.out 66).trans HC6.out),(cL H3 0 rfl),(HLK.out _ HA.out)⟩ (fun hHeld => ?_)
 clear hK K
 refine no_ 5 ?_
 refine la_ 10 HT_ fun K hK => ?_
 refine sR_ 5 15 #[.int .u64 99,.int .i64 1,.int .i64 6] HS_.out ?_
 refine hK.out _ _ ?_
 clear hK K
 refine pa_ 11 6 HT_ ?_
 refine dn_ HT_ ?_
 clear HT_ HW_ hHeld
 obtain ⟨Wb,hW_⟩ : ∃ W_,W_ = Wa.setRow g5 #[.int .u64 99,.int .i64 1,.int .i64 6] := ⟨_,rfl⟩
 rw [← hW_]
 have q_ := mR #[.int .u64 99,.int .i64 1,.int .i64 6] HW.out NSHW.out
 rw [← hW_] at q_
 replace HW := Aside0.mk q_
 clear q_
 have q_ := mR #[.int .u64 99,.int .i64 1,.int .i64 6] HA.out NSHA.out
 rw [← hW_] at q_
 replace HA := Aside0.mk q_
 clear q_
 have q_ := mR #[.int .u64 99,.int .i64 1,.int .i64 6] H3.out NSH3.out
 rw [← hW_] at q_
 replace H3 := Aside0.mk q_
 clear q_
 have q_ : Wb.heap[g5]? = some (.cells #[.int .u64 99,.int .i64 1,.int .i64 6] 355 (0,0)) := by rw [hW_]; exact setRow_heap _ _ _ _ _ _ HS_.out
 have H5 := Aside0.mk q_
 clear q_
 have q_ : Below w.heap.size w Wb := by rw [hW_]; exact below_setRow HB.out G_.out _
 replace HB := Aside0.mk q_
 clear q_ hW_ HS_
 go_upto_region 4 with fail
 refine st_ 6 (fun w' => w'.cell? ⟨wh,66,none⟩ = some (.map (some am)) ∧ w'.cell? ⟨g3,0,none⟩ = some (.string idA)) [5] ⟨((blk_cell (blk_drew HW.out) 66).trans HC6.out),(cD H3 0 rfl)⟩ fun hHeld => ?_
 refine with_tabW cancel.tab4 cancel.bits4 (fun HT_ HW_ => ?_)
 replace HW := mD HW
 replace HA := mD HA
 replace H3 := mD H3
 replace H5 := mD H5
 replace HB := bD HB
 generalize Wb.drew = wd2 at *
 refine pa_ 0 19 HT_ ?_
 refine pa_ 1 20 HT_ ?_
 refine pa_ 2 21 HT_ ?_
 refine ta_ 3 22 HT_ HW_ hHeld ?_
 refine ta_ 4 23 HT_ HW_ hHeld ?_
 refine la_ 5 HT_ fun K hK => ?_
 have hdl := fun ty => HD.out ty wd2 HA.out
 refine va_ ?_
 refine hK.out _ _ ?_
 clear hK K
 refine dn_ HT_ ?_
 clear HT_ HW_ hHeld
 have HRV2 : Aside0 (wd2.ownsRow 0 317 2 (.slice (some ⟨g,0,none⟩) 1 cap) 1 [.string idA,.int .u64 99]) := ⟨own_keep HRV.out (fun q hq => HB.out.block q (own_lt HRV.out q hq))⟩
 have HK : Aside0 (Keep [wh,am,g] w wd2) := ⟨Keep.below HB.out⟩
 obtain ⟨Wc,hW_⟩ : ∃ W_,W_ = setMap wd2 am es' c' := ⟨_,rfl⟩
 rw [← hW_]
 have q_ := setMap_other (c' := c') (es' := es') HW.out (map_ne HA.out HW.out).symm
 rw [← hW_] at q_
 replace HW := Aside0.mk q_
 clear q_
 have q_ := setMap_other (c' := c') (es' := es') H3.out (map_ne HA.out H3.out).symm
 rw [← hW_] at q_
 replace H3 := Aside0.mk q_
 clear q_
 have q_ := setMap_other (c' := c') (es' := es') H5.out (map_ne HA.out H5.out).symm
 rw [← hW_] at q_
 replace H5 := Aside0.mk q_
 clear q_
 have q_ : Wc.ownsRow 0 317 2 (.slice (some ⟨g,0,none⟩) 1 cap) 1 [.string idA,.int .u64 99] := own_keep HRV2.out (fun q hq => by rw [hW_]; exact setMap_other2 (own_map HRV2.out HA.out q hq))
 replace HRV := Aside0.mk q_
 clear q_ HRV2
 have q_ : Wc.heap[am]? = some (.map es' c') := by rw [hW_]; exact setMap_heap HA.out
 replace HA := Aside0.mk q_
 clear q_
 have q_ : Keep [wh,am,g] w Wc := by rw [hW_]; exact HK.out.setMap _ _ (.inl (by simp))
 replace HK := Aside0.mk q_
 clear q_ hW_ HB
 have HB := Aside0.mk (Below.refl Wc.heap.size Wc)
 have y0 : Wc.cell? ⟨g5,0,none⟩ = some (.int .u64 99) := cL H5 0 rfl
 have y1 : Wc.cell? ⟨g5,1,none⟩ = some (.int .i64 1) := cL H5 1 rfl
 have y2 : Wc.cell? ⟨g5,2,none⟩ = some (.int .i64 6) := cL H5 2 rfl
 go_upto_region 8 with fail
 clear y0 y1 y2
 refine st_ 10 (fun w' => w'.cell? ⟨g5,1,none⟩ = some (.int .i64 1) ∧ w'.cell? ⟨g5,2,none⟩ = some (.int .i64 6)) [] ⟨(cD H5 1 rfl),(cD H5 2 rfl)⟩ fun hHeld => ?_
 refine with_tabW cancel.tab8 cancel.bits8 (fun HT_ HW_ => ?_)
 replace HW := mD HW
 replace HA := mD HA
 replace H3 := mD H3
 replace H5 := mD H5
 replace HB := bD HB
 generalize Wc.drew = wd3 at *
 refine pa_ 0 32 HT_ ?_
 refine pa_ 1 33 HT_ ?_
 refine pa_ 3 35 HT_ ?_
 refine pa_ 5 37 HT_ ?_
 refine pa_ 6 38 HT_ ?_
 refine ta_ 2 34 HT_ HW_ hHeld ?_
 refine pa_ 7 39 HT_ ?_
 refine ta_ 4 36 HT_ HW_ hHeld ?_
 refine pa_ 8 40 HT_ ?_
 refine pa_ 9 7 HT_ ?_
 refine dn_ HT_ ?_
 clear HT_ HW_ hHeld
 have HRV2 : Aside0 (wd3.ownsRow 0 317 2 (.slice (some ⟨g,0,none⟩) 1 cap) 1 [.string idA,.int .u64 99]) := ⟨own_keep HRV.out (fun q hq => HB.out.block q (own_lt HRV.out q hq))⟩
 have y0 : wd3.cell? ⟨wh,23,none⟩ = some (.slice (some ⟨g,0,none⟩) 1 cap) := (blk_cell HW.out 23).trans HCR.out
 have x0 : wd3.cell? ⟨g3,0,none⟩ = some (.string idA) := cL H3 0 rfl
 go_wp2_with fail
 refine (wdel_calls g cap g3 _ HRV2.out x0).mono ?_
 rintro e_ W4 ⟨rfl,hown,hk⟩
 clear y0 x0
 have NWG := Aside0.mk (own_ne HRV2.out HW.out (by decide) g rfl).symm
 have NAG := Aside0.mk (own_map HRV2.out HA.out g rfl).symm
 have HW4 : Aside0 (W4.heap[wh]? = _) := ⟨blk_keep HW.out hk (by simpa using NWG.out)⟩
 have HA4 : Aside0 (W4.heap[am]? = _) := ⟨blk_keep HA.out hk (by simpa using NAG.out)⟩
 have HO := Aside0.mk hown
 have HK4 : Aside0 (Keep [wh,am,g] w W4) := ⟨(HK.out.trans (Keep.below HB.out)).trans (hk.mono (fun q _ h => by simp at h ⊢; omega))⟩
 clear hk hown
 have y0 : W4.cell? ⟨wh,23,none⟩ = some (.slice (some ⟨g,0,none⟩) 1 cap) := (blk_cell HW4.out 23).trans HCR.out
 have f0 := blk_frozen HW4.out 23
 go_wp2_with fail
 go_ret
 clear y0 f0
 refine ⟨rfl,own_keep HO.out (fun q hq => Below.heap_setCell _ _ _ q (by have := own_ne HO.out HW4.out (by decide) q hq; simpa using this)),blk_set HW4.out 23 _,(Below.heap_setCell _ _ _ am (by simpa using map_ne HA4.out HW4.out)).trans HA4.out,HK4.out.setCell _ (.inl (by simp))⟩
/-- A wheel of time 0; one that has one timer, of 99. -/
def Whn (w : World) (wh : Nat) : Prop := ∃ cs,w.heap[wh]? = some (.cells cs 239 (0,0)) ∧ cs[0]? = some (.int .u64 0)
structure Tim (w : World) (wh am g : Nat) : Prop where
 row : ∃ cs cap,w.heap[wh]? = some (.cells cs 239 (0,0)) ∧ cs[0]? = some (.int .u64 0) ∧ cs[66]? = some (.map (some am)) ∧ cs[23]? = some (.slice (some ⟨g,0,none⟩) 1 cap) ∧ w.ownsRow 0 317 2 (.slice (some ⟨g,0,none⟩) 1 cap) 1 [.string idA,.int .u64 99]
 all : ∃ c b,w.heap[am]? = some (.map #[{ key := .string idA,val := .agg #[.int .u64 99,.int .i64 1,.int .i64 6],born := b }] c)
theorem Tim.now {w : World} {wh am g : Nat} (h : Tim w wh am g) : Whn w wh := by
 obtain ⟨cs,cap,h1,h2,_⟩ := h.row
 exact ⟨cs,h1,h2⟩
theorem Whn.keep {w w' : World} {wh : Nat} {L : List Nat} (h : Whn w wh) (k : Keep L w w') (hn : wh ∉ L) : Whn w' wh := by
 obtain ⟨cs,h1,h2⟩ := h
 exact ⟨cs,blk_keep h1 k hn,h2⟩
theorem Tim.keep {w w' : World} {wh am g : Nat} {L : List Nat} (h : Tim w wh am g) (k : Keep L w w') (h1 : wh ∉ L) (h2 : am ∉ L) (h3 : g ∉ L) : Tim w' wh am g := by
 obtain ⟨⟨cs,cap,a1,a2,a3,a4,a5⟩,c,b,a6⟩ := h
 exact ⟨⟨cs,cap,blk_keep a1 k h1,a2,a3,a4,own_keep a5 (fun q hq => k.block q (own_lt a5 q hq) (by cases hq; exact h3))⟩,c,b,blk_keep a6 k h2⟩
theorem set0_99 (wh fm am : Nat) (w : World) (hw : w.heap[wh]? = some (.cells (wrow 0 fm am) 239 (0,0))) (ha : w.heap[am]? = some (.map #[] 0)) :
 Calls Tryz.prog 215 #[.pointer (some ⟨wh,0,none⟩),.string idA,.int .u64 99] w fun e w' => e = .returned (.bool false) ∧ (∃ g,Tim w' wh am g ∧ w.heap.size ≤ g) ∧ Keep [wh,am] w w' := by
 have HW := Aside0.mk hw
 have HA := Aside0.mk ha
 clear hw ha
 go_enter Tryz.func215,Tryz.ntmps215
 go_wp2_with fail
 refine (cancel0_calls wh am 0 _ _ _ HW.out rfl HA.out (fun W hW => run_look_no (key := .string idA) (k := 9) (e := 355) (kd := .string) (by kernel_rfl) (by kernel_rfl) trivial hW rfl (by kernel_rfl) true)).mono ?_
 rintro e_ w2 ⟨rfl,hb⟩
 replace HW := mb HW hb
 replace HA := mb HA hb
 have HB := Aside0.mk hb
 clear hb
 go_wp2_with fail
 refine (put99_calls wh am 0 _ _ _ _ _ _ HW.out rfl rfl rfl own_nil HA.out (fun W hW => run_up_no (key := .string idA) (k := 9) (e := 355) (kd := .string) (by kernel_rfl) (by kernel_rfl) trivial hW rfl)).mono ?_
 rintro e_ w3 ⟨rfl,rv,hown,hw3,ha3,hk,hnb⟩
 go_wp2_with fail
 go_ret
 obtain ⟨g,cap,cur,rfl,hh,-⟩ := own_cells hown (by decide)
 exact ⟨rfl,⟨g,⟨⟨_,cap,hw3,by kernel_rfl,by kernel_rfl,by kernel_rfl,hown⟩,_,_,ha3⟩,(hnb g rfl).elim (fun e => by cases e) (fun h => Nat.le_trans HB.out.size h)⟩,(Keep.below HB.out).trans hk⟩
theorem set0_5 (wh fm am : Nat) (w : World) (hw : w.heap[wh]? = some (.cells (wrow 0 fm am) 239 (0,0))) (ha : w.heap[am]? = some (.map #[] 0)) :
 Calls Tryz.prog 215 #[.pointer (some ⟨wh,0,none⟩),.string idA,.int .u64 5] w fun e w' => e = .returned (.bool false) ∧ (Whn w' wh) ∧ Keep [wh,am] w w' := by
 have HW := Aside0.mk hw
 have HA := Aside0.mk ha
 clear hw ha
 go_enter Tryz.func215,Tryz.ntmps215
 go_wp2_with fail
 refine (cancel0_calls wh am 0 _ _ _ HW.out rfl HA.out (fun W hW => run_look_no (key := .string idA) (k := 9) (e := 355) (kd := .string) (by kernel_rfl) (by kernel_rfl) trivial hW rfl (by kernel_rfl) true)).mono ?_
 rintro e_ w2 ⟨rfl,hb⟩
 replace HW := mb HW hb
 replace HA := mb HA hb
 have HB := Aside0.mk hb
 clear hb
 go_wp2_with fail
 refine (put5_calls wh am 0 _ _ _ _ _ _ HW.out rfl rfl rfl own_nil HA.out (fun W hW => run_up_no (key := .string idA) (k := 9) (e := 355) (kd := .string) (by kernel_rfl) (by kernel_rfl) trivial hW rfl)).mono ?_
 rintro e_ w3 ⟨rfl,rv,hown,hw3,ha3,hk,hnb⟩
 go_wp2_with fail
 go_ret
 exact ⟨rfl,⟨_,hw3,by kernel_rfl⟩,(Keep.below HB.out).trans hk⟩
theorem set1_99 (wh am g : Nat) (w : World) (h : Tim w wh am g) :
 Calls Tryz.prog 215 #[.pointer (some ⟨wh,0,none⟩),.string idA,.int .u64 99] w fun e w' => e = .returned (.bool true) ∧ Whn w' wh ∧ Keep [wh,am,g] w w' := by
 obtain ⟨⟨cs,cap,a1,a2,a3,a4,a5⟩,c,b,a6⟩ := h
 have HW := Aside0.mk a1
 have HA := Aside0.mk a6
 have H0 := Aside0.mk a2
 have H6 := Aside0.mk a3
 have HR := Aside0.mk a4
 have HO := Aside0.mk a5
 clear a1 a2 a3 a4 a5 a6
 go_enter Tryz.func215,Tryz.ntmps215
 go_wp2_with fail
 refine (cancel1_calls g cap c _ wh am c cs _ _ HW.out H6.out HA.out (fun W hW => run_look (key := .string idA) (k := 9) (e := 355) (kd := .string) (i := 0) (by kernel_rfl) (by kernel_rfl) trivial hW (by kernel_rfl) true) HR.out HO.out (fun ty W hW => run_delete (key := .string idA) (k := 9) (e := 355) (kd := .string) (i := 0) (v := .agg #[.int .u64 99,.int .i64 1,.int .i64 6]) (by kernel_rfl) (by kernel_rfl) trivial hW (by kernel_rfl) ty)).mono ?_
 rintro e_ w2 ⟨rfl,ho2,hw2,ha2,hk⟩
 have HO2 := Aside0.mk ho2
 have HW2 := Aside0.mk hw2
 have HA2 := Aside0.mk ha2
 have HK := Aside0.mk hk
 clear ho2 hw2 ha2 hk
 go_wp2_with fail
 have hlt : 23 < cs.size := (Array.getElem?_eq_some_iff.1 HR.out).1
 refine (put99_calls wh am c _ _ _ _ _ _ HW2.out ((Array.getElem?_setIfInBounds_ne (by decide)).trans H0.out) ((Array.getElem?_setIfInBounds_ne (by decide)).trans H6.out) (by simp [hlt]) HO2.out HA2.out (fun W hW => run_up_no (key := .string idA) (k := 9) (e := 355) (kd := .string) (by kernel_rfl) (by kernel_rfl) trivial hW (by kernel_rfl))).mono ?_
 rintro e_ w3 ⟨rfl,rv,hown,hw3,ha3,hk,hnb⟩
 go_wp2_with fail
 go_ret
 exact ⟨rfl,⟨_,hw3,(Array.getElem?_setIfInBounds_ne (by decide)).trans ((Array.getElem?_setIfInBounds_ne (by decide)).trans H0.out)⟩,HK.out.trans (hk.mono (fun q _ h => by simp [Value.ownBlock] at h ⊢; omega))⟩
end Go.Proofs.YtokfjbbjkiilmaaGreatDoor.H
