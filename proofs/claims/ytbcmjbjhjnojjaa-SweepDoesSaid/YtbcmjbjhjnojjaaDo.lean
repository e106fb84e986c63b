/-
One call of both: the walk of do.
-/
import Derived.Test.YtbcmjbjhjnojjaaHx
import Derived.Test.YtbcmjbjhjnojjaaSw2
namespace Go.Proofs.Ytbcmjbjhjnojjaa.H
open Go.RowKit Go.Proofs.YtbcmjbjhjnojjaaW.PrintWords Go.Proofs.YtbcmjbjhjnojjaaW.PrintLast Go.Proofs.YtbcmjbjhjnojjaaW.PrintMore
attribute [local go_sem] max2_int min2_int max_two min_two max_three min_three max_four min_four
set_option linter.unusedVariables false
set_option linter.unusedSimpArgs false
def zd0 : Array Bool := #[false,false,false,false,false,false,false,false,false,false,false,false,false,false]
def zd1 : Array Bool := #[false,true,false,false,false,false,false,false,false,false,false,false,false,false]
def zd2 : Array Bool := #[false,true,false,true,false,false,false,false,false,false,false,false,false,false]
def zd3 : Array Bool := #[true,true,false,true,false,false,false,false,false,false,false,false,false,false]
def zd4 : Array Bool := #[true,true,true,true,false,false,false,false,false,false,false,false,false,false]
def zd5 : Array Bool := #[true,true,true,true,true,false,false,false,false,false,false,false,false,false]
def zd6 : Array Bool := #[true,true,true,true,true,true,false,false,false,false,false,false,false,false]
def zd7 : Array Bool := #[true,true,true,true,true,true,true,false,false,false,false,false,false,false]
def zd8 : Array Bool := #[true,true,true,true,true,true,true,true,false,false,false,false,false,false]
def zd9 : Array Bool := #[true,true,true,true,true,true,true,true,true,false,false,false,false,false]
def zd10 : Array Bool := #[true,true,true,true,true,true,true,true,true,true,false,false,false,false]
def zd11 : Array Bool := #[true,true,true,true,true,true,true,true,true,true,true,false,false,false]
def zd12 : Array Bool := #[true,true,true,true,true,true,true,true,true,true,true,true,false,false]
def zd13 : Array Bool := #[true,true,true,true,true,true,true,true,true,true,true,true,true,false]
def zd14 : Array Bool := #[true,true,true,true,true,true,true,true,true,true,true,true,true,true]
def zd15 : Array Bool := #[false,false,false,false,false,false,false,false,false,false]
def zd16 : Array Bool := #[true,false,false,false,false,false,false,false,false,false]
def zd17 : Array Bool := #[true,true,false,false,false,false,false,false,false,false]
def zd18 : Array Bool := #[true,true,true,false,false,false,false,false,false,false]
def zd19 : Array Bool := #[true,true,true,true,false,false,false,false,false,false]
def zd20 : Array Bool := #[true,true,true,true,true,false,false,false,false,false]
def zd21 : Array Bool := #[true,true,true,true,true,false,true,false,false,false]
def zd22 : Array Bool := #[true,true,true,true,true,true,true,false,false,false]
def zd23 : Array Bool := #[true,true,true,true,true,true,true,true,false,false]
def zd24 : Array Bool := #[true,true,true,true,true,true,true,true,true,false]
def zd25 : Array Bool := #[true,true,true,true,true,true,true,true,true,true]
def zd26 : Array Bool := #[false,false,false,false,false]
def zd27 : Array Bool := #[true,false,false,false,false]
def zd28 : Array Bool := #[true,true,false,false,false]
def zd29 : Array Bool := #[true,true,true,false,false]
def zd30 : Array Bool := #[true,true,true,true,false]
def zd31 : Array Bool := #[true,true,true,true,true]
theorem zdI {α : Type} (l : List α) (i : Nat) (a : α) : l.toArray.setIfInBounds i a = (l.set i a).toArray := List.setIfInBounds_toArray l i a
theorem zds0 {α : Type} (x : α) (l : List α) (a : α) : (x :: l).set 0 a = a :: l := rfl
theorem zds1 {α : Type} (x : α) (l : List α) (i : Nat) (a : α) : (x :: l).set (i + 1) a = x :: l.set i a := rfl
def lodgerlaw15_do.T5 : Bool × List (List Nat × List Nat) := (true,[([],[]),([],[]),([1],[1]),([],[]),([3],[3]),([4],[4]),([5],[5]),([2,6],[2,6]),([0,7],[0,7]),([8],[8]),([9],[9]),([9],[9]),([10,8,0,1,2,3,4,5,6,7,8,9,10],[10]),([11,12,0,1,2,3,4,5,6,7,8,9,10,11,12],[11])])
def lodgerlaw15_do.B5 : List Nat := [0,0,2,0,8,24,56,126,255,511,1023,1023,2047,8191]
theorem lodgerlaw15_do.tab5 : rtab .any (opsOf Try.f10 5) = lodgerlaw15_do.T5 := by kernel_rfl
theorem lodgerlaw15_do.bits5 : waitsOk lodgerlaw15_do.T5.2 lodgerlaw15_do.B5 = true := by kernel_rfl
def lodgerlaw15_do.T6 : Bool × List (List Nat × List Nat) := (true,[([],[]),([],[]),([1],[1]),([],[]),([3],[3]),([4],[4]),([5],[5]),([2,6],[2,6]),([0,7],[0,7]),([8],[8]),([9],[9]),([9],[9]),([10,8,0,1,2,3,4,5,6,7,8,9,10],[10]),([11,12,0,1,2,3,4,5,6,7,8,9,10,11,12],[11])])
def lodgerlaw15_do.B6 : List Nat := [0,0,2,0,8,24,56,126,255,511,1023,1023,2047,8191]
theorem lodgerlaw15_do.tab6 : rtab .any (opsOf Try.f10 6) = lodgerlaw15_do.T6 := by kernel_rfl
theorem lodgerlaw15_do.bits6 : waitsOk lodgerlaw15_do.T6.2 lodgerlaw15_do.B6 = true := by kernel_rfl
def lodgerlaw15_do.T13 : Bool × List (List Nat × List Nat) := (true,[([],[]),([],[]),([0,1],[0,1]),([2],[2]),([3],[3]),([4,3,3],[3,4]),([3],[3]),([5,6,5,3],[3,5,6]),([7,3],[3,7]),([3,8],[3,8])])
def lodgerlaw15_do.B13 : List Nat := [0,0,3,7,15,31,15,127,255,511]
theorem lodgerlaw15_do.tab13 : rtab .any (opsOf Try.f10 13) = lodgerlaw15_do.T13 := by kernel_rfl
theorem lodgerlaw15_do.bits13 : waitsOk lodgerlaw15_do.T13.2 lodgerlaw15_do.B13 = true := by kernel_rfl
def lodgerlaw15_do.T16 : Bool × List (List Nat × List Nat) := (true,[([],[]),([],[]),([0,0],[0]),([1,2,0,1,2],[1]),([3,0,1,2,3],[])])
def lodgerlaw15_do.B16 : List Nat := [0,0,1,7,15]
theorem lodgerlaw15_do.tab16 : rtab .any (opsOf Try.f10 16) = lodgerlaw15_do.T16 := by kernel_rfl
theorem lodgerlaw15_do.bits16 : waitsOk lodgerlaw15_do.T16.2 lodgerlaw15_do.B16 = true := by kernel_rfl
def lodgerlaw15_do.T17 : Bool × List (List Nat × List Nat) := (true,[([],[]),([],[]),([0,0],[0]),([1,2,0,1,2],[1]),([3,0,1,2,3],[])])
def lodgerlaw15_do.B17 : List Nat := [0,0,1,7,15]
theorem lodgerlaw15_do.tab17 : rtab .any (opsOf Try.f10 17) = lodgerlaw15_do.T17 := by kernel_rfl
theorem lodgerlaw15_do.bits17 : waitsOk lodgerlaw15_do.T17.2 lodgerlaw15_do.B17 = true := by kernel_rfl
theorem set4 {W w : World} {g t : Nat} {v0 v1 v2 v3 c0 c1 c2 c3 : Value} (hW : W = (((w.setCell ⟨g,0,none⟩ v0).setCell ⟨g,1,none⟩ v1).setCell ⟨g,2,none⟩ v2).setCell ⟨g,3,none⟩ v3) (h : w.heap[g]? = some (.cells #[c0,c1,c2,c3] t (0,0))) : W.heap[g]? = some (.cells #[v0,v1,v2,v3] t (0,0)) := by
 have q := blk_set (blk_set (blk_set (blk_set h 0 v0) 1 v1) 2 v2) 3 v3
 simp only [zdI,zds0,zds1] at q
 rw [hW]
 exact q
theorem far4 {W w : World} {g k t : Nat} {cs : Array Value} {v0 v1 v2 v3 : Value} (hW : W = (((w.setCell ⟨g,0,none⟩ v0).setCell ⟨g,1,none⟩ v1).setCell ⟨g,2,none⟩ v2).setCell ⟨g,3,none⟩ v3) (h : w.heap[k]? = some (.cells cs t (0,0))) (ne : k ≠ g) : W.heap[k]? = some (.cells cs t (0,0)) := by
 rw [hW]
 exact blk_far (blk_far (blk_far (blk_far h (p := ⟨g,0,none⟩) ne v0) (p := ⟨g,1,none⟩) ne v1) (p := ⟨g,2,none⟩) ne v2) (p := ⟨g,3,none⟩) ne v3
theorem rset4 {W w : World} {g t base : Nat} {ok : Nat → Prop} {v : Value} {xs : List Int} {v0 v1 v2 v3 c0 c1 c2 c3 : Value} (hW : W = (((w.setCell ⟨g,0,none⟩ v0).setCell ⟨g,1,none⟩ v1).setCell ⟨g,2,none⟩ v2).setCell ⟨g,3,none⟩ v3) (h : w.heap[g]? = some (.cells #[c0,c1,c2,c3] t (0,0))) (hv : Kd.R (Kd.int .i64) 3 w base ok v xs) (ht : ∀ q,q ∈ 3 :: (Kd.int .i64).E → q ≠ t) : Kd.R (Kd.int .i64) 3 W base ok v xs := by
 rw [hW]
 exact Kd.R_set (Kd.R_set (Kd.R_set (Kd.R_set hv h ht 0 v0) (blk_set h 0 v0) ht 1 v1) (blk_set (blk_set h 0 v0) 1 v1) ht 2 v2) (blk_set (blk_set (blk_set h 0 v0) 1 v1) 2 v2) ht 3 v3
theorem below4 {W w w0 : World} {g : Nat} {v0 v1 v2 v3 : Value} (hW : W = (((w.setCell ⟨g,0,none⟩ v0).setCell ⟨g,1,none⟩ v1).setCell ⟨g,2,none⟩ v2).setCell ⟨g,3,none⟩ v3) (hb : Below w0.heap.size w0 w) (hg : w0.heap.size ≤ g) : Below w0.heap.size w0 W := by
 rw [hW]
 exact below_set (below_set (below_set (below_set hb hg) hg) hg) hg
theorem v_out {l : List Int} {v s n : Int} (h : rt l v s n = true) : ¬ v ∈ l := fun hm => by
 obtain ⟨j,hj,e⟩ := mem_getD hm
 exact (okA_is ((rtf_all _ _ h).1 j (by omega) (by omega))).2.2.1 e
theorem seen_len {l : List Int} {v s n r2 r3 r4 r5 : Int} {r1 : List Int} (h : rt l v s n = true) (e : (r1,r2,r3,r4,r5) = seenR l v s n) : r1.length ≤ 20 := by
 have := rt_few h
 unfold seenR bad at e
 split at e <;> cases e <;> simp <;> omega
theorem given_len {l : List Int} {v s n r2 r3 r4 r5 : Int} {r1 : List Int} (h : rt l v s n = true) (e : (r1,r2,r3,r4,r5) = givenR l v s n) : r1.length ≤ 20 := by
 have := rt_few h
 unfold givenR bad at e
 split at e <;> cases e <;> simp <;> omega
theorem take_len {l : List Int} {v s n seg nn r2 r3 r4 r5 : Int} {r1 : List Int} (h : rt l v s n = true) (e : (r1,r2,r3,r4,r5) = takeR l v seg nn) : r1.length ≤ 20 := by
 have := rt_few h
 unfold takeR bad at e
 split at e
 ·have h2 := List.length_filter_le (· != seg) l
  cases e
  omega
 ·cases e
  simp
theorem seen_rt {l : List Int} {v s n r2 r3 r4 r5 : Int} {r1 : List Int} (h : rt l v s n = true) (e : (r1,r2,r3,r4,r5) = seenR l v s n) (h5 : r5 = 0) : rt r1 r2 r3 r4 = true := by
 have ht := rt_tl h
 unfold seenR bad at e
 split at e
 ·rename_i hc
  cases e
  refine rt_sub h (rt_nodup h) (fun _ hz => hz) (v_out h) ?_
  unfold tl
  rw [if_neg hc.1]
  simp
  omega
 ·cases e
  cases h5
theorem given_rt {l : List Int} {v s n r2 r3 r4 r5 : Int} {r1 : List Int} (h : rt l v s n = true) (e : (r1,r2,r3,r4,r5) = givenR l v s n) (h5 : r5 = 0) : rt r1 r2 r3 r4 = true := by
 unfold givenR bad at e
 split at e
 ·cases e
  refine rt_sub h (rt_nodup h) (fun _ hz => hz) (fun hm => ?_) (by decide)
  have := rt_seg h hm
  omega
 ·cases e
  cases h5
theorem take_rt {l : List Int} {v s n seg nn r2 r3 r4 r5 : Int} {r1 : List Int} (h : rt l v s n = true) (e : (r1,r2,r3,r4,r5) = takeR l v seg nn) (h5 : r5 = 0) : rt r1 r2 r3 r4 = true := by
 unfold takeR bad at e
 split at e
 ·rename_i hc
  have hs := rt_seg h hc.2.1
  cases e
  refine rt_sub h ((rt_nodup h).filter _) (fun _ hz => (List.mem_filter.1 hz).1) (fun hm => ?_) ?_
  ·have := (List.mem_filter.1 hm).2
   simp at this
  ·unfold tl
   rw [if_neg (by omega)]
   simp
   omega
 ·cases e
  cases h5
theorem begin_len {l p : List Int} {v r2 r3 r4 r5 : Int} {r1 : List Int} (hp : p.length ≤ 20) (e : (r1,r2,r3,r4,r5) = beginR l v p) : r1.length ≤ 20 := by
 unfold beginR bad at e
 split at e <;> cases e <;> first | exact hp | simp
theorem begin_rt {l p : List Int} {v r2 r3 r4 r5 : Int} {r1 : List Int} (e : (r1,r2,r3,r4,r5) = beginR l v p) (h5 : r5 = 0) : rt r1 r2 r3 r4 = true := by
 unfold beginR bad at e
 split at e
 ·rename_i hc
  cases e
  exact hc.2.2
 ·cases e
  cases h5
theorem blk_at {w : World} {o : Obj} {n : Nat} (h : n = w.heap.size) : (w.alloc o).heap[n]? = some o := by rw [h]; exact blk_new w o
set_option maxHeartbeats 8000000 in
set_option maxRecDepth 100000 in
theorem do_calls (Aa : Option Addr) (ca : Nat) (Ab : Option Addr) (cb : Nat) (l : List Int) (v s n : Int) (kind seg nn : Int) (Ao : Option Addr) (co : Nat) (q : List Int) (w : World) (hCa : Kd.C (Kd.int .i64) w Aa l.length l) (hca : l.length ≤ ca) (hCb : Kd.C (Kd.int .i64) w Ab l.length l) (hcb : l.length ≤ cb) (hCo : Kd.C (Kd.int .i64) w Ao q.length q) (hco : q.length ≤ co) (hrt : rt l v s n = true) :
  Calls Try.prog 10 #[.agg #[.slice Aa l.length ca,.int .i64 (v),.int .i64 (s),.int .i64 (n)],.agg #[.slice Ab l.length cb,.int .i64 (v),.int .i64 (s),.int .i64 (n)],.agg #[.int .i64 (kind),.int .i64 (seg),.int .i64 (nn),.slice Ao q.length co]] w fun e w' => (e = .returned (.tuple #[.agg #[.slice Aa l.length ca,.int .i64 (v),.int .i64 (s),.int .i64 (n)],.agg #[.slice Ab l.length cb,.int .i64 (v),.int .i64 (s),.int .i64 (n)],.bool true]) ∨ ∃ (r : List Int) (v' s' n' : Int) (vx vy : Value),e = .returned (.tuple #[.agg #[vx,.int .i64 v',.int .i64 s',.int .i64 n'],.agg #[vy,.int .i64 v',.int .i64 s',.int .i64 n'],.bool true]) ∧ rt r v' s' n' = true ∧ Kd.R (Kd.int .i64) 3 w' w.heap.size (fun _ => True) vx r ∧ Kd.R (Kd.int .i64) 3 w' w.heap.size (fun _ => True) vy r) ∧ Below w.heap.size w w' := by
 have HCa := Aside0.mk hCa
 have Hca := Aside0.mk hca
 have HCb := Aside0.mk hCb
 have Hcb := Aside0.mk hcb
 have HCo := Aside0.mk hCo
 have Hco := Aside0.mk hco
 have HRT := Aside0.mk hrt
 clear hCa hca hCb hcb hCo hco hrt
 obtain ⟨⟨r1,r2,r3,r4,r5⟩,hRs⟩ : ∃ R : Res,R = seenR l v s n := ⟨_,rfl⟩
 have HS := Aside0.mk hRs
 clear hRs
 go_enter Try.func10,Try.ntmps10
 go_upto_region 1 with fail
 obtain ⟨W1,hW1⟩ : ∃ W1,W1 = (((((w.alloc (.cells #[.slice Aa l.length ca,.int .i64 (v),.int .i64 (s),.int .i64 (n)] 25)).alloc (.cells #[.slice Ab l.length cb,.int .i64 (v),.int .i64 (s),.int .i64 (n)] 27)).alloc (.cells #[.int .i64 (kind),.int .i64 (seg),.int .i64 (nn),.slice Ao q.length co] 32)).alloc (.cells #[.slice none 0 0,.int .i64 0,.int .i64 0,.int .i64 0] 25)).alloc (.cells #[.slice none 0 0,.int .i64 0,.int .i64 0,.int .i64 0] 27)) := ⟨_,rfl⟩
 rw [← hW1]
 obtain ⟨g7,hg7⟩ : ∃ g,g = w.heap.size + 1 + 1 + 1 + 1 := ⟨_,rfl⟩
 obtain ⟨g6,hg6⟩ : ∃ g,g = w.heap.size + 1 + 1 + 1 := ⟨_,rfl⟩
 obtain ⟨go,hgo⟩ : ∃ g,g = w.heap.size + 1 + 1 := ⟨_,rfl⟩
 obtain ⟨gb,hgb⟩ : ∃ g,g = w.heap.size + 1 := ⟨_,rfl⟩
 obtain ⟨ga,hga⟩ : ∃ g,g = w.heap.size := ⟨_,rfl⟩
 have HXa : Aside0 (W1.heap[ga]? = some (.cells #[.slice Aa l.length ca,.int .i64 (v),.int .i64 (s),.int .i64 (n)] 25 (0,0))) := ⟨by rw [hW1,hga]; exact blk_alloc (blk_alloc (blk_alloc (blk_alloc (blk_at rfl) _) _) _) _⟩
 have HXb : Aside0 (W1.heap[gb]? = some (.cells #[.slice Ab l.length cb,.int .i64 (v),.int .i64 (s),.int .i64 (n)] 27 (0,0))) := ⟨by rw [hW1,hgb]; exact blk_alloc (blk_alloc (blk_alloc (blk_at (by simp)) _) _) _⟩
 have HXo : Aside0 (W1.heap[go]? = some (.cells #[.int .i64 (kind),.int .i64 (seg),.int .i64 (nn),.slice Ao q.length co] 32 (0,0))) := ⟨by rw [hW1,hgo]; exact blk_alloc (blk_alloc (blk_at (by simp)) _) _⟩
 have HX6 : Aside0 (W1.heap[g6]? = some (.cells #[.slice none 0 0,.int .i64 0,.int .i64 0,.int .i64 0] 25 (0,0))) := ⟨by rw [hW1,hg6]; exact blk_alloc (blk_at (by simp)) _⟩
 have HX7 : Aside0 (W1.heap[g7]? = some (.cells #[.slice none 0 0,.int .i64 0,.int .i64 0,.int .i64 0] 27 (0,0))) := ⟨by rw [hW1,hg7]; exact blk_at (by simp)⟩
 have HB : Aside0 (Below w.heap.size w W1) := ⟨by rw [hW1]; exact below_alloc (below_alloc (below_alloc (below_alloc (below_alloc (Below.refl _ _) _) _) _) _) _⟩
 have HGa : Aside0 (w.heap.size ≤ ga) := ⟨by omega⟩
 have HGb : Aside0 (w.heap.size ≤ gb) := ⟨by omega⟩
 have HGo : Aside0 (w.heap.size ≤ go) := ⟨by omega⟩
 have HG6 : Aside0 (w.heap.size ≤ g6) := ⟨by omega⟩
 have HG7 : Aside0 (w.heap.size ≤ g7) := ⟨by omega⟩
 have Nab : Aside0 (ga ≠ gb) := ⟨by omega⟩
 have Nao : Aside0 (ga ≠ go) := ⟨by omega⟩
 have Na6 : Aside0 (ga ≠ g6) := ⟨by omega⟩
 have Na7 : Aside0 (ga ≠ g7) := ⟨by omega⟩
 have Nba : Aside0 (gb ≠ ga) := ⟨by omega⟩
 have Nbo : Aside0 (gb ≠ go) := ⟨by omega⟩
 have Nb6 : Aside0 (gb ≠ g6) := ⟨by omega⟩
 have Nb7 : Aside0 (gb ≠ g7) := ⟨by omega⟩
 have Noa : Aside0 (go ≠ ga) := ⟨by omega⟩
 have Nob : Aside0 (go ≠ gb) := ⟨by omega⟩
 have No6 : Aside0 (go ≠ g6) := ⟨by omega⟩
 have No7 : Aside0 (go ≠ g7) := ⟨by omega⟩
 have N6a : Aside0 (g6 ≠ ga) := ⟨by omega⟩
 have N6b : Aside0 (g6 ≠ gb) := ⟨by omega⟩
 have N6o : Aside0 (g6 ≠ go) := ⟨by omega⟩
 have N67 : Aside0 (g6 ≠ g7) := ⟨by omega⟩
 have N7a : Aside0 (g7 ≠ ga) := ⟨by omega⟩
 have N7b : Aside0 (g7 ≠ gb) := ⟨by omega⟩
 have N7o : Aside0 (g7 ≠ go) := ⟨by omega⟩
 have N76 : Aside0 (g7 ≠ g6) := ⟨by omega⟩
 rw [← hg7,← hg6,← hgo,← hgb,← hga]
 clear hW1 hga hgb hgo hg6 hg7
 have c_0 : W1.cell? ⟨ga,0,none⟩ = some (.slice Aa l.length ca) := (blk_cell HXa.out 0).trans rfl
 have c_1 : W1.cell? ⟨ga,1,none⟩ = some (.int .i64 (v)) := (blk_cell HXa.out 1).trans rfl
 have c_2 : W1.cell? ⟨ga,2,none⟩ = some (.int .i64 (s)) := (blk_cell HXa.out 2).trans rfl
 have c_3 : W1.cell? ⟨ga,3,none⟩ = some (.int .i64 (n)) := (blk_cell HXa.out 3).trans rfl
 go_wp2_with fail
 clear c_0 c_1 c_2 c_3
 refine (sweep_Seen.calls 61 Aa ca l v s n r1 r2 r3 r4 r5 _ (Kd.C_below HCa.out HB.out) Hca.out ((seen_is HRT.out).1.trans (congrArg some HS.out.symm))).mono ?_
 rintro e w2 ⟨v0,rfl,hv,hb⟩
 obtain ⟨A9,c9,hv0,_,_⟩ := Kd.R_reads hv
 subst hv0
 have HV9 := Aside0.mk (Kd.R_lower hv (below_size HB.out))
 replace HXa := Aside0.mk (blk_below HXa.out hb)
 replace HXb := Aside0.mk (blk_below HXb.out hb)
 replace HXo := Aside0.mk (blk_below HXo.out hb)
 replace HX6 := Aside0.mk (blk_below HX6.out hb)
 replace HX7 := Aside0.mk (blk_below HX7.out hb)
 replace HB := Aside0.mk (below_step HB.out hb)
 clear hv hb
 go_upto_region 2 with ((with_reducible refine gate_dst (N := 9) rfl ?_); refine box_event ?hg (N := 9) ?hd (cs := #[.slice none 0 0,.int .i64 0,.int .i64 0,.int .i64 0]) (t := 25) ?hr ?_; (case hd => rfl); (case hg => rfl); (case hr => first | (go_simp; done) | (go_simp; rfl)); intro g9 hgo w3 hbox hbb; have HBO := Aside0.mk hbox; have HBB := Aside0.mk hbb; have HGO := Aside0.mk hgo; have y0 : w3.cell? ⟨g9,0,none⟩ = some (.slice none 0 0) := (blk_cell hbox 0).trans rfl; have y1 : w3.cell? ⟨g9,1,none⟩ = some (.int .i64 0) := (blk_cell hbox 1).trans rfl; have y2 : w3.cell? ⟨g9,2,none⟩ = some (.int .i64 0) := (blk_cell hbox 2).trans rfl; have y3 : w3.cell? ⟨g9,3,none⟩ = some (.int .i64 0) := (blk_cell hbox 3).trans rfl; have yf0 := blk_frozen hbox 0; have yf1 := blk_frozen hbox 1; have yf2 := blk_frozen hbox 2; have yf3 := blk_frozen hbox 3; clear hbox hbb hgo)
 clear y0 y1 y2 y3 yf0 yf1 yf2 yf3
 obtain ⟨W4,hW⟩ : ∃ W_,W_ = ((((w3.setCell ⟨g9,0,none⟩ (.slice A9 r1.length c9)).setCell ⟨g9,1,none⟩ (.int .i64 (r2))).setCell ⟨g9,2,none⟩ (.int .i64 (r3))).setCell ⟨g9,3,none⟩ (.int .i64 (r4))) := ⟨_,rfl⟩
 rw [← hW]
 have q1 := (blk_set (blk_set (blk_set (blk_set HBO.out 0 (.slice A9 r1.length c9)) 1 (.int .i64 (r2))) 2 (.int .i64 (r3))) 3 (.int .i64 (r4)))
 simp only [zdI,zds0,zds1] at q1
 have hbx := (below_set (g := g9) (j := 3) (v := .int .i64 (r4)) (below_set (g := g9) (j := 2) (v := .int .i64 (r3)) (below_set (g := g9) (j := 1) (v := .int .i64 (r2)) (below_set (g := g9) (j := 0) (v := .slice A9 r1.length c9) HBB.out (Nat.le_of_eq HGO.out.symm)) (Nat.le_of_eq HGO.out.symm)) (Nat.le_of_eq HGO.out.symm)) (Nat.le_of_eq HGO.out.symm))
 rw [← hW] at q1 hbx
 have Na9 : Aside0 (ga ≠ g9) := ⟨by rw [HGO.out]; exact Nat.ne_of_lt (blk_lt HXa.out)⟩
 have Nb9 : Aside0 (gb ≠ g9) := ⟨by rw [HGO.out]; exact Nat.ne_of_lt (blk_lt HXb.out)⟩
 have No9 : Aside0 (go ≠ g9) := ⟨by rw [HGO.out]; exact Nat.ne_of_lt (blk_lt HXo.out)⟩
 have N69 : Aside0 (g6 ≠ g9) := ⟨by rw [HGO.out]; exact Nat.ne_of_lt (blk_lt HX6.out)⟩
 have N79 : Aside0 (g7 ≠ g9) := ⟨by rw [HGO.out]; exact Nat.ne_of_lt (blk_lt HX7.out)⟩
 have N9a : Aside0 (g9 ≠ ga) := ⟨Ne.symm Na9.out⟩
 have N9b : Aside0 (g9 ≠ gb) := ⟨Ne.symm Nb9.out⟩
 have N9o : Aside0 (g9 ≠ go) := ⟨Ne.symm No9.out⟩
 have N96 : Aside0 (g9 ≠ g6) := ⟨Ne.symm N69.out⟩
 have N97 : Aside0 (g9 ≠ g7) := ⟨Ne.symm N79.out⟩
 have HG9 : Aside0 (w.heap.size ≤ g9) := ⟨by rw [HGO.out]; exact below_size HB.out⟩
 replace HXa := Aside0.mk (blk_below HXa.out hbx)
 replace HXb := Aside0.mk (blk_below HXb.out hbx)
 replace HXo := Aside0.mk (blk_below HXo.out hbx)
 replace HX6 := Aside0.mk (blk_below HX6.out hbx)
 replace HX7 := Aside0.mk (blk_below HX7.out hbx)
 replace HV9 := Aside0.mk (Kd.R_below HV9.out hbx)
 replace HB := Aside0.mk (below_step HB.out hbx)
 clear hW hbx HBO HBB HGO
 have HX9 := Aside0.mk q1
 clear q1
 have c_0 : W4.cell? ⟨gb,0,none⟩ = some (.slice Ab l.length cb) := (blk_cell HXb.out 0).trans rfl
 have c_1 : W4.cell? ⟨gb,1,none⟩ = some (.int .i64 (v)) := (blk_cell HXb.out 1).trans rfl
 have c_2 : W4.cell? ⟨gb,2,none⟩ = some (.int .i64 (s)) := (blk_cell HXb.out 2).trans rfl
 have c_3 : W4.cell? ⟨gb,3,none⟩ = some (.int .i64 (n)) := (blk_cell HXb.out 3).trans rfl
 go_wp2_with fail
 clear c_0 c_1 c_2 c_3
 refine (lodgerref15_Seen.calls 61 Ab cb l v s n r1 r2 r3 r4 r5 _ (Kd.C_below HCb.out HB.out) Hcb.out ((seen_is HRT.out).2.trans (congrArg some HS.out.symm))).mono ?_
 rintro e w5 ⟨v0,rfl,hv,hb⟩
 obtain ⟨Ax,cx,hv0,_,_⟩ := Kd.R_reads hv
 subst hv0
 have HVx := Aside0.mk (Kd.R_lower hv (below_size HB.out))
 replace HXa := Aside0.mk (blk_below HXa.out hb)
 replace HXb := Aside0.mk (blk_below HXb.out hb)
 replace HXo := Aside0.mk (blk_below HXo.out hb)
 replace HX6 := Aside0.mk (blk_below HX6.out hb)
 replace HX7 := Aside0.mk (blk_below HX7.out hb)
 replace HX9 := Aside0.mk (blk_below HX9.out hb)
 replace HV9 := Aside0.mk (Kd.R_below HV9.out hb)
 replace HB := Aside0.mk (below_step HB.out hb)
 clear hv hb
 go_upto_region 3 with ((with_reducible refine gate_dst (N := 11) rfl ?_); refine box_event ?hg (N := 11) ?hd (cs := #[.slice none 0 0,.int .i64 0,.int .i64 0,.int .i64 0]) (t := 27) ?hr ?_; (case hd => rfl); (case hg => rfl); (case hr => first | (go_simp; done) | (go_simp; rfl)); intro gx hgo w6 hbox hbb; have HBO := Aside0.mk hbox; have HBB := Aside0.mk hbb; have HGO := Aside0.mk hgo; have y0 : w6.cell? ⟨gx,0,none⟩ = some (.slice none 0 0) := (blk_cell hbox 0).trans rfl; have y1 : w6.cell? ⟨gx,1,none⟩ = some (.int .i64 0) := (blk_cell hbox 1).trans rfl; have y2 : w6.cell? ⟨gx,2,none⟩ = some (.int .i64 0) := (blk_cell hbox 2).trans rfl; have y3 : w6.cell? ⟨gx,3,none⟩ = some (.int .i64 0) := (blk_cell hbox 3).trans rfl; have yf0 := blk_frozen hbox 0; have yf1 := blk_frozen hbox 1; have yf2 := blk_frozen hbox 2; have yf3 := blk_frozen hbox 3; clear hbox hbb hgo)
 clear y0 y1 y2 y3 yf0 yf1 yf2 yf3
 obtain ⟨W7,hW⟩ : ∃ W_,W_ = ((((w6.setCell ⟨gx,0,none⟩ (.slice Ax r1.length cx)).setCell ⟨gx,1,none⟩ (.int .i64 (r2))).setCell ⟨gx,2,none⟩ (.int .i64 (r3))).setCell ⟨gx,3,none⟩ (.int .i64 (r4))) := ⟨_,rfl⟩
 rw [← hW]
 have q1 := (blk_set (blk_set (blk_set (blk_set HBO.out 0 (.slice Ax r1.length cx)) 1 (.int .i64 (r2))) 2 (.int .i64 (r3))) 3 (.int .i64 (r4)))
 simp only [zdI,zds0,zds1] at q1
 have hbx := (below_set (g := gx) (j := 3) (v := .int .i64 (r4)) (below_set (g := gx) (j := 2) (v := .int .i64 (r3)) (below_set (g := gx) (j := 1) (v := .int .i64 (r2)) (below_set (g := gx) (j := 0) (v := .slice Ax r1.length cx) HBB.out (Nat.le_of_eq HGO.out.symm)) (Nat.le_of_eq HGO.out.symm)) (Nat.le_of_eq HGO.out.symm)) (Nat.le_of_eq HGO.out.symm))
 rw [← hW] at q1 hbx
 have Nax : Aside0 (ga ≠ gx) := ⟨by rw [HGO.out]; exact Nat.ne_of_lt (blk_lt HXa.out)⟩
 have Nbx : Aside0 (gb ≠ gx) := ⟨by rw [HGO.out]; exact Nat.ne_of_lt (blk_lt HXb.out)⟩
 have Nox : Aside0 (go ≠ gx) := ⟨by rw [HGO.out]; exact Nat.ne_of_lt (blk_lt HXo.out)⟩
 have N6x : Aside0 (g6 ≠ gx) := ⟨by rw [HGO.out]; exact Nat.ne_of_lt (blk_lt HX6.out)⟩
 have N7x : Aside0 (g7 ≠ gx) := ⟨by rw [HGO.out]; exact Nat.ne_of_lt (blk_lt HX7.out)⟩
 have N9x : Aside0 (g9 ≠ gx) := ⟨by rw [HGO.out]; exact Nat.ne_of_lt (blk_lt HX9.out)⟩
 have Nxa : Aside0 (gx ≠ ga) := ⟨Ne.symm Nax.out⟩
 have Nxb : Aside0 (gx ≠ gb) := ⟨Ne.symm Nbx.out⟩
 have Nxo : Aside0 (gx ≠ go) := ⟨Ne.symm Nox.out⟩
 have Nx6 : Aside0 (gx ≠ g6) := ⟨Ne.symm N6x.out⟩
 have Nx7 : Aside0 (gx ≠ g7) := ⟨Ne.symm N7x.out⟩
 have Nx9 : Aside0 (gx ≠ g9) := ⟨Ne.symm N9x.out⟩
 have HGx : Aside0 (w.heap.size ≤ gx) := ⟨by rw [HGO.out]; exact below_size HB.out⟩
 replace HXa := Aside0.mk (blk_below HXa.out hbx)
 replace HXb := Aside0.mk (blk_below HXb.out hbx)
 replace HXo := Aside0.mk (blk_below HXo.out hbx)
 replace HX6 := Aside0.mk (blk_below HX6.out hbx)
 replace HX7 := Aside0.mk (blk_below HX7.out hbx)
 replace HX9 := Aside0.mk (blk_below HX9.out hbx)
 replace HV9 := Aside0.mk (Kd.R_below HV9.out hbx)
 replace HVx := Aside0.mk (Kd.R_below HVx.out hbx)
 replace HB := Aside0.mk (below_step HB.out hbx)
 clear hW hbx HBO HBB HGO
 have HXx := Aside0.mk q1
 clear q1
 have c_0 : W7.cell? ⟨go,0,none⟩ = some (.int .i64 (kind)) := (blk_cell HXo.out 0).trans rfl
 have c_1 : W7.cell? ⟨go,1,none⟩ = some (.int .i64 (seg)) := (blk_cell HXo.out 1).trans rfl
 have c_2 : W7.cell? ⟨go,2,none⟩ = some (.int .i64 (nn)) := (blk_cell HXo.out 2).trans rfl
 have c_3 : W7.cell? ⟨go,3,none⟩ = some (.slice Ao q.length co) := (blk_cell HXo.out 3).trans rfl
 go_upto_region 4 with fail
 clear c_0 c_1 c_2 c_3
 obtain ⟨kk,hkk⟩ : ∃ j_,j_ = bits .and .i64 kind 3 := ⟨_,rfl⟩
 rw [← hkk]
 clear hkk
 by_cases h0 : kk = 0
 ·have k0 : (kk == 0) = true := beq_iff_eq.mpr h0
  clear h0
  obtain ⟨m,hm⟩ : ∃ m : Int,m = if (20 : Int) < (q.length : Int) then 20 else (q.length : Int) := ⟨_,rfl⟩
  have hm2 : 0 ≤ m ∧ m ≤ (q.length : Int) ∧ m.toNat = min 20 q.length := by rw [hm]; split <;> omega
  have hm_ := hm.symm
  obtain ⟨p,hp⟩ : ∃ p,p = q.take 20 := ⟨_,rfl⟩
  have hln : p.length = m.toNat := by rw [hp,List.length_take,hm2.2.2]
  obtain ⟨i0,hi,_⟩ := info_parts info3
  have hcut := cut_to (P := Try.prog) 23 3 .i64 Try.underlying23 hi Ao q.length co m hm2.1 hm2.2.1 Hco.out
  rw [← hln] at hcut
  have HCp : Aside0 (Kd.C (Kd.int .i64) w Ao p.length p) := ⟨by rw [hp,List.take_eq_take_min]; exact Kd.C_take HCo.out (by omega)⟩
  have Hcp : Aside0 (p.length ≤ co) := ⟨by rw [hp,List.length_take]; have := Hco.out; omega⟩
  have HP20 : Aside0 (p.length ≤ 20) := ⟨by rw [hp,List.length_take]; omega⟩
  clear hm hm2 hp hln hi
  obtain ⟨⟨b1,b2,b3,b4,b5⟩,hb_⟩ : ∃ R : Res,R = beginR l v p := ⟨_,rfl⟩
  have HK := Aside0.mk hb_
  clear hb_
  go_wp2_with fail
  refine start_ (n := 14) (S := fun w' => w'.cell? ⟨ga,0,none⟩ = some (.slice Aa l.length ca) ∧ w'.cell? ⟨ga,1,none⟩ = some (.int .i64 (v)) ∧ w'.cell? ⟨ga,2,none⟩ = some (.int .i64 (s)) ∧ w'.cell? ⟨ga,3,none⟩ = some (.int .i64 (n)) ∧ w'.cell? ⟨go,3,none⟩ = some (.slice Ao q.length co)) (ds := []) zd0 (by kernel_rfl) rfl rfl ⟨((blk_cell (blk_drew HXa.out) 0).trans rfl),((blk_cell (blk_drew HXa.out) 1).trans rfl),((blk_cell (blk_drew HXa.out) 2).trans rfl),((blk_cell (blk_drew HXa.out) 3).trans rfl),((blk_cell (blk_drew HXo.out) 3).trans rfl)⟩ (fun hHeld => ?_)
  refine with_tabW lodgerlaw15_do.tab5 lodgerlaw15_do.bits5 (fun HT_ HW_ => ?_)
  replace HXa := Aside0.mk (blk_drew HXa.out)
  replace HXb := Aside0.mk (blk_drew HXb.out)
  replace HXo := Aside0.mk (blk_drew HXo.out)
  replace HX6 := Aside0.mk (blk_drew HX6.out)
  replace HX7 := Aside0.mk (blk_drew HX7.out)
  replace HX9 := Aside0.mk (blk_drew HX9.out)
  replace HXx := Aside0.mk (blk_drew HXx.out)
  replace HV9 := Aside0.mk (Kd.R_drew HV9.out)
  replace HVx := Aside0.mk (Kd.R_drew HVx.out)
  replace HB := Aside0.mk (below_drew HB.out)
  generalize W7.drew = wd5 at *
  refine pure_ (i := 1) (N := some 30) (v := ?_) (a' := ?_) zd1 rfl rfl (any_of HT_.out (by kernel_rfl)) (fun _ _ _ h => h) (Or.inl ⟨by rfl,?_⟩) ?_ ?_
  rotate_left
  ·intro w'
   go_simp
   with_reducible rfl
  rotate_left
  ·simp only [Act.put,zdI,zds0,zds1,i64_w,i32_w]
   rfl
  refine pure_ (i := 3) (N := some 32) (v := ?_) (a' := ?_) zd2 rfl rfl (any_of HT_.out (by kernel_rfl)) (fun _ _ _ h => h) (Or.inl ⟨by rfl,?_⟩) ?_ ?_
  rotate_left
  ·intro w'
   go_simp
   with_reducible rfl
  rotate_left
  ·simp only [Act.put,zdI,zds0,zds1,i64_w,i32_w]
   rfl
  refine take_ (i := 0) (N := some 29) (v := ?_) (a' := ?_) zd3 rfl rfl (take_ofW HT_.out HW_.out (by kernel_rfl)) (fun _ _ _ h => h) (Or.inl ⟨by rfl,?_⟩) hHeld ?_ ?_
  rotate_left
  ·rintro w' ⟨s0,s1,s2,s3,s4⟩
   go_simp
   with_reducible rfl
  rotate_left
  ·simp only [Act.put,zdI,zds0,zds1,i64_w,i32_w]
   rfl
  refine take_ (i := 2) (N := some 31) (v := ?_) (a' := ?_) zd4 rfl rfl (take_ofW HT_.out HW_.out (by kernel_rfl)) (fun _ _ _ h => h) (Or.inl ⟨by rfl,?_⟩) hHeld ?_ ?_
  rotate_left
  ·rintro w' ⟨s0,s1,s2,s3,s4⟩
   go_simp
   with_reducible rfl
  rotate_left
  ·simp only [Act.put,zdI,zds0,zds1,i64_w,i32_w]
   rfl
  refine take_ (i := 4) (N := some 33) (v := ?_) (a' := ?_) zd5 rfl rfl (take_ofW HT_.out HW_.out (by kernel_rfl)) (fun _ _ _ h => h) (Or.inl ⟨by rfl,?_⟩) hHeld ?_ ?_
  rotate_left
  ·rintro w' ⟨s0,s1,s2,s3,s4⟩
   go_simp
   with_reducible rfl
  rotate_left
  ·simp only [Act.put,zdI,zds0,zds1,i64_w,i32_w]
   rfl
  refine pure_ (i := 5) (N := some 34) (v := ?_) (a' := ?_) zd6 rfl rfl (any_of HT_.out (by kernel_rfl)) (fun _ _ _ h => h) (Or.inl ⟨by rfl,?_⟩) ?_ ?_
  rotate_left
  ·intro w'
   go_simp
   with_reducible rfl
  rotate_left
  ·simp only [Act.put,zdI,zds0,zds1,i64_w,i32_w]
   rfl
  refine pure_ (i := 6) (N := some 35) (v := ?_) (a' := ?_) zd7 rfl rfl (any_of HT_.out (by kernel_rfl)) (fun _ _ _ h => h) (Or.inl ⟨by rfl,?_⟩) ?_ ?_
  rotate_left
  ·intro w'
   go_simp
   with_reducible rfl
  rotate_left
  ·simp only [Act.put,zdI,zds0,zds1,i64_w,i32_w]
   rfl
  refine pure_ (i := 7) (N := some 36) (v := ?_) (a' := ?_) zd8 rfl rfl (any_of HT_.out (by kernel_rfl)) (fun _ _ _ h => h) (Or.inl ⟨by rfl,?_⟩) ?_ ?_
  rotate_left
  ·intro w'
   go_simp
   with_reducible rfl
  rotate_left
  ·simp only [Act.put,zdI,zds0,zds1,i64_w,i32_w]
   rfl
  refine one_ (i := 8) (N := some 37) zd9 rfl rfl (one_of HT_.out (by kernel_rfl)) (by decide) (fun K hK => ?_)
  refine goes_ Try.func22 (by kernel_rfl) rfl #[.agg #[.slice Aa l.length ca,.int .i64 (v),.int .i64 (s),.int .i64 (n)],.slice Ao p.length co] (by rfl) rfl rfl (by simp only [List.map_toArray,List.map_cons,List.map_nil]; rfl) ?_
  with_reducible refine (sweep_Begin.calls 61 Aa ca l v s n Ao co p b1 b2 b3 b4 b5 _ (Kd.C_below HCa.out HB.out) Hca.out (Kd.C_below HCp.out HB.out) Hcp.out ((begin_is HRT.out p HP20.out).1.trans (congrArg some HK.out.symm))).mono ?_
  rintro e wk5 ⟨v0,rfl,hv,hb⟩
  obtain ⟨B9,d9,hv0,_,_⟩ := Kd.R_reads hv
  subst hv0
  refine ⟨_,rfl,?_⟩
  have q9 := Aside0.mk (Kd.R_lower hv (below_size HB.out))
  replace HXa := Aside0.mk (blk_below HXa.out hb)
  replace HXb := Aside0.mk (blk_below HXb.out hb)
  replace HXo := Aside0.mk (blk_below HXo.out hb)
  replace HX6 := Aside0.mk (blk_below HX6.out hb)
  replace HX7 := Aside0.mk (blk_below HX7.out hb)
  replace HX9 := Aside0.mk (blk_below HX9.out hb)
  replace HXx := Aside0.mk (blk_below HXx.out hb)
  replace HV9 := Aside0.mk (Kd.R_below HV9.out hb)
  replace HVx := Aside0.mk (Kd.R_below HVx.out hb)
  replace HB := Aside0.mk (below_step HB.out hb)
  clear hb hv HV9
  have HV9 := q9
  clear q9
  refine hK.out _ _ ⟨((blk_cell HXa.out 0).trans rfl),((blk_cell HXa.out 1).trans rfl),((blk_cell HXa.out 2).trans rfl),((blk_cell HXa.out 3).trans rfl),((blk_cell HXo.out 3).trans rfl)⟩ (fun hHeld => ?_)
  clear hK K
  refine norm_ (a' := ?_) ?_ ?_
  rotate_left
  ·show Act.put _ (some 37) _ = _
   simp only [Act.put,zdI,zds0,zds1,i64_w,i32_w]
   rfl
  refine pure_ (i := 9) (N := some 28) (v := ?_) (a' := ?_) zd10 rfl rfl (any_of HT_.out (by kernel_rfl)) (fun _ _ _ h => h) (Or.inl ⟨by rfl,?_⟩) ?_ ?_
  rotate_left
  ·intro w'
   go_simp
   with_reducible rfl
  rotate_left
  ·simp only [Act.put,zdI,zds0,zds1,i64_w,i32_w]
   rfl
  refine pure_ (i := 10) (N := some 38) (v := ?_) (a' := ?_) zd11 rfl rfl (any_of HT_.out (by kernel_rfl)) (fun _ _ _ h => h) (Or.inl ⟨by rfl,?_⟩) ?_ ?_
  rotate_left
  ·intro w'
   go_simp
   with_reducible rfl
  rotate_left
  ·simp only [Act.put,zdI,zds0,zds1,i64_w,i32_w]
   rfl
  refine pure_ (i := 11) (N := some 39) (v := ?_) (a' := ?_) zd12 rfl rfl (any_of HT_.out (by kernel_rfl)) (fun _ _ _ h => h) (Or.inl ⟨by rfl,?_⟩) ?_ ?_
  rotate_left
  ·intro w'
   go_simp
   with_reducible rfl
  rotate_left
  ·simp only [Act.put,zdI,zds0,zds1,i64_w,i32_w]
   rfl
  refine one_ (i := 12) (N := none) zd13 rfl rfl (one_of HT_.out (by kernel_rfl)) (by decide) (fun K hK => ?_)
  have z_0 : wk5.cell? ⟨g9,0,none⟩ = some (.slice A9 r1.length c9) := (blk_cell HX9.out 0).trans rfl
  have z_1 : wk5.cell? ⟨g9,1,none⟩ = some (.int .i64 (r2)) := (blk_cell HX9.out 1).trans rfl
  have z_2 : wk5.cell? ⟨g9,2,none⟩ = some (.int .i64 (r3)) := (blk_cell HX9.out 2).trans rfl
  have z_3 : wk5.cell? ⟨g9,3,none⟩ = some (.int .i64 (r4)) := (blk_cell HX9.out 3).trans rfl
  have zf_0 := blk_frozen HX9.out 0
  have zf_1 := blk_frozen HX9.out 1
  have zf_2 := blk_frozen HX9.out 2
  have zf_3 := blk_frozen HX9.out 3
  refine skip_ (w1 := ?_) (by rfl) rfl ?_ ?_
  rotate_left
  ·go_simp
   rfl
  clear z_0 z_1 z_2 z_3 zf_0 zf_1 zf_2 zf_3
  obtain ⟨W9,hW⟩ : ∃ W_,W_ = ((((wk5.setCell ⟨g9,0,none⟩ (.slice B9 b1.length d9)).setCell ⟨g9,1,none⟩ (.int .i64 (b2))).setCell ⟨g9,2,none⟩ (.int .i64 (b3))).setCell ⟨g9,3,none⟩ (.int .i64 (b4))) := ⟨_,rfl⟩
  rw [← hW]
  replace HXa := Aside0.mk (far4 hW HXa.out Na9.out)
  replace HXb := Aside0.mk (far4 hW HXb.out Nb9.out)
  replace HXo := Aside0.mk (far4 hW HXo.out No9.out)
  replace HX6 := Aside0.mk (far4 hW HX6.out N69.out)
  replace HX7 := Aside0.mk (far4 hW HX7.out N79.out)
  replace HXx := Aside0.mk (far4 hW HXx.out Nx9.out)
  replace HV9 := Aside0.mk (rset4 hW HX9.out HV9.out (by decide))
  replace HVx := Aside0.mk (rset4 hW HX9.out HVx.out (by decide))
  replace HX9 := Aside0.mk (set4 hW HX9.out)
  replace HB := Aside0.mk (below4 hW HB.out HG9.out)
  clear hW
  refine hK.out _ _ ⟨((blk_cell HXa.out 0).trans rfl),((blk_cell HXa.out 1).trans rfl),((blk_cell HXa.out 2).trans rfl),((blk_cell HXa.out 3).trans rfl),((blk_cell HXo.out 3).trans rfl)⟩ (fun hHeld => ?_)
  clear hK K
  refine pure_ (i := 13) (N := some 10) (v := ?_) (a' := ?_) zd14 rfl rfl (any_of HT_.out (by kernel_rfl)) (fun _ _ _ h => h) (Or.inl ⟨by rfl,?_⟩) ?_ ?_
  rotate_left
  ·intro w'
   go_simp
   with_reducible rfl
  rotate_left
  ·simp only [Act.put,zdI,zds0,zds1,i64_w,i32_w]
   rfl
  refine done_ (done_of HT_.out (by kernel_rfl)) ?_
  clear HT_ HW_ hHeld
  go_wp2_with fail
  refine start_ (n := 14) (S := fun w' => w'.cell? ⟨gb,0,none⟩ = some (.slice Ab l.length cb) ∧ w'.cell? ⟨gb,1,none⟩ = some (.int .i64 (v)) ∧ w'.cell? ⟨gb,2,none⟩ = some (.int .i64 (s)) ∧ w'.cell? ⟨gb,3,none⟩ = some (.int .i64 (n)) ∧ w'.cell? ⟨go,3,none⟩ = some (.slice Ao q.length co)) (ds := []) zd0 (by kernel_rfl) rfl rfl ⟨((blk_cell (blk_drew HXb.out) 0).trans rfl),((blk_cell (blk_drew HXb.out) 1).trans rfl),((blk_cell (blk_drew HXb.out) 2).trans rfl),((blk_cell (blk_drew HXb.out) 3).trans rfl),((blk_cell (blk_drew HXo.out) 3).trans rfl)⟩ (fun hHeld => ?_)
  refine with_tabW lodgerlaw15_do.tab6 lodgerlaw15_do.bits6 (fun HT_ HW_ => ?_)
  replace HXa := Aside0.mk (blk_drew HXa.out)
  replace HXb := Aside0.mk (blk_drew HXb.out)
  replace HXo := Aside0.mk (blk_drew HXo.out)
  replace HX6 := Aside0.mk (blk_drew HX6.out)
  replace HX7 := Aside0.mk (blk_drew HX7.out)
  replace HX9 := Aside0.mk (blk_drew HX9.out)
  replace HXx := Aside0.mk (blk_drew HXx.out)
  replace HV9 := Aside0.mk (Kd.R_drew HV9.out)
  replace HVx := Aside0.mk (Kd.R_drew HVx.out)
  replace HB := Aside0.mk (below_drew HB.out)
  generalize W9.drew = wd6 at *
  refine pure_ (i := 1) (N := some 42) (v := ?_) (a' := ?_) zd1 rfl rfl (any_of HT_.out (by kernel_rfl)) (fun _ _ _ h => h) (Or.inl ⟨by rfl,?_⟩) ?_ ?_
  rotate_left
  ·intro w'
   go_simp
   with_reducible rfl
  rotate_left
  ·simp only [Act.put,zdI,zds0,zds1,i64_w,i32_w]
   rfl
  refine pure_ (i := 3) (N := some 44) (v := ?_) (a' := ?_) zd2 rfl rfl (any_of HT_.out (by kernel_rfl)) (fun _ _ _ h => h) (Or.inl ⟨by rfl,?_⟩) ?_ ?_
  rotate_left
  ·intro w'
   go_simp
   with_reducible rfl
  rotate_left
  ·simp only [Act.put,zdI,zds0,zds1,i64_w,i32_w]
   rfl
  refine take_ (i := 0) (N := some 41) (v := ?_) (a' := ?_) zd3 rfl rfl (take_ofW HT_.out HW_.out (by kernel_rfl)) (fun _ _ _ h => h) (Or.inl ⟨by rfl,?_⟩) hHeld ?_ ?_
  rotate_left
  ·rintro w' ⟨s0,s1,s2,s3,s4⟩
   go_simp
   with_reducible rfl
  rotate_left
  ·simp only [Act.put,zdI,zds0,zds1,i64_w,i32_w]
   rfl
  refine take_ (i := 2) (N := some 43) (v := ?_) (a' := ?_) zd4 rfl rfl (take_ofW HT_.out HW_.out (by kernel_rfl)) (fun _ _ _ h => h) (Or.inl ⟨by rfl,?_⟩) hHeld ?_ ?_
  rotate_left
  ·rintro w' ⟨s0,s1,s2,s3,s4⟩
   go_simp
   with_reducible rfl
  rotate_left
  ·simp only [Act.put,zdI,zds0,zds1,i64_w,i32_w]
   rfl
  refine take_ (i := 4) (N := some 45) (v := ?_) (a' := ?_) zd5 rfl rfl (take_ofW HT_.out HW_.out (by kernel_rfl)) (fun _ _ _ h => h) (Or.inl ⟨by rfl,?_⟩) hHeld ?_ ?_
  rotate_left
  ·rintro w' ⟨s0,s1,s2,s3,s4⟩
   go_simp
   with_reducible rfl
  rotate_left
  ·simp only [Act.put,zdI,zds0,zds1,i64_w,i32_w]
   rfl
  refine pure_ (i := 5) (N := some 46) (v := ?_) (a' := ?_) zd6 rfl rfl (any_of HT_.out (by kernel_rfl)) (fun _ _ _ h => h) (Or.inl ⟨by rfl,?_⟩) ?_ ?_
  rotate_left
  ·intro w'
   go_simp
   with_reducible rfl
  rotate_left
  ·simp only [Act.put,zdI,zds0,zds1,i64_w,i32_w]
   rfl
  refine pure_ (i := 6) (N := some 47) (v := ?_) (a' := ?_) zd7 rfl rfl (any_of HT_.out (by kernel_rfl)) (fun _ _ _ h => h) (Or.inl ⟨by rfl,?_⟩) ?_ ?_
  rotate_left
  ·intro w'
   go_simp
   with_reducible rfl
  rotate_left
  ·simp only [Act.put,zdI,zds0,zds1,i64_w,i32_w]
   rfl
  refine pure_ (i := 7) (N := some 48) (v := ?_) (a' := ?_) zd8 rfl rfl (any_of HT_.out (by kernel_rfl)) (fun _ _ _ h => h) (Or.inl ⟨by rfl,?_⟩) ?_ ?_
  rotate_left
  ·intro w'
   go_simp
   with_reducible rfl
  rotate_left
  ·simp only [Act.put,zdI,zds0,zds1,i64_w,i32_w]
   rfl
  refine one_ (i := 8) (N := some 49) zd9 rfl rfl (one_of HT_.out (by kernel_rfl)) (by decide) (fun K hK => ?_)
  refine goes_ Try.func29 (by kernel_rfl) rfl #[.agg #[.slice Ab l.length cb,.int .i64 (v),.int .i64 (s),.int .i64 (n)],.slice Ao p.length co] (by rfl) rfl rfl (by simp only [List.map_toArray,List.map_cons,List.map_nil]; rfl) ?_
  with_reducible refine (lodgerref15_Begin.calls 61 Ab cb l v s n Ao co p b1 b2 b3 b4 b5 _ (Kd.C_below HCb.out HB.out) Hcb.out (Kd.C_below HCp.out HB.out) Hcp.out ((begin_is HRT.out p HP20.out).2.trans (congrArg some HK.out.symm))).mono ?_
  rintro e wk6 ⟨v0,rfl,hv,hb⟩
  obtain ⟨Bx,dx,hv0,_,_⟩ := Kd.R_reads hv
  subst hv0
  refine ⟨_,rfl,?_⟩
  have q9 := Aside0.mk (Kd.R_lower hv (below_size HB.out))
  replace HXa := Aside0.mk (blk_below HXa.out hb)
  replace HXb := Aside0.mk (blk_below HXb.out hb)
  replace HXo := Aside0.mk (blk_below HXo.out hb)
  replace HX6 := Aside0.mk (blk_below HX6.out hb)
  replace HX7 := Aside0.mk (blk_below HX7.out hb)
  replace HX9 := Aside0.mk (blk_below HX9.out hb)
  replace HXx := Aside0.mk (blk_below HXx.out hb)
  replace HV9 := Aside0.mk (Kd.R_below HV9.out hb)
  replace HVx := Aside0.mk (Kd.R_below HVx.out hb)
  replace HB := Aside0.mk (below_step HB.out hb)
  clear hb hv HVx
  have HVx := q9
  clear q9
  refine hK.out _ _ ⟨((blk_cell HXb.out 0).trans rfl),((blk_cell HXb.out 1).trans rfl),((blk_cell HXb.out 2).trans rfl),((blk_cell HXb.out 3).trans rfl),((blk_cell HXo.out 3).trans rfl)⟩ (fun hHeld => ?_)
  clear hK K
  refine norm_ (a' := ?_) ?_ ?_
  rotate_left
  ·show Act.put _ (some 49) _ = _
   simp only [Act.put,zdI,zds0,zds1,i64_w,i32_w]
   rfl
  refine pure_ (i := 9) (N := some 40) (v := ?_) (a' := ?_) zd10 rfl rfl (any_of HT_.out (by kernel_rfl)) (fun _ _ _ h => h) (Or.inl ⟨by rfl,?_⟩) ?_ ?_
  rotate_left
  ·intro w'
   go_simp
   with_reducible rfl
  rotate_left
  ·simp only [Act.put,zdI,zds0,zds1,i64_w,i32_w]
   rfl
  refine pure_ (i := 10) (N := some 50) (v := ?_) (a' := ?_) zd11 rfl rfl (any_of HT_.out (by kernel_rfl)) (fun _ _ _ h => h) (Or.inl ⟨by rfl,?_⟩) ?_ ?_
  rotate_left
  ·intro w'
   go_simp
   with_reducible rfl
  rotate_left
  ·simp only [Act.put,zdI,zds0,zds1,i64_w,i32_w]
   rfl
  refine pure_ (i := 11) (N := some 51) (v := ?_) (a' := ?_) zd12 rfl rfl (any_of HT_.out (by kernel_rfl)) (fun _ _ _ h => h) (Or.inl ⟨by rfl,?_⟩) ?_ ?_
  rotate_left
  ·intro w'
   go_simp
   with_reducible rfl
  rotate_left
  ·simp only [Act.put,zdI,zds0,zds1,i64_w,i32_w]
   rfl
  refine one_ (i := 12) (N := none) zd13 rfl rfl (one_of HT_.out (by kernel_rfl)) (by decide) (fun K hK => ?_)
  have z_0 : wk6.cell? ⟨gx,0,none⟩ = some (.slice Ax r1.length cx) := (blk_cell HXx.out 0).trans rfl
  have z_1 : wk6.cell? ⟨gx,1,none⟩ = some (.int .i64 (r2)) := (blk_cell HXx.out 1).trans rfl
  have z_2 : wk6.cell? ⟨gx,2,none⟩ = some (.int .i64 (r3)) := (blk_cell HXx.out 2).trans rfl
  have z_3 : wk6.cell? ⟨gx,3,none⟩ = some (.int .i64 (r4)) := (blk_cell HXx.out 3).trans rfl
  have zf_0 := blk_frozen HXx.out 0
  have zf_1 := blk_frozen HXx.out 1
  have zf_2 := blk_frozen HXx.out 2
  have zf_3 := blk_frozen HXx.out 3
  refine skip_ (w1 := ?_) (by rfl) rfl ?_ ?_
  rotate_left
  ·go_simp
   rfl
  clear z_0 z_1 z_2 z_3 zf_0 zf_1 zf_2 zf_3
  obtain ⟨W11,hW⟩ : ∃ W_,W_ = ((((wk6.setCell ⟨gx,0,none⟩ (.slice Bx b1.length dx)).setCell ⟨gx,1,none⟩ (.int .i64 (b2))).setCell ⟨gx,2,none⟩ (.int .i64 (b3))).setCell ⟨gx,3,none⟩ (.int .i64 (b4))) := ⟨_,rfl⟩
  rw [← hW]
  replace HXa := Aside0.mk (far4 hW HXa.out Nax.out)
  replace HXb := Aside0.mk (far4 hW HXb.out Nbx.out)
  replace HXo := Aside0.mk (far4 hW HXo.out Nox.out)
  replace HX6 := Aside0.mk (far4 hW HX6.out N6x.out)
  replace HX7 := Aside0.mk (far4 hW HX7.out N7x.out)
  replace HX9 := Aside0.mk (far4 hW HX9.out N9x.out)
  replace HV9 := Aside0.mk (rset4 hW HXx.out HV9.out (by decide))
  replace HVx := Aside0.mk (rset4 hW HXx.out HVx.out (by decide))
  replace HXx := Aside0.mk (set4 hW HXx.out)
  replace HB := Aside0.mk (below4 hW HB.out HGx.out)
  clear hW
  refine hK.out _ _ ⟨((blk_cell HXb.out 0).trans rfl),((blk_cell HXb.out 1).trans rfl),((blk_cell HXb.out 2).trans rfl),((blk_cell HXb.out 3).trans rfl),((blk_cell HXo.out 3).trans rfl)⟩ (fun hHeld => ?_)
  clear hK K
  refine pure_ (i := 13) (N := some 12) (v := ?_) (a' := ?_) zd14 rfl rfl (any_of HT_.out (by kernel_rfl)) (fun _ _ _ h => h) (Or.inl ⟨by rfl,?_⟩) ?_ ?_
  rotate_left
  ·intro w'
   go_simp
   with_reducible rfl
  rotate_left
  ·simp only [Act.put,zdI,zds0,zds1,i64_w,i32_w]
   rfl
  refine done_ (done_of HT_.out (by kernel_rfl)) ?_
  clear HT_ HW_ hHeld
  clear hcut hm_
  have HLEN : Aside0 (b1.length ≤ 20) := ⟨begin_len HP20.out HK.out⟩
  go_wp2_with fail
  refine start_ (n := 10) (S := fun w' => w'.cell? ⟨g9,0,none⟩ = some (.slice B9 b1.length d9) ∧ w'.cell? ⟨g9,1,none⟩ = some (.int .i64 (b2)) ∧ w'.cell? ⟨g9,2,none⟩ = some (.int .i64 (b3)) ∧ w'.cell? ⟨g9,3,none⟩ = some (.int .i64 (b4)) ∧ w'.cell? ⟨gx,0,none⟩ = some (.slice Bx b1.length dx) ∧ w'.cell? ⟨gx,1,none⟩ = some (.int .i64 (b2)) ∧ w'.cell? ⟨gx,2,none⟩ = some (.int .i64 (b3)) ∧ w'.cell? ⟨gx,3,none⟩ = some (.int .i64 (b4))) (ds := []) zd15 (by kernel_rfl) rfl rfl ⟨((blk_cell (blk_drew HX9.out) 0).trans rfl),((blk_cell (blk_drew HX9.out) 1).trans rfl),((blk_cell (blk_drew HX9.out) 2).trans rfl),((blk_cell (blk_drew HX9.out) 3).trans rfl),((blk_cell (blk_drew HXx.out) 0).trans rfl),((blk_cell (blk_drew HXx.out) 1).trans rfl),((blk_cell (blk_drew HXx.out) 2).trans rfl),((blk_cell (blk_drew HXx.out) 3).trans rfl)⟩ (fun hHeld => ?_)
  refine with_tabW lodgerlaw15_do.tab13 lodgerlaw15_do.bits13 (fun HT_ HW_ => ?_)
  replace HXa := Aside0.mk (blk_drew HXa.out)
  replace HXb := Aside0.mk (blk_drew HXb.out)
  replace HXo := Aside0.mk (blk_drew HXo.out)
  replace HX6 := Aside0.mk (blk_drew HX6.out)
  replace HX7 := Aside0.mk (blk_drew HX7.out)
  replace HX9 := Aside0.mk (blk_drew HX9.out)
  replace HXx := Aside0.mk (blk_drew HXx.out)
  replace HV9 := Aside0.mk (Kd.R_drew HV9.out)
  replace HVx := Aside0.mk (Kd.R_drew HVx.out)
  replace HB := Aside0.mk (below_drew HB.out)
  generalize W11.drew = wd13 at *
  refine pure_ (i := 0) (N := some 84) (v := ?_) (a' := ?_) zd16 rfl rfl (any_of HT_.out (by kernel_rfl)) (fun _ _ _ h => h) (Or.inl ⟨by rfl,?_⟩) ?_ ?_
  rotate_left
  ·intro w'
   go_simp
   with_reducible rfl
  rotate_left
  ·simp only [Act.put,zdI,zds0,zds1,i64_w,i32_w]
   rfl
  refine pure_ (i := 1) (N := some 85) (v := ?_) (a' := ?_) zd17 rfl rfl (any_of HT_.out (by kernel_rfl)) (fun _ _ _ h => h) (Or.inl ⟨by rfl,?_⟩) ?_ ?_
  rotate_left
  ·intro w'
   go_simp
   with_reducible rfl
  rotate_left
  ·simp only [Act.put,zdI,zds0,zds1,i64_w,i32_w]
   rfl
  refine pure_ (i := 2) (N := some 86) (v := ?_) (a' := ?_) zd18 rfl rfl (any_of HT_.out (by kernel_rfl)) (fun _ _ _ h => h) (Or.inl ⟨by rfl,?_⟩) ?_ ?_
  rotate_left
  ·intro w'
   go_simp
   with_reducible rfl
  rotate_left
  ·simp only [Act.put,zdI,zds0,zds1,i64_w,i32_w]
   rfl
  refine pure_ (i := 3) (N := some 87) (v := ?_) (a' := ?_) zd19 rfl rfl (any_of HT_.out (by kernel_rfl)) (fun _ _ _ h => h) (Or.inl ⟨by rfl,?_⟩) ?_ ?_
  rotate_left
  ·intro w'
   go_simp
   with_reducible rfl
  rotate_left
  ·simp only [Act.put,zdI,zds0,zds1,i64_w,i32_w]
   rfl
  refine take_ (i := 4) (N := some 88) (v := ?_) (a' := ?_) zd20 rfl rfl (take_ofW HT_.out HW_.out (by kernel_rfl)) (fun _ _ _ h => h) (Or.inl ⟨by rfl,?_⟩) hHeld ?_ ?_
  rotate_left
  ·rintro w' ⟨s0,s1,s2,s3,s4,s5,s6,s7⟩
   go_simp
   with_reducible rfl
  rotate_left
  ·simp only [Act.put,zdI,zds0,zds1,i64_w,i32_w]
   rfl
  refine take_ (i := 6) (N := some 90) (v := ?_) (a' := ?_) zd21 rfl rfl (take_ofW HT_.out HW_.out (by kernel_rfl)) (fun _ _ _ h => h) (Or.inl ⟨by rfl,?_⟩) hHeld ?_ ?_
  rotate_left
  ·rintro w' ⟨s0,s1,s2,s3,s4,s5,s6,s7⟩
   go_simp
   with_reducible rfl
  rotate_left
  ·simp only [Act.put,zdI,zds0,zds1,i64_w,i32_w]
   rfl
  refine one_ (i := 5) (N := some 89) zd22 rfl rfl (one_of HT_.out (by kernel_rfl)) (by decide) (fun K hK => ?_)
  refine goes_ Try.func21 (by kernel_rfl) rfl #[.agg #[.slice B9 b1.length d9,.int .i64 (b2),.int .i64 (b3),.int .i64 (b4)]] (by rfl) rfl rfl (by simp only [List.map_toArray,List.map_cons,List.map_nil]; rfl) ?_
  with_reducible refine (lodgerlaw15_Ref.calls B9 d9 b1 b2 b3 b4 _).mono ?_
  rintro e wa ⟨rfl,hb⟩
  refine ⟨_,rfl,?_⟩
  replace HXa := Aside0.mk (blk_below HXa.out hb)
  replace HXb := Aside0.mk (blk_below HXb.out hb)
  replace HXo := Aside0.mk (blk_below HXo.out hb)
  replace HX6 := Aside0.mk (blk_below HX6.out hb)
  replace HX7 := Aside0.mk (blk_below HX7.out hb)
  replace HX9 := Aside0.mk (blk_below HX9.out hb)
  replace HXx := Aside0.mk (blk_below HXx.out hb)
  replace HV9 := Aside0.mk (Kd.R_below HV9.out hb)
  replace HVx := Aside0.mk (Kd.R_below HVx.out hb)
  replace HB := Aside0.mk (below_step HB.out hb)
  clear hb
  refine hK.out _ _ ⟨((blk_cell HX9.out 0).trans rfl),((blk_cell HX9.out 1).trans rfl),((blk_cell HX9.out 2).trans rfl),((blk_cell HX9.out 3).trans rfl),((blk_cell HXx.out 0).trans rfl),((blk_cell HXx.out 1).trans rfl),((blk_cell HXx.out 2).trans rfl),((blk_cell HXx.out 3).trans rfl)⟩ (fun hHeld => ?_)
  clear hK K
  refine norm_ (a' := ?_) ?_ ?_
  rotate_left
  ·show Act.put _ (some 89) _ = _
   simp only [Act.put,zdI,zds0,zds1,i64_w,i32_w]
   rfl
  refine one_ (i := 7) (N := some 91) zd23 rfl rfl (one_of HT_.out (by kernel_rfl)) (by decide) (fun K hK => ?_)
  refine goes_ Try.func26 (by kernel_rfl) rfl #[.agg #[.slice B9 b1.length d9,.int .i64 (b2),.int .i64 (b3),.int .i64 (b4)],.agg #[.slice Bx b1.length dx,.int .i64 (b2),.int .i64 (b3),.int .i64 (b4)]] (by rfl) rfl rfl (by simp only [List.map_toArray,List.map_cons,List.map_nil]; rfl) ?_
  with_reducible refine (lodgerref15_Same.calls 61 B9 d9 b1 b2 b3 b4 Bx dx b1 b2 b3 b4 true _ (Kd.R_reads' HV9.out).2.2 (Kd.R_reads' HV9.out).2.1 (Kd.R_reads' HVx.out).2.2 (Kd.R_reads' HVx.out).2.1 (same_is b1 b2 b3 b4 HLEN.out 61 (by omega))).mono ?_
  rintro e wb ⟨rfl,hb⟩
  refine ⟨_,rfl,?_⟩
  replace HXa := Aside0.mk (blk_below HXa.out hb)
  replace HXb := Aside0.mk (blk_below HXb.out hb)
  replace HXo := Aside0.mk (blk_below HXo.out hb)
  replace HX6 := Aside0.mk (blk_below HX6.out hb)
  replace HX7 := Aside0.mk (blk_below HX7.out hb)
  replace HX9 := Aside0.mk (blk_below HX9.out hb)
  replace HXx := Aside0.mk (blk_below HXx.out hb)
  replace HV9 := Aside0.mk (Kd.R_below HV9.out hb)
  replace HVx := Aside0.mk (Kd.R_below HVx.out hb)
  replace HB := Aside0.mk (below_step HB.out hb)
  clear hb
  refine hK.out _ _ ⟨((blk_cell HX9.out 0).trans rfl),((blk_cell HX9.out 1).trans rfl),((blk_cell HX9.out 2).trans rfl),((blk_cell HX9.out 3).trans rfl),((blk_cell HXx.out 0).trans rfl),((blk_cell HXx.out 1).trans rfl),((blk_cell HXx.out 2).trans rfl),((blk_cell HXx.out 3).trans rfl)⟩ (fun hHeld => ?_)
  clear hK K
  refine norm_ (a' := ?_) ?_ ?_
  rotate_left
  ·show Act.put _ (some 91) _ = _
   simp only [Act.put,zdI,zds0,zds1,i64_w,i32_w]
   rfl
  refine pure_ (i := 8) (N := some 92) (v := ?_) (a' := ?_) zd24 rfl rfl (any_of HT_.out (by kernel_rfl)) (fun _ _ _ h => h) (Or.inl ⟨by rfl,?_⟩) ?_ ?_
  rotate_left
  ·intro w'
   go_simp
   with_reducible rfl
  rotate_left
  ·simp only [Act.put,zdI,zds0,zds1,i64_w,i32_w]
   rfl
  refine pure_ (i := 9) (N := some 93) (v := ?_) (a' := ?_) zd25 rfl rfl (any_of HT_.out (by kernel_rfl)) (fun _ _ _ h => h) (Or.inl ⟨by rfl,?_⟩) ?_ ?_
  rotate_left
  ·intro w'
   go_simp
   with_reducible rfl
  rotate_left
  ·simp only [Act.put,zdI,zds0,zds1,i64_w,i32_w]
   rfl
  refine done_ (done_of HT_.out (by kernel_rfl)) ?_
  clear HT_ HW_ hHeld
  by_cases h5 : b5 = 0
  ·subst h5
   go_wp2_with fail
   refine start_ (n := 5) (S := fun w' => w'.cell? ⟨g9,0,none⟩ = some (.slice B9 b1.length d9) ∧ w'.cell? ⟨g9,1,none⟩ = some (.int .i64 (b2)) ∧ w'.cell? ⟨g9,2,none⟩ = some (.int .i64 (b3)) ∧ w'.cell? ⟨g9,3,none⟩ = some (.int .i64 (b4)) ∧ w'.cell? ⟨gx,0,none⟩ = some (.slice Bx b1.length dx) ∧ w'.cell? ⟨gx,1,none⟩ = some (.int .i64 (b2)) ∧ w'.cell? ⟨gx,2,none⟩ = some (.int .i64 (b3)) ∧ w'.cell? ⟨gx,3,none⟩ = some (.int .i64 (b4))) (ds := []) zd26 (by kernel_rfl) rfl rfl ⟨((blk_cell (blk_drew HX9.out) 0).trans rfl),((blk_cell (blk_drew HX9.out) 1).trans rfl),((blk_cell (blk_drew HX9.out) 2).trans rfl),((blk_cell (blk_drew HX9.out) 3).trans rfl),((blk_cell (blk_drew HXx.out) 0).trans rfl),((blk_cell (blk_drew HXx.out) 1).trans rfl),((blk_cell (blk_drew HXx.out) 2).trans rfl),((blk_cell (blk_drew HXx.out) 3).trans rfl)⟩ (fun hHeld => ?_)
   refine with_tabW lodgerlaw15_do.tab17 lodgerlaw15_do.bits17 (fun HT_ HW_ => ?_)
   replace HXa := Aside0.mk (blk_drew HXa.out)
   replace HXb := Aside0.mk (blk_drew HXb.out)
   replace HXo := Aside0.mk (blk_drew HXo.out)
   replace HX6 := Aside0.mk (blk_drew HX6.out)
   replace HX7 := Aside0.mk (blk_drew HX7.out)
   replace HX9 := Aside0.mk (blk_drew HX9.out)
   replace HXx := Aside0.mk (blk_drew HXx.out)
   replace HV9 := Aside0.mk (Kd.R_drew HV9.out)
   replace HVx := Aside0.mk (Kd.R_drew HVx.out)
   replace HB := Aside0.mk (below_drew HB.out)
   generalize wb.drew = wd14 at *
   refine take_ (i := 0) (N := some 100) (v := ?_) (a' := ?_) zd27 rfl rfl (take_ofW HT_.out HW_.out (by kernel_rfl)) (fun _ _ _ h => h) (Or.inl ⟨by rfl,?_⟩) hHeld ?_ ?_
   rotate_left
   ·rintro w' ⟨s0,s1,s2,s3,s4,s5,s6,s7⟩
    go_simp
    with_reducible rfl
   rotate_left
   ·simp only [Act.put,zdI,zds0,zds1,i64_w,i32_w]
    rfl
   refine take_ (i := 1) (N := some 101) (v := ?_) (a' := ?_) zd28 rfl rfl (take_ofW HT_.out HW_.out (by kernel_rfl)) (fun _ _ _ h => h) (Or.inl ⟨by rfl,?_⟩) hHeld ?_ ?_
   rotate_left
   ·rintro w' ⟨s0,s1,s2,s3,s4,s5,s6,s7⟩
    go_simp
    with_reducible rfl
   rotate_left
   ·simp only [Act.put,zdI,zds0,zds1,i64_w,i32_w]
    rfl
   refine one_ (i := 2) (N := none) zd29 rfl rfl (one_of HT_.out (by kernel_rfl)) (by decide) (fun K hK => ?_)
   have z_0 : wd14.cell? ⟨g6,0,none⟩ = some (.slice none 0 0) := (blk_cell HX6.out 0).trans rfl
   have z_1 : wd14.cell? ⟨g6,1,none⟩ = some (.int .i64 0) := (blk_cell HX6.out 1).trans rfl
   have z_2 : wd14.cell? ⟨g6,2,none⟩ = some (.int .i64 0) := (blk_cell HX6.out 2).trans rfl
   have z_3 : wd14.cell? ⟨g6,3,none⟩ = some (.int .i64 0) := (blk_cell HX6.out 3).trans rfl
   have zf_0 := blk_frozen HX6.out 0
   have zf_1 := blk_frozen HX6.out 1
   have zf_2 := blk_frozen HX6.out 2
   have zf_3 := blk_frozen HX6.out 3
   refine skip_ (w1 := ?_) (by rfl) rfl ?_ ?_
   rotate_left
   ·go_simp
    rfl
   clear z_0 z_1 z_2 z_3 zf_0 zf_1 zf_2 zf_3
   obtain ⟨wd15,hW⟩ : ∃ W_,W_ = ((((wd14.setCell ⟨g6,0,none⟩ (.slice B9 b1.length d9)).setCell ⟨g6,1,none⟩ (.int .i64 (b2))).setCell ⟨g6,2,none⟩ (.int .i64 (b3))).setCell ⟨g6,3,none⟩ (.int .i64 (b4))) := ⟨_,rfl⟩
   rw [← hW]
   replace HXa := Aside0.mk (far4 hW HXa.out Na6.out)
   replace HXb := Aside0.mk (far4 hW HXb.out Nb6.out)
   replace HXo := Aside0.mk (far4 hW HXo.out No6.out)
   replace HX7 := Aside0.mk (far4 hW HX7.out N76.out)
   replace HX9 := Aside0.mk (far4 hW HX9.out N96.out)
   replace HXx := Aside0.mk (far4 hW HXx.out Nx6.out)
   replace HV9 := Aside0.mk (rset4 hW HX6.out HV9.out (by decide))
   replace HVx := Aside0.mk (rset4 hW HX6.out HVx.out (by decide))
   replace HX6 := Aside0.mk (set4 hW HX6.out)
   replace HB := Aside0.mk (below4 hW HB.out HG6.out)
   clear hW
   refine hK.out _ _ ⟨((blk_cell HX9.out 0).trans rfl),((blk_cell HX9.out 1).trans rfl),((blk_cell HX9.out 2).trans rfl),((blk_cell HX9.out 3).trans rfl),((blk_cell HXx.out 0).trans rfl),((blk_cell HXx.out 1).trans rfl),((blk_cell HXx.out 2).trans rfl),((blk_cell HXx.out 3).trans rfl)⟩ (fun hHeld => ?_)
   clear hK K
   refine one_ (i := 3) (N := none) zd30 rfl rfl (one_of HT_.out (by kernel_rfl)) (by decide) (fun K hK => ?_)
   have z_0 : wd15.cell? ⟨g7,0,none⟩ = some (.slice none 0 0) := (blk_cell HX7.out 0).trans rfl
   have z_1 : wd15.cell? ⟨g7,1,none⟩ = some (.int .i64 0) := (blk_cell HX7.out 1).trans rfl
   have z_2 : wd15.cell? ⟨g7,2,none⟩ = some (.int .i64 0) := (blk_cell HX7.out 2).trans rfl
   have z_3 : wd15.cell? ⟨g7,3,none⟩ = some (.int .i64 0) := (blk_cell HX7.out 3).trans rfl
   have zf_0 := blk_frozen HX7.out 0
   have zf_1 := blk_frozen HX7.out 1
   have zf_2 := blk_frozen HX7.out 2
   have zf_3 := blk_frozen HX7.out 3
   refine skip_ (w1 := ?_) (by rfl) rfl ?_ ?_
   rotate_left
   ·go_simp
    rfl
   clear z_0 z_1 z_2 z_3 zf_0 zf_1 zf_2 zf_3
   obtain ⟨wd16,hW⟩ : ∃ W_,W_ = ((((wd15.setCell ⟨g7,0,none⟩ (.slice Bx b1.length dx)).setCell ⟨g7,1,none⟩ (.int .i64 (b2))).setCell ⟨g7,2,none⟩ (.int .i64 (b3))).setCell ⟨g7,3,none⟩ (.int .i64 (b4))) := ⟨_,rfl⟩
   rw [← hW]
   replace HXa := Aside0.mk (far4 hW HXa.out Na7.out)
   replace HXb := Aside0.mk (far4 hW HXb.out Nb7.out)
   replace HXo := Aside0.mk (far4 hW HXo.out No7.out)
   replace HX6 := Aside0.mk (far4 hW HX6.out N67.out)
   replace HX9 := Aside0.mk (far4 hW HX9.out N97.out)
   replace HXx := Aside0.mk (far4 hW HXx.out Nx7.out)
   replace HV9 := Aside0.mk (rset4 hW HX7.out HV9.out (by decide))
   replace HVx := Aside0.mk (rset4 hW HX7.out HVx.out (by decide))
   replace HX7 := Aside0.mk (set4 hW HX7.out)
   replace HB := Aside0.mk (below4 hW HB.out HG7.out)
   clear hW
   refine hK.out _ _ ⟨((blk_cell HX9.out 0).trans rfl),((blk_cell HX9.out 1).trans rfl),((blk_cell HX9.out 2).trans rfl),((blk_cell HX9.out 3).trans rfl),((blk_cell HXx.out 0).trans rfl),((blk_cell HXx.out 1).trans rfl),((blk_cell HXx.out 2).trans rfl),((blk_cell HXx.out 3).trans rfl)⟩ (fun hHeld => ?_)
   clear hK K
   refine pure_ (i := 4) (N := some 8) (v := ?_) (a' := ?_) zd31 rfl rfl (any_of HT_.out (by kernel_rfl)) (fun _ _ _ h => h) (Or.inl ⟨by rfl,?_⟩) ?_ ?_
   rotate_left
   ·intro w'
    go_simp
    with_reducible rfl
   rotate_left
   ·simp only [Act.put,zdI,zds0,zds1,i64_w,i32_w]
    rfl
   refine done_ (done_of HT_.out (by kernel_rfl)) ?_
   clear HT_ HW_ hHeld
   go_wp2
   refine bodyPost_ret (results_list rfl (by simp) (.cell g6 25 _ (0,0) _ rfl HX6.out Try.underlying25 rfl (by kernel_rfl) (.cell g7 27 _ (0,0) _ rfl HX7.out Try.underlying27 rfl (by kernel_rfl) (.tmp .nil)))) rfl ?_
   exact ⟨.inr ⟨b1,b2,b3,b4,_,_,rfl,begin_rt HK.out rfl,HV9.out,HVx.out⟩,HB.out⟩
  ·have h5b : (b5 != 0) = true := bne_iff_ne.mpr h5
   clear h5
   go_wp2_with fail
   refine start_ (n := 5) (S := fun w' => w'.cell? ⟨ga,0,none⟩ = some (.slice Aa l.length ca) ∧ w'.cell? ⟨ga,1,none⟩ = some (.int .i64 (v)) ∧ w'.cell? ⟨ga,2,none⟩ = some (.int .i64 (s)) ∧ w'.cell? ⟨ga,3,none⟩ = some (.int .i64 (n)) ∧ w'.cell? ⟨gb,0,none⟩ = some (.slice Ab l.length cb) ∧ w'.cell? ⟨gb,1,none⟩ = some (.int .i64 (v)) ∧ w'.cell? ⟨gb,2,none⟩ = some (.int .i64 (s)) ∧ w'.cell? ⟨gb,3,none⟩ = some (.int .i64 (n))) (ds := []) zd26 (by kernel_rfl) rfl rfl ⟨((blk_cell (blk_drew HXa.out) 0).trans rfl),((blk_cell (blk_drew HXa.out) 1).trans rfl),((blk_cell (blk_drew HXa.out) 2).trans rfl),((blk_cell (blk_drew HXa.out) 3).trans rfl),((blk_cell (blk_drew HXb.out) 0).trans rfl),((blk_cell (blk_drew HXb.out) 1).trans rfl),((blk_cell (blk_drew HXb.out) 2).trans rfl),((blk_cell (blk_drew HXb.out) 3).trans rfl)⟩ (fun hHeld => ?_)
   refine with_tabW lodgerlaw15_do.tab16 lodgerlaw15_do.bits16 (fun HT_ HW_ => ?_)
   replace HXa := Aside0.mk (blk_drew HXa.out)
   replace HXb := Aside0.mk (blk_drew HXb.out)
   replace HXo := Aside0.mk (blk_drew HXo.out)
   replace HX6 := Aside0.mk (blk_drew HX6.out)
   replace HX7 := Aside0.mk (blk_drew HX7.out)
   replace HX9 := Aside0.mk (blk_drew HX9.out)
   replace HXx := Aside0.mk (blk_drew HXx.out)
   replace HV9 := Aside0.mk (Kd.R_drew HV9.out)
   replace HVx := Aside0.mk (Kd.R_drew HVx.out)
   replace HB := Aside0.mk (below_drew HB.out)
   generalize wb.drew = wd14 at *
   refine take_ (i := 0) (N := some 98) (v := ?_) (a' := ?_) zd27 rfl rfl (take_ofW HT_.out HW_.out (by kernel_rfl)) (fun _ _ _ h => h) (Or.inl ⟨by rfl,?_⟩) hHeld ?_ ?_
   rotate_left
   ·rintro w' ⟨s0,s1,s2,s3,s4,s5,s6,s7⟩
    go_simp
    with_reducible rfl
   rotate_left
   ·simp only [Act.put,zdI,zds0,zds1,i64_w,i32_w]
    rfl
   refine take_ (i := 1) (N := some 99) (v := ?_) (a' := ?_) zd28 rfl rfl (take_ofW HT_.out HW_.out (by kernel_rfl)) (fun _ _ _ h => h) (Or.inl ⟨by rfl,?_⟩) hHeld ?_ ?_
   rotate_left
   ·rintro w' ⟨s0,s1,s2,s3,s4,s5,s6,s7⟩
    go_simp
    with_reducible rfl
   rotate_left
   ·simp only [Act.put,zdI,zds0,zds1,i64_w,i32_w]
    rfl
   refine one_ (i := 2) (N := none) zd29 rfl rfl (one_of HT_.out (by kernel_rfl)) (by decide) (fun K hK => ?_)
   have z_0 : wd14.cell? ⟨g6,0,none⟩ = some (.slice none 0 0) := (blk_cell HX6.out 0).trans rfl
   have z_1 : wd14.cell? ⟨g6,1,none⟩ = some (.int .i64 0) := (blk_cell HX6.out 1).trans rfl
   have z_2 : wd14.cell? ⟨g6,2,none⟩ = some (.int .i64 0) := (blk_cell HX6.out 2).trans rfl
   have z_3 : wd14.cell? ⟨g6,3,none⟩ = some (.int .i64 0) := (blk_cell HX6.out 3).trans rfl
   have zf_0 := blk_frozen HX6.out 0
   have zf_1 := blk_frozen HX6.out 1
   have zf_2 := blk_frozen HX6.out 2
   have zf_3 := blk_frozen HX6.out 3
   refine skip_ (w1 := ?_) (by rfl) rfl ?_ ?_
   rotate_left
   ·go_simp
    rfl
   clear z_0 z_1 z_2 z_3 zf_0 zf_1 zf_2 zf_3
   obtain ⟨wd15,hW⟩ : ∃ W_,W_ = ((((wd14.setCell ⟨g6,0,none⟩ (.slice Aa l.length ca)).setCell ⟨g6,1,none⟩ (.int .i64 (v))).setCell ⟨g6,2,none⟩ (.int .i64 (s))).setCell ⟨g6,3,none⟩ (.int .i64 (n))) := ⟨_,rfl⟩
   rw [← hW]
   replace HXa := Aside0.mk (far4 hW HXa.out Na6.out)
   replace HXb := Aside0.mk (far4 hW HXb.out Nb6.out)
   replace HXo := Aside0.mk (far4 hW HXo.out No6.out)
   replace HX7 := Aside0.mk (far4 hW HX7.out N76.out)
   replace HX9 := Aside0.mk (far4 hW HX9.out N96.out)
   replace HXx := Aside0.mk (far4 hW HXx.out Nx6.out)
   replace HV9 := Aside0.mk (rset4 hW HX6.out HV9.out (by decide))
   replace HVx := Aside0.mk (rset4 hW HX6.out HVx.out (by decide))
   replace HX6 := Aside0.mk (set4 hW HX6.out)
   replace HB := Aside0.mk (below4 hW HB.out HG6.out)
   clear hW
   refine hK.out _ _ ⟨((blk_cell HXa.out 0).trans rfl),((blk_cell HXa.out 1).trans rfl),((blk_cell HXa.out 2).trans rfl),((blk_cell HXa.out 3).trans rfl),((blk_cell HXb.out 0).trans rfl),((blk_cell HXb.out 1).trans rfl),((blk_cell HXb.out 2).trans rfl),((blk_cell HXb.out 3).trans rfl)⟩ (fun hHeld => ?_)
   clear hK K
   refine one_ (i := 3) (N := none) zd30 rfl rfl (one_of HT_.out (by kernel_rfl)) (by decide) (fun K hK => ?_)
   have z_0 : wd15.cell? ⟨g7,0,none⟩ = some (.slice none 0 0) := (blk_cell HX7.out 0).trans rfl
   have z_1 : wd15.cell? ⟨g7,1,none⟩ = some (.int .i64 0) := (blk_cell HX7.out 1).trans rfl
   have z_2 : wd15.cell? ⟨g7,2,none⟩ = some (.int .i64 0) := (blk_cell HX7.out 2).trans rfl
   have z_3 : wd15.cell? ⟨g7,3,none⟩ = some (.int .i64 0) := (blk_cell HX7.out 3).trans rfl
   have zf_0 := blk_frozen HX7.out 0
   have zf_1 := blk_frozen HX7.out 1
   have zf_2 := blk_frozen HX7.out 2
   have zf_3 := blk_frozen HX7.out 3
   refine skip_ (w1 := ?_) (by rfl) rfl ?_ ?_
   rotate_left
   ·go_simp
    rfl
   clear z_0 z_1 z_2 z_3 zf_0 zf_1 zf_2 zf_3
   obtain ⟨wd16,hW⟩ : ∃ W_,W_ = ((((wd15.setCell ⟨g7,0,none⟩ (.slice Ab l.length cb)).setCell ⟨g7,1,none⟩ (.int .i64 (v))).setCell ⟨g7,2,none⟩ (.int .i64 (s))).setCell ⟨g7,3,none⟩ (.int .i64 (n))) := ⟨_,rfl⟩
   rw [← hW]
   replace HXa := Aside0.mk (far4 hW HXa.out Na7.out)
   replace HXb := Aside0.mk (far4 hW HXb.out Nb7.out)
   replace HXo := Aside0.mk (far4 hW HXo.out No7.out)
   replace HX6 := Aside0.mk (far4 hW HX6.out N67.out)
   replace HX9 := Aside0.mk (far4 hW HX9.out N97.out)
   replace HXx := Aside0.mk (far4 hW HXx.out Nx7.out)
   replace HV9 := Aside0.mk (rset4 hW HX7.out HV9.out (by decide))
   replace HVx := Aside0.mk (rset4 hW HX7.out HVx.out (by decide))
   replace HX7 := Aside0.mk (set4 hW HX7.out)
   replace HB := Aside0.mk (below4 hW HB.out HG7.out)
   clear hW
   refine hK.out _ _ ⟨((blk_cell HXa.out 0).trans rfl),((blk_cell HXa.out 1).trans rfl),((blk_cell HXa.out 2).trans rfl),((blk_cell HXa.out 3).trans rfl),((blk_cell HXb.out 0).trans rfl),((blk_cell HXb.out 1).trans rfl),((blk_cell HXb.out 2).trans rfl),((blk_cell HXb.out 3).trans rfl)⟩ (fun hHeld => ?_)
   clear hK K
   refine pure_ (i := 4) (N := some 8) (v := ?_) (a' := ?_) zd31 rfl rfl (any_of HT_.out (by kernel_rfl)) (fun _ _ _ h => h) (Or.inl ⟨by rfl,?_⟩) ?_ ?_
   rotate_left
   ·intro w'
    go_simp
    with_reducible rfl
   rotate_left
   ·simp only [Act.put,zdI,zds0,zds1,i64_w,i32_w]
    rfl
   refine done_ (done_of HT_.out (by kernel_rfl)) ?_
   clear HT_ HW_ hHeld
   go_wp2
   refine bodyPost_ret (results_list rfl (by simp) (.cell g6 25 _ (0,0) _ rfl HX6.out Try.underlying25 rfl (by kernel_rfl) (.cell g7 27 _ (0,0) _ rfl HX7.out Try.underlying27 rfl (by kernel_rfl) (.tmp .nil)))) rfl ?_
   exact ⟨.inl rfl,HB.out⟩
 ·by_cases h1 : kk = 1
  ·have k0 : (kk == 0) = false := beq_eq_false_iff_ne.mpr h0
   have k1 : (kk == 1) = true := beq_iff_eq.mpr h1
   clear h0 h1
   obtain ⟨⟨b1,b2,b3,b4,b5⟩,hb_⟩ : ∃ R : Res,R = takeR l v seg nn := ⟨_,rfl⟩
   have HK := Aside0.mk hb_
   clear hb_
   have c_0 : W7.cell? ⟨ga,0,none⟩ = some (.slice Aa l.length ca) := (blk_cell HXa.out 0).trans rfl
   have c_1 : W7.cell? ⟨ga,1,none⟩ = some (.int .i64 (v)) := (blk_cell HXa.out 1).trans rfl
   have c_2 : W7.cell? ⟨ga,2,none⟩ = some (.int .i64 (s)) := (blk_cell HXa.out 2).trans rfl
   have c_3 : W7.cell? ⟨ga,3,none⟩ = some (.int .i64 (n)) := (blk_cell HXa.out 3).trans rfl
   have d_0 : W7.cell? ⟨go,0,none⟩ = some (.int .i64 (kind)) := (blk_cell HXo.out 0).trans rfl
   have d_1 : W7.cell? ⟨go,1,none⟩ = some (.int .i64 (seg)) := (blk_cell HXo.out 1).trans rfl
   have d_2 : W7.cell? ⟨go,2,none⟩ = some (.int .i64 (nn)) := (blk_cell HXo.out 2).trans rfl
   have d_3 : W7.cell? ⟨go,3,none⟩ = some (.slice Ao q.length co) := (blk_cell HXo.out 3).trans rfl
   go_wp2_with fail
   clear c_0 c_1 c_2 c_3 d_0 d_1 d_2 d_3
   refine (sweep_Take.calls 61 Aa ca l v s n seg nn b1 b2 b3 b4 b5 _ (Kd.C_below HCa.out HB.out) Hca.out ((take_is HRT.out seg nn).1.trans (congrArg some HK.out.symm))).mono ?_
   rintro e w8 ⟨v0,rfl,hv,hb⟩
   obtain ⟨B9,d9,hv0,_,_⟩ := Kd.R_reads hv
   subst hv0
   have q9 := Aside0.mk (Kd.R_lower hv (below_size HB.out))
   replace HXa := Aside0.mk (blk_below HXa.out hb)
   replace HXb := Aside0.mk (blk_below HXb.out hb)
   replace HXo := Aside0.mk (blk_below HXo.out hb)
   replace HX6 := Aside0.mk (blk_below HX6.out hb)
   replace HX7 := Aside0.mk (blk_below HX7.out hb)
   replace HX9 := Aside0.mk (blk_below HX9.out hb)
   replace HXx := Aside0.mk (blk_below HXx.out hb)
   replace HV9 := Aside0.mk (Kd.R_below HV9.out hb)
   replace HVx := Aside0.mk (Kd.R_below HVx.out hb)
   replace HB := Aside0.mk (below_step HB.out hb)
   clear hb hv HV9
   have HV9 := q9
   clear q9
   have c_0 : w8.cell? ⟨g9,0,none⟩ = some (.slice A9 r1.length c9) := (blk_cell HX9.out 0).trans rfl
   have c_1 : w8.cell? ⟨g9,1,none⟩ = some (.int .i64 (r2)) := (blk_cell HX9.out 1).trans rfl
   have c_2 : w8.cell? ⟨g9,2,none⟩ = some (.int .i64 (r3)) := (blk_cell HX9.out 2).trans rfl
   have c_3 : w8.cell? ⟨g9,3,none⟩ = some (.int .i64 (r4)) := (blk_cell HX9.out 3).trans rfl
   have cf_0 := blk_frozen HX9.out 0
   have cf_1 := blk_frozen HX9.out 1
   have cf_2 := blk_frozen HX9.out 2
   have cf_3 := blk_frozen HX9.out 3
   go_upto_region 9 with fail
   clear c_0 c_1 c_2 c_3 cf_0 cf_1 cf_2 cf_3
   obtain ⟨W9,hW⟩ : ∃ W_,W_ = ((((w8.setCell ⟨g9,0,none⟩ (.slice B9 b1.length d9)).setCell ⟨g9,1,none⟩ (.int .i64 (b2))).setCell ⟨g9,2,none⟩ (.int .i64 (b3))).setCell ⟨g9,3,none⟩ (.int .i64 (b4))) := ⟨_,rfl⟩
   rw [← hW]
   replace HXa := Aside0.mk (far4 hW HXa.out Na9.out)
   replace HXb := Aside0.mk (far4 hW HXb.out Nb9.out)
   replace HXo := Aside0.mk (far4 hW HXo.out No9.out)
   replace HX6 := Aside0.mk (far4 hW HX6.out N69.out)
   replace HX7 := Aside0.mk (far4 hW HX7.out N79.out)
   replace HXx := Aside0.mk (far4 hW HXx.out Nx9.out)
   replace HV9 := Aside0.mk (rset4 hW HX9.out HV9.out (by decide))
   replace HVx := Aside0.mk (rset4 hW HX9.out HVx.out (by decide))
   replace HX9 := Aside0.mk (set4 hW HX9.out)
   replace HB := Aside0.mk (below4 hW HB.out HG9.out)
   clear hW
   have c_0 : W9.cell? ⟨gb,0,none⟩ = some (.slice Ab l.length cb) := (blk_cell HXb.out 0).trans rfl
   have c_1 : W9.cell? ⟨gb,1,none⟩ = some (.int .i64 (v)) := (blk_cell HXb.out 1).trans rfl
   have c_2 : W9.cell? ⟨gb,2,none⟩ = some (.int .i64 (s)) := (blk_cell HXb.out 2).trans rfl
   have c_3 : W9.cell? ⟨gb,3,none⟩ = some (.int .i64 (n)) := (blk_cell HXb.out 3).trans rfl
   have d_0 : W9.cell? ⟨go,0,none⟩ = some (.int .i64 (kind)) := (blk_cell HXo.out 0).trans rfl
   have d_1 : W9.cell? ⟨go,1,none⟩ = some (.int .i64 (seg)) := (blk_cell HXo.out 1).trans rfl
   have d_2 : W9.cell? ⟨go,2,none⟩ = some (.int .i64 (nn)) := (blk_cell HXo.out 2).trans rfl
   have d_3 : W9.cell? ⟨go,3,none⟩ = some (.slice Ao q.length co) := (blk_cell HXo.out 3).trans rfl
   go_wp2_with fail
   clear c_0 c_1 c_2 c_3 d_0 d_1 d_2 d_3
   refine (lodgerref15_Take.calls 61 Ab cb l v s n seg nn b1 b2 b3 b4 b5 _ (Kd.C_below HCb.out HB.out) Hcb.out ((take_is HRT.out seg nn).2.trans (congrArg some HK.out.symm))).mono ?_
   rintro e w10 ⟨v0,rfl,hv,hb⟩
   obtain ⟨Bx,dx,hv0,_,_⟩ := Kd.R_reads hv
   subst hv0
   have q9 := Aside0.mk (Kd.R_lower hv (below_size HB.out))
   replace HXa := Aside0.mk (blk_below HXa.out hb)
   replace HXb := Aside0.mk (blk_below HXb.out hb)
   replace HXo := Aside0.mk (blk_below HXo.out hb)
   replace HX6 := Aside0.mk (blk_below HX6.out hb)
   replace HX7 := Aside0.mk (blk_below HX7.out hb)
   replace HX9 := Aside0.mk (blk_below HX9.out hb)
   replace HXx := Aside0.mk (blk_below HXx.out hb)
   replace HV9 := Aside0.mk (Kd.R_below HV9.out hb)
   replace HVx := Aside0.mk (Kd.R_below HVx.out hb)
   replace HB := Aside0.mk (below_step HB.out hb)
   clear hb hv HVx
   have HVx := q9
   clear q9
   have c_0 : w10.cell? ⟨gx,0,none⟩ = some (.slice Ax r1.length cx) := (blk_cell HXx.out 0).trans rfl
   have c_1 : w10.cell? ⟨gx,1,none⟩ = some (.int .i64 (r2)) := (blk_cell HXx.out 1).trans rfl
   have c_2 : w10.cell? ⟨gx,2,none⟩ = some (.int .i64 (r3)) := (blk_cell HXx.out 2).trans rfl
   have c_3 : w10.cell? ⟨gx,3,none⟩ = some (.int .i64 (r4)) := (blk_cell HXx.out 3).trans rfl
   have cf_0 := blk_frozen HXx.out 0
   have cf_1 := blk_frozen HXx.out 1
   have cf_2 := blk_frozen HXx.out 2
   have cf_3 := blk_frozen HXx.out 3
   go_upto_region 13 with fail
   clear c_0 c_1 c_2 c_3 cf_0 cf_1 cf_2 cf_3
   obtain ⟨W11,hW⟩ : ∃ W_,W_ = ((((w10.setCell ⟨gx,0,none⟩ (.slice Bx b1.length dx)).setCell ⟨gx,1,none⟩ (.int .i64 (b2))).setCell ⟨gx,2,none⟩ (.int .i64 (b3))).setCell ⟨gx,3,none⟩ (.int .i64 (b4))) := ⟨_,rfl⟩
   rw [← hW]
   replace HXa := Aside0.mk (far4 hW HXa.out Nax.out)
   replace HXb := Aside0.mk (far4 hW HXb.out Nbx.out)
   replace HXo := Aside0.mk (far4 hW HXo.out Nox.out)
   replace HX6 := Aside0.mk (far4 hW HX6.out N6x.out)
   replace HX7 := Aside0.mk (far4 hW HX7.out N7x.out)
   replace HX9 := Aside0.mk (far4 hW HX9.out N9x.out)
   replace HV9 := Aside0.mk (rset4 hW HXx.out HV9.out (by decide))
   replace HVx := Aside0.mk (rset4 hW HXx.out HVx.out (by decide))
   replace HXx := Aside0.mk (set4 hW HXx.out)
   replace HB := Aside0.mk (below4 hW HB.out HGx.out)
   clear hW
   have HLEN : Aside0 (b1.length ≤ 20) := ⟨take_len HRT.out HK.out⟩
   go_wp2_with fail
   refine start_ (n := 10) (S := fun w' => w'.cell? ⟨g9,0,none⟩ = some (.slice B9 b1.length d9) ∧ w'.cell? ⟨g9,1,none⟩ = some (.int .i64 (b2)) ∧ w'.cell? ⟨g9,2,none⟩ = some (.int .i64 (b3)) ∧ w'.cell? ⟨g9,3,none⟩ = some (.int .i64 (b4)) ∧ w'.cell? ⟨gx,0,none⟩ = some (.slice Bx b1.length dx) ∧ w'.cell? ⟨gx,1,none⟩ = some (.int .i64 (b2)) ∧ w'.cell? ⟨gx,2,none⟩ = some (.int .i64 (b3)) ∧ w'.cell? ⟨gx,3,none⟩ = some (.int .i64 (b4))) (ds := []) zd15 (by kernel_rfl) rfl rfl ⟨((blk_cell (blk_drew HX9.out) 0).trans rfl),((blk_cell (blk_drew HX9.out) 1).trans rfl),((blk_cell (blk_drew HX9.out) 2).trans rfl),((blk_cell (blk_drew HX9.out) 3).trans rfl),((blk_cell (blk_drew HXx.out) 0).trans rfl),((blk_cell (blk_drew HXx.out) 1).trans rfl),((blk_cell (blk_drew HXx.out) 2).trans rfl),((blk_cell (blk_drew HXx.out) 3).trans rfl)⟩ (fun hHeld => ?_)
   refine with_tabW lodgerlaw15_do.tab13 lodgerlaw15_do.bits13 (fun HT_ HW_ => ?_)
   replace HXa := Aside0.mk (blk_drew HXa.out)
   replace HXb := Aside0.mk (blk_drew HXb.out)
   replace HXo := Aside0.mk (blk_drew HXo.out)
   replace HX6 := Aside0.mk (blk_drew HX6.out)
   replace HX7 := Aside0.mk (blk_drew HX7.out)
   replace HX9 := Aside0.mk (blk_drew HX9.out)
   replace HXx := Aside0.mk (blk_drew HXx.out)
   replace HV9 := Aside0.mk (Kd.R_drew HV9.out)
   replace HVx := Aside0.mk (Kd.R_drew HVx.out)
   replace HB := Aside0.mk (below_drew HB.out)
   generalize W11.drew = wd13 at *
   refine pure_ (i := 0) (N := some 84) (v := ?_) (a' := ?_) zd16 rfl rfl (any_of HT_.out (by kernel_rfl)) (fun _ _ _ h => h) (Or.inl ⟨by rfl,?_⟩) ?_ ?_
   rotate_left
   ·intro w'
    go_simp
    with_reducible rfl
   rotate_left
   ·simp only [Act.put,zdI,zds0,zds1,i64_w,i32_w]
    rfl
   refine pure_ (i := 1) (N := some 85) (v := ?_) (a' := ?_) zd17 rfl rfl (any_of HT_.out (by kernel_rfl)) (fun _ _ _ h => h) (Or.inl ⟨by rfl,?_⟩) ?_ ?_
   rotate_left
   ·intro w'
    go_simp
    with_reducible rfl
   rotate_left
   ·simp only [Act.put,zdI,zds0,zds1,i64_w,i32_w]
    rfl
   refine pure_ (i := 2) (N := some 86) (v := ?_) (a' := ?_) zd18 rfl rfl (any_of HT_.out (by kernel_rfl)) (fun _ _ _ h => h) (Or.inl ⟨by rfl,?_⟩) ?_ ?_
   rotate_left
   ·intro w'
    go_simp
    with_reducible rfl
   rotate_left
   ·simp only [Act.put,zdI,zds0,zds1,i64_w,i32_w]
    rfl
   refine pure_ (i := 3) (N := some 87) (v := ?_) (a' := ?_) zd19 rfl rfl (any_of HT_.out (by kernel_rfl)) (fun _ _ _ h => h) (Or.inl ⟨by rfl,?_⟩) ?_ ?_
   rotate_left
   ·intro w'
    go_simp
    with_reducible rfl
   rotate_left
   ·simp only [Act.put,zdI,zds0,zds1,i64_w,i32_w]
    rfl
   refine take_ (i := 4) (N := some 88) (v := ?_) (a' := ?_) zd20 rfl rfl (take_ofW HT_.out HW_.out (by kernel_rfl)) (fun _ _ _ h => h) (Or.inl ⟨by rfl,?_⟩) hHeld ?_ ?_
   rotate_left
   ·rintro w' ⟨s0,s1,s2,s3,s4,s5,s6,s7⟩
    go_simp
    with_reducible rfl
   rotate_left
   ·simp only [Act.put,zdI,zds0,zds1,i64_w,i32_w]
    rfl
   refine take_ (i := 6) (N := some 90) (v := ?_) (a' := ?_) zd21 rfl rfl (take_ofW HT_.out HW_.out (by kernel_rfl)) (fun _ _ _ h => h) (Or.inl ⟨by rfl,?_⟩) hHeld ?_ ?_
   rotate_left
   ·rintro w' ⟨s0,s1,s2,s3,s4,s5,s6,s7⟩
    go_simp
    with_reducible rfl
   rotate_left
   ·simp only [Act.put,zdI,zds0,zds1,i64_w,i32_w]
    rfl
   refine one_ (i := 5) (N := some 89) zd22 rfl rfl (one_of HT_.out (by kernel_rfl)) (by decide) (fun K hK => ?_)
   refine goes_ Try.func21 (by kernel_rfl) rfl #[.agg #[.slice B9 b1.length d9,.int .i64 (b2),.int .i64 (b3),.int .i64 (b4)]] (by rfl) rfl rfl (by simp only [List.map_toArray,List.map_cons,List.map_nil]; rfl) ?_
   with_reducible refine (lodgerlaw15_Ref.calls B9 d9 b1 b2 b3 b4 _).mono ?_
   rintro e wa ⟨rfl,hb⟩
   refine ⟨_,rfl,?_⟩
   replace HXa := Aside0.mk (blk_below HXa.out hb)
   replace HXb := Aside0.mk (blk_below HXb.out hb)
   replace HXo := Aside0.mk (blk_below HXo.out hb)
   replace HX6 := Aside0.mk (blk_below HX6.out hb)
   replace HX7 := Aside0.mk (blk_below HX7.out hb)
   replace HX9 := Aside0.mk (blk_below HX9.out hb)
   replace HXx := Aside0.mk (blk_below HXx.out hb)
   replace HV9 := Aside0.mk (Kd.R_below HV9.out hb)
   replace HVx := Aside0.mk (Kd.R_below HVx.out hb)
   replace HB := Aside0.mk (below_step HB.out hb)
   clear hb
   refine hK.out _ _ ⟨((blk_cell HX9.out 0).trans rfl),((blk_cell HX9.out 1).trans rfl),((blk_cell HX9.out 2).trans rfl),((blk_cell HX9.out 3).trans rfl),((blk_cell HXx.out 0).trans rfl),((blk_cell HXx.out 1).trans rfl),((blk_cell HXx.out 2).trans rfl),((blk_cell HXx.out 3).trans rfl)⟩ (fun hHeld => ?_)
   clear hK K
   refine norm_ (a' := ?_) ?_ ?_
   rotate_left
   ·show Act.put _ (some 89) _ = _
    simp only [Act.put,zdI,zds0,zds1,i64_w,i32_w]
    rfl
   refine one_ (i := 7) (N := some 91) zd23 rfl rfl (one_of HT_.out (by kernel_rfl)) (by decide) (fun K hK => ?_)
   refine goes_ Try.func26 (by kernel_rfl) rfl #[.agg #[.slice B9 b1.length d9,.int .i64 (b2),.int .i64 (b3),.int .i64 (b4)],.agg #[.slice Bx b1.length dx,.int .i64 (b2),.int .i64 (b3),.int .i64 (b4)]] (by rfl) rfl rfl (by simp only [List.map_toArray,List.map_cons,List.map_nil]; rfl) ?_
   with_reducible refine (lodgerref15_Same.calls 61 B9 d9 b1 b2 b3 b4 Bx dx b1 b2 b3 b4 true _ (Kd.R_reads' HV9.out).2.2 (Kd.R_reads' HV9.out).2.1 (Kd.R_reads' HVx.out).2.2 (Kd.R_reads' HVx.out).2.1 (same_is b1 b2 b3 b4 HLEN.out 61 (by omega))).mono ?_
   rintro e wb ⟨rfl,hb⟩
   refine ⟨_,rfl,?_⟩
   replace HXa := Aside0.mk (blk_below HXa.out hb)
   replace HXb := Aside0.mk (blk_below HXb.out hb)
   replace HXo := Aside0.mk (blk_below HXo.out hb)
   replace HX6 := Aside0.mk (blk_below HX6.out hb)
   replace HX7 := Aside0.mk (blk_below HX7.out hb)
   replace HX9 := Aside0.mk (blk_below HX9.out hb)
   replace HXx := Aside0.mk (blk_below HXx.out hb)
   replace HV9 := Aside0.mk (Kd.R_below HV9.out hb)
   replace HVx := Aside0.mk (Kd.R_below HVx.out hb)
   replace HB := Aside0.mk (below_step HB.out hb)
   clear hb
   refine hK.out _ _ ⟨((blk_cell HX9.out 0).trans rfl),((blk_cell HX9.out 1).trans rfl),((blk_cell HX9.out 2).trans rfl),((blk_cell HX9.out 3).trans rfl),((blk_cell HXx.out 0).trans rfl),((blk_cell HXx.out 1).trans rfl),((blk_cell HXx.out 2).trans rfl),((blk_cell HXx.out 3).trans rfl)⟩ (fun hHeld => ?_)
   clear hK K
   refine norm_ (a' := ?_) ?_ ?_
   rotate_left
   ·show Act.put _ (some 91) _ = _
    simp only [Act.put,zdI,zds0,zds1,i64_w,i32_w]
    rfl
   refine pure_ (i := 8) (N := some 92) (v := ?_) (a' := ?_) zd24 rfl rfl (any_of HT_.out (by kernel_rfl)) (fun _ _ _ h => h) (Or.inl ⟨by rfl,?_⟩) ?_ ?_
   rotate_left
   ·intro w'
    go_simp
    with_reducible rfl
   rotate_left
   ·simp only [Act.put,zdI,zds0,zds1,i64_w,i32_w]
    rfl
   refine pure_ (i := 9) (N := some 93) (v := ?_) (a' := ?_) zd25 rfl rfl (any_of HT_.out (by kernel_rfl)) (fun _ _ _ h => h) (Or.inl ⟨by rfl,?_⟩) ?_ ?_
   rotate_left
   ·intro w'
    go_simp
    with_reducible rfl
   rotate_left
   ·simp only [Act.put,zdI,zds0,zds1,i64_w,i32_w]
    rfl
   refine done_ (done_of HT_.out (by kernel_rfl)) ?_
   clear HT_ HW_ hHeld
   by_cases h5 : b5 = 0
   ·subst h5
    go_wp2_with fail
    refine start_ (n := 5) (S := fun w' => w'.cell? ⟨g9,0,none⟩ = some (.slice B9 b1.length d9) ∧ w'.cell? ⟨g9,1,none⟩ = some (.int .i64 (b2)) ∧ w'.cell? ⟨g9,2,none⟩ = some (.int .i64 (b3)) ∧ w'.cell? ⟨g9,3,none⟩ = some (.int .i64 (b4)) ∧ w'.cell? ⟨gx,0,none⟩ = some (.slice Bx b1.length dx) ∧ w'.cell? ⟨gx,1,none⟩ = some (.int .i64 (b2)) ∧ w'.cell? ⟨gx,2,none⟩ = some (.int .i64 (b3)) ∧ w'.cell? ⟨gx,3,none⟩ = some (.int .i64 (b4))) (ds := []) zd26 (by kernel_rfl) rfl rfl ⟨((blk_cell (blk_drew HX9.out) 0).trans rfl),((blk_cell (blk_drew HX9.out) 1).trans rfl),((blk_cell (blk_drew HX9.out) 2).trans rfl),((blk_cell (blk_drew HX9.out) 3).trans rfl),((blk_cell (blk_drew HXx.out) 0).trans rfl),((blk_cell (blk_drew HXx.out) 1).trans rfl),((blk_cell (blk_drew HXx.out) 2).trans rfl),((blk_cell (blk_drew HXx.out) 3).trans rfl)⟩ (fun hHeld => ?_)
    refine with_tabW lodgerlaw15_do.tab17 lodgerlaw15_do.bits17 (fun HT_ HW_ => ?_)
    replace HXa := Aside0.mk (blk_drew HXa.out)
    replace HXb := Aside0.mk (blk_drew HXb.out)
    replace HXo := Aside0.mk (blk_drew HXo.out)
    replace HX6 := Aside0.mk (blk_drew HX6.out)
    replace HX7 := Aside0.mk (blk_drew HX7.out)
    replace HX9 := Aside0.mk (blk_drew HX9.out)
    replace HXx := Aside0.mk (blk_drew HXx.out)
    replace HV9 := Aside0.mk (Kd.R_drew HV9.out)
    replace HVx := Aside0.mk (Kd.R_drew HVx.out)
    replace HB := Aside0.mk (below_drew HB.out)
    generalize wb.drew = wd14 at *
    refine take_ (i := 0) (N := some 100) (v := ?_) (a' := ?_) zd27 rfl rfl (take_ofW HT_.out HW_.out (by kernel_rfl)) (fun _ _ _ h => h) (Or.inl ⟨by rfl,?_⟩) hHeld ?_ ?_
    rotate_left
    ·rintro w' ⟨s0,s1,s2,s3,s4,s5,s6,s7⟩
     go_simp
     with_reducible rfl
    rotate_left
    ·simp only [Act.put,zdI,zds0,zds1,i64_w,i32_w]
     rfl
    refine take_ (i := 1) (N := some 101) (v := ?_) (a' := ?_) zd28 rfl rfl (take_ofW HT_.out HW_.out (by kernel_rfl)) (fun _ _ _ h => h) (Or.inl ⟨by rfl,?_⟩) hHeld ?_ ?_
    rotate_left
    ·rintro w' ⟨s0,s1,s2,s3,s4,s5,s6,s7⟩
     go_simp
     with_reducible rfl
    rotate_left
    ·simp only [Act.put,zdI,zds0,zds1,i64_w,i32_w]
     rfl
    refine one_ (i := 2) (N := none) zd29 rfl rfl (one_of HT_.out (by kernel_rfl)) (by decide) (fun K hK => ?_)
    have z_0 : wd14.cell? ⟨g6,0,none⟩ = some (.slice none 0 0) := (blk_cell HX6.out 0).trans rfl
    have z_1 : wd14.cell? ⟨g6,1,none⟩ = some (.int .i64 0) := (blk_cell HX6.out 1).trans rfl
    have z_2 : wd14.cell? ⟨g6,2,none⟩ = some (.int .i64 0) := (blk_cell HX6.out 2).trans rfl
    have z_3 : wd14.cell? ⟨g6,3,none⟩ = some (.int .i64 0) := (blk_cell HX6.out 3).trans rfl
    have zf_0 := blk_frozen HX6.out 0
    have zf_1 := blk_frozen HX6.out 1
    have zf_2 := blk_frozen HX6.out 2
    have zf_3 := blk_frozen HX6.out 3
    refine skip_ (w1 := ?_) (by rfl) rfl ?_ ?_
    rotate_left
    ·go_simp
     rfl
    clear z_0 z_1 z_2 z_3 zf_0 zf_1 zf_2 zf_3
    obtain ⟨wd15,hW⟩ : ∃ W_,W_ = ((((wd14.setCell ⟨g6,0,none⟩ (.slice B9 b1.length d9)).setCell ⟨g6,1,none⟩ (.int .i64 (b2))).setCell ⟨g6,2,none⟩ (.int .i64 (b3))).setCell ⟨g6,3,none⟩ (.int .i64 (b4))) := ⟨_,rfl⟩
    rw [← hW]
    replace HXa := Aside0.mk (far4 hW HXa.out Na6.out)
    replace HXb := Aside0.mk (far4 hW HXb.out Nb6.out)
    replace HXo := Aside0.mk (far4 hW HXo.out No6.out)
    replace HX7 := Aside0.mk (far4 hW HX7.out N76.out)
    replace HX9 := Aside0.mk (far4 hW HX9.out N96.out)
    replace HXx := Aside0.mk (far4 hW HXx.out Nx6.out)
    replace HV9 := Aside0.mk (rset4 hW HX6.out HV9.out (by decide))
    replace HVx := Aside0.mk (rset4 hW HX6.out HVx.out (by decide))
    replace HX6 := Aside0.mk (set4 hW HX6.out)
    replace HB := Aside0.mk (below4 hW HB.out HG6.out)
    clear hW
    refine hK.out _ _ ⟨((blk_cell HX9.out 0).trans rfl),((blk_cell HX9.out 1).trans rfl),((blk_cell HX9.out 2).trans rfl),((blk_cell HX9.out 3).trans rfl),((blk_cell HXx.out 0).trans rfl),((blk_cell HXx.out 1).trans rfl),((blk_cell HXx.out 2).trans rfl),((blk_cell HXx.out 3).trans rfl)⟩ (fun hHeld => ?_)
    clear hK K
    refine one_ (i := 3) (N := none) zd30 rfl rfl (one_of HT_.out (by kernel_rfl)) (by decide) (fun K hK => ?_)
    have z_0 : wd15.cell? ⟨g7,0,none⟩ = some (.slice none 0 0) := (blk_cell HX7.out 0).trans rfl
    have z_1 : wd15.cell? ⟨g7,1,none⟩ = some (.int .i64 0) := (blk_cell HX7.out 1).trans rfl
    have z_2 : wd15.cell? ⟨g7,2,none⟩ = some (.int .i64 0) := (blk_cell HX7.out 2).trans rfl
    have z_3 : wd15.cell? ⟨g7,3,none⟩ = some (.int .i64 0) := (blk_cell HX7.out 3).trans rfl
    have zf_0 := blk_frozen HX7.out 0
    have zf_1 := blk_frozen HX7.out 1
    have zf_2 := blk_frozen HX7.out 2
    have zf_3 := blk_frozen HX7.out 3
    refine skip_ (w1 := ?_) (by rfl) rfl ?_ ?_
    rotate_left
    ·go_simp
     rfl
    clear z_0 z_1 z_2 z_3 zf_0 zf_1 zf_2 zf_3
    obtain ⟨wd16,hW⟩ : ∃ W_,W_ = ((((wd15.setCell ⟨g7,0,none⟩ (.slice Bx b1.length dx)).setCell ⟨g7,1,none⟩ (.int .i64 (b2))).setCell ⟨g7,2,none⟩ (.int .i64 (b3))).setCell ⟨g7,3,none⟩ (.int .i64 (b4))) := ⟨_,rfl⟩
    rw [← hW]
    replace HXa := Aside0.mk (far4 hW HXa.out Na7.out)
    replace HXb := Aside0.mk (far4 hW HXb.out Nb7.out)
    replace HXo := Aside0.mk (far4 hW HXo.out No7.out)
    replace HX6 := Aside0.mk (far4 hW HX6.out N67.out)
    replace HX9 := Aside0.mk (far4 hW HX9.out N97.out)
    replace HXx := Aside0.mk (far4 hW HXx.out Nx7.out)
    replace HV9 := Aside0.mk (rset4 hW HX7.out HV9.out (by decide))
    replace HVx := Aside0.mk (rset4 hW HX7.out HVx.out (by decide))
    replace HX7 := Aside0.mk (set4 hW HX7.out)
    replace HB := Aside0.mk (below4 hW HB.out HG7.out)
    clear hW
    refine hK.out _ _ ⟨((blk_cell HX9.out 0).trans rfl),((blk_cell HX9.out 1).trans rfl),((blk_cell HX9.out 2).trans rfl),((blk_cell HX9.out 3).trans rfl),((blk_cell HXx.out 0).trans rfl),((blk_cell HXx.out 1).trans rfl),((blk_cell HXx.out 2).trans rfl),((blk_cell HXx.out 3).trans rfl)⟩ (fun hHeld => ?_)
    clear hK K
    refine pure_ (i := 4) (N := some 8) (v := ?_) (a' := ?_) zd31 rfl rfl (any_of HT_.out (by kernel_rfl)) (fun _ _ _ h => h) (Or.inl ⟨by rfl,?_⟩) ?_ ?_
    rotate_left
    ·intro w'
     go_simp
     with_reducible rfl
    rotate_left
    ·simp only [Act.put,zdI,zds0,zds1,i64_w,i32_w]
     rfl
    refine done_ (done_of HT_.out (by kernel_rfl)) ?_
    clear HT_ HW_ hHeld
    go_wp2
    refine bodyPost_ret (results_list rfl (by simp) (.cell g6 25 _ (0,0) _ rfl HX6.out Try.underlying25 rfl (by kernel_rfl) (.cell g7 27 _ (0,0) _ rfl HX7.out Try.underlying27 rfl (by kernel_rfl) (.tmp .nil)))) rfl ?_
    exact ⟨.inr ⟨b1,b2,b3,b4,_,_,rfl,take_rt HRT.out HK.out rfl,HV9.out,HVx.out⟩,HB.out⟩
   ·have h5b : (b5 != 0) = true := bne_iff_ne.mpr h5
    clear h5
    go_wp2_with fail
    refine start_ (n := 5) (S := fun w' => w'.cell? ⟨ga,0,none⟩ = some (.slice Aa l.length ca) ∧ w'.cell? ⟨ga,1,none⟩ = some (.int .i64 (v)) ∧ w'.cell? ⟨ga,2,none⟩ = some (.int .i64 (s)) ∧ w'.cell? ⟨ga,3,none⟩ = some (.int .i64 (n)) ∧ w'.cell? ⟨gb,0,none⟩ = some (.slice Ab l.length cb) ∧ w'.cell? ⟨gb,1,none⟩ = some (.int .i64 (v)) ∧ w'.cell? ⟨gb,2,none⟩ = some (.int .i64 (s)) ∧ w'.cell? ⟨gb,3,none⟩ = some (.int .i64 (n))) (ds := []) zd26 (by kernel_rfl) rfl rfl ⟨((blk_cell (blk_drew HXa.out) 0).trans rfl),((blk_cell (blk_drew HXa.out) 1).trans rfl),((blk_cell (blk_drew HXa.out) 2).trans rfl),((blk_cell (blk_drew HXa.out) 3).trans rfl),((blk_cell (blk_drew HXb.out) 0).trans rfl),((blk_cell (blk_drew HXb.out) 1).trans rfl),((blk_cell (blk_drew HXb.out) 2).trans rfl),((blk_cell (blk_drew HXb.out) 3).trans rfl)⟩ (fun hHeld => ?_)
    refine with_tabW lodgerlaw15_do.tab16 lodgerlaw15_do.bits16 (fun HT_ HW_ => ?_)
    replace HXa := Aside0.mk (blk_drew HXa.out)
    replace HXb := Aside0.mk (blk_drew HXb.out)
    replace HXo := Aside0.mk (blk_drew HXo.out)
    replace HX6 := Aside0.mk (blk_drew HX6.out)
    replace HX7 := Aside0.mk (blk_drew HX7.out)
    replace HX9 := Aside0.mk (blk_drew HX9.out)
    replace HXx := Aside0.mk (blk_drew HXx.out)
    replace HV9 := Aside0.mk (Kd.R_drew HV9.out)
    replace HVx := Aside0.mk (Kd.R_drew HVx.out)
    replace HB := Aside0.mk (below_drew HB.out)
    generalize wb.drew = wd14 at *
    refine take_ (i := 0) (N := some 98) (v := ?_) (a' := ?_) zd27 rfl rfl (take_ofW HT_.out HW_.out (by kernel_rfl)) (fun _ _ _ h => h) (Or.inl ⟨by rfl,?_⟩) hHeld ?_ ?_
    rotate_left
    ·rintro w' ⟨s0,s1,s2,s3,s4,s5,s6,s7⟩
     go_simp
     with_reducible rfl
    rotate_left
    ·simp only [Act.put,zdI,zds0,zds1,i64_w,i32_w]
     rfl
    refine take_ (i := 1) (N := some 99) (v := ?_) (a' := ?_) zd28 rfl rfl (take_ofW HT_.out HW_.out (by kernel_rfl)) (fun _ _ _ h => h) (Or.inl ⟨by rfl,?_⟩) hHeld ?_ ?_
    rotate_left
    ·rintro w' ⟨s0,s1,s2,s3,s4,s5,s6,s7⟩
     go_simp
     with_reducible rfl
    rotate_left
    ·simp only [Act.put,zdI,zds0,zds1,i64_w,i32_w]
     rfl
    refine one_ (i := 2) (N := none) zd29 rfl rfl (one_of HT_.out (by kernel_rfl)) (by decide) (fun K hK => ?_)
    have z_0 : wd14.cell? ⟨g6,0,none⟩ = some (.slice none 0 0) := (blk_cell HX6.out 0).trans rfl
    have z_1 : wd14.cell? ⟨g6,1,none⟩ = some (.int .i64 0) := (blk_cell HX6.out 1).trans rfl
    have z_2 : wd14.cell? ⟨g6,2,none⟩ = some (.int .i64 0) := (blk_cell HX6.out 2).trans rfl
    have z_3 : wd14.cell? ⟨g6,3,none⟩ = some (.int .i64 0) := (blk_cell HX6.out 3).trans rfl
    have zf_0 := blk_frozen HX6.out 0
    have zf_1 := blk_frozen HX6.out 1
    have zf_2 := blk_frozen HX6.out 2
    have zf_3 := blk_frozen HX6.out 3
    refine skip_ (w1 := ?_) (by rfl) rfl ?_ ?_
    rotate_left
    ·go_simp
     rfl
    clear z_0 z_1 z_2 z_3 zf_0 zf_1 zf_2 zf_3
    obtain ⟨wd15,hW⟩ : ∃ W_,W_ = ((((wd14.setCell ⟨g6,0,none⟩ (.slice Aa l.length ca)).setCell ⟨g6,1,none⟩ (.int .i64 (v))).setCell ⟨g6,2,none⟩ (.int .i64 (s))).setCell ⟨g6,3,none⟩ (.int .i64 (n))) := ⟨_,rfl⟩
    rw [← hW]
    replace HXa := Aside0.mk (far4 hW HXa.out Na6.out)
    replace HXb := Aside0.mk (far4 hW HXb.out Nb6.out)
    replace HXo := Aside0.mk (far4 hW HXo.out No6.out)
    replace HX7 := Aside0.mk (far4 hW HX7.out N76.out)
    replace HX9 := Aside0.mk (far4 hW HX9.out N96.out)
    replace HXx := Aside0.mk (far4 hW HXx.out Nx6.out)
    replace HV9 := Aside0.mk (rset4 hW HX6.out HV9.out (by decide))
    replace HVx := Aside0.mk (rset4 hW HX6.out HVx.out (by decide))
    replace HX6 := Aside0.mk (set4 hW HX6.out)
    replace HB := Aside0.mk (below4 hW HB.out HG6.out)
    clear hW
    refine hK.out _ _ ⟨((blk_cell HXa.out 0).trans rfl),((blk_cell HXa.out 1).trans rfl),((blk_cell HXa.out 2).trans rfl),((blk_cell HXa.out 3).trans rfl),((blk_cell HXb.out 0).trans rfl),((blk_cell HXb.out 1).trans rfl),((blk_cell HXb.out 2).trans rfl),((blk_cell HXb.out 3).trans rfl)⟩ (fun hHeld => ?_)
    clear hK K
    refine one_ (i := 3) (N := none) zd30 rfl rfl (one_of HT_.out (by kernel_rfl)) (by decide) (fun K hK => ?_)
    have z_0 : wd15.cell? ⟨g7,0,none⟩ = some (.slice none 0 0) := (blk_cell HX7.out 0).trans rfl
    have z_1 : wd15.cell? ⟨g7,1,none⟩ = some (.int .i64 0) := (blk_cell HX7.out 1).trans rfl
    have z_2 : wd15.cell? ⟨g7,2,none⟩ = some (.int .i64 0) := (blk_cell HX7.out 2).trans rfl
    have z_3 : wd15.cell? ⟨g7,3,none⟩ = some (.int .i64 0) := (blk_cell HX7.out 3).trans rfl
    have zf_0 := blk_frozen HX7.out 0
    have zf_1 := blk_frozen HX7.out 1
    have zf_2 := blk_frozen HX7.out 2
    have zf_3 := blk_frozen HX7.out 3
    refine skip_ (w1 := ?_) (by rfl) rfl ?_ ?_
    rotate_left
    ·go_simp
     rfl
    clear z_0 z_1 z_2 z_3 zf_0 zf_1 zf_2 zf_3
    obtain ⟨wd16,hW⟩ : ∃ W_,W_ = ((((wd15.setCell ⟨g7,0,none⟩ (.slice Ab l.length cb)).setCell ⟨g7,1,none⟩ (.int .i64 (v))).setCell ⟨g7,2,none⟩ (.int .i64 (s))).setCell ⟨g7,3,none⟩ (.int .i64 (n))) := ⟨_,rfl⟩
    rw [← hW]
    replace HXa := Aside0.mk (far4 hW HXa.out Na7.out)
    replace HXb := Aside0.mk (far4 hW HXb.out Nb7.out)
    replace HXo := Aside0.mk (far4 hW HXo.out No7.out)
    replace HX6 := Aside0.mk (far4 hW HX6.out N67.out)
    replace HX9 := Aside0.mk (far4 hW HX9.out N97.out)
    replace HXx := Aside0.mk (far4 hW HXx.out Nx7.out)
    replace HV9 := Aside0.mk (rset4 hW HX7.out HV9.out (by decide))
    replace HVx := Aside0.mk (rset4 hW HX7.out HVx.out (by decide))
    replace HX7 := Aside0.mk (set4 hW HX7.out)
    replace HB := Aside0.mk (below4 hW HB.out HG7.out)
    clear hW
    refine hK.out _ _ ⟨((blk_cell HXa.out 0).trans rfl),((blk_cell HXa.out 1).trans rfl),((blk_cell HXa.out 2).trans rfl),((blk_cell HXa.out 3).trans rfl),((blk_cell HXb.out 0).trans rfl),((blk_cell HXb.out 1).trans rfl),((blk_cell HXb.out 2).trans rfl),((blk_cell HXb.out 3).trans rfl)⟩ (fun hHeld => ?_)
    clear hK K
    refine pure_ (i := 4) (N := some 8) (v := ?_) (a' := ?_) zd31 rfl rfl (any_of HT_.out (by kernel_rfl)) (fun _ _ _ h => h) (Or.inl ⟨by rfl,?_⟩) ?_ ?_
    rotate_left
    ·intro w'
     go_simp
     with_reducible rfl
    rotate_left
    ·simp only [Act.put,zdI,zds0,zds1,i64_w,i32_w]
     rfl
    refine done_ (done_of HT_.out (by kernel_rfl)) ?_
    clear HT_ HW_ hHeld
    go_wp2
    refine bodyPost_ret (results_list rfl (by simp) (.cell g6 25 _ (0,0) _ rfl HX6.out Try.underlying25 rfl (by kernel_rfl) (.cell g7 27 _ (0,0) _ rfl HX7.out Try.underlying27 rfl (by kernel_rfl) (.tmp .nil)))) rfl ?_
    exact ⟨.inl rfl,HB.out⟩
  ·by_cases h2 : kk = 2
   ·have k0 : (kk == 0) = false := beq_eq_false_iff_ne.mpr h0
    have k1 : (kk == 1) = false := beq_eq_false_iff_ne.mpr h1
    have k2 : (kk == 2) = true := beq_iff_eq.mpr h2
    clear h0 h1 h2
    obtain ⟨⟨b1,b2,b3,b4,b5⟩,hb_⟩ : ∃ R : Res,R = givenR l v s n := ⟨_,rfl⟩
    have HK := Aside0.mk hb_
    clear hb_
    have c_0 : W7.cell? ⟨ga,0,none⟩ = some (.slice Aa l.length ca) := (blk_cell HXa.out 0).trans rfl
    have c_1 : W7.cell? ⟨ga,1,none⟩ = some (.int .i64 (v)) := (blk_cell HXa.out 1).trans rfl
    have c_2 : W7.cell? ⟨ga,2,none⟩ = some (.int .i64 (s)) := (blk_cell HXa.out 2).trans rfl
    have c_3 : W7.cell? ⟨ga,3,none⟩ = some (.int .i64 (n)) := (blk_cell HXa.out 3).trans rfl
    have d_0 : W7.cell? ⟨go,0,none⟩ = some (.int .i64 (kind)) := (blk_cell HXo.out 0).trans rfl
    have d_1 : W7.cell? ⟨go,1,none⟩ = some (.int .i64 (seg)) := (blk_cell HXo.out 1).trans rfl
    have d_2 : W7.cell? ⟨go,2,none⟩ = some (.int .i64 (nn)) := (blk_cell HXo.out 2).trans rfl
    have d_3 : W7.cell? ⟨go,3,none⟩ = some (.slice Ao q.length co) := (blk_cell HXo.out 3).trans rfl
    go_wp2_with fail
    clear c_0 c_1 c_2 c_3 d_0 d_1 d_2 d_3
    refine (sweep_Given.calls 61 Aa ca l v s n b1 b2 b3 b4 b5 _ (Kd.C_below HCa.out HB.out) Hca.out ((given_is HRT.out).1.trans (congrArg some HK.out.symm))).mono ?_
    rintro e w8 ⟨v0,rfl,hv,hb⟩
    obtain ⟨B9,d9,hv0,_,_⟩ := Kd.R_reads hv
    subst hv0
    have q9 := Aside0.mk (Kd.R_lower hv (below_size HB.out))
    replace HXa := Aside0.mk (blk_below HXa.out hb)
    replace HXb := Aside0.mk (blk_below HXb.out hb)
    replace HXo := Aside0.mk (blk_below HXo.out hb)
    replace HX6 := Aside0.mk (blk_below HX6.out hb)
    replace HX7 := Aside0.mk (blk_below HX7.out hb)
    replace HX9 := Aside0.mk (blk_below HX9.out hb)
    replace HXx := Aside0.mk (blk_below HXx.out hb)
    replace HV9 := Aside0.mk (Kd.R_below HV9.out hb)
    replace HVx := Aside0.mk (Kd.R_below HVx.out hb)
    replace HB := Aside0.mk (below_step HB.out hb)
    clear hb hv HV9
    have HV9 := q9
    clear q9
    have c_0 : w8.cell? ⟨g9,0,none⟩ = some (.slice A9 r1.length c9) := (blk_cell HX9.out 0).trans rfl
    have c_1 : w8.cell? ⟨g9,1,none⟩ = some (.int .i64 (r2)) := (blk_cell HX9.out 1).trans rfl
    have c_2 : w8.cell? ⟨g9,2,none⟩ = some (.int .i64 (r3)) := (blk_cell HX9.out 2).trans rfl
    have c_3 : w8.cell? ⟨g9,3,none⟩ = some (.int .i64 (r4)) := (blk_cell HX9.out 3).trans rfl
    have cf_0 := blk_frozen HX9.out 0
    have cf_1 := blk_frozen HX9.out 1
    have cf_2 := blk_frozen HX9.out 2
    have cf_3 := blk_frozen HX9.out 3
    go_upto_region 12 with fail
    clear c_0 c_1 c_2 c_3 cf_0 cf_1 cf_2 cf_3
    obtain ⟨W9,hW⟩ : ∃ W_,W_ = ((((w8.setCell ⟨g9,0,none⟩ (.slice B9 b1.length d9)).setCell ⟨g9,1,none⟩ (.int .i64 (b2))).setCell ⟨g9,2,none⟩ (.int .i64 (b3))).setCell ⟨g9,3,none⟩ (.int .i64 (b4))) := ⟨_,rfl⟩
    rw [← hW]
    replace HXa := Aside0.mk (far4 hW HXa.out Na9.out)
    replace HXb := Aside0.mk (far4 hW HXb.out Nb9.out)
    replace HXo := Aside0.mk (far4 hW HXo.out No9.out)
    replace HX6 := Aside0.mk (far4 hW HX6.out N69.out)
    replace HX7 := Aside0.mk (far4 hW HX7.out N79.out)
    replace HXx := Aside0.mk (far4 hW HXx.out Nx9.out)
    replace HV9 := Aside0.mk (rset4 hW HX9.out HV9.out (by decide))
    replace HVx := Aside0.mk (rset4 hW HX9.out HVx.out (by decide))
    replace HX9 := Aside0.mk (set4 hW HX9.out)
    replace HB := Aside0.mk (below4 hW HB.out HG9.out)
    clear hW
    have c_0 : W9.cell? ⟨gb,0,none⟩ = some (.slice Ab l.length cb) := (blk_cell HXb.out 0).trans rfl
    have c_1 : W9.cell? ⟨gb,1,none⟩ = some (.int .i64 (v)) := (blk_cell HXb.out 1).trans rfl
    have c_2 : W9.cell? ⟨gb,2,none⟩ = some (.int .i64 (s)) := (blk_cell HXb.out 2).trans rfl
    have c_3 : W9.cell? ⟨gb,3,none⟩ = some (.int .i64 (n)) := (blk_cell HXb.out 3).trans rfl
    have d_0 : W9.cell? ⟨go,0,none⟩ = some (.int .i64 (kind)) := (blk_cell HXo.out 0).trans rfl
    have d_1 : W9.cell? ⟨go,1,none⟩ = some (.int .i64 (seg)) := (blk_cell HXo.out 1).trans rfl
    have d_2 : W9.cell? ⟨go,2,none⟩ = some (.int .i64 (nn)) := (blk_cell HXo.out 2).trans rfl
    have d_3 : W9.cell? ⟨go,3,none⟩ = some (.slice Ao q.length co) := (blk_cell HXo.out 3).trans rfl
    go_wp2_with fail
    clear c_0 c_1 c_2 c_3 d_0 d_1 d_2 d_3
    refine (lodgerref15_Given.calls 61 Ab cb l v s n b1 b2 b3 b4 b5 _ (Kd.C_below HCb.out HB.out) Hcb.out ((given_is HRT.out).2.trans (congrArg some HK.out.symm))).mono ?_
    rintro e w10 ⟨v0,rfl,hv,hb⟩
    obtain ⟨Bx,dx,hv0,_,_⟩ := Kd.R_reads hv
    subst hv0
    have q9 := Aside0.mk (Kd.R_lower hv (below_size HB.out))
    replace HXa := Aside0.mk (blk_below HXa.out hb)
    replace HXb := Aside0.mk (blk_below HXb.out hb)
    replace HXo := Aside0.mk (blk_below HXo.out hb)
    replace HX6 := Aside0.mk (blk_below HX6.out hb)
    replace HX7 := Aside0.mk (blk_below HX7.out hb)
    replace HX9 := Aside0.mk (blk_below HX9.out hb)
    replace HXx := Aside0.mk (blk_below HXx.out hb)
    replace HV9 := Aside0.mk (Kd.R_below HV9.out hb)
    replace HVx := Aside0.mk (Kd.R_below HVx.out hb)
    replace HB := Aside0.mk (below_step HB.out hb)
    clear hb hv HVx
    have HVx := q9
    clear q9
    have c_0 : w10.cell? ⟨gx,0,none⟩ = some (.slice Ax r1.length cx) := (blk_cell HXx.out 0).trans rfl
    have c_1 : w10.cell? ⟨gx,1,none⟩ = some (.int .i64 (r2)) := (blk_cell HXx.out 1).trans rfl
    have c_2 : w10.cell? ⟨gx,2,none⟩ = some (.int .i64 (r3)) := (blk_cell HXx.out 2).trans rfl
    have c_3 : w10.cell? ⟨gx,3,none⟩ = some (.int .i64 (r4)) := (blk_cell HXx.out 3).trans rfl
    have cf_0 := blk_frozen HXx.out 0
    have cf_1 := blk_frozen HXx.out 1
    have cf_2 := blk_frozen HXx.out 2
    have cf_3 := blk_frozen HXx.out 3
    go_upto_region 13 with fail
    clear c_0 c_1 c_2 c_3 cf_0 cf_1 cf_2 cf_3
    obtain ⟨W11,hW⟩ : ∃ W_,W_ = ((((w10.setCell ⟨gx,0,none⟩ (.slice Bx b1.length dx)).setCell ⟨gx,1,none⟩ (.int .i64 (b2))).setCell ⟨gx,2,none⟩ (.int .i64 (b3))).setCell ⟨gx,3,none⟩ (.int .i64 (b4))) := ⟨_,rfl⟩
    rw [← hW]
    replace HXa := Aside0.mk (far4 hW HXa.out Nax.out)
    replace HXb := Aside0.mk (far4 hW HXb.out Nbx.out)
    replace HXo := Aside0.mk (far4 hW HXo.out Nox.out)
    replace HX6 := Aside0.mk (far4 hW HX6.out N6x.out)
    replace HX7 := Aside0.mk (far4 hW HX7.out N7x.out)
    replace HX9 := Aside0.mk (far4 hW HX9.out N9x.out)
    replace HV9 := Aside0.mk (rset4 hW HXx.out HV9.out (by decide))
    replace HVx := Aside0.mk (rset4 hW HXx.out HVx.out (by decide))
    replace HXx := Aside0.mk (set4 hW HXx.out)
    replace HB := Aside0.mk (below4 hW HB.out HGx.out)
    clear hW
    have HLEN : Aside0 (b1.length ≤ 20) := ⟨given_len HRT.out HK.out⟩
    go_wp2_with fail
    refine start_ (n := 10) (S := fun w' => w'.cell? ⟨g9,0,none⟩ = some (.slice B9 b1.length d9) ∧ w'.cell? ⟨g9,1,none⟩ = some (.int .i64 (b2)) ∧ w'.cell? ⟨g9,2,none⟩ = some (.int .i64 (b3)) ∧ w'.cell? ⟨g9,3,none⟩ = some (.int .i64 (b4)) ∧ w'.cell? ⟨gx,0,none⟩ = some (.slice Bx b1.length dx) ∧ w'.cell? ⟨gx,1,none⟩ = some (.int .i64 (b2)) ∧ w'.cell? ⟨gx,2,none⟩ = some (.int .i64 (b3)) ∧ w'.cell? ⟨gx,3,none⟩ = some (.int .i64 (b4))) (ds := []) zd15 (by kernel_rfl) rfl rfl ⟨((blk_cell (blk_drew HX9.out) 0).trans rfl),((blk_cell (blk_drew HX9.out) 1).trans rfl),((blk_cell (blk_drew HX9.out) 2).trans rfl),((blk_cell (blk_drew HX9.out) 3).trans rfl),((blk_cell (blk_drew HXx.out) 0).trans rfl),((blk_cell (blk_drew HXx.out) 1).trans rfl),((blk_cell (blk_drew HXx.out) 2).trans rfl),((blk_cell (blk_drew HXx.out) 3).trans rfl)⟩ (fun hHeld => ?_)
    refine with_tabW lodgerlaw15_do.tab13 lodgerlaw15_do.bits13 (fun HT_ HW_ => ?_)
    replace HXa := Aside0.mk (blk_drew HXa.out)
    replace HXb := Aside0.mk (blk_drew HXb.out)
    replace HXo := Aside0.mk (blk_drew HXo.out)
    replace HX6 := Aside0.mk (blk_drew HX6.out)
    replace HX7 := Aside0.mk (blk_drew HX7.out)
    replace HX9 := Aside0.mk (blk_drew HX9.out)
    replace HXx := Aside0.mk (blk_drew HXx.out)
    replace HV9 := Aside0.mk (Kd.R_drew HV9.out)
    replace HVx := Aside0.mk (Kd.R_drew HVx.out)
    replace HB := Aside0.mk (below_drew HB.out)
    generalize W11.drew = wd13 at *
    refine pure_ (i := 0) (N := some 84) (v := ?_) (a' := ?_) zd16 rfl rfl (any_of HT_.out (by kernel_rfl)) (fun _ _ _ h => h) (Or.inl ⟨by rfl,?_⟩) ?_ ?_
    rotate_left
    ·intro w'
     go_simp
     with_reducible rfl
    rotate_left
    ·simp only [Act.put,zdI,zds0,zds1,i64_w,i32_w]
     rfl
    refine pure_ (i := 1) (N := some 85) (v := ?_) (a' := ?_) zd17 rfl rfl (any_of HT_.out (by kernel_rfl)) (fun _ _ _ h => h) (Or.inl ⟨by rfl,?_⟩) ?_ ?_
    rotate_left
    ·intro w'
     go_simp
     with_reducible rfl
    rotate_left
    ·simp only [Act.put,zdI,zds0,zds1,i64_w,i32_w]
     rfl
    refine pure_ (i := 2) (N := some 86) (v := ?_) (a' := ?_) zd18 rfl rfl (any_of HT_.out (by kernel_rfl)) (fun _ _ _ h => h) (Or.inl ⟨by rfl,?_⟩) ?_ ?_
    rotate_left
    ·intro w'
     go_simp
     with_reducible rfl
    rotate_left
    ·simp only [Act.put,zdI,zds0,zds1,i64_w,i32_w]
     rfl
    refine pure_ (i := 3) (N := some 87) (v := ?_) (a' := ?_) zd19 rfl rfl (any_of HT_.out (by kernel_rfl)) (fun _ _ _ h => h) (Or.inl ⟨by rfl,?_⟩) ?_ ?_
    rotate_left
    ·intro w'
     go_simp
     with_reducible rfl
    rotate_left
    ·simp only [Act.put,zdI,zds0,zds1,i64_w,i32_w]
     rfl
    refine take_ (i := 4) (N := some 88) (v := ?_) (a' := ?_) zd20 rfl rfl (take_ofW HT_.out HW_.out (by kernel_rfl)) (fun _ _ _ h => h) (Or.inl ⟨by rfl,?_⟩) hHeld ?_ ?_
    rotate_left
    ·rintro w' ⟨s0,s1,s2,s3,s4,s5,s6,s7⟩
     go_simp
     with_reducible rfl
    rotate_left
    ·simp only [Act.put,zdI,zds0,zds1,i64_w,i32_w]
     rfl
    refine take_ (i := 6) (N := some 90) (v := ?_) (a' := ?_) zd21 rfl rfl (take_ofW HT_.out HW_.out (by kernel_rfl)) (fun _ _ _ h => h) (Or.inl ⟨by rfl,?_⟩) hHeld ?_ ?_
    rotate_left
    ·rintro w' ⟨s0,s1,s2,s3,s4,s5,s6,s7⟩
     go_simp
     with_reducible rfl
    rotate_left
    ·simp only [Act.put,zdI,zds0,zds1,i64_w,i32_w]
     rfl
    refine one_ (i := 5) (N := some 89) zd22 rfl rfl (one_of HT_.out (by kernel_rfl)) (by decide) (fun K hK => ?_)
    refine goes_ Try.func21 (by kernel_rfl) rfl #[.agg #[.slice B9 b1.length d9,.int .i64 (b2),.int .i64 (b3),.int .i64 (b4)]] (by rfl) rfl rfl (by simp only [List.map_toArray,List.map_cons,List.map_nil]; rfl) ?_
    with_reducible refine (lodgerlaw15_Ref.calls B9 d9 b1 b2 b3 b4 _).mono ?_
    rintro e wa ⟨rfl,hb⟩
    refine ⟨_,rfl,?_⟩
    replace HXa := Aside0.mk (blk_below HXa.out hb)
    replace HXb := Aside0.mk (blk_below HXb.out hb)
    replace HXo := Aside0.mk (blk_below HXo.out hb)
    replace HX6 := Aside0.mk (blk_below HX6.out hb)
    replace HX7 := Aside0.mk (blk_below HX7.out hb)
    replace HX9 := Aside0.mk (blk_below HX9.out hb)
    replace HXx := Aside0.mk (blk_below HXx.out hb)
    replace HV9 := Aside0.mk (Kd.R_below HV9.out hb)
    replace HVx := Aside0.mk (Kd.R_below HVx.out hb)
    replace HB := Aside0.mk (below_step HB.out hb)
    clear hb
    refine hK.out _ _ ⟨((blk_cell HX9.out 0).trans rfl),((blk_cell HX9.out 1).trans rfl),((blk_cell HX9.out 2).trans rfl),((blk_cell HX9.out 3).trans rfl),((blk_cell HXx.out 0).trans rfl),((blk_cell HXx.out 1).trans rfl),((blk_cell HXx.out 2).trans rfl),((blk_cell HXx.out 3).trans rfl)⟩ (fun hHeld => ?_)
    clear hK K
    refine norm_ (a' := ?_) ?_ ?_
    rotate_left
    ·show Act.put _ (some 89) _ = _
     simp only [Act.put,zdI,zds0,zds1,i64_w,i32_w]
     rfl
    refine one_ (i := 7) (N := some 91) zd23 rfl rfl (one_of HT_.out (by kernel_rfl)) (by decide) (fun K hK => ?_)
    refine goes_ Try.func26 (by kernel_rfl) rfl #[.agg #[.slice B9 b1.length d9,.int .i64 (b2),.int .i64 (b3),.int .i64 (b4)],.agg #[.slice Bx b1.length dx,.int .i64 (b2),.int .i64 (b3),.int .i64 (b4)]] (by rfl) rfl rfl (by simp only [List.map_toArray,List.map_cons,List.map_nil]; rfl) ?_
    with_reducible refine (lodgerref15_Same.calls 61 B9 d9 b1 b2 b3 b4 Bx dx b1 b2 b3 b4 true _ (Kd.R_reads' HV9.out).2.2 (Kd.R_reads' HV9.out).2.1 (Kd.R_reads' HVx.out).2.2 (Kd.R_reads' HVx.out).2.1 (same_is b1 b2 b3 b4 HLEN.out 61 (by omega))).mono ?_
    rintro e wb ⟨rfl,hb⟩
    refine ⟨_,rfl,?_⟩
    replace HXa := Aside0.mk (blk_below HXa.out hb)
    replace HXb := Aside0.mk (blk_below HXb.out hb)
    replace HXo := Aside0.mk (blk_below HXo.out hb)
    replace HX6 := Aside0.mk (blk_below HX6.out hb)
    replace HX7 := Aside0.mk (blk_below HX7.out hb)
    replace HX9 := Aside0.mk (blk_below HX9.out hb)
    replace HXx := Aside0.mk (blk_below HXx.out hb)
    replace HV9 := Aside0.mk (Kd.R_below HV9.out hb)
    replace HVx := Aside0.mk (Kd.R_below HVx.out hb)
    replace HB := Aside0.mk (below_step HB.out hb)
    clear hb
    refine hK.out _ _ ⟨((blk_cell HX9.out 0).trans rfl),((blk_cell HX9.out 1).trans rfl),((blk_cell HX9.out 2).trans rfl),((blk_cell HX9.out 3).trans rfl),((blk_cell HXx.out 0).trans rfl),((blk_cell HXx.out 1).trans rfl),((blk_cell HXx.out 2).trans rfl),((blk_cell HXx.out 3).trans rfl)⟩ (fun hHeld => ?_)
    clear hK K
    refine norm_ (a' := ?_) ?_ ?_
    rotate_left
    ·show Act.put _ (some 91) _ = _
     simp only [Act.put,zdI,zds0,zds1,i64_w,i32_w]
     rfl
    refine pure_ (i := 8) (N := some 92) (v := ?_) (a' := ?_) zd24 rfl rfl (any_of HT_.out (by kernel_rfl)) (fun _ _ _ h => h) (Or.inl ⟨by rfl,?_⟩) ?_ ?_
    rotate_left
    ·intro w'
     go_simp
     with_reducible rfl
    rotate_left
    ·simp only [Act.put,zdI,zds0,zds1,i64_w,i32_w]
     rfl
    refine pure_ (i := 9) (N := some 93) (v := ?_) (a' := ?_) zd25 rfl rfl (any_of HT_.out (by kernel_rfl)) (fun _ _ _ h => h) (Or.inl ⟨by rfl,?_⟩) ?_ ?_
    rotate_left
    ·intro w'
     go_simp
     with_reducible rfl
    rotate_left
    ·simp only [Act.put,zdI,zds0,zds1,i64_w,i32_w]
     rfl
    refine done_ (done_of HT_.out (by kernel_rfl)) ?_
    clear HT_ HW_ hHeld
    by_cases h5 : b5 = 0
    ·subst h5
     go_wp2_with fail
     refine start_ (n := 5) (S := fun w' => w'.cell? ⟨g9,0,none⟩ = some (.slice B9 b1.length d9) ∧ w'.cell? ⟨g9,1,none⟩ = some (.int .i64 (b2)) ∧ w'.cell? ⟨g9,2,none⟩ = some (.int .i64 (b3)) ∧ w'.cell? ⟨g9,3,none⟩ = some (.int .i64 (b4)) ∧ w'.cell? ⟨gx,0,none⟩ = some (.slice Bx b1.length dx) ∧ w'.cell? ⟨gx,1,none⟩ = some (.int .i64 (b2)) ∧ w'.cell? ⟨gx,2,none⟩ = some (.int .i64 (b3)) ∧ w'.cell? ⟨gx,3,none⟩ = some (.int .i64 (b4))) (ds := []) zd26 (by kernel_rfl) rfl rfl ⟨((blk_cell (blk_drew HX9.out) 0).trans rfl),((blk_cell (blk_drew HX9.out) 1).trans rfl),((blk_cell (blk_drew HX9.out) 2).trans rfl),((blk_cell (blk_drew HX9.out) 3).trans rfl),((blk_cell (blk_drew HXx.out) 0).trans rfl),((blk_cell (blk_drew HXx.out) 1).trans rfl),((blk_cell (blk_drew HXx.out) 2).trans rfl),((blk_cell (blk_drew HXx.out) 3).trans rfl)⟩ (fun hHeld => ?_)
     refine with_tabW lodgerlaw15_do.tab17 lodgerlaw15_do.bits17 (fun HT_ HW_ => ?_)
     replace HXa := Aside0.mk (blk_drew HXa.out)
     replace HXb := Aside0.mk (blk_drew HXb.out)
     replace HXo := Aside0.mk (blk_drew HXo.out)
     replace HX6 := Aside0.mk (blk_drew HX6.out)
     replace HX7 := Aside0.mk (blk_drew HX7.out)
     replace HX9 := Aside0.mk (blk_drew HX9.out)
     replace HXx := Aside0.mk (blk_drew HXx.out)
     replace HV9 := Aside0.mk (Kd.R_drew HV9.out)
     replace HVx := Aside0.mk (Kd.R_drew HVx.out)
     replace HB := Aside0.mk (below_drew HB.out)
     generalize wb.drew = wd14 at *
     refine take_ (i := 0) (N := some 100) (v := ?_) (a' := ?_) zd27 rfl rfl (take_ofW HT_.out HW_.out (by kernel_rfl)) (fun _ _ _ h => h) (Or.inl ⟨by rfl,?_⟩) hHeld ?_ ?_
     rotate_left
     ·rintro w' ⟨s0,s1,s2,s3,s4,s5,s6,s7⟩
      go_simp
      with_reducible rfl
     rotate_left
     ·simp only [Act.put,zdI,zds0,zds1,i64_w,i32_w]
      rfl
     refine take_ (i := 1) (N := some 101) (v := ?_) (a' := ?_) zd28 rfl rfl (take_ofW HT_.out HW_.out (by kernel_rfl)) (fun _ _ _ h => h) (Or.inl ⟨by rfl,?_⟩) hHeld ?_ ?_
     rotate_left
     ·rintro w' ⟨s0,s1,s2,s3,s4,s5,s6,s7⟩
      go_simp
      with_reducible rfl
     rotate_left
     ·simp only [Act.put,zdI,zds0,zds1,i64_w,i32_w]
      rfl
     refine one_ (i := 2) (N := none) zd29 rfl rfl (one_of HT_.out (by kernel_rfl)) (by decide) (fun K hK => ?_)
     have z_0 : wd14.cell? ⟨g6,0,none⟩ = some (.slice none 0 0) := (blk_cell HX6.out 0).trans rfl
     have z_1 : wd14.cell? ⟨g6,1,none⟩ = some (.int .i64 0) := (blk_cell HX6.out 1).trans rfl
     have z_2 : wd14.cell? ⟨g6,2,none⟩ = some (.int .i64 0) := (blk_cell HX6.out 2).trans rfl
     have z_3 : wd14.cell? ⟨g6,3,none⟩ = some (.int .i64 0) := (blk_cell HX6.out 3).trans rfl
     have zf_0 := blk_frozen HX6.out 0
     have zf_1 := blk_frozen HX6.out 1
     have zf_2 := blk_frozen HX6.out 2
     have zf_3 := blk_frozen HX6.out 3
     refine skip_ (w1 := ?_) (by rfl) rfl ?_ ?_
     rotate_left
     ·go_simp
      rfl
     clear z_0 z_1 z_2 z_3 zf_0 zf_1 zf_2 zf_3
     obtain ⟨wd15,hW⟩ : ∃ W_,W_ = ((((wd14.setCell ⟨g6,0,none⟩ (.slice B9 b1.length d9)).setCell ⟨g6,1,none⟩ (.int .i64 (b2))).setCell ⟨g6,2,none⟩ (.int .i64 (b3))).setCell ⟨g6,3,none⟩ (.int .i64 (b4))) := ⟨_,rfl⟩
     rw [← hW]
     replace HXa := Aside0.mk (far4 hW HXa.out Na6.out)
     replace HXb := Aside0.mk (far4 hW HXb.out Nb6.out)
     replace HXo := Aside0.mk (far4 hW HXo.out No6.out)
     replace HX7 := Aside0.mk (far4 hW HX7.out N76.out)
     replace HX9 := Aside0.mk (far4 hW HX9.out N96.out)
     replace HXx := Aside0.mk (far4 hW HXx.out Nx6.out)
     replace HV9 := Aside0.mk (rset4 hW HX6.out HV9.out (by decide))
     replace HVx := Aside0.mk (rset4 hW HX6.out HVx.out (by decide))
     replace HX6 := Aside0.mk (set4 hW HX6.out)
     replace HB := Aside0.mk (below4 hW HB.out HG6.out)
     clear hW
     refine hK.out _ _ ⟨((blk_cell HX9.out 0).trans rfl),((blk_cell HX9.out 1).trans rfl),((blk_cell HX9.out 2).trans rfl),((blk_cell HX9.out 3).trans rfl),((blk_cell HXx.out 0).trans rfl),((blk_cell HXx.out 1).trans rfl),((blk_cell HXx.out 2).trans rfl),((blk_cell HXx.out 3).trans rfl)⟩ (fun hHeld => ?_)
     clear hK K
     refine one_ (i := 3) (N := none) zd30 rfl rfl (one_of HT_.out (by kernel_rfl)) (by decide) (fun K hK => ?_)
     have z_0 : wd15.cell? ⟨g7,0,none⟩ = some (.slice none 0 0) := (blk_cell HX7.out 0).trans rfl
     have z_1 : wd15.cell? ⟨g7,1,none⟩ = some (.int .i64 0) := (blk_cell HX7.out 1).trans rfl
     have z_2 : wd15.cell? ⟨g7,2,none⟩ = some (.int .i64 0) := (blk_cell HX7.out 2).trans rfl
     have z_3 : wd15.cell? ⟨g7,3,none⟩ = some (.int .i64 0) := (blk_cell HX7.out 3).trans rfl
     have zf_0 := blk_frozen HX7.out 0
     have zf_1 := blk_frozen HX7.out 1
     have zf_2 := blk_frozen HX7.out 2
     have zf_3 := blk_frozen HX7.out 3
     refine skip_ (w1 := ?_) (by rfl) rfl ?_ ?_
     rotate_left
     ·go_simp
      rfl
     clear z_0 z_1 z_2 z_3 zf_0 zf_1 zf_2 zf_3
     obtain ⟨wd16,hW⟩ : ∃ W_,W_ = ((((wd15.setCell ⟨g7,0,none⟩ (.slice Bx b1.length dx)).setCell ⟨g7,1,none⟩ (.int .i64 (b2))).setCell ⟨g7,2,none⟩ (.int .i64 (b3))).setCell ⟨g7,3,none⟩ (.int .i64 (b4))) := ⟨_,rfl⟩
     rw [← hW]
     replace HXa := Aside0.mk (far4 hW HXa.out Na7.out)
     replace HXb := Aside0.mk (far4 hW HXb.out Nb7.out)
     replace HXo := Aside0.mk (far4 hW HXo.out No7.out)
     replace HX6 := Aside0.mk (far4 hW HX6.out N67.out)
     replace HX9 := Aside0.mk (far4 hW HX9.out N97.out)
     replace HXx := Aside0.mk (far4 hW HXx.out Nx7.out)
     replace HV9 := Aside0.mk (rset4 hW HX7.out HV9.out (by decide))
     replace HVx := Aside0.mk (rset4 hW HX7.out HVx.out (by decide))
     replace HX7 := Aside0.mk (set4 hW HX7.out)
     replace HB := Aside0.mk (below4 hW HB.out HG7.out)
     clear hW
     refine hK.out _ _ ⟨((blk_cell HX9.out 0).trans rfl),((blk_cell HX9.out 1).trans rfl),((blk_cell HX9.out 2).trans rfl),((blk_cell HX9.out 3).trans rfl),((blk_cell HXx.out 0).trans rfl),((blk_cell HXx.out 1).trans rfl),((blk_cell HXx.out 2).trans rfl),((blk_cell HXx.out 3).trans rfl)⟩ (fun hHeld => ?_)
     clear hK K
     refine pure_ (i := 4) (N := some 8) (v := ?_) (a' := ?_) zd31 rfl rfl (any_of HT_.out (by kernel_rfl)) (fun _ _ _ h => h) (Or.inl ⟨by rfl,?_⟩) ?_ ?_
     rotate_left
     ·intro w'
      go_simp
      with_reducible rfl
     rotate_left
     ·simp only [Act.put,zdI,zds0,zds1,i64_w,i32_w]
      rfl
     refine done_ (done_of HT_.out (by kernel_rfl)) ?_
     clear HT_ HW_ hHeld
     go_wp2
     refine bodyPost_ret (results_list rfl (by simp) (.cell g6 25 _ (0,0) _ rfl HX6.out Try.underlying25 rfl (by kernel_rfl) (.cell g7 27 _ (0,0) _ rfl HX7.out Try.underlying27 rfl (by kernel_rfl) (.tmp .nil)))) rfl ?_
     exact ⟨.inr ⟨b1,b2,b3,b4,_,_,rfl,given_rt HRT.out HK.out rfl,HV9.out,HVx.out⟩,HB.out⟩
    ·have h5b : (b5 != 0) = true := bne_iff_ne.mpr h5
     clear h5
     go_wp2_with fail
     refine start_ (n := 5) (S := fun w' => w'.cell? ⟨ga,0,none⟩ = some (.slice Aa l.length ca) ∧ w'.cell? ⟨ga,1,none⟩ = some (.int .i64 (v)) ∧ w'.cell? ⟨ga,2,none⟩ = some (.int .i64 (s)) ∧ w'.cell? ⟨ga,3,none⟩ = some (.int .i64 (n)) ∧ w'.cell? ⟨gb,0,none⟩ = some (.slice Ab l.length cb) ∧ w'.cell? ⟨gb,1,none⟩ = some (.int .i64 (v)) ∧ w'.cell? ⟨gb,2,none⟩ = some (.int .i64 (s)) ∧ w'.cell? ⟨gb,3,none⟩ = some (.int .i64 (n))) (ds := []) zd26 (by kernel_rfl) rfl rfl ⟨((blk_cell (blk_drew HXa.out) 0).trans rfl),((blk_cell (blk_drew HXa.out) 1).trans rfl),((blk_cell (blk_drew HXa.out) 2).trans rfl),((blk_cell (blk_drew HXa.out) 3).trans rfl),((blk_cell (blk_drew HXb.out) 0).trans rfl),((blk_cell (blk_drew HXb.out) 1).trans rfl),((blk_cell (blk_drew HXb.out) 2).trans rfl),((blk_cell (blk_drew HXb.out) 3).trans rfl)⟩ (fun hHeld => ?_)
     refine with_tabW lodgerlaw15_do.tab16 lodgerlaw15_do.bits16 (fun HT_ HW_ => ?_)
     replace HXa := Aside0.mk (blk_drew HXa.out)
     replace HXb := Aside0.mk (blk_drew HXb.out)
     replace HXo := Aside0.mk (blk_drew HXo.out)
     replace HX6 := Aside0.mk (blk_drew HX6.out)
     replace HX7 := Aside0.mk (blk_drew HX7.out)
     replace HX9 := Aside0.mk (blk_drew HX9.out)
     replace HXx := Aside0.mk (blk_drew HXx.out)
     replace HV9 := Aside0.mk (Kd.R_drew HV9.out)
     replace HVx := Aside0.mk (Kd.R_drew HVx.out)
     replace HB := Aside0.mk (below_drew HB.out)
     generalize wb.drew = wd14 at *
     refine take_ (i := 0) (N := some 98) (v := ?_) (a' := ?_) zd27 rfl rfl (take_ofW HT_.out HW_.out (by kernel_rfl)) (fun _ _ _ h => h) (Or.inl ⟨by rfl,?_⟩) hHeld ?_ ?_
     rotate_left
     ·rintro w' ⟨s0,s1,s2,s3,s4,s5,s6,s7⟩
      go_simp
      with_reducible rfl
     rotate_left
     ·simp only [Act.put,zdI,zds0,zds1,i64_w,i32_w]
      rfl
     refine take_ (i := 1) (N := some 99) (v := ?_) (a' := ?_) zd28 rfl rfl (take_ofW HT_.out HW_.out (by kernel_rfl)) (fun _ _ _ h => h) (Or.inl ⟨by rfl,?_⟩) hHeld ?_ ?_
     rotate_left
     ·rintro w' ⟨s0,s1,s2,s3,s4,s5,s6,s7⟩
      go_simp
      with_reducible rfl
     rotate_left
     ·simp only [Act.put,zdI,zds0,zds1,i64_w,i32_w]
      rfl
     refine one_ (i := 2) (N := none) zd29 rfl rfl (one_of HT_.out (by kernel_rfl)) (by decide) (fun K hK => ?_)
     have z_0 : wd14.cell? ⟨g6,0,none⟩ = some (.slice none 0 0) := (blk_cell HX6.out 0).trans rfl
     have z_1 : wd14.cell? ⟨g6,1,none⟩ = some (.int .i64 0) := (blk_cell HX6.out 1).trans rfl
     have z_2 : wd14.cell? ⟨g6,2,none⟩ = some (.int .i64 0) := (blk_cell HX6.out 2).trans rfl
     have z_3 : wd14.cell? ⟨g6,3,none⟩ = some (.int .i64 0) := (blk_cell HX6.out 3).trans rfl
     have zf_0 := blk_frozen HX6.out 0
     have zf_1 := blk_frozen HX6.out 1
     have zf_2 := blk_frozen HX6.out 2
     have zf_3 := blk_frozen HX6.out 3
     refine skip_ (w1 := ?_) (by rfl) rfl ?_ ?_
     rotate_left
     ·go_simp
      rfl
     clear z_0 z_1 z_2 z_3 zf_0 zf_1 zf_2 zf_3
     obtain ⟨wd15,hW⟩ : ∃ W_,W_ = ((((wd14.setCell ⟨g6,0,none⟩ (.slice Aa l.length ca)).setCell ⟨g6,1,none⟩ (.int .i64 (v))).setCell ⟨g6,2,none⟩ (.int .i64 (s))).setCell ⟨g6,3,none⟩ (.int .i64 (n))) := ⟨_,rfl⟩
     rw [← hW]
     replace HXa := Aside0.mk (far4 hW HXa.out Na6.out)
     replace HXb := Aside0.mk (far4 hW HXb.out Nb6.out)
     replace HXo := Aside0.mk (far4 hW HXo.out No6.out)
     replace HX7 := Aside0.mk (far4 hW HX7.out N76.out)
     replace HX9 := Aside0.mk (far4 hW HX9.out N96.out)
     replace HXx := Aside0.mk (far4 hW HXx.out Nx6.out)
     replace HV9 := Aside0.mk (rset4 hW HX6.out HV9.out (by decide))
     replace HVx := Aside0.mk (rset4 hW HX6.out HVx.out (by decide))
     replace HX6 := Aside0.mk (set4 hW HX6.out)
     replace HB := Aside0.mk (below4 hW HB.out HG6.out)
     clear hW
     refine hK.out _ _ ⟨((blk_cell HXa.out 0).trans rfl),((blk_cell HXa.out 1).trans rfl),((blk_cell HXa.out 2).trans rfl),((blk_cell HXa.out 3).trans rfl),((blk_cell HXb.out 0).trans rfl),((blk_cell HXb.out 1).trans rfl),((blk_cell HXb.out 2).trans rfl),((blk_cell HXb.out 3).trans rfl)⟩ (fun hHeld => ?_)
     clear hK K
     refine one_ (i := 3) (N := none) zd30 rfl rfl (one_of HT_.out (by kernel_rfl)) (by decide) (fun K hK => ?_)
     have z_0 : wd15.cell? ⟨g7,0,none⟩ = some (.slice none 0 0) := (blk_cell HX7.out 0).trans rfl
     have z_1 : wd15.cell? ⟨g7,1,none⟩ = some (.int .i64 0) := (blk_cell HX7.out 1).trans rfl
     have z_2 : wd15.cell? ⟨g7,2,none⟩ = some (.int .i64 0) := (blk_cell HX7.out 2).trans rfl
     have z_3 : wd15.cell? ⟨g7,3,none⟩ = some (.int .i64 0) := (blk_cell HX7.out 3).trans rfl
     have zf_0 := blk_frozen HX7.out 0
     have zf_1 := blk_frozen HX7.out 1
     have zf_2 := blk_frozen HX7.out 2
     have zf_3 := blk_frozen HX7.out 3
     refine skip_ (w1 := ?_) (by rfl) rfl ?_ ?_
     rotate_left
     ·go_simp
      rfl
     clear z_0 z_1 z_2 z_3 zf_0 zf_1 zf_2 zf_3
     obtain ⟨wd16,hW⟩ : ∃ W_,W_ = ((((wd15.setCell ⟨g7,0,none⟩ (.slice Ab l.length cb)).setCell ⟨g7,1,none⟩ (.int .i64 (v))).setCell ⟨g7,2,none⟩ (.int .i64 (s))).setCell ⟨g7,3,none⟩ (.int .i64 (n))) := ⟨_,rfl⟩
     rw [← hW]
     replace HXa := Aside0.mk (far4 hW HXa.out Na7.out)
     replace HXb := Aside0.mk (far4 hW HXb.out Nb7.out)
     replace HXo := Aside0.mk (far4 hW HXo.out No7.out)
     replace HX6 := Aside0.mk (far4 hW HX6.out N67.out)
     replace HX9 := Aside0.mk (far4 hW HX9.out N97.out)
     replace HXx := Aside0.mk (far4 hW HXx.out Nx7.out)
     replace HV9 := Aside0.mk (rset4 hW HX7.out HV9.out (by decide))
     replace HVx := Aside0.mk (rset4 hW HX7.out HVx.out (by decide))
     replace HX7 := Aside0.mk (set4 hW HX7.out)
     replace HB := Aside0.mk (below4 hW HB.out HG7.out)
     clear hW
     refine hK.out _ _ ⟨((blk_cell HXa.out 0).trans rfl),((blk_cell HXa.out 1).trans rfl),((blk_cell HXa.out 2).trans rfl),((blk_cell HXa.out 3).trans rfl),((blk_cell HXb.out 0).trans rfl),((blk_cell HXb.out 1).trans rfl),((blk_cell HXb.out 2).trans rfl),((blk_cell HXb.out 3).trans rfl)⟩ (fun hHeld => ?_)
     clear hK K
     refine pure_ (i := 4) (N := some 8) (v := ?_) (a' := ?_) zd31 rfl rfl (any_of HT_.out (by kernel_rfl)) (fun _ _ _ h => h) (Or.inl ⟨by rfl,?_⟩) ?_ ?_
     rotate_left
     ·intro w'
      go_simp
      with_reducible rfl
     rotate_left
     ·simp only [Act.put,zdI,zds0,zds1,i64_w,i32_w]
      rfl
     refine done_ (done_of HT_.out (by kernel_rfl)) ?_
     clear HT_ HW_ hHeld
     go_wp2
     refine bodyPost_ret (results_list rfl (by simp) (.cell g6 25 _ (0,0) _ rfl HX6.out Try.underlying25 rfl (by kernel_rfl) (.cell g7 27 _ (0,0) _ rfl HX7.out Try.underlying27 rfl (by kernel_rfl) (.tmp .nil)))) rfl ?_
     exact ⟨.inl rfl,HB.out⟩
   ·have k0 : (kk == 0) = false := beq_eq_false_iff_ne.mpr h0
    have k1 : (kk == 1) = false := beq_eq_false_iff_ne.mpr h1
    have k2 : (kk == 2) = false := beq_eq_false_iff_ne.mpr h2
    clear h0 h1 h2
    have HLEN : Aside0 (r1.length ≤ 20) := ⟨seen_len HRT.out HS.out⟩
    go_wp2_with fail
    refine start_ (n := 10) (S := fun w' => w'.cell? ⟨g9,0,none⟩ = some (.slice A9 r1.length c9) ∧ w'.cell? ⟨g9,1,none⟩ = some (.int .i64 (r2)) ∧ w'.cell? ⟨g9,2,none⟩ = some (.int .i64 (r3)) ∧ w'.cell? ⟨g9,3,none⟩ = some (.int .i64 (r4)) ∧ w'.cell? ⟨gx,0,none⟩ = some (.slice Ax r1.length cx) ∧ w'.cell? ⟨gx,1,none⟩ = some (.int .i64 (r2)) ∧ w'.cell? ⟨gx,2,none⟩ = some (.int .i64 (r3)) ∧ w'.cell? ⟨gx,3,none⟩ = some (.int .i64 (r4))) (ds := []) zd15 (by kernel_rfl) rfl rfl ⟨((blk_cell (blk_drew HX9.out) 0).trans rfl),((blk_cell (blk_drew HX9.out) 1).trans rfl),((blk_cell (blk_drew HX9.out) 2).trans rfl),((blk_cell (blk_drew HX9.out) 3).trans rfl),((blk_cell (blk_drew HXx.out) 0).trans rfl),((blk_cell (blk_drew HXx.out) 1).trans rfl),((blk_cell (blk_drew HXx.out) 2).trans rfl),((blk_cell (blk_drew HXx.out) 3).trans rfl)⟩ (fun hHeld => ?_)
    refine with_tabW lodgerlaw15_do.tab13 lodgerlaw15_do.bits13 (fun HT_ HW_ => ?_)
    replace HXa := Aside0.mk (blk_drew HXa.out)
    replace HXb := Aside0.mk (blk_drew HXb.out)
    replace HXo := Aside0.mk (blk_drew HXo.out)
    replace HX6 := Aside0.mk (blk_drew HX6.out)
    replace HX7 := Aside0.mk (blk_drew HX7.out)
    replace HX9 := Aside0.mk (blk_drew HX9.out)
    replace HXx := Aside0.mk (blk_drew HXx.out)
    replace HV9 := Aside0.mk (Kd.R_drew HV9.out)
    replace HVx := Aside0.mk (Kd.R_drew HVx.out)
    replace HB := Aside0.mk (below_drew HB.out)
    generalize W7.drew = wd13 at *
    refine pure_ (i := 0) (N := some 84) (v := ?_) (a' := ?_) zd16 rfl rfl (any_of HT_.out (by kernel_rfl)) (fun _ _ _ h => h) (Or.inl ⟨by rfl,?_⟩) ?_ ?_
    rotate_left
    ·intro w'
     go_simp
     with_reducible rfl
    rotate_left
    ·simp only [Act.put,zdI,zds0,zds1,i64_w,i32_w]
     rfl
    refine pure_ (i := 1) (N := some 85) (v := ?_) (a' := ?_) zd17 rfl rfl (any_of HT_.out (by kernel_rfl)) (fun _ _ _ h => h) (Or.inl ⟨by rfl,?_⟩) ?_ ?_
    rotate_left
    ·intro w'
     go_simp
     with_reducible rfl
    rotate_left
    ·simp only [Act.put,zdI,zds0,zds1,i64_w,i32_w]
     rfl
    refine pure_ (i := 2) (N := some 86) (v := ?_) (a' := ?_) zd18 rfl rfl (any_of HT_.out (by kernel_rfl)) (fun _ _ _ h => h) (Or.inl ⟨by rfl,?_⟩) ?_ ?_
    rotate_left
    ·intro w'
     go_simp
     with_reducible rfl
    rotate_left
    ·simp only [Act.put,zdI,zds0,zds1,i64_w,i32_w]
     rfl
    refine pure_ (i := 3) (N := some 87) (v := ?_) (a' := ?_) zd19 rfl rfl (any_of HT_.out (by kernel_rfl)) (fun _ _ _ h => h) (Or.inl ⟨by rfl,?_⟩) ?_ ?_
    rotate_left
    ·intro w'
     go_simp
     with_reducible rfl
    rotate_left
    ·simp only [Act.put,zdI,zds0,zds1,i64_w,i32_w]
     rfl
    refine take_ (i := 4) (N := some 88) (v := ?_) (a' := ?_) zd20 rfl rfl (take_ofW HT_.out HW_.out (by kernel_rfl)) (fun _ _ _ h => h) (Or.inl ⟨by rfl,?_⟩) hHeld ?_ ?_
    rotate_left
    ·rintro w' ⟨s0,s1,s2,s3,s4,s5,s6,s7⟩
     go_simp
     with_reducible rfl
    rotate_left
    ·simp only [Act.put,zdI,zds0,zds1,i64_w,i32_w]
     rfl
    refine take_ (i := 6) (N := some 90) (v := ?_) (a' := ?_) zd21 rfl rfl (take_ofW HT_.out HW_.out (by kernel_rfl)) (fun _ _ _ h => h) (Or.inl ⟨by rfl,?_⟩) hHeld ?_ ?_
    rotate_left
    ·rintro w' ⟨s0,s1,s2,s3,s4,s5,s6,s7⟩
     go_simp
     with_reducible rfl
    rotate_left
    ·simp only [Act.put,zdI,zds0,zds1,i64_w,i32_w]
     rfl
    refine one_ (i := 5) (N := some 89) zd22 rfl rfl (one_of HT_.out (by kernel_rfl)) (by decide) (fun K hK => ?_)
    refine goes_ Try.func21 (by kernel_rfl) rfl #[.agg #[.slice A9 r1.length c9,.int .i64 (r2),.int .i64 (r3),.int .i64 (r4)]] (by rfl) rfl rfl (by simp only [List.map_toArray,List.map_cons,List.map_nil]; rfl) ?_
    with_reducible refine (lodgerlaw15_Ref.calls A9 c9 r1 r2 r3 r4 _).mono ?_
    rintro e wa ⟨rfl,hb⟩
    refine ⟨_,rfl,?_⟩
    replace HXa := Aside0.mk (blk_below HXa.out hb)
    replace HXb := Aside0.mk (blk_below HXb.out hb)
    replace HXo := Aside0.mk (blk_below HXo.out hb)
    replace HX6 := Aside0.mk (blk_below HX6.out hb)
    replace HX7 := Aside0.mk (blk_below HX7.out hb)
    replace HX9 := Aside0.mk (blk_below HX9.out hb)
    replace HXx := Aside0.mk (blk_below HXx.out hb)
    replace HV9 := Aside0.mk (Kd.R_below HV9.out hb)
    replace HVx := Aside0.mk (Kd.R_below HVx.out hb)
    replace HB := Aside0.mk (below_step HB.out hb)
    clear hb
    refine hK.out _ _ ⟨((blk_cell HX9.out 0).trans rfl),((blk_cell HX9.out 1).trans rfl),((blk_cell HX9.out 2).trans rfl),((blk_cell HX9.out 3).trans rfl),((blk_cell HXx.out 0).trans rfl),((blk_cell HXx.out 1).trans rfl),((blk_cell HXx.out 2).trans rfl),((blk_cell HXx.out 3).trans rfl)⟩ (fun hHeld => ?_)
    clear hK K
    refine norm_ (a' := ?_) ?_ ?_
    rotate_left
    ·show Act.put _ (some 89) _ = _
     simp only [Act.put,zdI,zds0,zds1,i64_w,i32_w]
     rfl
    refine one_ (i := 7) (N := some 91) zd23 rfl rfl (one_of HT_.out (by kernel_rfl)) (by decide) (fun K hK => ?_)
    refine goes_ Try.func26 (by kernel_rfl) rfl #[.agg #[.slice A9 r1.length c9,.int .i64 (r2),.int .i64 (r3),.int .i64 (r4)],.agg #[.slice Ax r1.length cx,.int .i64 (r2),.int .i64 (r3),.int .i64 (r4)]] (by rfl) rfl rfl (by simp only [List.map_toArray,List.map_cons,List.map_nil]; rfl) ?_
    with_reducible refine (lodgerref15_Same.calls 61 A9 c9 r1 r2 r3 r4 Ax cx r1 r2 r3 r4 true _ (Kd.R_reads' HV9.out).2.2 (Kd.R_reads' HV9.out).2.1 (Kd.R_reads' HVx.out).2.2 (Kd.R_reads' HVx.out).2.1 (same_is r1 r2 r3 r4 HLEN.out 61 (by omega))).mono ?_
    rintro e wb ⟨rfl,hb⟩
    refine ⟨_,rfl,?_⟩
    replace HXa := Aside0.mk (blk_below HXa.out hb)
    replace HXb := Aside0.mk (blk_below HXb.out hb)
    replace HXo := Aside0.mk (blk_below HXo.out hb)
    replace HX6 := Aside0.mk (blk_below HX6.out hb)
    replace HX7 := Aside0.mk (blk_below HX7.out hb)
    replace HX9 := Aside0.mk (blk_below HX9.out hb)
    replace HXx := Aside0.mk (blk_below HXx.out hb)
    replace HV9 := Aside0.mk (Kd.R_below HV9.out hb)
    replace HVx := Aside0.mk (Kd.R_below HVx.out hb)
    replace HB := Aside0.mk (below_step HB.out hb)
    clear hb
    refine hK.out _ _ ⟨((blk_cell HX9.out 0).trans rfl),((blk_cell HX9.out 1).trans rfl),((blk_cell HX9.out 2).trans rfl),((blk_cell HX9.out 3).trans rfl),((blk_cell HXx.out 0).trans rfl),((blk_cell HXx.out 1).trans rfl),((blk_cell HXx.out 2).trans rfl),((blk_cell HXx.out 3).trans rfl)⟩ (fun hHeld => ?_)
    clear hK K
    refine norm_ (a' := ?_) ?_ ?_
    rotate_left
    ·show Act.put _ (some 91) _ = _
     simp only [Act.put,zdI,zds0,zds1,i64_w,i32_w]
     rfl
    refine pure_ (i := 8) (N := some 92) (v := ?_) (a' := ?_) zd24 rfl rfl (any_of HT_.out (by kernel_rfl)) (fun _ _ _ h => h) (Or.inl ⟨by rfl,?_⟩) ?_ ?_
    rotate_left
    ·intro w'
     go_simp
     with_reducible rfl
    rotate_left
    ·simp only [Act.put,zdI,zds0,zds1,i64_w,i32_w]
     rfl
    refine pure_ (i := 9) (N := some 93) (v := ?_) (a' := ?_) zd25 rfl rfl (any_of HT_.out (by kernel_rfl)) (fun _ _ _ h => h) (Or.inl ⟨by rfl,?_⟩) ?_ ?_
    rotate_left
    ·intro w'
     go_simp
     with_reducible rfl
    rotate_left
    ·simp only [Act.put,zdI,zds0,zds1,i64_w,i32_w]
     rfl
    refine done_ (done_of HT_.out (by kernel_rfl)) ?_
    clear HT_ HW_ hHeld
    by_cases h5 : r5 = 0
    ·subst h5
     go_wp2_with fail
     refine start_ (n := 5) (S := fun w' => w'.cell? ⟨g9,0,none⟩ = some (.slice A9 r1.length c9) ∧ w'.cell? ⟨g9,1,none⟩ = some (.int .i64 (r2)) ∧ w'.cell? ⟨g9,2,none⟩ = some (.int .i64 (r3)) ∧ w'.cell? ⟨g9,3,none⟩ = some (.int .i64 (r4)) ∧ w'.cell? ⟨gx,0,none⟩ = some (.slice Ax r1.length cx) ∧ w'.cell? ⟨gx,1,none⟩ = some (.int .i64 (r2)) ∧ w'.cell? ⟨gx,2,none⟩ = some (.int .i64 (r3)) ∧ w'.cell? ⟨gx,3,none⟩ = some (.int .i64 (r4))) (ds := []) zd26 (by kernel_rfl) rfl rfl ⟨((blk_cell (blk_drew HX9.out) 0).trans rfl),((blk_cell (blk_drew HX9.out) 1).trans rfl),((blk_cell (blk_drew HX9.out) 2).trans rfl),((blk_cell (blk_drew HX9.out) 3).trans rfl),((blk_cell (blk_drew HXx.out) 0).trans rfl),((blk_cell (blk_drew HXx.out) 1).trans rfl),((blk_cell (blk_drew HXx.out) 2).trans rfl),((blk_cell (blk_drew HXx.out) 3).trans rfl)⟩ (fun hHeld => ?_)
     refine with_tabW lodgerlaw15_do.tab17 lodgerlaw15_do.bits17 (fun HT_ HW_ => ?_)
     replace HXa := Aside0.mk (blk_drew HXa.out)
     replace HXb := Aside0.mk (blk_drew HXb.out)
     replace HXo := Aside0.mk (blk_drew HXo.out)
     replace HX6 := Aside0.mk (blk_drew HX6.out)
     replace HX7 := Aside0.mk (blk_drew HX7.out)
     replace HX9 := Aside0.mk (blk_drew HX9.out)
     replace HXx := Aside0.mk (blk_drew HXx.out)
     replace HV9 := Aside0.mk (Kd.R_drew HV9.out)
     replace HVx := Aside0.mk (Kd.R_drew HVx.out)
     replace HB := Aside0.mk (below_drew HB.out)
     generalize wb.drew = wd14 at *
     refine take_ (i := 0) (N := some 100) (v := ?_) (a' := ?_) zd27 rfl rfl (take_ofW HT_.out HW_.out (by kernel_rfl)) (fun _ _ _ h => h) (Or.inl ⟨by rfl,?_⟩) hHeld ?_ ?_
     rotate_left
     ·rintro w' ⟨s0,s1,s2,s3,s4,s5,s6,s7⟩
      go_simp
      with_reducible rfl
     rotate_left
     ·simp only [Act.put,zdI,zds0,zds1,i64_w,i32_w]
      rfl
     refine take_ (i := 1) (N := some 101) (v := ?_) (a' := ?_) zd28 rfl rfl (take_ofW HT_.out HW_.out (by kernel_rfl)) (fun _ _ _ h => h) (Or.inl ⟨by rfl,?_⟩) hHeld ?_ ?_
     rotate_left
     ·rintro w' ⟨s0,s1,s2,s3,s4,s5,s6,s7⟩
      go_simp
      with_reducible rfl
     rotate_left
     ·simp only [Act.put,zdI,zds0,zds1,i64_w,i32_w]
      rfl
     refine one_ (i := 2) (N := none) zd29 rfl rfl (one_of HT_.out (by kernel_rfl)) (by decide) (fun K hK => ?_)
     have z_0 : wd14.cell? ⟨g6,0,none⟩ = some (.slice none 0 0) := (blk_cell HX6.out 0).trans rfl
     have z_1 : wd14.cell? ⟨g6,1,none⟩ = some (.int .i64 0) := (blk_cell HX6.out 1).trans rfl
     have z_2 : wd14.cell? ⟨g6,2,none⟩ = some (.int .i64 0) := (blk_cell HX6.out 2).trans rfl
     have z_3 : wd14.cell? ⟨g6,3,none⟩ = some (.int .i64 0) := (blk_cell HX6.out 3).trans rfl
     have zf_0 := blk_frozen HX6.out 0
     have zf_1 := blk_frozen HX6.out 1
     have zf_2 := blk_frozen HX6.out 2
     have zf_3 := blk_frozen HX6.out 3
     refine skip_ (w1 := ?_) (by rfl) rfl ?_ ?_
     rotate_left
     ·go_simp
      rfl
     clear z_0 z_1 z_2 z_3 zf_0 zf_1 zf_2 zf_3
     obtain ⟨wd15,hW⟩ : ∃ W_,W_ = ((((wd14.setCell ⟨g6,0,none⟩ (.slice A9 r1.length c9)).setCell ⟨g6,1,none⟩ (.int .i64 (r2))).setCell ⟨g6,2,none⟩ (.int .i64 (r3))).setCell ⟨g6,3,none⟩ (.int .i64 (r4))) := ⟨_,rfl⟩
     rw [← hW]
     replace HXa := Aside0.mk (far4 hW HXa.out Na6.out)
     replace HXb := Aside0.mk (far4 hW HXb.out Nb6.out)
     replace HXo := Aside0.mk (far4 hW HXo.out No6.out)
     replace HX7 := Aside0.mk (far4 hW HX7.out N76.out)
     replace HX9 := Aside0.mk (far4 hW HX9.out N96.out)
     replace HXx := Aside0.mk (far4 hW HXx.out Nx6.out)
     replace HV9 := Aside0.mk (rset4 hW HX6.out HV9.out (by decide))
     replace HVx := Aside0.mk (rset4 hW HX6.out HVx.out (by decide))
     replace HX6 := Aside0.mk (set4 hW HX6.out)
     replace HB := Aside0.mk (below4 hW HB.out HG6.out)
     clear hW
     refine hK.out _ _ ⟨((blk_cell HX9.out 0).trans rfl),((blk_cell HX9.out 1).trans rfl),((blk_cell HX9.out 2).trans rfl),((blk_cell HX9.out 3).trans rfl),((blk_cell HXx.out 0).trans rfl),((blk_cell HXx.out 1).trans rfl),((blk_cell HXx.out 2).trans rfl),((blk_cell HXx.out 3).trans rfl)⟩ (fun hHeld => ?_)
     clear hK K
     refine one_ (i := 3) (N := none) zd30 rfl rfl (one_of HT_.out (by kernel_rfl)) (by decide) (fun K hK => ?_)
     have z_0 : wd15.cell? ⟨g7,0,none⟩ = some (.slice none 0 0) := (blk_cell HX7.out 0).trans rfl
     have z_1 : wd15.cell? ⟨g7,1,none⟩ = some (.int .i64 0) := (blk_cell HX7.out 1).trans rfl
     have z_2 : wd15.cell? ⟨g7,2,none⟩ = some (.int .i64 0) := (blk_cell HX7.out 2).trans rfl
     have z_3 : wd15.cell? ⟨g7,3,none⟩ = some (.int .i64 0) := (blk_cell HX7.out 3).trans rfl
     have zf_0 := blk_frozen HX7.out 0
     have zf_1 := blk_frozen HX7.out 1
     have zf_2 := blk_frozen HX7.out 2
     have zf_3 := blk_frozen HX7.out 3
     refine skip_ (w1 := ?_) (by rfl) rfl ?_ ?_
     rotate_left
     ·go_simp
      rfl
     clear z_0 z_1 z_2 z_3 zf_0 zf_1 zf_2 zf_3
     obtain ⟨wd16,hW⟩ : ∃ W_,W_ = ((((wd15.setCell ⟨g7,0,none⟩ (.slice Ax r1.length cx)).setCell ⟨g7,1,none⟩ (.int .i64 (r2))).setCell ⟨g7,2,none⟩ (.int .i64 (r3))).setCell ⟨g7,3,none⟩ (.int .i64 (r4))) := ⟨_,rfl⟩
     rw [← hW]
     replace HXa := Aside0.mk (far4 hW HXa.out Na7.out)
     replace HXb := Aside0.mk (far4 hW HXb.out Nb7.out)
     replace HXo := Aside0.mk (far4 hW HXo.out No7.out)
     replace HX6 := Aside0.mk (far4 hW HX6.out N67.out)
     replace HX9 := Aside0.mk (far4 hW HX9.out N97.out)
     replace HXx := Aside0.mk (far4 hW HXx.out Nx7.out)
     replace HV9 := Aside0.mk (rset4 hW HX7.out HV9.out (by decide))
     replace HVx := Aside0.mk (rset4 hW HX7.out HVx.out (by decide))
     replace HX7 := Aside0.mk (set4 hW HX7.out)
     replace HB := Aside0.mk (below4 hW HB.out HG7.out)
     clear hW
     refine hK.out _ _ ⟨((blk_cell HX9.out 0).trans rfl),((blk_cell HX9.out 1).trans rfl),((blk_cell HX9.out 2).trans rfl),((blk_cell HX9.out 3).trans rfl),((blk_cell HXx.out 0).trans rfl),((blk_cell HXx.out 1).trans rfl),((blk_cell HXx.out 2).trans rfl),((blk_cell HXx.out 3).trans rfl)⟩ (fun hHeld => ?_)
     clear hK K
     refine pure_ (i := 4) (N := some 8) (v := ?_) (a' := ?_) zd31 rfl rfl (any_of HT_.out (by kernel_rfl)) (fun _ _ _ h => h) (Or.inl ⟨by rfl,?_⟩) ?_ ?_
     rotate_left
     ·intro w'
      go_simp
      with_reducible rfl
     rotate_left
     ·simp only [Act.put,zdI,zds0,zds1,i64_w,i32_w]
      rfl
     refine done_ (done_of HT_.out (by kernel_rfl)) ?_
     clear HT_ HW_ hHeld
     go_wp2
     refine bodyPost_ret (results_list rfl (by simp) (.cell g6 25 _ (0,0) _ rfl HX6.out Try.underlying25 rfl (by kernel_rfl) (.cell g7 27 _ (0,0) _ rfl HX7.out Try.underlying27 rfl (by kernel_rfl) (.tmp .nil)))) rfl ?_
     exact ⟨.inr ⟨r1,r2,r3,r4,_,_,rfl,seen_rt HRT.out HS.out rfl,HV9.out,HVx.out⟩,HB.out⟩
    ·have h5b : (r5 != 0) = true := bne_iff_ne.mpr h5
     clear h5
     go_wp2_with fail
     refine start_ (n := 5) (S := fun w' => w'.cell? ⟨ga,0,none⟩ = some (.slice Aa l.length ca) ∧ w'.cell? ⟨ga,1,none⟩ = some (.int .i64 (v)) ∧ w'.cell? ⟨ga,2,none⟩ = some (.int .i64 (s)) ∧ w'.cell? ⟨ga,3,none⟩ = some (.int .i64 (n)) ∧ w'.cell? ⟨gb,0,none⟩ = some (.slice Ab l.length cb) ∧ w'.cell? ⟨gb,1,none⟩ = some (.int .i64 (v)) ∧ w'.cell? ⟨gb,2,none⟩ = some (.int .i64 (s)) ∧ w'.cell? ⟨gb,3,none⟩ = some (.int .i64 (n))) (ds := []) zd26 (by kernel_rfl) rfl rfl ⟨((blk_cell (blk_drew HXa.out) 0).trans rfl),((blk_cell (blk_drew HXa.out) 1).trans rfl),((blk_cell (blk_drew HXa.out) 2).trans rfl),((blk_cell (blk_drew HXa.out) 3).trans rfl),((blk_cell (blk_drew HXb.out) 0).trans rfl),((blk_cell (blk_drew HXb.out) 1).trans rfl),((blk_cell (blk_drew HXb.out) 2).trans rfl),((blk_cell (blk_drew HXb.out) 3).trans rfl)⟩ (fun hHeld => ?_)
     refine with_tabW lodgerlaw15_do.tab16 lodgerlaw15_do.bits16 (fun HT_ HW_ => ?_)
     replace HXa := Aside0.mk (blk_drew HXa.out)
     replace HXb := Aside0.mk (blk_drew HXb.out)
     replace HXo := Aside0.mk (blk_drew HXo.out)
     replace HX6 := Aside0.mk (blk_drew HX6.out)
     replace HX7 := Aside0.mk (blk_drew HX7.out)
     replace HX9 := Aside0.mk (blk_drew HX9.out)
     replace HXx := Aside0.mk (blk_drew HXx.out)
     replace HV9 := Aside0.mk (Kd.R_drew HV9.out)
     replace HVx := Aside0.mk (Kd.R_drew HVx.out)
     replace HB := Aside0.mk (below_drew HB.out)
     generalize wb.drew = wd14 at *
     refine take_ (i := 0) (N := some 98) (v := ?_) (a' := ?_) zd27 rfl rfl (take_ofW HT_.out HW_.out (by kernel_rfl)) (fun _ _ _ h => h) (Or.inl ⟨by rfl,?_⟩) hHeld ?_ ?_
     rotate_left
     ·rintro w' ⟨s0,s1,s2,s3,s4,s5,s6,s7⟩
      go_simp
      with_reducible rfl
     rotate_left
     ·simp only [Act.put,zdI,zds0,zds1,i64_w,i32_w]
      rfl
     refine take_ (i := 1) (N := some 99) (v := ?_) (a' := ?_) zd28 rfl rfl (take_ofW HT_.out HW_.out (by kernel_rfl)) (fun _ _ _ h => h) (Or.inl ⟨by rfl,?_⟩) hHeld ?_ ?_
     rotate_left
     ·rintro w' ⟨s0,s1,s2,s3,s4,s5,s6,s7⟩
      go_simp
      with_reducible rfl
     rotate_left
     ·simp only [Act.put,zdI,zds0,zds1,i64_w,i32_w]
      rfl
     refine one_ (i := 2) (N := none) zd29 rfl rfl (one_of HT_.out (by kernel_rfl)) (by decide) (fun K hK => ?_)
     have z_0 : wd14.cell? ⟨g6,0,none⟩ = some (.slice none 0 0) := (blk_cell HX6.out 0).trans rfl
     have z_1 : wd14.cell? ⟨g6,1,none⟩ = some (.int .i64 0) := (blk_cell HX6.out 1).trans rfl
     have z_2 : wd14.cell? ⟨g6,2,none⟩ = some (.int .i64 0) := (blk_cell HX6.out 2).trans rfl
     have z_3 : wd14.cell? ⟨g6,3,none⟩ = some (.int .i64 0) := (blk_cell HX6.out 3).trans rfl
     have zf_0 := blk_frozen HX6.out 0
     have zf_1 := blk_frozen HX6.out 1
     have zf_2 := blk_frozen HX6.out 2
     have zf_3 := blk_frozen HX6.out 3
     refine skip_ (w1 := ?_) (by rfl) rfl ?_ ?_
     rotate_left
     ·go_simp
      rfl
     clear z_0 z_1 z_2 z_3 zf_0 zf_1 zf_2 zf_3
     obtain ⟨wd15,hW⟩ : ∃ W_,W_ = ((((wd14.setCell ⟨g6,0,none⟩ (.slice Aa l.length ca)).setCell ⟨g6,1,none⟩ (.int .i64 (v))).setCell ⟨g6,2,none⟩ (.int .i64 (s))).setCell ⟨g6,3,none⟩ (.int .i64 (n))) := ⟨_,rfl⟩
     rw [← hW]
     replace HXa := Aside0.mk (far4 hW HXa.out Na6.out)
     replace HXb := Aside0.mk (far4 hW HXb.out Nb6.out)
     replace HXo := Aside0.mk (far4 hW HXo.out No6.out)
     replace HX7 := Aside0.mk (far4 hW HX7.out N76.out)
     replace HX9 := Aside0.mk (far4 hW HX9.out N96.out)
     replace HXx := Aside0.mk (far4 hW HXx.out Nx6.out)
     replace HV9 := Aside0.mk (rset4 hW HX6.out HV9.out (by decide))
     replace HVx := Aside0.mk (rset4 hW HX6.out HVx.out (by decide))
     replace HX6 := Aside0.mk (set4 hW HX6.out)
     replace HB := Aside0.mk (below4 hW HB.out HG6.out)
     clear hW
     refine hK.out _ _ ⟨((blk_cell HXa.out 0).trans rfl),((blk_cell HXa.out 1).trans rfl),((blk_cell HXa.out 2).trans rfl),((blk_cell HXa.out 3).trans rfl),((blk_cell HXb.out 0).trans rfl),((blk_cell HXb.out 1).trans rfl),((blk_cell HXb.out 2).trans rfl),((blk_cell HXb.out 3).trans rfl)⟩ (fun hHeld => ?_)
     clear hK K
     refine one_ (i := 3) (N := none) zd30 rfl rfl (one_of HT_.out (by kernel_rfl)) (by decide) (fun K hK => ?_)
     have z_0 : wd15.cell? ⟨g7,0,none⟩ = some (.slice none 0 0) := (blk_cell HX7.out 0).trans rfl
     have z_1 : wd15.cell? ⟨g7,1,none⟩ = some (.int .i64 0) := (blk_cell HX7.out 1).trans rfl
     have z_2 : wd15.cell? ⟨g7,2,none⟩ = some (.int .i64 0) := (blk_cell HX7.out 2).trans rfl
     have z_3 : wd15.cell? ⟨g7,3,none⟩ = some (.int .i64 0) := (blk_cell HX7.out 3).trans rfl
     have zf_0 := blk_frozen HX7.out 0
     have zf_1 := blk_frozen HX7.out 1
     have zf_2 := blk_frozen HX7.out 2
     have zf_3 := blk_frozen HX7.out 3
     refine skip_ (w1 := ?_) (by rfl) rfl ?_ ?_
     rotate_left
     ·go_simp
      rfl
     clear z_0 z_1 z_2 z_3 zf_0 zf_1 zf_2 zf_3
     obtain ⟨wd16,hW⟩ : ∃ W_,W_ = ((((wd15.setCell ⟨g7,0,none⟩ (.slice Ab l.length cb)).setCell ⟨g7,1,none⟩ (.int .i64 (v))).setCell ⟨g7,2,none⟩ (.int .i64 (s))).setCell ⟨g7,3,none⟩ (.int .i64 (n))) := ⟨_,rfl⟩
     rw [← hW]
     replace HXa := Aside0.mk (far4 hW HXa.out Na7.out)
     replace HXb := Aside0.mk (far4 hW HXb.out Nb7.out)
     replace HXo := Aside0.mk (far4 hW HXo.out No7.out)
     replace HX6 := Aside0.mk (far4 hW HX6.out N67.out)
     replace HX9 := Aside0.mk (far4 hW HX9.out N97.out)
     replace HXx := Aside0.mk (far4 hW HXx.out Nx7.out)
     replace HV9 := Aside0.mk (rset4 hW HX7.out HV9.out (by decide))
     replace HVx := Aside0.mk (rset4 hW HX7.out HVx.out (by decide))
     replace HX7 := Aside0.mk (set4 hW HX7.out)
     replace HB := Aside0.mk (below4 hW HB.out HG7.out)
     clear hW
     refine hK.out _ _ ⟨((blk_cell HXa.out 0).trans rfl),((blk_cell HXa.out 1).trans rfl),((blk_cell HXa.out 2).trans rfl),((blk_cell HXa.out 3).trans rfl),((blk_cell HXb.out 0).trans rfl),((blk_cell HXb.out 1).trans rfl),((blk_cell HXb.out 2).trans rfl),((blk_cell HXb.out 3).trans rfl)⟩ (fun hHeld => ?_)
     clear hK K
     refine pure_ (i := 4) (N := some 8) (v := ?_) (a' := ?_) zd31 rfl rfl (any_of HT_.out (by kernel_rfl)) (fun _ _ _ h => h) (Or.inl ⟨by rfl,?_⟩) ?_ ?_
     rotate_left
     ·intro w'
      go_simp
      with_reducible rfl
     rotate_left
     ·simp only [Act.put,zdI,zds0,zds1,i64_w,i32_w]
      rfl
     refine done_ (done_of HT_.out (by kernel_rfl)) ?_
     clear HT_ HW_ hHeld
     go_wp2
     refine bodyPost_ret (results_list rfl (by simp) (.cell g6 25 _ (0,0) _ rfl HX6.out Try.underlying25 rfl (by kernel_rfl) (.cell g7 27 _ (0,0) _ rfl HX7.out Try.underlying27 rfl (by kernel_rfl) (.tmp .nil)))) rfl ?_
     exact ⟨.inl rfl,HB.out⟩
end Go.Proofs.Ytbcmjbjhjnojjaa.H
