/-
TopTorn: part of its walk (K, Mp, Kp, Word, Get, Crc, Crc2).
-/
import Derived.Test.YtokfjbbjkiilmaaGreatDoorProg
import Derived.Below
import Derived.Deep.Draws
import Derived.Deep.AppendLies
import Derived.Maps.AppendAt
import Derived.OwnWalk
import Derived.Laws.BytesArg
import Derived.Laws.MakeOwn
import Derived.Laws.CopyOwn
import Derived.Laws.OwnMore
import Derived.Deep.OwnRows
import Derived.Tactics
import Derived.Lib.ConvBytes
import Derived.Laws.Slices
import Derived.WalkKit
import Derived.WalkSmall
import Derived.KernelRfl
import Derived.RowKit3
import Derived.Deep.LoopGhost
import Derived.Deep.QuietTactic
import Derived.BigQuiet
import Derived.WideLaws
import Derived.Deep.DeepCutAuto
import Derived.Deep.CutBlock
import Derived.Deep.RegionHeld3
import Derived.Laws.Rows
import Derived.Lib.AppendStr
import Derived.ArgAppend
import Derived.Laws.IdiomCopy
import Derived.OrdersHeld
import Derived.Laws.BitsLemmas
import Derived.RowKit
import Derived.Test.YtokfjbbjkiilmaaGreatDoorWWords
import Derived.Test.YtokfjbbjkiilmaaGreatDoorWLast
import Derived.Test.YtokfjbbjkiilmaaGreatDoorWTab
import Derived.MapKept
import Derived.Lib.BufferWrite
import Derived.Laws.Externs
set_option linter.unusedVariables false
set_option linter.unusedSimpArgs false
namespace Go.Proofs.YtokfjbbjkiilmaaGreatDoorW.PrintMore
theorem max2_int (k k' : IntKind) (x y : Int) : Builtin.max2 (.int k x) (.int k' y) = pure (.int k (if x < y then y else x)) := by unfold Builtin.max2; rfl
theorem min2_int (k k' : IntKind) (x y : Int) : Builtin.min2 (.int k x) (.int k' y) = pure (.int k (if y < x then y else x)) := by unfold Builtin.min2; rfl
theorem min_two (ats : Array TypeId) (ty : TypeId) (a b : Value) : Builtin.min_ ats ty #[a,b] = (Builtin.min2 a b >>= fun s => pure s) := by simp [Builtin.min_]
theorem max_two (ats : Array TypeId) (ty : TypeId) (a b : Value) : Builtin.max_ ats ty #[a,b] = (Builtin.max2 a b >>= fun s => pure s) := by simp [Builtin.max_]
end Go.Proofs.YtokfjbbjkiilmaaGreatDoorW.PrintMore
namespace Go.Proofs.YtokfjbbjkiilmaaGreatDoor.H
open Go.RowKit Go.Proofs.YtokfjbbjkiilmaaGreatDoorW.PrintWords Go.Proofs.YtokfjbbjkiilmaaGreatDoorW.PrintLast
theorem cL {w : World} {g t : Nat} {cs : Array Value} {v : Value} (h : Aside0 (w.heap[g]? = some (.cells cs t (0,0)))) (j : Nat) (e : cs[j]? = some v) : w.cell? ⟨g,j,none⟩ = some v := (blk_cell h.out j).trans e
theorem mB {w w' : World} {g t : Nat} {cs : Array Value} (h : Aside0 (w.heap[g]? = some (.cells cs t (0,0)))) (hb : Below w.heap.size w w') : Aside0 (w'.heap[g]? = some (.cells cs t (0,0))) := ⟨blk_below h.out hb⟩
theorem mS {w0 w w' : World} (h : Aside0 (Below w0.heap.size w0 w)) (hb : Below w.heap.size w w') : Aside0 (Below w0.heap.size w0 w') := ⟨below_step h.out hb⟩
theorem end0 {P : Program} {fn : Func} {R : Ending → World → Prop} {a : Act} {w : World} (h : fn.results = #[]) (hd : a.defers = []) (hR : R (.returned (.tuple #[])) w) : bodyPost P fn R .normal a w := bodyPost_end (results_none h _ _ _) hd hR
theorem ret2 {P : Program} {fn : Func} {R : Ending → World → Prop} {a : Act} {w : World} {t u : Tmp} (h : fn.results = #[.tmp t,.tmp u]) (hd : a.defers = []) (hR : R (.returned (.tuple #[a.tmps.getD t undef,a.tmps.getD u undef])) w) : bodyPost P fn R .ret a w := bodyPost_ret (results_tmp2 h _ _ _) hd hR
/-- A call of a function value. -/
theorem goesv_ {P : Program} {ops : Array Oper} {Q : Exit → Act → World → Prop} {oi : Oper} {N : Option Tmp} {a : Act} {w : World} {K : Act → World → Prop} {f : FuncId} {fn : Func} {o : Operand} {az : Array Operand} {ts : Array TypeId} (first cap : Array Value) (hf : P.funcs[f]? = some fn) (hname : (fn.name == "runtime.NumGoroutine") = false) (hb : fn.body.isSome = true) (args : Array Value)
 (hw : Region.wanted oi (yielded ops a.tmps) = true) (hN : oi.dst = N) (hop : oi.op = .call { callee := .value o,args := az,argTypes := ts }) (hv : a.eval o = .func (.func f) first cap) (hargs : first ++ az.map a.eval ++ cap = args)
 (h : Calls P f args w fun e w' => ∃ v,e = .returned v ∧ K (a.put N v) w') : if Region.wanted oi (yielded ops a.tmps) = true then Oper.wp P oi a w K Q else K (a.put N undef) w := by
 refine call_ f args hw hN ?_ h
 have he := enters_ hf hname hb args w
 unfold execOp
 simp [hop,resolve,Deferred.ofValue,invoke,hv,hargs,he]
/-- A store of a whole row, in a region of open order. -/
theorem storeR_ {P : Program} {ops : Array Oper} {Q : Exit → Act → World → Prop} {oi : Oper} {a : Act} {w : World} {K : Act → World → Prop} (ty : TypeId) (x y : Operand) (g : Nat) (cs old : Array Value) (t : TypeId) (hw : Region.wanted oi (yielded ops a.tmps) = true) (hN : oi.dst = none) (ho : oi.op = .store ty x y)
 (hx : a.eval x = .pointer (some ⟨g,0,none⟩)) (hy : a.eval y = .agg cs) (hg : w.heap[g]? = some (.cells old t (0,0))) (hi : (P.info? ty).map (·.size) = some cs.size) (hold : old.size = cs.size) (h1 : cs.all (·.oneCell') = true)
 (h : K a (w.setRow g cs)) : if Region.wanted oi (yielded ops a.tmps) = true then Oper.wp P oi a w K Q else K (a.put none undef) w := by
 rw [if_pos hw]
 refine wp_store_row ty x y ho g cs hx hy t old hg hi hold h1 ?_
 rw [hN]
 exact h
/-- An allocation, in a region of open order. -/
theorem allocR_ {P : Program} {ops : Array Oper} {Q : Exit → Act → World → Prop} {oi : Oper} {N : Tmp} {a : Act} {w : World} {K : Act → World → Prop} (cs : Array Value) (t : TypeId) (hw : Region.wanted oi (yielded ops a.tmps) = true) (hN : oi.dst = some N)
 (hr : (execOp a.eval oi).run P w = .ok (.value (.pointer (some ⟨w.heap.size,0,none⟩))) (w.alloc (.cells cs t)))
 (h : ∀ g W,w.heap.size ≤ g → W.heap[g]? = some (.cells cs t (0,0)) → Below w.heap.size w W → K (a.put (some N) (.pointer (some ⟨g,0,none⟩))) W) : if Region.wanted oi (yielded ops a.tmps) = true then Oper.wp P oi a w K Q else K (a.put (some N) undef) w := by
 refine value_ hw hN hr (h _ _ (Nat.le_refl _) (blk_new _ _) (below_alloc (Below.refl _ _) _))
theorem tne {w : World} {a b t1 t2 : Nat} {c1 c2 : Array Value} {f1 f2 : Nat × Nat} (h1 : w.heap[a]? = some (.cells c1 t1 f1)) (h2 : w.heap[b]? = some (.cells c2 t2 f2)) (h : t1 ≠ t2) : a ≠ b := fun e => by
 subst e
 rw [h1] at h2
 cases h2
 exact h rfl
/-- A block apart from the one that a row is stored to. -/
theorem mR {w : World} {a b : Nat} {o : Obj} (cs : Array Value) (h : w.heap[a]? = some o) (hn : a ≠ b) : (w.setRow b cs).heap[a]? = some o := (setRow_other w b a cs hn).trans h
theorem new_ne {w : World} {a g : Nat} {o : Obj} (h : w.heap[a]? = some o) (hg : w.heap.size ≤ g) : a ≠ g := fun e => by
 have := blk_lt h
 omega
section
variable {P : Program} {md : Region.Mode} {ops : Array Oper} {Q : Exit → Act → World → Prop} {S : World → Prop} {ds : List Nat} {T : Bool × List (List Nat × List Nat)} {fuel : Nat} {l l' : Array Bool} {a a' : Act} {w : World} {oi : Oper} {v : Value}
/-- An operation that yields in every world. -/
theorem pa_ (i : Nat) (n : Tmp) (hT : Aside0 (rtab md ops = T)) (h : wpAnyLast P md ops Q S ds fuel l' a' w)
 (hi : ops[i]? = some oi := by exact rfl) (hN : oi.dst = some n := by exact rfl)
 (hl : l.setIfInBounds i true = l' := by simp only [List.setIfInBounds_toArray,List.set_cons_zero,List.set_cons_succ]; rfl)
 (hc : anyT T l.toList l'.toList i = true := by kernel_rfl)
 (hy : (Region.wanted oi (yielded ops a.tmps) = true ∧ ∀ w' : World,(execOp a.eval oi).run P w' = .ok (.value v) w') := by exact ⟨by rfl,by (intro w'; go_simp; with_reducible rfl)⟩)
 (hQ : ∀ c a w,Q (.panic c) (a.put oi.dst v) w → Q (.panic c) a w := by exact fun _ _ _ h => h)
 (ha : a.put (some n) v = a' := by simp only [Act.put,List.setIfInBounds_toArray,List.set_cons_zero,List.set_cons_succ,i64_w,i32_w]; rfl) : wpAnyLast P md ops Q S ds (fuel + 1) l a w :=
 pure_ (i := i) l' hi hN (any_of hT.out hc) hQ (Or.inl hy) ha h
theorem ta_ {B : List Nat} (i : Nat) (n : Tmp) (hT : Aside0 (rtab md ops = T)) (hB : Aside0 (waitsOk T.2 B = true)) (hS : S w) (h : wpAnyLast P md ops Q S ds fuel l' a' w)
 (hi : ops[i]? = some oi := by exact rfl) (hN : oi.dst = some n := by exact rfl)
 (hl : l.setIfInBounds i true = l' := by simp only [List.setIfInBounds_toArray,List.set_cons_zero,List.set_cons_succ]; rfl)
 (hc : takeW T B ds l.toList l'.toList i = true := by kernel_rfl)
 (hy : (Region.wanted oi (yielded ops a.tmps) = true ∧ ∀ w' : World,S w' → (execOp a.eval oi).run P w' = .ok (.value v) w') := by exact ⟨by rfl,by (intro w' s0; (repeat (obtain ⟨_,s0⟩ := s0)); go_simp; with_reducible rfl)⟩)
 (hQ : ∀ c a w,Q (.panic c) (a.put oi.dst v) w → Q (.panic c) a w := by exact fun _ _ _ h => h)
 (ha : a.put (some n) v = a' := by simp only [Act.put,List.setIfInBounds_toArray,List.set_cons_zero,List.set_cons_succ,i64_w,i32_w]; rfl) : wpAnyLast P md ops Q S ds (fuel + 1) l a w :=
 take_ (i := i) l' hi hN (take_ofW hT.out hB.out hc) hQ (Or.inl hy) hS ha h
/-- One whose guard is off. -/
theorem po_ (i : Nat) (n : Tmp) (hT : Aside0 (rtab md ops = T)) (h : wpAnyLast P md ops Q S ds fuel l' a' w)
 (hi : ops[i]? = some oi := by exact rfl) (hN : oi.dst = some n := by exact rfl)
 (hl : l.setIfInBounds i true = l' := by simp only [List.setIfInBounds_toArray,List.set_cons_zero,List.set_cons_succ]; rfl)
 (hc : anyT T l.toList l'.toList i = true := by kernel_rfl)
 (hy : Region.wanted oi (yielded ops a.tmps) = false := by rfl)
 (hQ : ∀ c a w,Q (.panic c) (a.put oi.dst undef) w → Q (.panic c) a w := by exact fun _ _ _ h => h)
 (ha : a.put (some n) undef = a' := by simp only [Act.put,List.setIfInBounds_toArray,List.set_cons_zero,List.set_cons_succ,i64_w,i32_w]; rfl) : wpAnyLast P md ops Q S ds (fuel + 1) l a w :=
 pure_ (i := i) l' hi hN (any_of hT.out hc) hQ (Or.inr ⟨hy,rfl⟩) ha h
/-- One that calls, or makes memory. -/
theorem on_ {N : Option Tmp} (i : Nat) (hT : Aside0 (rtab md ops = T))
 (h : ∀ K : Act → World → Prop,Shut (∀ a' w',S w' → (S w' → wpAnyLast P md ops Q S ds fuel l' a' w') → K a' w') → if Region.wanted oi (yielded ops a.tmps) = true then Oper.wp P oi a w K Q else K (a.put N undef) w)
 (hi : ops[i]? = some oi := by exact rfl) (hN : oi.dst = N := by exact rfl) (hl : l.setIfInBounds i true = l' := by simp only [List.setIfInBounds_toArray,List.set_cons_zero,List.set_cons_succ]; rfl)
 (hc : (readyT T.2 l.toList == [i] && l.toList.set i true == l'.toList) = true := by kernel_rfl) (hd : i ∉ ds := by decide) : wpAnyLast P md ops Q S ds (fuel + 1) l a w :=
 one_ l' hi hN (one_of hT.out hc) hd h
theorem la_ {N : Option Tmp} (i : Nat) (hT : Aside0 (rtab md ops = T))
 (h : ∀ K : Act → World → Prop,Shut (∀ a' w',wpAnyLast P md ops Q S ds fuel l' a' w' → K a' w') → if Region.wanted oi (yielded ops a.tmps) = true then Oper.wp P oi a w K Q else K (a.put N undef) w)
 (hi : ops[i]? = some oi := by exact rfl) (hN : oi.dst = N := by exact rfl) (hl : l.setIfInBounds i true = l' := by simp only [List.setIfInBounds_toArray,List.set_cons_zero,List.set_cons_succ]; rfl)
 (hc : (readyT T.2 l.toList == [i] && l.toList.set i true == l'.toList) = true := by kernel_rfl) (hd : i ∈ ds := by decide) : wpAnyLast P md ops Q S ds (fuel + 1) l a w :=
 last_ l' hi hN (one_of hT.out hc) hd h
theorem tw_ {Ni Nj : Option Tmp} {oj : Oper} {li lj : Array Bool} (i j : Nat) (hT : Aside0 (rtab md ops = T))
 (h1 : ∀ K : Act → World → Prop,Shut (∀ a' w',S w' → (S w' → wpAnyLast P md ops Q S ds fuel li a' w') → K a' w') → if Region.wanted oi (yielded ops a.tmps) = true then Oper.wp P oi a w K Q else K (a.put Ni undef) w)
 (h2 : ∀ K : Act → World → Prop,Shut (∀ a' w',S w' → (S w' → wpAnyLast P md ops Q S ds fuel lj a' w') → K a' w') → if Region.wanted oj (yielded ops a.tmps) = true then Oper.wp P oj a w K Q else K (a.put Nj undef) w)
 (hi : ops[i]? = some oi := by exact rfl) (hj : ops[j]? = some oj := by exact rfl) (hNi : oi.dst = Ni := by exact rfl) (hNj : oj.dst = Nj := by exact rfl) (hli : l.setIfInBounds i true = li := by simp only [List.setIfInBounds_toArray,List.set_cons_zero,List.set_cons_succ]; rfl) (hlj : l.setIfInBounds j true = lj := by simp only [List.setIfInBounds_toArray,List.set_cons_zero,List.set_cons_succ]; rfl)
 (hc : (readyT T.2 l.toList == [i,j] && l.toList.set i true == li.toList && l.toList.set j true == lj.toList) = true := by kernel_rfl) (hdi : i ∉ ds := by decide) (hdj : j ∉ ds := by decide) : wpAnyLast P md ops Q S ds (fuel + 1) l a w :=
 two_ li lj hi hj hNi hNj (two_of hT.out hc) hdi hdj h1 h2
/-- The act written out. -/
theorem no_ (n : Tmp) (h : wpAnyLast P md ops Q S ds fuel l a' w) (ha : a.put (some n) v = a' := by simp only [Act.put,List.setIfInBounds_toArray,List.set_cons_zero,List.set_cons_succ,i64_w,i32_w]; rfl) : wpAnyLast P md ops Q S ds fuel l (a.put (some n) v) w :=
 norm_ ha h
theorem na_ (h : wpAnyLast P md ops Q S ds fuel l a' w) (ha : a = a' := by simp only [putAll,Act.put,List.setIfInBounds_toArray,List.set_cons_zero,List.set_cons_succ]; rfl) : wpAnyLast P md ops Q S ds fuel l a w :=
 norm_ ha h
theorem nx_ (h : wpAnyLast P md ops Q S ds fuel l a' w) (ha : a = a' := by first | (simp only [putAll,Act.put,List.setIfInBounds_toArray,List.set_cons_zero,List.set_cons_succ]; done) | (simp only [putAll,Act.put,List.setIfInBounds_toArray,List.set_cons_zero,List.set_cons_succ]; rfl)) : wpAnyLast P md ops Q S ds fuel l a w :=
 norm_ ha h
theorem dn_ (hT : Aside0 (rtab md ops = T)) (h : Q .normal a w) (hc : (readyT T.2 l.toList == []) = true := by kernel_rfl) : wpAnyLast P md ops Q S ds fuel l a w := done_ (done_of hT.out hc) h
theorem va_ {N : Option Tmp} {K : Act → World → Prop} {w1 : World} (h : K (a.put N v) w1) (hw : Region.wanted oi (yielded ops a.tmps) = true := by rfl) (hN : oi.dst = N := by exact rfl) (hrun : (execOp a.eval oi).run P w = .ok (.value v) w1 := by (go_simp; constructor <;> rfl)) : if Region.wanted oi (yielded ops a.tmps) = true then Oper.wp P oi a w K Q else K (a.put N undef) w :=
 value_ hw hN hrun h
theorem gc_ {N : Option Tmp} {K : Act → World → Prop} {f : FuncId} {fn : Func} {az : Array Operand} {ts : Array TypeId} (hf : P.funcs[f]? = some fn) (args : Array Value) (h : Calls P f args w fun e w' => ∃ v,e = .returned v ∧ K (a.put N v) w')
 (hname : (fn.name == "runtime.NumGoroutine") = false := by kernel_rfl) (hb : fn.body.isSome = true := by exact rfl) (hw : Region.wanted oi (yielded ops a.tmps) = true := by rfl) (hN : oi.dst = N := by exact rfl) (hop : oi.op = .call { callee := .value (.func f), args := az, argTypes := ts } := by exact rfl)
 (hargs : az.map a.eval = args := by first | (simp only [List.map_toArray,List.map_cons,List.map_nil]; done) | (simp only [List.map_toArray,List.map_cons,List.map_nil]; rfl)) : if Region.wanted oi (yielded ops a.tmps) = true then Oper.wp P oi a w K Q else K (a.put N undef) w :=
 goes_ hf hname hb args hw hN hop hargs h
/-- A drawn region's start. -/
theorem st_ {id : Nat} (n : Nat) (S : World → Prop) (ds : List Nat) (hS : S w.drew) (h : S w.drew → wpAnyLast P .any ops Q S ds n l a w.drew) (hn : ops.size = n := by exact rfl) (hl : (List.replicate n false).toArray = l := by simp only [List.replicate]; rfl) (hm : P.follows .mixedOrders = true := by kernel_rfl) : (Code.region id ops true).wp P Q a w :=
 start_ l hm hn hl hS h
theorem hd_ (hS : S w) (h : S w → wpAnyLast P md ops Q S ds fuel l a w) : wpAnyLast P md ops Q S ds fuel l a w := h hS
end
section
variable {w w0 w' : World} {g t j : Nat} {cs : Array Value} {v : Value} {o : Obj}
theorem cD (h : Aside0 (w.heap[g]? = some (.cells cs t (0,0)))) (j : Nat) (e : cs[j]? = some v) : w.drew.cell? ⟨g,j,none⟩ = some v := (blk_cell (blk_drew h.out) j).trans e
theorem mb (h : Aside0 (w.heap[g]? = some o)) (hb : Below w.heap.size w w') : Aside0 (w'.heap[g]? = some o) := ⟨blk_below h.out hb⟩
theorem mD (h : Aside0 (w.heap[g]? = some o)) : Aside0 (w.drew.heap[g]? = some o) := ⟨blk_drew h.out⟩
theorem bD (h : Aside0 (Below w0.heap.size w0 w)) : Aside0 (Below w0.heap.size w0 w.drew) := ⟨below_drew h.out⟩
end
/-- New blocks, told. -/
theorem new1 (w : World) (c1 : Array Value) (t1 : TypeId) : ∃ (W : World) (g1 : Nat),W = w.alloc (.cells c1 t1) ∧ Aside0 (g1 = w.heap.size) ∧ Aside0 (W.heap[g1]? = some (.cells c1 t1 (0,0))) ∧ Below w.heap.size w W :=
 ⟨_,_,rfl,⟨rfl⟩,⟨blk_new _ _⟩,below_alloc (Below.refl _ _) _⟩
theorem new2 (w : World) (c1 : Array Value) (t1 : TypeId) (c2 : Array Value) (t2 : TypeId) : ∃ (W : World) (g1 g2 : Nat),W = (w.alloc (.cells c1 t1)).alloc (.cells c2 t2) ∧ Aside0 (g1 = w.heap.size) ∧ Aside0 (g2 = w.heap.size + 1) ∧ Aside0 (W.heap[g1]? = some (.cells c1 t1 (0,0))) ∧ Aside0 (W.heap[g2]? = some (.cells c2 t2 (0,0))) ∧ Below w.heap.size w W :=
 ⟨_,_,_,rfl,⟨rfl⟩,⟨rfl⟩,⟨blk_alloc (blk_new _ _) _⟩,⟨by have h_ := blk_new (w.alloc (.cells c1 t1)) (.cells c2 t2); simpa using h_⟩,below_alloc (below_alloc (Below.refl _ _) _) _⟩
theorem new3 (w : World) (c1 : Array Value) (t1 : TypeId) (c2 : Array Value) (t2 : TypeId) (c3 : Array Value) (t3 : TypeId) : ∃ (W : World) (g1 g2 g3 : Nat),W = ((w.alloc (.cells c1 t1)).alloc (.cells c2 t2)).alloc (.cells c3 t3) ∧ Aside0 (g1 = w.heap.size) ∧ Aside0 (g2 = w.heap.size + 1) ∧ Aside0 (g3 = w.heap.size + 1 + 1) ∧ Aside0 (W.heap[g1]? = some (.cells c1 t1 (0,0))) ∧ Aside0 (W.heap[g2]? = some (.cells c2 t2 (0,0))) ∧ Aside0 (W.heap[g3]? = some (.cells c3 t3 (0,0))) ∧ Below w.heap.size w W :=
 ⟨_,_,_,_,rfl,⟨rfl⟩,⟨rfl⟩,⟨rfl⟩,⟨blk_alloc (blk_alloc (blk_new _ _) _) _⟩,⟨by have h_ := blk_alloc (blk_new (w.alloc (.cells c1 t1)) (.cells c2 t2)) (.cells c3 t3); simpa using h_⟩,⟨by have h_ := blk_new ((w.alloc (.cells c1 t1)).alloc (.cells c2 t2)) (.cells c3 t3); simpa using h_⟩,below_alloc (below_alloc (below_alloc (Below.refl _ _) _) _) _⟩
theorem newR (w : World) (cs z : Array Value) (t : TypeId) : ∃ (W : World) (g : Nat),W = (w.alloc (.cells z t)).setRow w.heap.size cs ∧ Aside0 (g = w.heap.size) ∧ Aside0 (W.heap[g]? = some (.cells cs t (0,0))) ∧ Below w.heap.size w W :=
 ⟨_,_,rfl,⟨rfl⟩,⟨setRow_heap _ _ _ _ _ _ (blk_new _ _)⟩,below_setRow (below_alloc (Below.refl _ _) _) (Nat.le_refl _) _⟩
section
variable {P : Program} {ops : Array Oper} {rest : List Oper} {o : Oper} {a : Act} {w : World} {Q : Exit → Act → World → Prop} {g : Nat} {ty : TypeId} {cs old : Array Value} {d : TypeDesc}
/-- A struct loaded, stored, handed back whole. -/
theorem lr_ (p : Tmp) (hg : w.heap[g]? = some (.cells cs ty (0,0))) (hu : P.underlying ty = some d) (h : wpList P ops Q rest (a.put o.dst (.agg cs)) w) (hgd : o.guard = none := by exact rfl) (ho : o.op = .load ty (.tmp p) := by exact rfl) (hx : a.eval (.tmp p) = .pointer (some ⟨g,0,none⟩) := by exact rfl)
 (hd : (match d with | .struct _ | .array _ _ => true | _ => false) = true := by exact rfl) (hi : (P.info? ty).map (·.size) = some cs.size := by kernel_rfl) : wpList P ops Q (o :: rest) a w :=
 wpList_load_row hgd ty (.tmp p) ho g hx ty cs (0,0) d hg hu hd hi h
theorem sr_ (p q : Tmp) (cs : Array Value) (hg : w.heap[g]? = some (.cells old ty (0,0))) (h : wpList P ops Q rest (a.put o.dst undef) (w.setRow g cs)) (hgd : o.guard = none := by exact rfl) (ho : o.op = .store ty (.tmp p) (.tmp q) := by exact rfl) (hx : a.eval (.tmp p) = .pointer (some ⟨g,0,none⟩) := by exact rfl) (hy : a.eval (.tmp q) = .agg cs := by exact rfl)
 (hi : (P.info? ty).map (·.size) = some cs.size := by kernel_rfl) (hold : old.size = cs.size := by exact rfl) (h1 : cs.all (·.oneCell') = true := by first | kernel_rfl | rfl | simp [Value.oneCell']) : wpList P ops Q (o :: rest) a w :=
 wpList_store_row hgd ty (.tmp p) (.tmp q) ho g cs hx hy ty old hg hi hold h1 h
theorem sR_ {oi : Oper} {K : Act → World → Prop} (p q : Tmp) (cs : Array Value) (hg : w.heap[g]? = some (.cells old ty (0,0))) (h : K a (w.setRow g cs)) (hw : Region.wanted oi (yielded ops a.tmps) = true := by rfl) (hN : oi.dst = none := by exact rfl) (ho : oi.op = .store ty (.tmp p) (.tmp q) := by exact rfl) (hx : a.eval (.tmp p) = .pointer (some ⟨g,0,none⟩) := by exact rfl) (hy : a.eval (.tmp q) = .agg cs := by exact rfl)
 (hi : (P.info? ty).map (·.size) = some cs.size := by kernel_rfl) (hold : old.size = cs.size := by exact rfl) (h1 : cs.all (·.oneCell') = true := by first | kernel_rfl | rfl) : if Region.wanted oi (yielded ops a.tmps) = true then Oper.wp P oi a w K Q else K (a.put none undef) w :=
 storeR_ ty (.tmp p) (.tmp q) g cs old ty hw hN ho hx hy hg hi hold h1 h
theorem rr_ {fn : Func} {R : Ending → World → Prop} {p : Tmp} (hg : w.heap[g]? = some (.cells cs ty (0,0))) (hu : P.underlying ty = some d) (h : R (.returned (.agg cs)) w) (hr : fn.results = #[.cell p ty] := by exact rfl) (hp : a.tmps.getD p undef = .pointer (some ⟨g,0,none⟩) := by exact rfl)
 (hd : (match d with | .struct _ | .array _ _ => true | _ => false) = true := by exact rfl) (hi : (P.info? ty).map (·.size) = some cs.size := by kernel_rfl) (hdf : a.defers = [] := by exact rfl) : bodyPost P fn R .ret a w :=
 bodyPost_ret (results_cell_row hr a.tmps w g ty cs (0,0) d hp hg hu hd hi) hdf h
end
/-- Flags, told by their runs. -/
def rl : Bool → List Nat → List Bool
 | _,[] => []
 | b,n :: r => List.replicate n b ++ rl (!b) r
theorem jn_ {P : Program} {md : Region.Mode} {ops : Array Oper} {Q : Exit → Act → World → Prop} {S : World → Prop} {ds : List Nat} {fuel : Nat} {l l' : Array Bool} {a : Act} {w : World} {σ : Type} (fuel' : Nat) (r : List Nat) (ns : σ → List (Tmp × Value)) (F : σ → World → Prop)
 (hcont : ∀ s w',F s w' → wpAnyLast P md ops Q S ds fuel' l' (putAll a (ns s)) w') (h : (∀ s w',F s w' → wpAnyLast P md ops Q S ds fuel' l' (putAll a (ns s)) w') → wpAnyLast P md ops Q S ds fuel l a w)
 (hl : (rl true r).toArray = l' := by simp only [rl,List.replicate,List.cons_append,List.nil_append,Bool.not_true,Bool.not_false]; rfl) : wpAnyLast P md ops Q S ds fuel l a w := h hcont
end Go.Proofs.YtokfjbbjkiilmaaGreatDoor.H
namespace Go.Proofs.YtokfjbbjkiilmaaGreatDoor.H
open Go.MapKept Go.RowKit Go.Proofs.YtokfjbbjkiilmaaGreatDoorW.PrintWords Go.Proofs.YtokfjbbjkiilmaaGreatDoorW.PrintLast Go.Proofs.YtokfjbbjkiilmaaGreatDoorW.PrintMore
def setMap (w : World) (r : Nat) (es : Array MapEntry) (c : Nat) : World := { w with heap := w.heap.setIfInBounds r (.map es c) }
section
variable {P : Program} {w : World} {t k e : TypeId} {kd : TypeDesc} {r c i : Nat} {es : Array MapEntry} {key v z : Value}
theorem run_look (ht : P.underlying t = some (.map k e)) (hk : P.underlying k = some kd) (hkey : IsKey kd key) (hb : w.heap[r]? = some (.map es c)) (hf : Instr.findNow kd key es.toList 0 = some (some (i,v))) (ok : Bool) :
 (Instr.lookup t (.map (some r)) key ok).run P w = .ok (if ok then .tuple #[v,.bool true] else v) w := by
 simp [Instr.lookup,run_underlying ht,Go.MapKept.run_getObj_map hb,Go.MapKept.run_checkKey hk hkey,Go.MapKept.run_findKey hk hf,Result.andThen]
theorem run_look_no (ht : P.underlying t = some (.map k e)) (hk : P.underlying k = some kd) (hkey : IsKey kd key) (hb : w.heap[r]? = some (.map es c)) (hf : Instr.findNow kd key es.toList 0 = some none) (hz : (zeroValue e).run P w = .ok z w) (ok : Bool) :
 (Instr.lookup t (.map (some r)) key ok).run P w = .ok (if ok then .tuple #[z,.bool false] else z) w := by
 simp [Instr.lookup,run_underlying ht,Go.MapKept.run_getObj_map hb,Go.MapKept.run_checkKey hk hkey,Go.MapKept.run_findKey hk hf,hz,Result.andThen]
theorem run_up_no (ht : P.underlying t = some (.map k e)) (hk : P.underlying k = some kd) (hkey : IsKey kd key) (hb : w.heap[r]? = some (.map es c)) (hf : Instr.findNow kd key es.toList 0 = some none) :
 (Instr.mapUpdate t (.map (some r)) key v).run P w = .ok () (setMap w r (es.push { key,val := v,born := c }) (c + 1)) := by
 simp [Instr.mapUpdate,run_underlying ht,Go.MapKept.run_getObj_map hb,Go.MapKept.run_checkKey hk hkey,Go.MapKept.run_findKey hk hf,Go.MapKept.run_setObj_map _ hb,Result.andThen,setMap]
theorem run_up (ht : P.underlying t = some (.map k e)) (hk : P.underlying k = some kd) (hkey : IsKey kd key) (hb : w.heap[r]? = some (.map es c)) (hf : Instr.findNow kd key es.toList 0 = some (some (i,z))) (hs : Instr.sameBits 10000 (((es[i]?).map (·.key)).getD key) key = true) :
 (Instr.mapUpdate t (.map (some r)) key v).run P w = .ok () (setMap w r (es.modify i fun e => { e with key,val := v }) c) := by
 simp [Instr.mapUpdate,run_underlying ht,Go.MapKept.run_getObj_map hb,Go.MapKept.run_checkKey hk hkey,Go.MapKept.run_findKey hk hf,Instr.keyThatStays,hs,Go.MapKept.run_setObj_map _ hb,Result.andThen,setMap]
end
theorem run_makeMap0 {P : Program} {w : World} (t : TypeId) : (Instr.makeMap t none).run P w = .ok (.map (some w.heap.size)) (w.alloc (.map #[] 0)) := by
 simp [Instr.makeMap,Result.andThen]
theorem setMap_heap {w : World} {r c c' : Nat} {es es' : Array MapEntry} (h : w.heap[r]? = some (.map es c)) : (setMap w r es' c').heap[r]? = some (.map es' c') := (heap_set h).1
theorem setMap_other {w : World} {r q c' : Nat} {o : Obj} {es' : Array MapEntry} (h : w.heap[q]? = some o) (hn : q ≠ r) : (setMap w r es' c').heap[q]? = some o := by
 unfold setMap
 simp [Ne.symm hn,h]
theorem below_setMap {B r c' : Nat} {w0 w : World} {es' : Array MapEntry} (hb : Below B w0 w) (h : B ≤ r) : Below B w0 (setMap w r es' c') := by
 refine hb.trans ⟨rfl,rfl,rfl,by simp [setMap],fun q hq => ?_⟩
 unfold setMap
 show (w.heap.setIfInBounds r _)[q]? = w.heap[q]?
 rw [Array.getElem?_setIfInBounds_ne (by omega)]
end Go.Proofs.YtokfjbbjkiilmaaGreatDoor.H
namespace Go.Proofs.YtokfjbbjkiilmaaGreatDoor.H
open Go.RowKit Go.Proofs.YtokfjbbjkiilmaaGreatDoorW.PrintWords Go.Proofs.YtokfjbbjkiilmaaGreatDoorW.PrintLast Go.Proofs.YtokfjbbjkiilmaaGreatDoorW.PrintMore
/-- Of the blocks of w only those of L may be others in w'. -/
structure Keep (L : List Nat) (w w' : World) : Prop where
 os : w'.os = w.os
 tape : w'.tape = w.tape
 output : w'.output = w.output
 size : w.heap.size ≤ w'.heap.size
 block : ∀ k,k < w.heap.size → k ∉ L → w'.heap[k]? = w.heap[k]?
theorem Keep.refl (L : List Nat) (w : World) : Keep L w w := ⟨rfl,rfl,rfl,Nat.le_refl _,fun _ _ _ => rfl⟩
theorem Keep.trans {L : List Nat} {a b c : World} (h : Keep L a b) (k : Keep L b c) : Keep L a c :=
 ⟨k.os.trans h.os,k.tape.trans h.tape,k.output.trans h.output,Nat.le_trans h.size k.size,fun i hi hn => (k.block i (Nat.lt_of_lt_of_le hi h.size) hn).trans (h.block i hi hn)⟩
theorem Keep.mono {L M : List Nat} {a b : World} (h : Keep L a b) (hs : ∀ k,k < a.heap.size → k ∈ L → k ∈ M) : Keep M a b :=
 ⟨h.os,h.tape,h.output,h.size,fun k hk hn => h.block k hk fun hm => hn (hs k hk hm)⟩
theorem Keep.below {L : List Nat} {a b : World} (h : Below a.heap.size a b) : Keep L a b := ⟨h.os,h.tape,h.output,h.size,fun k hk _ => h.block k hk⟩
/-- What is behind a call that itself only changes what is new: the blocks of L that are new do not count. -/
theorem Keep.behind {L M : List Nat} {a b c : World} (h : Keep M a b) (k : Keep L b c) (hs : ∀ q,q ∈ L → q ∈ M ∨ a.heap.size ≤ q) : Keep M a c :=
 ⟨k.os.trans h.os,k.tape.trans h.tape,k.output.trans h.output,Nat.le_trans h.size k.size,fun i hi hn =>
  (k.block i (Nat.lt_of_lt_of_le hi h.size) fun hm => (hs i hm).elim hn (by omega)).trans (h.block i hi hn)⟩
theorem Keep.setRow {L : List Nat} {w0 w : World} {g : Nat} (cs : Array Value) (h : Keep L w0 w) (hg : g ∈ L ∨ w0.heap.size ≤ g) : Keep L w0 (w.setRow g cs) :=
 ⟨h.os,h.tape,h.output,by rw [setRow_size]; exact h.size,fun k hk hn => (setRow_other w g k cs fun e => by subst e; exact hg.elim hn (by omega)).trans (h.block k hk hn)⟩
theorem Keep.setMap {L : List Nat} {w0 w : World} {g : Nat} (es : Array MapEntry) (c : Nat) (h : Keep L w0 w) (hg : g ∈ L ∨ w0.heap.size ≤ g) : Keep L w0 (setMap w g es c) :=
 ⟨h.os,h.tape,h.output,by simpa [H.setMap] using h.size,fun k hk hn => by
  show (w.heap.setIfInBounds g _)[k]? = _
  rw [Array.getElem?_setIfInBounds_ne (fun e => by subst e; exact hg.elim hn (by omega))]
  exact h.block k hk hn⟩
theorem Keep.alloc {L : List Nat} {w0 w : World} (o : Obj) (h : Keep L w0 w) : Keep L w0 (w.alloc o) :=
 h.behind (Keep.below (L := []) (below_alloc (Below.refl _ _) o)) (fun q hq => by simp at hq)
theorem Keep.drew {L : List Nat} {w0 w : World} (h : Keep L w0 w) : Keep L w0 w.drew :=
 h.behind (Keep.below (L := []) (below_drew (Below.refl _ _))) (fun q hq => by simp at hq)
theorem Keep.grown {L : List Nat} {w0 w w' : World} {b : Option Nat} (h : Keep L w0 w) (hg : w.grownBy w' b) (hm : ∀ k,b = some k → k ∈ L ∨ w0.heap.size ≤ k) : Keep L w0 w' :=
 ⟨hg.os.trans h.os,hg.tape.trans h.tape,hg.output.trans h.output,Nat.le_trans h.size hg.size,fun k hk0 hn =>
  (hg.block k (Nat.lt_of_lt_of_le hk0 h.size) fun e => (hm k e.symm).elim hn (by omega)).trans (h.block k hk0 hn)⟩
theorem blk_keep {L : List Nat} {w w' : World} {g : Nat} {o : Obj} (h : w.heap[g]? = some o) (k : Keep L w w') (hn : g ∉ L) : w'.heap[g]? = some o := (k.block g (blk_lt h) hn).trans h
theorem own_keep {w w' : World} {e : TypeId} {z n : Nat} {v : Value} {xs : List Value} (h : w.ownsRow 0 e z v n xs) (hk : ∀ k,v.ownBlock = some k → w'.heap[k]? = w.heap[k]?) : w'.ownsRow 0 e z v n xs := by
 obtain ⟨h1,h2⟩ := h
 refine ⟨h1,?_⟩
 rcases h2 with h2 | ⟨g,cap,cur,rfl,hb,hh,hr⟩
 ·exact .inl h2
 ·exact .inr ⟨g,cap,cur,rfl,hb,(hk g rfl).trans hh,hr⟩
/-- An owned row's block is of the row's type. -/
theorem own_ne {w : World} {e t : TypeId} {z n g : Nat} {v : Value} {xs : List Value} {c : Array Value} (h : w.ownsRow 0 e z v n xs) (hg : w.heap[g]? = some (.cells c t (0,0))) (ht : t ≠ e) : ∀ k,v.ownBlock = some k → k ≠ g := by
 intro k hk
 obtain ⟨h1,h2⟩ := h
 rcases h2 with ⟨rfl,_⟩ | ⟨b,cap,cur,rfl,hb,hh,hr⟩
 ·cases hk
 ·cases hk
  exact (tne hg hh ht).symm
theorem own_lt {w : World} {e : TypeId} {z n : Nat} {v : Value} {xs : List Value} (h : w.ownsRow 0 e z v n xs) : ∀ k,v.ownBlock = some k → k < w.heap.size := by
 intro k hk
 obtain ⟨h1,h2⟩ := h
 rcases h2 with ⟨rfl,_⟩ | ⟨b,cap,cur,rfl,hb,hh,hr⟩
 ·cases hk
 ·cases hk
  exact blk_lt hh
theorem own_one {w : World} {e : TypeId} {z n : Nat} {v : Value} {xs : List Value} (h : w.ownsRow 0 e z v n xs) : ∃ a l c,v = .slice a l c := by
 obtain ⟨h1,h2⟩ := h
 rcases h2 with ⟨rfl,_⟩ | ⟨b,cap,cur,rfl,_⟩ <;> exact ⟨_,_,_,rfl⟩
theorem infoE {P : Program} {t n b : Nat} {z : Value} (h : (P.info? t).map (fun i => (i.zero,i.size,i.bytes)) = some (some z,n,b)) : ∃ i,P.info? t = some i ∧ i.zero = some z ∧ i.size = n ∧ i.bytes = b := by
 cases hq : P.info? t with
 | none => simp [hq] at h
 | some i =>
  rw [hq] at h
  simp only [Option.map_some,Option.some.injEq,Prod.mk.injEq] at h
  exact ⟨i,rfl,h.1,h.2.1,h.2.2⟩
end Go.Proofs.YtokfjbbjkiilmaaGreatDoor.H
namespace Go.Proofs.YtokfjbbjkiilmaaGreatDoor.H
open Go.RowKit Go.Proofs.YtokfjbbjkiilmaaGreatDoorW.PrintWords Go.Proofs.YtokfjbbjkiilmaaGreatDoorW.PrintLast Go.Proofs.YtokfjbbjkiilmaaGreatDoorW.PrintMore
attribute [local go_sem] max2_int min2_int min_two max_two
/-- A number's byte. -/
def byt (n : Int) (i : Nat) : Int := n / 256 ^ i % 256
theorem byt_lt (n : Int) (i : Nat) : 0 ≤ byt n i ∧ byt n i < 256 := by unfold byt; omega
/-- A number's first bytes, the least first. -/
def le (n : Int) (k : Nat) : List Int := (List.range k).map (byt n)
def pbc (n : Int) (k : Nat) : Array Value := #[.int .u8 (if 0 < k then byt n 0 else 0),.int .u8 (if 1 < k then byt n 1 else 0),.int .u8 (if 2 < k then byt n 2 else 0),.int .u8 (if 3 < k then byt n 3 else 0),.int .u8 (if 4 < k then byt n 4 else 0),.int .u8 (if 5 < k then byt n 5 else 0),.int .u8 (if 6 < k then byt n 6 else 0),.int .u8 (if 7 < k then byt n 7 else 0)]
set_option maxHeartbeats 4000000 in
set_option maxRecDepth 100000 in
theorem put_calls (n size : Int) (w : World) (hn : 0 ≤ n ∧ n ≤ 18446744073709551615) (hs : size = 4 ∨ size = 8) :
 Calls Tryz.prog 222 #[.int .u64 n,.int .i64 size] w fun e w' => e = .returned (.string (strOfNums (le n size.toNat))) ∧ Below w.heap.size w w' := by
 have hs0 : 0 ≤ size := by omega
 have hs8 : size ≤ 8 := by omega
 have HN := Aside0.mk hn
 have HS := Aside0.mk hs
 clear hn hs
 go_enter Tryz.func222,Tryz.ntmps222
 go_wp2_with fail
 obtain ⟨W1,hW1⟩ : ∃ W1,W1 = w.alloc (.cells (pbc n 0) 347) := ⟨_,rfl⟩
 obtain ⟨g,hg⟩ : ∃ g,g = w.heap.size := ⟨_,rfl⟩
 have HX : Aside0 (W1.heap[g]? = some (.cells (pbc n 0) 347 (0,0))) := ⟨by rw [hW1,hg]; exact blk_new _ _⟩
 have HB : Aside0 (Below w.heap.size w W1) := ⟨by rw [hW1]; exact below_alloc (Below.refl _ _) _⟩
 have HG : Aside0 (w.heap.size ≤ g) := ⟨Nat.le_of_eq hg.symm⟩
 have h1 : w.alloc (Obj.cells #[Value.int IntKind.u8 0,Value.int IntKind.u8 0,Value.int IntKind.u8 0,Value.int IntKind.u8 0,Value.int IntKind.u8 0,Value.int IntKind.u8 0,Value.int IntKind.u8 0,Value.int IntKind.u8 0] 347) = W1 := hW1.symm
 rw [h1,← hg]
 clear hW1 hg h1
 go_loopw [10] (fun v wr => ∃ i : Int,(0 ≤ i ∧ i ≤ 8) ∧ v = .int .i64 i ∧ Aside0 (wr.heap[g]? = some (.cells (pbc n i.toNat) 347 (0,0))) ∧ Aside0 (Below w.heap.size w wr)) (fun v _ => 8 - (intOf v).toNat)
 case atStart => exact ⟨0,by omega,rfl,HX,HB⟩
 case round =>
  clear HX HB
  obtain ⟨i,⟨hi0,hi8⟩,rfl,HX,HB⟩ := hrel
  by_cases h : i < 8
  ·have ht := decide_eq_true h
   rcases (show i = 0 ∨ i = 1 ∨ i = 2 ∨ i = 3 ∨ i = 4 ∨ i = 5 ∨ i = 6 ∨ i = 7 by omega) with rfl | rfl | rfl | rfl | rfl | rfl | rfl | rfl
   ·have c0 : wr.cell? ⟨g,0,none⟩ = some (.int .u8 0) := cL HX 0 rfl
    have f0 := blk_frozen HX.out 0
    go_wp2_with fail
    exact ⟨⟨1,by omega,rfl,⟨by rw [blk_set HX.out 0 _]; simp [pbc,byt]⟩,⟨below_set HB.out HG.out⟩⟩,by simp [intOf]⟩
   ·have c0 : wr.cell? ⟨g,1,none⟩ = some (.int .u8 0) := cL HX 1 rfl
    have f0 := blk_frozen HX.out 1
    go_wp2_with fail
    exact ⟨⟨2,by omega,rfl,⟨by rw [blk_set HX.out 1 _]; simp [pbc,byt]⟩,⟨below_set HB.out HG.out⟩⟩,by simp [intOf]⟩
   ·have c0 : wr.cell? ⟨g,2,none⟩ = some (.int .u8 0) := cL HX 2 rfl
    have f0 := blk_frozen HX.out 2
    go_wp2_with fail
    exact ⟨⟨3,by omega,rfl,⟨by rw [blk_set HX.out 2 _]; simp [pbc,byt]⟩,⟨below_set HB.out HG.out⟩⟩,by simp [intOf]⟩
   ·have c0 : wr.cell? ⟨g,3,none⟩ = some (.int .u8 0) := cL HX 3 rfl
    have f0 := blk_frozen HX.out 3
    go_wp2_with fail
    exact ⟨⟨4,by omega,rfl,⟨by rw [blk_set HX.out 3 _]; simp [pbc,byt]⟩,⟨below_set HB.out HG.out⟩⟩,by simp [intOf]⟩
   ·have c0 : wr.cell? ⟨g,4,none⟩ = some (.int .u8 0) := cL HX 4 rfl
    have f0 := blk_frozen HX.out 4
    go_wp2_with fail
    exact ⟨⟨5,by omega,rfl,⟨by rw [blk_set HX.out 4 _]; simp [pbc,byt]⟩,⟨below_set HB.out HG.out⟩⟩,by simp [intOf]⟩
   ·have c0 : wr.cell? ⟨g,5,none⟩ = some (.int .u8 0) := cL HX 5 rfl
    have f0 := blk_frozen HX.out 5
    go_wp2_with fail
    exact ⟨⟨6,by omega,rfl,⟨by rw [blk_set HX.out 5 _]; simp [pbc,byt]⟩,⟨below_set HB.out HG.out⟩⟩,by simp [intOf]⟩
   ·have c0 : wr.cell? ⟨g,6,none⟩ = some (.int .u8 0) := cL HX 6 rfl
    have f0 := blk_frozen HX.out 6
    go_wp2_with fail
    exact ⟨⟨7,by omega,rfl,⟨by rw [blk_set HX.out 6 _]; simp [pbc,byt]⟩,⟨below_set HB.out HG.out⟩⟩,by simp [intOf]⟩
   ·have c0 : wr.cell? ⟨g,7,none⟩ = some (.int .u8 0) := cL HX 7 rfl
    have f0 := blk_frozen HX.out 7
    go_wp2_with fail
    exact ⟨⟨8,by omega,rfl,⟨by rw [blk_set HX.out 7 _]; simp [pbc,byt]⟩,⟨below_set HB.out HG.out⟩⟩,by simp [intOf]⟩
  ·obtain rfl : i = 8 := by omega
   have ht := decide_eq_false h
   clear hi0 hi8
   rcases HS.out with rfl | rfl
   ·clear HS
    have hcv := run_convert_bytes_arg wr 320 5 Tryz.underlying320 Tryz.underlying5 g 0 4 4 (le n 4) rfl (fun j hj => by rw [Nat.zero_add,blk_cell HX.out j]; rcases (show j = 0 ∨ j = 1 ∨ j = 2 ∨ j = 3 by omega) with rfl | rfl | rfl | rfl <;> rfl) 9 Tryz.underlying9
    go_wp2_with fail
    go_ret
    exact ⟨rfl,HB.out⟩
   ·clear HS
    have hcv := run_convert_bytes_arg wr 320 5 Tryz.underlying320 Tryz.underlying5 g 0 8 8 (le n 8) rfl (fun j hj => by rw [Nat.zero_add,blk_cell HX.out j]; rcases (show j = 0 ∨ j = 1 ∨ j = 2 ∨ j = 3 ∨ j = 4 ∨ j = 5 ∨ j = 6 ∨ j = 7 by omega) with rfl | rfl | rfl | rfl | rfl | rfl | rfl | rfl <;> rfl) 9 Tryz.underlying9
    go_wp2_with fail
    go_ret
    exact ⟨rfl,HB.out⟩
end Go.Proofs.YtokfjbbjkiilmaaGreatDoor.H
namespace Go.Proofs.YtokfjbbjkiilmaaGreatDoor.H
open Go.RowKit Go.Proofs.YtokfjbbjkiilmaaGreatDoorW.PrintWords Go.Proofs.YtokfjbbjkiilmaaGreatDoorW.PrintLast Go.Proofs.YtokfjbbjkiilmaaGreatDoorW.PrintMore
attribute [local go_sem] max2_int min2_int min_two max_two
/-- A text's byte; 0 behind its end. -/
def sb (s : ByteArray) (j : Nat) : Int := ((s.data.toList.getD j 0).toNat : Int)
theorem sb_lt (s : ByteArray) (j : Nat) : 0 ≤ sb s j ∧ sb s j ≤ 255 := by
 unfold sb
 have := (s.data.toList.getD j 0).toNat_lt
 omega
def row8 (s : ByteArray) : Array Value := #[.int .u8 (sb s 0),.int .u8 (sb s 1),.int .u8 (sb s 2),.int .u8 (sb s 3),.int .u8 (sb s 4),.int .u8 (sb s 5),.int .u8 (sb s 6),.int .u8 (sb s 7)]
def acc (s : ByteArray) : Nat → Int
 | 0 => 0
 | i + 1 => acc s i + sb s i * 256 ^ i
theorem acc_lt (s : ByteArray) : ∀ i,0 ≤ acc s i ∧ acc s i < 256 ^ i
 | 0 => ⟨Int.le_refl _,by show (0 : Int) < 256 ^ 0; decide⟩
 | i + 1 => by
  have h := acc_lt s i
  have hb := sb_lt s i
  have h1 : sb s i * 256 ^ i ≤ 255 * 256 ^ i := Int.mul_le_mul_of_nonneg_right hb.2 (by omega)
  have h2 : 0 ≤ sb s i * 256 ^ i := Int.mul_nonneg hb.1 (by omega)
  have h3 : (256 : Int) ^ (i + 1) = 256 * 256 ^ i := by rw [Int.pow_succ,Int.mul_comm]
  unfold acc
  omega
theorem or_high (x y : Int) (i j : Nat) (hij : 8 * i ≤ 64) (hx : 0 ≤ x ∧ x < 2 ^ (8 * i)) (hy : 0 ≤ y ∧ y < 2 ^ 64) (hd : y % 2 ^ (8 * i) = 0) : bits .or .u64 x y = x + y := by
 have hc : bits .or .u64 x y = bits .or .u64 y x := by unfold bits; simp [Nat.or_comm]
 have hw : ∀ n : Int,0 ≤ n → n < 2 ^ 64 → IntKind.u64.wrap n = n := fun n h0 h1 => by
  simp [IntKind.wrap,IntKind.bits,IntKind.signed]
  omega
 have hp : (2 : Int) ^ (8 * i) ≤ 2 ^ 64 := by
  have := Nat.pow_le_pow_right (n := 2) (by decide) hij
  exact_mod_cast this
 rw [hc,bits_join .u64 64 (by decide) hw (8 * i) y x hy.1 hd hy.2 hx.1 hx.2 (by omega)]
 omega
theorem row8_list (s : ByteArray) : (row8 s).toList = (List.range 8).map (fun j => Value.int .u8 (sb s j)) := rfl
theorem row8_is (s : ByteArray) : (Lib.byteCells s.data.toList).take 8 ++ (List.replicate 8 (Value.int .u8 0)).drop ((Lib.byteCells s.data.toList).take 8).length = (row8 s).toList := by
 rw [row8_list]
 refine List.ext_getElem (by simp [Lib.byteCells_length]; omega) fun i h1 h2 => ?_
 have h8 : i < 8 := by simpa using h2
 rw [List.getElem_append]
 split
 ·rename_i h
  have h3 : i < s.data.toList.length := by rw [List.length_take,Lib.byteCells_length] at h; omega
  have h4 : i < s.data.size := by simpa using h3
  simp [Lib.byteCells,sb,List.getD_eq_getElem?_getD]
  rw [Array.getElem?_eq_getElem h4]
  rfl
 ·rename_i h
  have h3 : s.data.toList.length ≤ i := by rw [List.length_take,Lib.byteCells_length] at h; omega
  have h4 : ¬ i < s.data.size := by simpa using h3
  have hz : ∀ (k : Nat) (hk : k < ((List.replicate 8 (Value.int .u8 0)).drop ((Lib.byteCells s.data.toList).take 8).length).length),((List.replicate 8 (Value.int .u8 0)).drop ((Lib.byteCells s.data.toList).take 8).length)[k] = Value.int .u8 0 := fun k hk => by rw [List.getElem_drop,List.getElem_replicate]
  rw [hz]
  simp [sb,List.getD_eq_getElem?_getD]
  rw [Array.getElem?_eq_none (by omega)]
  rfl
theorem copy8 (s : ByteArray) (W : World) (g : Nat) (h : W.heap[g]? = some (.cells #[.int .u8 0,.int .u8 0,.int .u8 0,.int .u8 0,.int .u8 0,.int .u8 0,.int .u8 0,.int .u8 0] 347 (0,0))) :
 (Builtin.copy_ #[320,9] 3 #[.slice (some ⟨g,0,none⟩) 8 8,.string s]).run Tryz.prog W = .ok (.int .i64 (min s.size 8 : Nat)) (W.setRow g (row8 s)) := by
 have hi : (Tryz.prog.info? 5).map (·.size) = some 1 := by kernel_rfl
 have hst := run_storeCells_at Tryz.prog g 0 347 ((Lib.byteCells s.data.toList).take 8) 0 #[.int .u8 0,.int .u8 0,.int .u8 0,.int .u8 0,.int .u8 0,.int .u8 0,.int .u8 0,.int .u8 0] W h (by simp [List.length_take]; omega) (fun v hv => Lib.byteCells_one _ v (List.mem_of_mem_take hv))
 have hr : (Array.toList #[.int .u8 0,.int .u8 0,.int .u8 0,.int .u8 0,.int .u8 0,.int .u8 0,.int .u8 0,.int .u8 0]).take (0 + 0) ++ (Lib.byteCells s.data.toList).take 8 ++ (Array.toList #[.int .u8 0,.int .u8 0,.int .u8 0,.int .u8 0,.int .u8 0,.int .u8 0,.int .u8 0,.int .u8 0]).drop (0 + 0 + ((Lib.byteCells s.data.toList).take 8).length) = (row8 s).toList := by
  rw [← row8_is]
  simp
 rw [hr,Array.toArray_toList] at hst
 cases hq : Tryz.prog.info? 5 with
 | none => simp [hq] at hi
 | some i =>
  have hs : i.size = 1 := by simpa [hq] using hi
  have hl : s.size = s.data.toList.length := Lib.size_eq s
  have e1 : List.take (min s.size 8) (List.map (fun b : UInt8 => Value.int IntKind.u8 (b.toNat : Int)) s.data.toList) = (Lib.byteCells s.data.toList).take 8 := by
   have e0 : List.map (fun b : UInt8 => Value.int IntKind.u8 (b.toNat : Int)) s.data.toList = Lib.byteCells s.data.toList := rfl
   rw [e0,List.take_eq_take_iff,Lib.byteCells_length]
   omega
  have e2 : Nat.min s.size 8 = min s.size 8 := rfl
  simp [Builtin.copy_,run_underlying Tryz.underlying320,Builtin.lenOf,Builtin.firstCells,sizeOf,typeInfo,hq,hs,e2]
  rw [e1,hst]
  rfl
set_option maxHeartbeats 4000000 in
set_option maxRecDepth 100000 in
theorem get_calls (s : ByteArray) (w : World) :
 Calls Tryz.prog 206 #[.string s] w fun e w' => e = .returned (.int .u64 (acc s 8)) ∧ Below w.heap.size w w' := by
 go_enter Tryz.func206,Tryz.ntmps206
 have hc2 := copy8 s (w.alloc (.cells #[.int .u8 0,.int .u8 0,.int .u8 0,.int .u8 0,.int .u8 0,.int .u8 0,.int .u8 0,.int .u8 0] 347)) w.heap.size (blk_new _ _)
 go_wp2_with fail
 clear hc2
 generalize (min s.size 8 : Nat) = mm
 obtain ⟨W1,hW1⟩ : ∃ W1,W1 = (w.alloc (.cells #[.int .u8 0,.int .u8 0,.int .u8 0,.int .u8 0,.int .u8 0,.int .u8 0,.int .u8 0,.int .u8 0] 347)).setRow w.heap.size (row8 s) := ⟨_,rfl⟩
 rw [← hW1]
 obtain ⟨g,hg⟩ : ∃ g,g = w.heap.size := ⟨_,rfl⟩
 have HX : Aside0 (W1.heap[g]? = some (.cells (row8 s) 347 (0,0))) := ⟨by rw [hW1,hg]; exact setRow_heap _ _ _ _ _ _ (blk_new _ _)⟩
 have HB : Aside0 (Below w.heap.size w W1) := ⟨by rw [hW1]; exact below_setRow (below_alloc (Below.refl _ _) _) (Nat.le_refl _) _⟩
 rw [← hg]
 clear hW1 hg
 go_loopw [9,4] (fun v a wr => ∃ i : Int,(0 ≤ i ∧ i ≤ 8) ∧ v = .int .i64 i ∧ a = .int .u64 (acc s i.toNat) ∧ wr = W1) (fun v _ _ => 8 - (intOf v).toNat)
 case atStart => exact ⟨0,by omega,rfl,rfl,rfl⟩
 case round =>
  obtain ⟨i,⟨hi0,hi8⟩,rfl,rfl,rfl⟩ := hrel
  by_cases h : i < 8
  ·have ht := decide_eq_true h
   rcases (show i = 0 ∨ i = 1 ∨ i = 2 ∨ i = 3 ∨ i = 4 ∨ i = 5 ∨ i = 6 ∨ i = 7 by omega) with rfl | rfl | rfl | rfl | rfl | rfl | rfl | rfl
   ·have c0 : wr.cell? ⟨g,0,none⟩ = some (.int .u8 (sb s 0)) := cL HX 0 rfl
    have hb := sb_lt s 0
    have ha := acc_lt s 0
    have HO := Aside0.mk (show bits .or .u64 (acc s 0) (sb s 0 * 256 ^ 0) = acc s 1 from or_high _ _ 0 0 (by decide) (by simpa using ha) (by omega) (by omega))
    clear ha
    go_wp2_with fail
    exact ⟨⟨1,by omega,rfl,congrArg (Value.int IntKind.u64) (by have h := HO.out; rw [Int.pow_zero,Int.mul_one] at h; exact h),by first | rfl | trivial⟩,by simp [intOf]⟩
   ·have c0 : wr.cell? ⟨g,1,none⟩ = some (.int .u8 (sb s 1)) := cL HX 1 rfl
    have hb := sb_lt s 1
    have ha := acc_lt s 1
    have HO := Aside0.mk (show bits .or .u64 (acc s 1) (sb s 1 * 256 ^ 1) = acc s 2 from or_high _ _ 1 0 (by decide) (by simpa using ha) (by omega) (by omega))
    clear ha
    go_wp2_with fail
    exact ⟨⟨2,by omega,rfl,congrArg (Value.int IntKind.u64) HO.out,by first | rfl | trivial⟩,by simp [intOf]⟩
   ·have c0 : wr.cell? ⟨g,2,none⟩ = some (.int .u8 (sb s 2)) := cL HX 2 rfl
    have hb := sb_lt s 2
    have ha := acc_lt s 2
    have HO := Aside0.mk (show bits .or .u64 (acc s 2) (sb s 2 * 256 ^ 2) = acc s 3 from or_high _ _ 2 0 (by decide) (by simpa using ha) (by omega) (by omega))
    clear ha
    go_wp2_with fail
    exact ⟨⟨3,by omega,rfl,congrArg (Value.int IntKind.u64) HO.out,by first | rfl | trivial⟩,by simp [intOf]⟩
   ·have c0 : wr.cell? ⟨g,3,none⟩ = some (.int .u8 (sb s 3)) := cL HX 3 rfl
    have hb := sb_lt s 3
    have ha := acc_lt s 3
    have HO := Aside0.mk (show bits .or .u64 (acc s 3) (sb s 3 * 256 ^ 3) = acc s 4 from or_high _ _ 3 0 (by decide) (by simpa using ha) (by omega) (by omega))
    clear ha
    go_wp2_with fail
    exact ⟨⟨4,by omega,rfl,congrArg (Value.int IntKind.u64) HO.out,by first | rfl | trivial⟩,by simp [intOf]⟩
   ·have c0 : wr.cell? ⟨g,4,none⟩ = some (.int .u8 (sb s 4)) := cL HX 4 rfl
    have hb := sb_lt s 4
    have ha := acc_lt s 4
    have HO := Aside0.mk (show bits .or .u64 (acc s 4) (sb s 4 * 256 ^ 4) = acc s 5 from or_high _ _ 4 0 (by decide) (by simpa using ha) (by omega) (by omega))
    clear ha
    go_wp2_with fail
    exact ⟨⟨5,by omega,rfl,congrArg (Value.int IntKind.u64) HO.out,by first | rfl | trivial⟩,by simp [intOf]⟩
   ·have c0 : wr.cell? ⟨g,5,none⟩ = some (.int .u8 (sb s 5)) := cL HX 5 rfl
    have hb := sb_lt s 5
    have ha := acc_lt s 5
    have HO := Aside0.mk (show bits .or .u64 (acc s 5) (sb s 5 * 256 ^ 5) = acc s 6 from or_high _ _ 5 0 (by decide) (by simpa using ha) (by omega) (by omega))
    clear ha
    go_wp2_with fail
    exact ⟨⟨6,by omega,rfl,congrArg (Value.int IntKind.u64) HO.out,by first | rfl | trivial⟩,by simp [intOf]⟩
   ·have c0 : wr.cell? ⟨g,6,none⟩ = some (.int .u8 (sb s 6)) := cL HX 6 rfl
    have hb := sb_lt s 6
    have ha := acc_lt s 6
    have HO := Aside0.mk (show bits .or .u64 (acc s 6) (sb s 6 * 256 ^ 6) = acc s 7 from or_high _ _ 6 0 (by decide) (by simpa using ha) (by omega) (by omega))
    clear ha
    go_wp2_with fail
    exact ⟨⟨7,by omega,rfl,congrArg (Value.int IntKind.u64) HO.out,by first | rfl | trivial⟩,by simp [intOf]⟩
   ·have c0 : wr.cell? ⟨g,7,none⟩ = some (.int .u8 (sb s 7)) := cL HX 7 rfl
    have hb := sb_lt s 7
    have ha := acc_lt s 7
    have HO := Aside0.mk (show bits .or .u64 (acc s 7) (sb s 7 * 256 ^ 7) = acc s 8 from or_high _ _ 7 0 (by decide) (by simpa using ha) (by omega) (by omega))
    clear ha
    go_wp2_with fail
    exact ⟨⟨8,by omega,rfl,congrArg (Value.int IntKind.u64) HO.out,by first | rfl | trivial⟩,by simp [intOf]⟩
  ·obtain rfl : i = 8 := by omega
   have ht := decide_eq_false h
   clear hi0 hi8
   go_wp2_with fail
   go_ret
   exact ⟨rfl,HB.out⟩
end Go.Proofs.YtokfjbbjkiilmaaGreatDoor.H
namespace Go.Proofs.YtokfjbbjkiilmaaGreatDoor.H
open Go.RowKit Go.Proofs.YtokfjbbjkiilmaaGreatDoorW.PrintWords Go.Proofs.YtokfjbbjkiilmaaGreatDoorW.PrintLast Go.Proofs.YtokfjbbjkiilmaaGreatDoorW.PrintMore
attribute [local go_sem] max2_int min2_int min_two max_two
/-- One of the eight steps. -/
def stp (r : Int) : Int := if (bits .and .u32 r 1 == 1) = true then bits .xor .u32 (r / 2) 3988292384 else r / 2
theorem u32_wrap (n : Int) (h : 0 ≤ n ∧ n < 4294967296) : IntKind.u32.wrap n = n := by rw [IntKind.wrap_u32]; omega
theorem wrap_u32_lt (n : Int) : 0 ≤ IntKind.u32.wrap n ∧ IntKind.u32.wrap n < 4294967296 := by rw [IntKind.wrap_u32]; omega
theorem bits_u32_lt (op : BinOp) (a b : Int) : 0 ≤ bits op .u32 a b ∧ bits op .u32 a b < 4294967296 := by
 unfold bits
 cases op <;> first | exact wrap_u32_lt _ | (simp only []; first | exact wrap_u32_lt _ | decide)
theorem stp_lt {r : Int} (h : 0 ≤ r ∧ r < 4294967296) : 0 ≤ stp r ∧ stp r < 4294967296 := by
 unfold stp
 split
 ·exact bits_u32_lt _ _ _
 ·omega
def stps : Nat → Int → Int
 | 0,r => r
 | j + 1,r => stp (stps j r)
theorem stps_lt {r : Int} (h : 0 ≤ r ∧ r < 4294967296) : ∀ j,0 ≤ stps j r ∧ stps j r < 4294967296
 | 0 => h
 | j + 1 => stp_lt (stps_lt h j)
def rst (i : Nat) : Int := stps 8 i
def tab (k : Nat) : Array Value := (Array.range 256).map fun i => .int .u32 (if i < k then rst i else 0)
theorem tab_size (k : Nat) : (tab k).size = 256 := by simp [tab]
theorem tab_get {k i : Nat} (h : i < 256) : (tab k)[i]? = some (.int .u32 (if i < k then rst i else 0)) := by simp [tab,h]
theorem tab_zero : Tryz.zeroCells400 = tab 0 := by kernel_rfl
theorem tab_set {k : Nat} (h : k < 256) : (tab k).setIfInBounds k (.int .u32 (rst k)) = tab (k + 1) := by
 refine Array.ext (by simp [tab]) fun i h1 h2 => ?_
 have hi : i < 256 := by rw [tab_size] at h2; exact h2
 rw [Array.getElem_setIfInBounds (by rw [tab_size]; exact hi)]
 split
 ·rename_i e
  subst e
  simp [tab]
 ·rename_i e
  simp only [tab,Array.getElem_map,Array.getElem_range]
  by_cases h3 : i < k
  ·rw [if_pos h3,if_pos (by omega)]
  ·rw [if_neg h3,if_neg (by omega)]
theorem tab_one (k : Nat) : (tab k).all (·.oneCell') = true := by
 rw [Array.all_eq_true_iff_forall_mem]
 intro v hv
 simp only [tab,Array.mem_map] at hv
 obtain ⟨i,_,rfl⟩ := hv
 rfl
theorem info400 : (Tryz.prog.info? 400).map (·.size) = some 256 := by kernel_rfl
set_option maxHeartbeats 4000000 in
set_option maxRecDepth 100000 in
theorem rests_calls (w : World) :
 Calls Tryz.prog 280 #[] w fun e w' => e = .returned (.agg (tab 256)) ∧ Below w.heap.size w w' := by
 go_enter Tryz.func280,Tryz.ntmps280
 go_upto_region 2 with fail
 rw [tab_zero]
 obtain ⟨W1,hW1⟩ : ∃ W1,W1 = (w.alloc (.cells (tab 0) 400)).alloc (.cells (tab 0) 400) := ⟨_,rfl⟩
 rw [← hW1]
 obtain ⟨g1,hg1⟩ : ∃ g,g = w.heap.size + 1 := ⟨_,rfl⟩
 obtain ⟨g0,hg0⟩ : ∃ g,g = w.heap.size := ⟨_,rfl⟩
 have HX0 : Aside0 (W1.heap[g0]? = some (.cells (tab 0) 400 (0,0))) := ⟨by rw [hW1,hg0]; exact blk_alloc (blk_new _ _) _⟩
 have HX1 : Aside0 (W1.heap[g1]? = some (.cells (tab 0) 400 (0,0))) := ⟨by rw [hW1,hg1]; have := blk_new (w.alloc (.cells (tab 0) 400)) (.cells (tab 0) 400); simpa using this⟩
 have HB : Aside0 (Below w.heap.size w W1) := ⟨by rw [hW1]; exact below_alloc (below_alloc (Below.refl _ _) _) _⟩
 have HG : Aside0 (w.heap.size ≤ g0 ∧ w.heap.size ≤ g1 ∧ g0 ≠ g1) := ⟨by omega⟩
 rw [← hg1,← hg0]
 clear hW1 hg1 hg0
 go_wp2_with fail
 go_loopw [4] (fun v wr => ∃ i : Nat,Aside0 (i ≤ 256) ∧ v = .int .i64 (i : Int) ∧ Aside0 (wr.heap[g0]? = some (.cells (tab 0) 400 (0,0))) ∧ Aside0 (wr.heap[g1]? = some (.cells (tab i) 400 (0,0))) ∧ Aside0 (Below w.heap.size w wr)) (fun v _ => 256 - (intOf v).toNat)
 case atStart => exact ⟨0,⟨by omega⟩,rfl,HX0,HX1,HB⟩
 case round =>
  clear HX0 HX1 HB
  obtain ⟨i,hi,rfl,HX0,HX1,HB⟩ := hrel
  by_cases h : i < 256
  ·have HI := Aside0.mk h
   have ht : decide ((i : Int) < 256) = true := decide_eq_true (by omega)
   have hc : IntKind.u32.wrap (i : Int) = i := u32_wrap _ (by omega)
   clear h
   rename World => wo
   go_wp2_with fail
   go_loopw [9,3] (fun v r wr => ∃ j : Nat,Aside0 (j ≤ 8) ∧ v = .int .i64 (j : Int) ∧ r = .int .u32 (stps j i) ∧ wr = wo) (fun v _ _ => 8 - (intOf v).toNat)
   case atStart => exact ⟨0,⟨by omega⟩,rfl,rfl,rfl⟩
   case round =>
    obtain ⟨j,hj,rfl,rfl,rfl⟩ := hrel
    have hr := stps_lt (r := (i : Int)) (by have := HI.out; omega) j
    obtain ⟨r,hrr⟩ : ∃ r,r = stps j (i : Int) := ⟨_,rfl⟩
    rw [← hrr] at hr ⊢
    have HR := Aside0.mk hrr
    obtain ⟨hr0,hr1⟩ := hr
    clear hrr
    by_cases hj8 : j < 8
    ·have HJ := Aside0.mk hj8
     have hjt : decide ((j : Int) < 8) = true := decide_eq_true (by omega)
     have hj64 : (j : Int) + 1 ≤ 9223372036854775807 := by omega
     clear hj8
     by_cases hb : (bits .and .u32 r 1 == 1) = true
     ·have HS := Aside0.mk (show stp r = bits .xor .u32 (r / 2) 3988292384 by unfold stp; rw [if_pos hb])
      go_wp2_with fail
      exact ⟨⟨j + 1,⟨HJ.out⟩,congrArg (Value.int .i64) (by omega),congrArg (Value.int .u32) (by show _ = stp (stps j i); rw [← HR.out]; exact HS.out.symm),by first | rfl | trivial⟩,by have := HJ.out; simp [intOf]; omega⟩
     ·have hb2 : (bits .and .u32 r 1 == 1) = false := by simpa using hb
      have HS := Aside0.mk (show stp r = r / 2 by unfold stp; rw [if_neg hb])
      clear hb
      go_wp2_with fail
      exact ⟨⟨j + 1,⟨HJ.out⟩,congrArg (Value.int .i64) (by omega),congrArg (Value.int .u32) (by show _ = stp (stps j i); rw [← HR.out]; exact HS.out.symm),by first | rfl | trivial⟩,by have := HJ.out; simp [intOf]; omega⟩
    ·obtain rfl : j = 8 := by have := hj.out; omega
     have hjt : decide (((8 : Nat) : Int) < 8) = false := by decide
     have c0 : wr.cell? ⟨g1,i,none⟩ = some (.int .u32 0) := cL HX1 i (by rw [tab_get HI.out,if_neg (by omega)])
     have f0 := blk_frozen HX1.out i
     have hi1 : ((i : Int) < 256) = True := eq_true (by have := HI.out; omega)
     have hi2 : (i < 256) = True := eq_true HI.out
     have hi64 : (i : Int) + 1 ≤ 9223372036854775807 := by have := HI.out; omega
     go_wp2_with fail
     have hn := HG.out.2.2
     refine ⟨⟨i + 1,⟨HI.out⟩,congrArg (Value.int .i64) (by omega),⟨blk_far HX0.out (p := ⟨g1,i,none⟩) hn _⟩,⟨?_⟩,⟨below_set HB.out HG.out.2.1⟩⟩,by have := HI.out; simp [intOf]; omega⟩
     rw [blk_set HX1.out i _,HR.out]
     exact congrArg (fun c => some (Obj.cells c 400 (0,0))) (tab_set HI.out)
  ·obtain rfl : i = 256 := by have := hi.out; omega
   have ht : decide (((256 : Nat) : Int) < 256) = false := by decide
   clear h
   go_wp2_with (first | (refine wpList_load_row rfl 400 (.tmp 1) rfl g1 rfl 400 (tab 256) (0,0) _ HX1.out Tryz.underlying400 rfl (info400.trans (congrArg some (tab_size 256).symm)) ?_) | (refine wpList_store_row rfl 400 (.tmp 0) (.tmp 24) rfl g0 (tab 256) rfl rfl 400 (tab 0) HX0.out (info400.trans (congrArg some (tab_size 256).symm)) ((tab_size 0).trans (tab_size 256).symm) (tab_one 256) ?_))
   refine bodyPost_ret (results_cell_row rfl _ _ g0 400 (tab 256) (0,0) _ rfl (setRow_heap _ _ _ _ _ _ HX0.out) Tryz.underlying400 rfl (info400.trans (congrArg some (tab_size 256).symm))) rfl ?_
   exact ⟨rfl,below_setRow HB.out HG.out.1 _⟩
end Go.Proofs.YtokfjbbjkiilmaaGreatDoor.H
namespace Go.Proofs.YtokfjbbjkiilmaaGreatDoor.H
open Go.RowKit Go.Proofs.YtokfjbbjkiilmaaGreatDoorW.PrintWords Go.Proofs.YtokfjbbjkiilmaaGreatDoorW.PrintLast Go.Proofs.YtokfjbbjkiilmaaGreatDoorW.PrintMore
attribute [local go_sem] max2_int min2_int min_two max_two
def mix (r b : Int) : Int := bits .xor .u8 (r % 256) b
theorem mix_lt (r b : Int) : 0 ≤ mix r b ∧ mix r b < 256 := by
 unfold mix bits
 have h : ∀ n : Int,0 ≤ IntKind.u8.wrap n ∧ IntKind.u8.wrap n < 256 := fun n => by rw [IntKind.wrap_u8]; omega
 exact h _
def crcStep (r b : Int) : Int := bits .xor .u32 (rst (mix r b).toNat) (r / 256)
theorem crcStep_lt (r b : Int) : 0 ≤ crcStep r b ∧ crcStep r b < 4294967296 := bits_u32_lt _ _ _
/-- The rest behind the first bytes of a text. -/
def rest (s : ByteArray) (r : Int) : Nat → Int
 | 0 => r
 | k + 1 => crcStep (rest s r k) (sb s k)
theorem rest_lt (s : ByteArray) {r : Int} (h : 0 ≤ r ∧ r < 4294967296) : ∀ k,0 ≤ rest s r k ∧ rest s r k < 4294967296
 | 0 => h
 | k + 1 => crcStep_lt _ _
def notU (r : Int) : Int := bits .xor .u32 IntKind.u32.max r
theorem notU_lt (r : Int) : 0 ≤ notU r ∧ notU r < 4294967296 := bits_u32_lt _ _ _
/-- The sum of a text. -/
def crcSum (s : ByteArray) : Int := notU (rest s (notU 0) s.size)
set_option maxHeartbeats 4000000 in
set_option maxRecDepth 100000 in
theorem more_calls (s : ByteArray) (w : World) (hs : s.size ≤ 1000) :
 Calls Tryz.prog 250 #[.int .u32 0,.string s] w fun e w' => e = .returned (.int .u32 (crcSum s)) ∧ Below w.heap.size w w' := by
 have HS := Aside0.mk hs
 clear hs
 go_enter Tryz.func250,Tryz.ntmps250
 go_wp2_with fail
 refine (rests_calls _).mono ?_
 rintro e_ w2 ⟨rfl,hb⟩
 go_wp2_with (refine wpList_store_row rfl 400 (.tmp 5) (.tmp 8) rfl w2.heap.size (tab 256) rfl rfl 400 (tab 0) ((blk_new w2 (.cells Tryz.zeroCells400 400)).trans (by rw [tab_zero])) (info400.trans (congrArg some (tab_size 256).symm)) ((tab_size 0).trans (tab_size 256).symm) (tab_one 256) ?_)
 obtain ⟨W1,hW1⟩ : ∃ W1,W1 = (w2.alloc (.cells Tryz.zeroCells400 400)).setRow w2.heap.size (tab 256) := ⟨_,rfl⟩
 rw [← hW1]
 obtain ⟨g,hg⟩ : ∃ g,g = w2.heap.size := ⟨_,rfl⟩
 have HX : Aside0 (W1.heap[g]? = some (.cells (tab 256) 400 (0,0))) := ⟨by rw [hW1,hg]; exact setRow_heap _ _ _ _ _ _ (blk_new _ _)⟩
 have HB : Aside0 (Below w.heap.size w W1) := ⟨by rw [hW1]; exact below_setRow (below_alloc hb _) hb.size _⟩
 rw [← hg]
 clear hW1 hg hb
 go_loopw [13,6] (fun v a wr => ∃ i : Nat,Aside0 (i ≤ s.size) ∧ v = .int .i64 (i : Int) ∧ a = .int .u32 (rest s (notU 0) i) ∧ wr = W1) (fun v _ _ => s.size - (intOf v).toNat)
 case atStart => exact ⟨0,⟨by omega⟩,rfl,rfl,rfl⟩
 case round =>
  obtain ⟨i,hi,rfl,rfl,rfl⟩ := hrel
  have hr := rest_lt s (notU_lt 0) i
  obtain ⟨r,hrr⟩ : ∃ r,r = rest s (notU 0) i := ⟨_,rfl⟩
  rw [← hrr] at hr ⊢
  have HR := Aside0.mk hrr
  obtain ⟨hr0,hr1⟩ := hr
  clear hrr
  by_cases h : i < s.size
  ·have HI := Aside0.mk h
   have hsb : sb s i = (s[i].toNat : Int) := by
    have h4 : i < s.data.size := h
    unfold sb
    rw [List.getD_eq_getElem?_getD,List.getElem?_eq_getElem (by simpa using h4)]
    rfl
   have hm := mix_lt r (sb s i)
   unfold mix at hm
   rw [hsb] at hm
   have ht : decide (i < s.size) = true := decide_eq_true h
   have c0 : wr.cell? ⟨g,(bits .xor .u8 (r % 256) (s[i].toNat : Int)).toNat,none⟩ = some (.int .u32 (rst (bits .xor .u8 (r % 256) (s[i].toNat : Int)).toNat)) := cL HX _ (by rw [tab_get (by omega),if_pos (by omega)])
   have f1 : ((0 : Int) ≤ bits .xor .u8 (r % 256) (s[i].toNat : Int)) = True := eq_true hm.1
   have f2 : (bits .xor .u8 (r % 256) (s[i].toNat : Int) < 256) = True := eq_true hm.2
   have f3 : ((bits .xor .u8 (r % 256) (s[i].toNat : Int)).toNat < 256) = True := eq_true (by omega)
   have hi64 : (i : Int) + 1 ≤ 9223372036854775807 := by have := HS.out; omega
   have hS : crcStep r (sb s i) = bits .xor .u32 (rst (bits .xor .u8 (r % 256) (s[i].toNat : Int)).toNat) (r / 256) := by rw [hsb]; rfl
   have HS2 := Aside0.mk hS
   clear hS hm hsb
   go_wp2_with fail
   exact ⟨⟨i + 1,⟨HI.out⟩,congrArg (Value.int .i64) (by omega),congrArg (Value.int .u32) (by show _ = crcStep (rest s (notU 0) i) (sb s i); rw [← HR.out]; exact HS2.out.symm),by first | rfl | trivial⟩,by have := HI.out; simp [intOf]; omega⟩
  ·obtain rfl : i = s.size := by have := hi.out; omega
   have ht : decide (s.size < s.size) = false := decide_eq_false (by omega)
   clear h
   go_wp2_with fail
   go_ret
   exact ⟨congrArg (fun x => Ending.returned (.int .u32 (notU x))) HR.out,HB.out⟩
set_option maxHeartbeats 4000000 in
theorem sum_calls (s : ByteArray) (w : World) (hs : s.size ≤ 1000) :
 Calls Tryz.prog 223 #[.string s] w fun e w' => e = .returned (.int .u32 (crcSum s)) ∧ Below w.heap.size w w' := by
 have HS := Aside0.mk hs
 clear hs
 go_enter Tryz.func223,Tryz.ntmps223
 go_wp2_with fail
 refine (more_calls s _ HS.out).mono ?_
 rintro e_ w2 ⟨rfl,hb⟩
 go_wp2_with fail
 go_ret
 exact ⟨rfl,hb⟩
end Go.Proofs.YtokfjbbjkiilmaaGreatDoor.H
