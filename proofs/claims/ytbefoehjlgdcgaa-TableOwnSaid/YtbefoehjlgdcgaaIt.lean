/-
The iterator over a table's free segments: its contract.
-/
import Derived.Test.YtbefoehjlgdcgaaTp
import Derived.Test.YtbefoehjlgdcgaaRf
import Derived.Shelf.Abstract
import Derived.OwnWalkIn
import Derived.TacticsInMore
import Derived.LoopNIn
import Derived.LoopIn
namespace Go.Proofs.Ytbefoehjlgdcgaa.H
open Go.RowKit Go.Shelf Go.Proofs.YtbefoehjlgdcgaaW.PrintWords Go.Proofs.YtbefoehjlgdcgaaW.PrintLast Go.Proofs.YtbefoehjlgdcgaaW.PrintMore
attribute [local go_sem] Oper.semAt_some
set_option linter.unusedVariables false
set_option linter.unusedSimpArgs false
theorem below_abides {β : Type} {J : β → World → Prop} {B : Nat} (hJ : AbidesFrom B J) {s : β} {W W' : World} (h : J s W) (hb : Below W.heap.size W W') : J s W' :=
  hJ s W W' none h (grown_of_below hb none) (fun r e => by cases e)
theorem call_F {F : Fence} {n : Nat} {P : Program} {f : FuncId} {args : Array Value} {w : World} {R : Ending → World → Prop} (hF : F = Fence.wide) (h : Calls P f args w R) : F.fn f ∧ (F.depth.isSome = true → 1 ≤ n) ∧ CallsIn F (n - 1) P f args w R := by
  subst hF
  exact ⟨trivial, fun h => (by cases h), callsIn_wide.2 h⟩
theorem gate_in {F : Fence} {n : Nat} {P : Program} {ops : Array Oper} {Q : Exit → Act → World → Prop} {a : Act} {w : World} {rest : List Oper} {o : Oper} {N : Tmp} (_ : o.dst = some N) (h : wpListIn F n P ops Q (o :: rest) a w) : wpListIn F n P ops Q (o :: rest) a w := h
theorem skip_F {F : Fence} {n : Nat} {P : Program} {ops : Array Oper} {Q : Exit → Act → World → Prop} {a : Act} {w : World} {rest : List Oper} {o : Oper} (hF : F = Fence.wide) (hw : Region.wanted o (yielded ops a.tmps) = false) (h : wpListIn F n P ops Q rest (a.put o.dst undef) w) : wpListIn F n P ops Q (o :: rest) a w := by
  subst hF
  simp only [wpListIn, hw]
  exact ⟨fun _ _ => trivial, h⟩
theorem depth_F {F : Fence} {n : Nat} (hF : F = Fence.wide) : F.depth.isSome = true → 1 ≤ n := by
  subst hF
  exact fun h => by cases h
set_option maxRecDepth 100000 in
set_option maxHeartbeats 2000000 in
theorem free1_in (F : Fence) (HF_ : Aside0 (F = Fence.wide)) (hro : F.round = none) (h48 : F.fn 48) (n : Nat) (l : Nat) (w0 : World) (Bt : Nat) (g s : Int) (Ao : Option Addr) (co : Nat) (o : List Int) (v3 v4 : Value) (hbx : w0.heap[Bt]? = some (.cells #[.int .i64 g, .int .i64 s, .slice Ao o.length co, v3, v4] 28 (0, 0)))
    (hC : Kd.C (Kd.int .i64) w0 Ao o.length o) (hc : o.length ≤ co) (hg0 : 0 ≤ g) (hg16 : g ≤ 16) (ho : o.length ≤ 20) (J Jx : List Int → World → Prop) (W : World) (hW : Below w0.heap.size w0 W) (hJ : AbidesFrom W.heap.size J)
    (hY : ∀ pre x W1, J pre W1 → pre.length < 17 → YieldAt F (n - 1) Try.prog l #[.int .i64 x] W1 fun e W' =>
      (e = .returned (.bool true) ∧ J (pre ++ [x]) W' ∧ Below w0.heap.size W1 W') ∨ (e = .returned (.bool false) ∧ Jx (pre ++ [x]) W')) (h0 : J [] W) :
    CallsIn F n Try.prog 48 #[.func (.yield l) #[] #[], .pointer (some ⟨Bt, 0, none⟩)] W fun e W' => (∃ v, e = .returned v) ∧
      ((∃ ys, ys = frk g.toNat o ∧ J ys W') ∨ (∃ pre, pre <+: frk g.toNat o ∧ Jx pre W')) := by
  obtain ⟨gn, rfl⟩ := Int.eq_ofNat_of_zero_le hg0
  rw [Int.toNat_natCast]
  have HX := Aside0.mk hbx
  have HC := Aside0.mk hC
  have Hc := Aside0.mk hc
  have HO := Aside0.mk ho
  have HW := Aside0.mk hW
  have HJ := Aside0.mk hJ
  have HY := Aside0.mk hY
  have H0 := Aside0.mk h0
  have HG : Aside0 (gn ≤ 16) := ⟨by omega⟩
  have hbl := blk_lt hbx
  have HBL := Aside0.mk hbl
  clear hbx hC hc ho hJ hY h0 hg0 hg16
  refine callsIn_of_wp Try.func48 rfl h48 ?_ hro
  simp only [Try.ntmps48, List.size_toArray, List.length_cons, List.length_nil, Nat.reduceAdd, Nat.reduceSub, Array.replicate_succ, Array.replicate_zero, List.push_toArray, List.append_toArray, List.nil_append, List.cons_append]
  have z0 : W.cell? ⟨Bt, 0, none⟩ = some (.int .i64 (gn : Int)) := (hW.cell (p := ⟨Bt, 0, none⟩) hbl).trans ((blk_cell HX.out 0).trans rfl)
  clear hbl hW
  gi_wp2
  gi_loopw [6] (fun i wr => ∃ k : Nat, k ≤ gn ∧ i = .int .i64 (k : Int) ∧ Aside0 (J (frk k o) wr) ∧ Aside0 (Below w0.heap.size w0 wr)) (fun i _ => gn - (intOf i).toNat)
  case atStart => exact ⟨0, Nat.zero_le _, rfl, ⟨by have e : frk 0 o = [] := rfl; rw [e]; exact H0.out⟩, HW⟩
  case round =>
    obtain ⟨k, hk, rfl, HJk, HB⟩ := hrel
    have z2 : wr.cell? ⟨Bt, 2, none⟩ = some (.slice Ao o.length co) := (HB.out.cell (p := ⟨Bt, 2, none⟩) HBL.out).trans ((blk_cell HX.out 2).trans rfl)
    have hk64 : (k : Int) + 1 ≤ 9223372036854775807 := by have := HG.out; omega
    by_cases hlt : k < gn
    · have hlt2 : decide ((k : Int) < (gn : Int)) = true := decide_eq_true (by omega)
      clear z0
      gi_wp2_with fail
      clear z2
      by_cases hin : (k : Int) ∈ o
      · have HF : Aside0 (frk (k + 1) o = frk k o) := ⟨by rw [frk_succ, if_pos hin]⟩
        have HCT : Aside0 (slices_Contains_int_int.f 61 o (k : Int) = some true) := ⟨(contains_is o k (by have := HO.out; omega) 61 (by have := HO.out; omega)).trans (by rw [decide_eq_true hin])⟩
        clear hin
        refine call_F HF_.out ((slices_Contains_int_int.calls 61 Ao co o (k : Int) true wr (Kd.C_below HC.out HB.out) Hc.out HCT.out).mono ?_)
        rintro e w2 ⟨rfl, hd⟩
        have hb := hd.below
        have HJ2 := Aside0.mk (below_abides HJ.out HJk.out hb)
        have HB2 := Aside0.mk (below_step HB.out hb)
        clear hd hb HJk HB HCT
        gi_wp2_with ((with_reducible refine gate_in (N := 17) rfl ?_); refine skip_F HF_.out rfl ?_)
        go_roundw
        case rel => exact ⟨k + 1, by omega, by go_num, ⟨by rw [HF.out]; exact HJ2.out⟩, HB2⟩
        case measure => simp [intOf]; omega
      · have HF : Aside0 (frk (k + 1) o = frk k o ++ [(k : Int)]) := ⟨by rw [frk_succ, if_neg hin]⟩
        have HCT : Aside0 (slices_Contains_int_int.f 61 o (k : Int) = some false) := ⟨(contains_is o k (by have := HO.out; omega) 61 (by have := HO.out; omega)).trans (by rw [decide_eq_false hin])⟩
        clear hin
        refine call_F HF_.out ((slices_Contains_int_int.calls 61 Ao co o (k : Int) false wr (Kd.C_below HC.out HB.out) Hc.out HCT.out).mono ?_)
        rintro e w2 ⟨rfl, hd⟩
        have hb := hd.below
        have HJ2 := Aside0.mk (below_abides HJ.out HJk.out hb)
        have HB2 := Aside0.mk (below_step HB.out hb)
        clear hd hb HJk HB HCT
        obtain ⟨fn, tmps, assign, body, hy, hR⟩ := HY.out (frk k o) k w2 HJ2.out (by have := frk_len k o; have := HG.out; omega)
        have HR := Aside0.mk hR
        clear hR
        gi_wp2
        refine ⟨depth_F HF_.out, HR.out.mono ?_⟩
        rintro e W3 (⟨rfl, hJ3, hk3⟩ | ⟨rfl, hJx3⟩)
        · have HJ3 := Aside0.mk hJ3
          have HB3 := Aside0.mk (HB2.out.trans hk3)
          clear hJ3 hk3 HR hy
          gi_wp2
          go_roundw
          case rel => exact ⟨k + 1, by omega, by go_num, ⟨by rw [HF.out]; exact HJ3.out⟩, HB3⟩
          case measure => simp [intOf]; omega
        · have HJx3 := Aside0.mk hJx3
          clear hJx3 HR hy
          gi_wp2
          refine bodyPost_ret (results_none rfl _ _ _) rfl ?_
          exact ⟨⟨_, rfl⟩, .inr ⟨frk (k + 1) o, frk_pre o (by omega), by rw [HF.out]; exact HJx3.out⟩⟩
    · obtain rfl : gn = k := by omega
      have hlt2 : decide ((gn : Int) < (gn : Int)) = false := decide_eq_false (by omega)
      have hlt3 : decide (gn < gn) = false := decide_eq_false (by omega)
      gi_wp2
      go_end0
      exact ⟨⟨_, rfl⟩, .inl ⟨_, rfl, HJk.out⟩⟩
theorem free_stops (n : Nat) (w0 : World) (Bt : Nat) (g s : Int) (Ao : Option Addr) (co : Nat) (o : List Int) (v3 v4 : Value) (hbx : w0.heap[Bt]? = some (.cells #[.int .i64 g, .int .i64 s, .slice Ao o.length co, v3, v4] 28 (0, 0)))
    (hC : Kd.C (Kd.int .i64) w0 Ao o.length o) (hc : o.length ≤ co) (hg0 : 0 ≤ g) (hg16 : g ≤ 16) (ho : o.length ≤ 20) :
    SeqStopsK Fence.wide n Try.prog 48 #[.pointer (some ⟨Bt, 0, none⟩)] (fun x : Int => #[Value.int .i64 x]) (Below w0.heap.size) (fun ys => ys = frk g.toNat o) (fun pre => pre <+: frk g.toNat o) 17 w0 := fun l J Jx W hW hJ _ hY h0 =>
  free1_in Fence.wide ⟨rfl⟩ rfl trivial n l w0 Bt g s Ao co o v3 v4 hbx hC hc hg0 hg16 ho J Jx W hW hJ hY h0
set_option maxHeartbeats 2000000 in
theorem free_calls (g s : Int) (v2 v3 v4 : Value) (w : World) : Calls Try.prog 40 #[.agg #[.int .i64 g, .int .i64 s, v2, v3, v4]] w fun e w' => e = .returned (.func (.func 48) #[] #[.pointer (some ⟨w.heap.size, 0, none⟩)]) ∧ w' = w.alloc (.cells #[.int .i64 g, .int .i64 s, v2, v3, v4] 28) := by
  go_enter Try.func40, Try.ntmps40
  go_wp2
  go_ret
  exact ⟨rfl, rfl⟩
end Go.Proofs.Ytbefoehjlgdcgaa.H
