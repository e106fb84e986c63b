/-
A region walked as everywhere serves in a round of a range over a function too (at the fence that asks nothing).
-/
import Derived.RangeFuncNested
import Derived.RangeFuncBound
import Derived.RangeFuncCalls
import Derived.RangeFuncLeaves
import Derived.OrdersIn
import Derived.TacticsIn
import Derived.Tactics
import Derived.Test.YtbefoehjlgdcgaaWLast
namespace Go.Proofs.Ytbefoehjlgdcgaa.Rf
open Go Go.RowKit
/-- Left as ever, and in no other way. -/
def QN (K : Act → World → Prop) : Exit → Act → World → Prop
  | .normal, a, w => K a w
  | _, _, _ => False
theorem no_out {K : Act → World → Prop} : ¬ LetsOut (QN K) := fun ⟨_, _, h⟩ => h
def noDefer (o : Oper) : Bool := match o.op with
  | .defer _ => false
  | _ => true
theorem noDefer_is {o : Oper} (h : noDefer o = true) : ∀ c, o.op ≠ .defer c := fun c e => by
  unfold noDefer at h
  rw [e] at h
  cases h
section
variable {P : Program} {l n : Nat} {K0 : Act → World → Prop} {Q : Exit → Act → World → Prop}
theorem upon_in {o : Oper} {a : Act} {K : Act → World → Prop} (r : Result Next) (h : o.upon P a K (QN K0) r) : o.uponIn (Fence.wide.inRound l) n P a K Q r := by
  cases r with
  | ok x w' =>
    cases x with
    | value v => exact h
    | skip => exact h
    | defer d => exact h
    | enter f args =>
      refine ⟨fun hd => (by cases hd), CallsIn.inRound l (callsIn_wide.2 (Calls.mono h fun e w'' he => ?_))⟩
      cases e with
      | returned v => exact he
      | panicked c => exact False.elim he
      | outgrown => exact (no_out he).elim
    | row row args =>
      refine ⟨fun hd => (by cases hd), fun c cs _ => ?_⟩
      obtain ⟨v, w2, hr, hs⟩ := h c cs
      exact ⟨v, w2, hr, stepsIn_wide.2 hs⟩
    | _ => exact False.elim h
  | halt x w' =>
    cases x with
    | panic v => exact False.elim h
    | _ => exact False.elim h
theorem wp_in {o : Oper} {a : Act} {w : World} {K : Act → World → Prop} (hd : noDefer o = true) (h : o.wp P a w K (QN K0)) : o.wpIn (Fence.wide.inRound l) n P a w K Q := by
  refine ⟨fun _ _ => trivial, ?_⟩
  rw [Oper.semAt_eq _ _ _ (noDefer_is hd)]
  exact upon_in _ h
theorem any_in {md : Region.Mode} {ops : Array Oper} (hd : ops.all noDefer = true) : ∀ (fuel : Nat) (listed : Array Bool) (a : Act) (w : World), wpAny P md ops (QN K0) fuel listed a w → wpAnyIn (Fence.wide.inRound l) n P md ops (Exit.then K0 Q) fuel listed a w
  | 0, _, _, _, h => ⟨h.1, h.2⟩
  | fuel + 1, listed, a, w, h => ⟨fun hr => h.1 hr, fun i hi => by
    have h2 := h.2 i hi
    unfold wpOp at h2
    unfold wpOpIn
    cases ho : ops[i]? with
    | none => rw [ho] at h2; exact any_in hd fuel _ _ _ h2
    | some o =>
      rw [ho] at h2
      dsimp only at h2 ⊢
      have hdo : noDefer o = true := by
        have := Array.all_eq_true.1 hd
        obtain ⟨hlt, e⟩ := Array.getElem?_eq_some_iff.1 ho
        rw [← e]
        exact this i hlt
      by_cases hw : Region.wanted o (yielded ops a.tmps) = true
      · rw [if_pos hw] at h2 ⊢
        rcases h2 with h2 | h2
        · exact wp_in hdo (Oper.wp_mono (fun a' w' h' => any_in hd fuel _ a' w' h') h2)
        · exact (no_out h2.2).elim
      · rw [if_neg hw] at h2 ⊢
        exact ⟨fun _ _ => trivial, any_in hd fuel _ _ _ h2⟩⟩
theorem list_in {ops : Array Oper} : ∀ (os : List Oper) (a : Act) (w : World), os.all noDefer = true → wpList P ops (QN K0) os a w → wpListIn (Fence.wide.inRound l) n P ops (Exit.then K0 Q) os a w
  | [], _, _, _, h => h
  | o :: rest, a, w, hd, h => by
    simp only [List.all_cons, Bool.and_eq_true] at hd
    unfold wpListIn
    unfold wpList at h
    by_cases hw : Region.wanted o (yielded ops a.tmps) = true
    · rw [if_pos hw] at h ⊢
      rcases h with h | h
      · exact wp_in hd.1 (Oper.wp_mono (fun a' w' h' => list_in rest a' w' hd.2 h') h)
      · exact (no_out h.2).elim
    · rw [if_neg hw] at h ⊢
      exact ⟨fun _ _ => trivial, list_in rest _ _ hd.2 h⟩
end
section
open Go.Proofs.YtbefoehjlgdcgaaW.PrintLast
variable {P : Program} {l0 nn : Nat} {K : Act → World → Prop} {Q : Exit → Act → World → Prop}
/-- start_ in a round. -/
theorem start_in {ops : Array Oper} {S : World → Prop} {ds : List Nat} {id n : Nat} {a : Act} {w : World} (l : Array Bool) (hd : ops.all noDefer = true) (hm : P.follows .mixedOrders = true) (hn : ops.size = n) (hl : Array.replicate n false = l) (hS : S w.drew)
    (h : S w.drew → wpAnyLast P .any ops (QN K) S ds n l a w.drew) : (Code.region id ops true).wpIn (Fence.wide.inRound l0) nn P (Exit.then K Q) a w := by
  subst hn
  subst hl
  exact wpIn_region_any hm (any_in hd _ _ _ _ (wpAny_of_last _ _ _ _ (h hS)))
/-- A region that draws no order, in a round. -/
theorem region_in {id : Nat} {os : List Oper} {a : Act} {w : World} (hd : os.all noDefer = true) (h : wpList P os.toArray (QN K) os a w) : (Code.region id os.toArray false).wpIn (Fence.wide.inRound l0) nn P (Exit.then K Q) a w :=
  wpIn_region_lit (list_in os a w hd h)
end
end Go.Proofs.Ytbefoehjlgdcgaa.Rf
