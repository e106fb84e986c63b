/-
Roll by its two answers; a literal table.
-/
import Derived.Test.YtbefoehjlgdcgaaRl
import Derived.Test.YtbefoehjlgdcgaaDp
import Derived.Test.YtbefoehjlgdcgaaCt
import Derived.Test.YtbefoehjlgdcgaaRg
import Derived.Test.YtbefoehjlgdcgaaSm
namespace Go.Proofs.Ytbefoehjlgdcgaa.H
open Go.RowKit Go.Proofs.YtbefoehjlgdcgaaW.PrintWords Go.Proofs.YtbefoehjlgdcgaaW.PrintLast Go.Proofs.YtbefoehjlgdcgaaW.PrintMore
theorem roll_yes (g s : Int) (Ao : Option Addr) (co : Nat) (o : List Int) (Al : Option Addr) (cl : Nat) (l : List Int) (Af : Option Addr) (cf : Nat) (f : List Int) (first : Int) (w : World) (hT : TC w Ao co o Al cl l Af cf f) (hol : o.length ≤ 20 ∧ l.length ≤ 1000 ∧ f.length ≤ 1000) (hg : 0 ≤ g ∧ g ≤ 16) (x : Int) (rest : List Int) (hx : frk g.toNat o = x :: rest) :
    Calls Try.prog 30 #[.agg #[.int .i64 g, .int .i64 s, .slice Ao o.length co, .slice Al l.length cl, .slice Af f.length cf], .int .u64 first] w fun e w' => ∃ A1 d1 A2 d2 A3 d3, e = .returned (.tuple #[.agg #[.int .i64 g, .int .i64 s, .slice A1 (o ++ [x]).length d1, .slice A2 (l ++ [0]).length d2, .slice A3 (f ++ [first]).length d3], .int .i64 0]) ∧ TR w' w.heap.size A1 d1 (o ++ [x]) A2 d2 (l ++ [0]) A3 d3 (f ++ [first]) ∧ Below w.heap.size w w' := by
  refine (roll_calls g s Ao co o Al cl l Af cf f first w hT hol hg).mono ?_
  rintro e w' ⟨hb, (⟨h, _⟩ | ⟨x', rest', A1, d1, A2, d2, A3, d3, h, he, hr⟩)⟩
  · rw [hx] at h
    cases h
  · rw [hx] at h
    cases h
    exact ⟨A1, d1, A2, d2, A3, d3, he, hr, hb⟩
theorem roll_no (g s : Int) (Ao : Option Addr) (co : Nat) (o : List Int) (Al : Option Addr) (cl : Nat) (l : List Int) (Af : Option Addr) (cf : Nat) (f : List Int) (first : Int) (w : World) (hT : TC w Ao co o Al cl l Af cf f) (hol : o.length ≤ 20 ∧ l.length ≤ 1000 ∧ f.length ≤ 1000) (hg : 0 ≤ g ∧ g ≤ 16) (hx : frk g.toNat o = []) :
    Calls Try.prog 30 #[.agg #[.int .i64 g, .int .i64 s, .slice Ao o.length co, .slice Al l.length cl, .slice Af f.length cf], .int .u64 first] w fun e w' => e = .returned (.tuple #[.agg #[.int .i64 0, .int .i64 0, .slice none 0 0, .slice none 0 0, .slice none 0 0], .int .i64 10]) ∧ Below w.heap.size w w' := by
  refine (roll_calls g s Ao co o Al cl l Af cf f first w hT hol hg).mono ?_
  rintro e w' ⟨hb, (⟨h, he⟩ | ⟨x', rest', A1, d1, A2, d2, A3, d3, h, he, hr⟩)⟩
  · exact ⟨he, hb⟩
  · rw [hx] at h
    cases h
theorem Clit {k : IntKind} {w : World} {g t : Nat} {cs : Array Value} {xs : List Int} (hb : w.heap[g]? = some (.cells cs t (0, 0))) (hl : xs.length ≤ 9223372036854775807) (h : cs = (xs.map fun x => Value.int k x).toArray) :
    Kd.C (Kd.int k) w (some ⟨g, 0, none⟩) xs.length xs := by
  refine ⟨rfl, hl, fun _ => ⟨_, rfl, fun j p hj => ⟨[.int k p], rfl, rfl, fun i u hu => ?_⟩⟩⟩
  rw [add_plain, blk_cell hb]
  match i, hu with
  | 0, hu =>
    simp at hu
    subst hu
    subst h
    show (xs.map fun x => Value.int k x).toArray[j * 1 + 0]? = _
    simp [hj]
theorem TC_nil (w : World) : TC w none 0 [] none 0 [] none 0 [] :=
  ⟨⟨⟨rfl, Nat.zero_le _, fun h => absurd h (Nat.lt_irrefl 0)⟩, Nat.le_refl _⟩, ⟨⟨rfl, Nat.zero_le _, fun h => absurd h (Nat.lt_irrefl 0)⟩, Nat.le_refl _⟩, ⟨rfl, Nat.zero_le _, fun h => absurd h (Nat.lt_irrefl 0)⟩, Nat.le_refl _⟩
end Go.Proofs.Ytbefoehjlgdcgaa.H
