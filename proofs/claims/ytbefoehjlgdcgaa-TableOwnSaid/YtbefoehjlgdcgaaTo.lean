/-
What a call tells of a table: what is wrong, or the table behind it.
-/
import Derived.Test.YtbefoehjlgdcgaaFx
import Derived.Test.YtbefoehjlgdcgaaRr
import Derived.Test.YtbefoehjlgdcgaaRc
import Derived.Test.YtbefoehjlgdcgaaRrl
import Derived.Test.YtbefoehjlgdcgaaRdp
import Derived.Test.YtbefoehjlgdcgaaRm2
namespace Go.Proofs.Ytbefoehjlgdcgaa.H
open Go.RowKit Go.Proofs.YtbefoehjlgdcgaaW.PrintWords Go.Proofs.YtbefoehjlgdcgaaW.PrintLast Go.Proofs.YtbefoehjlgdcgaaW.PrintMore
/-- What is wrong, and the zero table; or nothing is, and the table of these lists. -/
def TO (w : World) (B : Nat) (ok : Prop) (E g s : Int) (o l f : List Int) (er n0 n1 : Int) (P1 : Option Addr) (m1 k1 : Nat) (P2 : Option Addr) (m2 k2 : Nat) (P3 : Option Addr) (m3 k3 : Nat) : Prop :=
  (¬ ok ∧ E = er ∧ n0 = 0 ∧ n1 = 0 ∧ P1 = none ∧ m1 = 0 ∧ k1 = 0 ∧ P2 = none ∧ m2 = 0 ∧ k2 = 0 ∧ P3 = none ∧ m3 = 0 ∧ k3 = 0) ∨
  (ok ∧ er = 0 ∧ g = n0 ∧ s = n1 ∧ m1 = o.length ∧ m2 = l.length ∧ m3 = f.length ∧ TR w B P1 k1 o P2 k2 l P3 k3 f)
section
variable {w w' : World} {B B' : Nat} {ok : Prop} {E g s er n0 n1 : Int} {o l f : List Int} {P1 P2 P3 : Option Addr} {m1 m2 m3 k1 k2 k3 : Nat}
theorem TO_below (h : TO w B ok E g s o l f er n0 n1 P1 m1 k1 P2 m2 k2 P3 m3 k3) (hb : Below w.heap.size w w') : TO w' B ok E g s o l f er n0 n1 P1 m1 k1 P2 m2 k2 P3 m3 k3 := by
  rcases h with h | ⟨h0, h1, h2, h3, h4, h5, h6, h7⟩
  · exact .inl h
  · exact .inr ⟨h0, h1, h2, h3, h4, h5, h6, TR_below h7 hb⟩
theorem TO_lower (h : TO w B ok E g s o l f er n0 n1 P1 m1 k1 P2 m2 k2 P3 m3 k3) (hb : B' ≤ B) : TO w B' ok E g s o l f er n0 n1 P1 m1 k1 P2 m2 k2 P3 m3 k3 := by
  rcases h with h | ⟨h0, h1, h2, h3, h4, h5, h6, h7⟩
  · exact .inl h
  · exact .inr ⟨h0, h1, h2, h3, h4, h5, h6, TR_lower h7 hb⟩
theorem to5 {W : World} {gb t : Nat} {cs : Array Value} {v0 v1 v2 v3 v4 : Value} (hW : W = ((((w.setCell ⟨gb, 0, none⟩ v0).setCell ⟨gb, 1, none⟩ v1).setCell ⟨gb, 2, none⟩ v2).setCell ⟨gb, 3, none⟩ v3).setCell ⟨gb, 4, none⟩ v4) (hb : w.heap[gb]? = some (.cells cs t (0, 0))) (h3 : 3 ≠ t) (h23 : 23 ≠ t) (h : TO w B ok E g s o l f er n0 n1 P1 m1 k1 P2 m2 k2 P3 m3 k3) : TO W B ok E g s o l f er n0 n1 P1 m1 k1 P2 m2 k2 P3 m3 k3 := by
  rcases h with h | ⟨h0, h1, e2, e3, e4, e5, e6, h7⟩
  · exact .inl h
  · exact .inr ⟨h0, h1, e2, e3, e4, e5, e6, tr5 hW hb h3 h23 h7⟩
end
theorem count_to (g s : Int) (Ao : Option Addr) (co : Nat) (o : List Int) (Al : Option Addr) (cl : Nat) (l : List Int) (Af : Option Addr) (cf : Nat) (f : List Int) (w : World) (hT : TC w Ao co o Al cl l Af cf f) (hR : RT g s o l f) :
    Calls Try.prog 29 #[.agg #[.int .i64 g, .int .i64 s, .slice Ao o.length co, .slice Al l.length cl, .slice Af f.length cf]] w fun e w' => ∃ er n0 n1 P1 m1 k1 P2 m2 k2 P3 m3 k3, e = .returned (.tuple #[.agg #[.int .i64 n0, .int .i64 n1, .slice P1 m1 k1, .slice P2 m2 k2, .slice P3 m3 k3], .int .i64 er]) ∧ TO w' w.heap.size (Lst l < s) 10 g s o (l.set (l.length - 1) (Lst l + 1)) f er n0 n1 P1 m1 k1 P2 m2 k2 P3 m3 k3 ∧ Below w.heap.size w w' := by
  have h1 := hR.n1
  have h2 := hR.hl
  have h3 := hR.hf
  have h4 := hR.len
  have h5 := hR.may
  have hq : rd l ((o.length : Int) - 1) = Lst l := by
    show l.getD ((o.length : Int) - 1).toNat 0 = l.getD (l.length - 1) 0
    congr 1
    omega
  have hl := hR.lst
  have hi : ((o.length : Int) - 1).toNat = l.length - 1 := by omega
  by_cases h : Lst l < s
  · refine (count_yes g s Ao co o Al cl l Af cf f w hT (by omega) h1 h2 _ rfl (by rw [hq]; exact h) (by rw [hq]; omega)).mono ?_
    rintro e w' ⟨A1, d1, A2, d2, A3, d3, rfl, hr, hb⟩
    rw [hq, hi] at hr ⊢
    exact ⟨0, g, s, A1, _, d1, A2, _, d2, A3, _, d3, rfl, .inr ⟨h, rfl, rfl, rfl, rfl, rfl, rfl, hr⟩, hb⟩
  · refine (count_no g s Ao co o Al cl l Af cf f w hT (by omega) h1 h2 _ rfl (by rw [hq]; omega)).mono ?_
    rintro e w' ⟨rfl, hb⟩
    exact ⟨10, 0, 0, none, 0, 0, none, 0, 0, none, 0, 0, rfl, .inl ⟨h, rfl, rfl, rfl, rfl, rfl, rfl, rfl, rfl, rfl, rfl, rfl, rfl⟩, hb⟩
theorem roll_to (g s : Int) (Ao : Option Addr) (co : Nat) (o : List Int) (Al : Option Addr) (cl : Nat) (l : List Int) (Af : Option Addr) (cf : Nat) (f : List Int) (first : Int) (w : World) (hT : TC w Ao co o Al cl l Af cf f) (hR : RT g s o l f) :
    Calls Try.prog 30 #[.agg #[.int .i64 g, .int .i64 s, .slice Ao o.length co, .slice Al l.length cl, .slice Af f.length cf], .int .u64 first] w fun e w' => ∃ er n0 n1 P1 m1 k1 P2 m2 k2 P3 m3 k3, e = .returned (.tuple #[.agg #[.int .i64 n0, .int .i64 n1, .slice P1 m1 k1, .slice P2 m2 k2, .slice P3 m3 k3], .int .i64 er]) ∧ TO w' w.heap.size (frk g.toNat o ≠ []) 10 g s (o ++ [(frk g.toNat o).headD 0]) (l ++ [0]) (f ++ [first]) er n0 n1 P1 m1 k1 P2 m2 k2 P3 m3 k3 ∧ Below w.heap.size w w' := by
  have h1 := hR.n1
  have h2 := hR.hl
  have h3 := hR.hf
  have h4 := hR.len
  have h5 := hR.may
  cases hx : frk g.toNat o with
  | nil =>
    refine (roll_no g s Ao co o Al cl l Af cf f first w hT (by omega) (by omega) hx).mono ?_
    rintro e w' ⟨rfl, hb⟩
    exact ⟨10, 0, 0, none, 0, 0, none, 0, 0, none, 0, 0, rfl, .inl ⟨fun h => h rfl, rfl, rfl, rfl, rfl, rfl, rfl, rfl, rfl, rfl, rfl, rfl, rfl⟩, hb⟩
  | cons x rest =>
    refine (roll_yes g s Ao co o Al cl l Af cf f first w hT (by omega) (by omega) x rest hx).mono ?_
    rintro e w' ⟨A1, d1, A2, d2, A3, d3, rfl, hr, hb⟩
    exact ⟨0, g, s, A1, _, d1, A2, _, d2, A3, _, d3, rfl, .inr ⟨fun h => (by cases h), rfl, rfl, rfl, rfl, rfl, rfl, hr⟩, hb⟩
theorem drop_to (g s : Int) (Ao : Option Addr) (co : Nat) (o : List Int) (Al : Option Addr) (cl : Nat) (l : List Int) (Af : Option Addr) (cf : Nat) (f : List Int) (seg : Int) (w : World) (hT : TC w Ao co o Al cl l Af cf f) (hR : RT g s o l f) :
    Calls Try.prog 31 #[.agg #[.int .i64 g, .int .i64 s, .slice Ao o.length co, .slice Al l.length cl, .slice Af f.length cf], .int .i64 seg] w fun e w' => ∃ er n0 n1 P1 m1 k1 P2 m2 k2 P3 m3 k3, e = .returned (.tuple #[.agg #[.int .i64 n0, .int .i64 n1, .slice P1 m1 k1, .slice P2 m2 k2, .slice P3 m3 k3], .int .i64 er]) ∧ TO w' w.heap.size (0 ≤ pl o seg ∧ pl o seg < (o.length : Int) - 1) 1 g s (o.eraseIdx (pl o seg).toNat) (l.eraseIdx (pl o seg).toNat) (f.eraseIdx (pl o seg).toNat) er n0 n1 P1 m1 k1 P2 m2 k2 P3 m3 k3 ∧ Below w.heap.size w w' := by
  have h1 := hR.n1
  have h2 := hR.hl
  have h3 := hR.hf
  have h4 := hR.len
  have h5 := hR.may
  have hp := pl_lo o seg
  by_cases h : 0 ≤ pl o seg ∧ pl o seg < (o.length : Int) - 1
  · refine (drop_yes g s Ao co o Al cl l Af cf f seg w hT (by omega) h1 h2 h3 h).mono ?_
    rintro e w' ⟨A1, d1, A2, d2, A3, d3, rfl, hr, hb⟩
    exact ⟨0, g, s, A1, _, d1, A2, _, d2, A3, _, d3, rfl, .inr ⟨h, rfl, rfl, rfl, rfl, rfl, rfl, hr⟩, hb⟩
  · by_cases hn : pl o seg < 0
    · refine (drop_neg g s Ao co o Al cl l Af cf f seg w hT (by omega) h1 h2 h3 hn).mono ?_
      rintro e w' ⟨rfl, hb⟩
      exact ⟨1, 0, 0, none, 0, 0, none, 0, 0, none, 0, 0, rfl, .inl ⟨h, rfl, rfl, rfl, rfl, rfl, rfl, rfl, rfl, rfl, rfl, rfl, rfl⟩, hb⟩
    · refine (drop_last g s Ao co o Al cl l Af cf f seg w hT (by omega) h1 h2 h3 (by omega)).mono ?_
      rintro e w' ⟨rfl, hb⟩
      exact ⟨1, 0, 0, none, 0, 0, none, 0, 0, none, 0, 0, rfl, .inl ⟨h, rfl, rfl, rfl, rfl, rfl, rfl, rfl, rfl, rfl, rfl, rfl, rfl⟩, hb⟩
end Go.Proofs.Ytbefoehjlgdcgaa.H
