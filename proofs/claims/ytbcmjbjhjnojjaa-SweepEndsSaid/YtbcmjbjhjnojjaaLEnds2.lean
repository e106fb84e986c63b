/-
The walk of SweepEnds in the row's words; how its arguments are opened.
-/
import Derived.Test.YtbcmjbjhjnojjaaLEnds
import Derived.Test.YtbcmjbjhjnojjaaArgs
import Derived.OpenShut
namespace Go.Proofs.Ytbcmjbjhjnojjaa.H
open Go.RowKit Go.Proofs.YtbcmjbjhjnojjaaW.PrintWords Go.Proofs.YtbcmjbjhjnojjaaW.PrintLast Go.Proofs.YtbcmjbjhjnojjaaW.PrintMore
structure S44 where
  f0 : Int
  f1 : Int
namespace Op
def k44 : Kd S44 := Kd.iso (Kd.pair (Kd.int .u8) (Kd.int .u8)) (fun x => (x.f0, x.f1))
def G44 (x : S44) : Prop := (Lit.int .u8 x.f0).wf = true ∧ (Lit.int .u8 x.f1).wf = true
theorem k44_open {w : World} {x : S44} {cs : List Value} (h : k44.K w x cs) : cs = [.int .u8 x.f0, .int .u8 x.f1] := by
  obtain ⟨_, _, rfl, rfl, rfl⟩ := h
  exact rfl
end Op
theorem SweepEnds_walk {w : World} (n : S44) (hn : Op.G44 n) (An : Option Addr) (cn : Nat) (ls : List Int) (hCn : Kd.C (Kd.int .u8) w An ls.length ls) (hcn : ls.length ≤ cn) (hGn : ∀ p ∈ ls, (Lit.int .u8 p).wf = true) (Ap : Option Addr) (cp : Nat) (pk : List Int) (hCp : Kd.C (Kd.int .u8) w Ap pk.length pk) (hcp : pk.length ≤ cp) (hGp : ∀ p ∈ pk, (Lit.int .u8 p).wf = true) :
    Calls Try.prog 5 #[.agg #[.int .u8 n.f0, .int .u8 n.f1], .slice An ls.length cn, .slice Ap pk.length cp] w fun e w' => e = .returned (.bool true) ∧ Below w.heap.size w w' :=
  SweepEnds_walk0 n.f0 n.f1 (bounds_u8 hn.1) (bounds_u8 hn.2) An cn ls Ap cp pk w hCn hcn (fun p hp => bounds_u8 (hGn p hp)) hCp hcp (fun p hp => bounds_u8 (hGp p hp))
end Go.Proofs.Ytbcmjbjhjnojjaa.H
namespace Go.Proofs.Ytbcmjbjhjnojjaa.Op
open Go.Proofs.YtbcmjbjhjnojjaaW.PrintWords
theorem opens44 : Opens Try.prog 44 Go.Proofs.Ytbcmjbjhjnojjaa.H.Op.k44 Go.Proofs.Ytbcmjbjhjnojjaa.H.Op.G44 := opens_array (fun y => ⟨y.1, y.2⟩) (fun _ => rfl) Try.underlying44 (by kernel_rfl) (opens_pair (by kernel_rfl) (opens_int Try.underlying5) (opens_one (by kernel_rfl) (opens_int Try.underlying5)))
theorem opens45 : Opens Try.prog 45 (Kd.slice 5 (Kd.int .u8)) (fun l => ∀ p ∈ l, (Lit.int .u8 p).wf = true) := opens_slice Try.underlying45 (by kernel_rfl) (opens_int Try.underlying5)
theorem okWide_array {P : Program} {w : World} {base : Nat} {t e : TypeId} {k : Nat} {v : Value} (ht : P.underlying t = some (.array k e)) (h : Value.okWide P w .any base t v) : ∃ cs, v = .agg cs ∧ cs.size = P.cellsOf t := by
  simp only [Value.okWide, ht] at h
  obtain ⟨cs, h1, h2, _⟩ := h
  exact ⟨cs, h1, h2⟩
end Go.Proofs.Ytbcmjbjhjnojjaa.Op
