/-
The walk of TableOwn in the row's words.
-/
import Derived.Test.YtbefoehjlgdcgaaLOwn
import Derived.Test.YtbefoehjlgdcgaaArgs
import Derived.OpenShut
namespace Go.Proofs.Ytbefoehjlgdcgaa.H
open Go.RowKit Go.Proofs.YtbefoehjlgdcgaaW.PrintWords Go.Proofs.YtbefoehjlgdcgaaW.PrintLast Go.Proofs.YtbefoehjlgdcgaaW.PrintMore
theorem TableOwn_walk {w : World} (A0 : Option Addr) (c0 : Nat) (A1 : Option Addr) (c1 : Nat) (A2 : Option Addr) (c2 : Nat) (x : S28) (hC0 : (Kd.int .i64).C w A0 x.f2.length x.f2) (hc0 : x.f2.length ≤ c0) (hC1 : (Kd.int .i64).C w A1 x.f3.length x.f3) (hc1 : x.f3.length ≤ c1) (hC2 : (Kd.int .u64).C w A2 x.f4.length x.f4) (hc2 : x.f4.length ≤ c2) (_ : Op.G28 x) (first : Int) (_ : (Lit.int .u64 first).wf = true) :
    Calls Try.prog 6 #[.agg #[.int .i64 x.f0, .int .i64 x.f1, .slice A0 x.f2.length c0, .slice A1 x.f3.length c1, .slice A2 x.f4.length c2], .int .u64 first] w fun e w' => e = .returned (.bool true) ∧ Below w.heap.size w w' :=
  TableOwn_walk0 x.f0 x.f1 A0 c0 x.f2 A1 c1 x.f3 A2 c2 x.f4 first w ⟨⟨hC0, hc0⟩, ⟨hC1, hc1⟩, hC2, hc2⟩
end Go.Proofs.Ytbefoehjlgdcgaa.H
