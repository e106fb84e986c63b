/-
The walk of SweepOwn in the row's words.
-/
import Derived.Test.YtbcmjbjhjnojjaaLOwn
import Derived.Test.YtbcmjbjhjnojjaaArgs
namespace Go.Proofs.Ytbcmjbjhjnojjaa.H
open Go.RowKit Go.Proofs.YtbcmjbjhjnojjaaW.PrintWords Go.Proofs.YtbcmjbjhjnojjaaW.PrintLast Go.Proofs.YtbcmjbjhjnojjaaW.PrintMore
theorem SweepOwn_walk (A0 : Option Addr) (c0 : Nat) (x : S25) {w : World} (hC : (Kd.int .i64).C w A0 x.f0.length x.f0) (hc : x.f0.length ≤ c0) (_ : Op.G25 x) (seg : Int) (_ : (Lit.int .i64 seg).wf = true) (nn : Int) (_ : (Lit.int .i64 nn).wf = true) :
    Calls Try.prog 6 #[.agg #[.slice A0 x.f0.length c0, .int .i64 x.f1, .int .i64 x.f2, .int .i64 x.f3], .int .i64 seg, .int .i64 nn] w fun e w' => e = .returned (.bool true) ∧ Below w.heap.size w w' :=
  SweepOwn_walk0 A0 c0 x.f0 x.f1 x.f2 x.f3 seg nn w hC hc
end Go.Proofs.Ytbcmjbjhjnojjaa.H
