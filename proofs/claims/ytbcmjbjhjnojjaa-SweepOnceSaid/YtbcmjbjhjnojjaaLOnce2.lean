/-
The walk of SweepOnce in the row's words.
-/
import Derived.Test.YtbcmjbjhjnojjaaLOnce
import Derived.Test.YtbcmjbjhjnojjaaArgs
import Derived.OpenShut
namespace Go.Proofs.Ytbcmjbjhjnojjaa.H
open Go.RowKit Go.Proofs.YtbcmjbjhjnojjaaW.PrintWords Go.Proofs.YtbcmjbjhjnojjaaW.PrintLast Go.Proofs.YtbcmjbjhjnojjaaW.PrintMore
theorem SweepOnce_walk (A0 : Option Addr) (c0 : Nat) (x : S25) {w : World} (hC : (Kd.int .i64).C w A0 x.f0.length x.f0) (hc : x.f0.length ≤ c0) (_ : Op.G25 x) (Ao : Option Addr) (co : Nat) (y : S32) (hCo : (Kd.int .i64).C w Ao y.f3.length y.f3) (hco : y.f3.length ≤ co) (_ : Op.G32 y) (u : Int) (hu : (Lit.int .u8 u).wf = true) :
    Calls Try.prog 4 #[.agg #[.slice A0 x.f0.length c0, .int .i64 x.f1, .int .i64 x.f2, .int .i64 x.f3], .agg #[.int .i64 y.f0, .int .i64 y.f1, .int .i64 y.f2, .slice Ao y.f3.length co], .int .u8 u] w fun e w' => e = .returned (.bool true) ∧ Below w.heap.size w w' :=
  SweepOnce_walk0 A0 c0 x.f0 x.f1 x.f2 x.f3 y.f0 y.f1 y.f2 Ao co y.f3 u (bounds_u8 hu) w hC hc hCo hco
end Go.Proofs.Ytbcmjbjhjnojjaa.H
