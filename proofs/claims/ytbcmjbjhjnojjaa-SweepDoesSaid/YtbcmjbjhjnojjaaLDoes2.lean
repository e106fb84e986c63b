/-
The walk of SweepDoes in the row's words.
-/
import Derived.Test.YtbcmjbjhjnojjaaLDoes
import Derived.Test.YtbcmjbjhjnojjaaArgs
import Derived.OpenShut
namespace Go.Proofs.Ytbcmjbjhjnojjaa.H
open Go.RowKit Go.Proofs.YtbcmjbjhjnojjaaW.PrintWords Go.Proofs.YtbcmjbjhjnojjaaW.PrintLast Go.Proofs.YtbcmjbjhjnojjaaW.PrintMore
theorem SweepDoes_walk {w : World} (A0 : Option Addr) (c0 : Nat) (l : List S32) (hC : Kd.C k32 w A0 l.length l) (hc : l.length ≤ c0) (_ : ∀ p ∈ l, Op.G32 p) (u : Int) (hu : (Lit.int .u8 u).wf = true) :
    Calls Try.prog 3 #[.slice A0 l.length c0, .int .u8 u] w fun e w' => e = .returned (.bool true) ∧ Below w.heap.size w w' :=
  SweepDoes_walk0 A0 c0 l u (bounds_u8 hu) w hC hc
end Go.Proofs.Ytbcmjbjhjnojjaa.H
