/-
The walk of TableSectors in the row's words.
-/
import Derived.Test.YtbefoehjlgdcgaaLSec
import Derived.Test.YtbefoehjlgdcgaaArgs
import Derived.OpenShut
namespace Go.Proofs.Ytbefoehjlgdcgaa.H
open Go.RowKit Go.Proofs.YtbefoehjlgdcgaaW.PrintWords Go.Proofs.YtbefoehjlgdcgaaW.PrintLast Go.Proofs.YtbefoehjlgdcgaaW.PrintMore
theorem TableSectors_walk {w : World} (u : Int) (hu : (Lit.int .u8 u).wf = true) (x : S53) (_ : Op.G53 x) (y : S53) (_ : Op.G53 y) :
    Calls Try.prog 7 #[.int .u8 u, .agg #[.int .i64 x.f0, .int .i64 x.f1], .agg #[.int .i64 y.f0, .int .i64 y.f1]] w fun e w' => e = .returned (.bool true) ∧ Below w.heap.size w w' :=
  TableSectors_walk0 u x.f0 x.f1 y.f0 y.f1 (bounds_u8 hu) w
end Go.Proofs.Ytbefoehjlgdcgaa.H
