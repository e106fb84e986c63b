/-
The walk of TableCycle in the row's words.
-/
import Derived.Test.YtbefoehjlgdcgaaLCyc
import Derived.Test.YtbefoehjlgdcgaaArgs
import Derived.OpenShut
namespace Go.Proofs.Ytbefoehjlgdcgaa.H
open Go.RowKit Go.Proofs.YtbefoehjlgdcgaaW.PrintWords Go.Proofs.YtbefoehjlgdcgaaW.PrintLast Go.Proofs.YtbefoehjlgdcgaaW.PrintMore
theorem TableCycle_walk {w : World} (u : Int) (hu : (Lit.int .u8 u).wf = true) (v : Int) (hv : (Lit.int .u8 v).wf = true) (first : Int) (_ : (Lit.int .u64 first).wf = true) :
    Calls Try.prog 8 #[.int .u8 u, .int .u8 v, .int .u64 first] w fun e w' => e = .returned (.bool true) ∧ Below w.heap.size w w' :=
  TableCycle_walk0 u v first (bounds_u8 hu) (bounds_u8 hv) w
end Go.Proofs.Ytbefoehjlgdcgaa.H
