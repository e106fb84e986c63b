/-
The walk of TableDoes in the row's words.
-/
import Derived.Test.YtbefoehjlgdcgaaLDoes
import Derived.Test.YtbefoehjlgdcgaaArgs
import Derived.OpenShut
namespace Go.Proofs.Ytbefoehjlgdcgaa.H
open Go.RowKit Go.Proofs.YtbefoehjlgdcgaaW.PrintWords Go.Proofs.YtbefoehjlgdcgaaW.PrintLast Go.Proofs.YtbefoehjlgdcgaaW.PrintMore
theorem TableDoes_walk {w : World} (n : Op.S22) (_ : Op.G22 n) (first : Int) (_ : (Lit.int .u64 first).wf = true) (A0 : Option Addr) (c0 : Nat) (l : List S42) (hC : Kd.C k42 w A0 l.length l) (hc : l.length ≤ c0) (_ : ∀ p ∈ l, Op.G42 p) :
    Calls Try.prog 3 #[.agg #[.int .i64 n.f0, .int .i64 n.f1], .int .u64 first, .slice A0 l.length c0] w fun e w' => e = .returned (.bool true) ∧ Below w.heap.size w w' :=
  TableDoes_walk0 n.f0 n.f1 first A0 c0 l w hC hc
end Go.Proofs.Ytbefoehjlgdcgaa.H
