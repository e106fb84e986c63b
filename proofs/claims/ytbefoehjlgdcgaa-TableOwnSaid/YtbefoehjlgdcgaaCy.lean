/-
Plain: tables of segments that follow one another, without records.
-/
import Derived.Test.YtbefoehjlgdcgaaFu
namespace Go.Proofs.Ytbefoehjlgdcgaa.H
open Go.RowKit Go.Proofs.YtbefoehjlgdcgaaW.PrintWords Go.Proofs.YtbefoehjlgdcgaaW.PrintLast Go.Proofs.YtbefoehjlgdcgaaW.PrintMore
end Go.Proofs.Ytbefoehjlgdcgaa.H
