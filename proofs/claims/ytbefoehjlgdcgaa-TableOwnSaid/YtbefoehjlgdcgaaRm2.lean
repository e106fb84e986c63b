/-
Plain: what the reference tells of a table that may be is what the program tells.
-/
import Derived.Test.YtbefoehjlgdcgaaRm
import Derived.Test.YtbefoehjlgdcgaaTk
namespace Go.Proofs.Ytbefoehjlgdcgaa.H
open Go.RowKit Go.Proofs.YtbefoehjlgdcgaaW.PrintWords Go.Proofs.YtbefoehjlgdcgaaW.PrintLast Go.Proofs.YtbefoehjlgdcgaaW.PrintMore
set_option linter.unusedVariables false
set_option linter.unusedSimpArgs false
variable {g s : Int} {o l f : List Int}
end Go.Proofs.Ytbefoehjlgdcgaa.H
