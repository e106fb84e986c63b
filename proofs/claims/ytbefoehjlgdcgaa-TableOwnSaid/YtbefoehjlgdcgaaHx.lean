-- PRINTED by print.py (a twelfth state) out of the translation. Not trusted: Lean checks it.
import Derived.Test.YtbefoehjlgdcgaaHx0
import Derived.Test.YtbefoehjlgdcgaaHx1
import Derived.Test.YtbefoehjlgdcgaaHx2
import Derived.Test.YtbefoehjlgdcgaaHx3
namespace Go.Proofs.Ytbefoehjlgdcgaa.H
open Go.RowKit Go.Proofs.YtbefoehjlgdcgaaW.PrintWords Go.Proofs.YtbefoehjlgdcgaaW.PrintLast Go.Proofs.YtbefoehjlgdcgaaW.PrintMore
attribute [local go_sem] min2_int min_two
set_option linter.unusedVariables false
set_option linter.unusedSimpArgs false
end Go.Proofs.Ytbefoehjlgdcgaa.H
