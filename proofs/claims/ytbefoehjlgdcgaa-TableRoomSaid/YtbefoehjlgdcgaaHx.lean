-- PRINTED by print.py (a twelfth state) out of the translation. Not trusted: Lean checks it.
import Derived.Test.YtbefoehjlgdcgaaHx0
import Derived.Test.YtbefoehjlgdcgaaHx1
import Derived.Test.YtbefoehjlgdcgaaHx2
import Derived.Test.YtbefoehjlgdcgaaHx3
namespace Go.Proofs.Ytbefoehjlgdcgaa.H
open Go.RowKit Go.Proofs.YtbefoehjlgdcgaaW.PrintWords Go.Proofs.YtbefoehjlgdcgaaW.PrintLast Go.Proofs.YtbefoehjlgdcgaaW.PrintMore
attribute [local go_sem] max2_int min2_int max_two min_two max_three min_three max_four min_four
set_option linter.unusedVariables false
set_option linter.unusedSimpArgs false
end Go.Proofs.Ytbefoehjlgdcgaa.H
