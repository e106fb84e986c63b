-- PRINTED by print.py (a twelfth state) out of the translation. Not trusted: Lean checks it.
import Derived.Test.YtbcmjbjhjnojjaaHx0
import Derived.Test.YtbcmjbjhjnojjaaHx1
import Derived.Test.YtbcmjbjhjnojjaaHx2
import Derived.Test.YtbcmjbjhjnojjaaHx3
import Derived.Test.YtbcmjbjhjnojjaaHx4
import Derived.Test.YtbcmjbjhjnojjaaHx5
import Derived.Test.YtbcmjbjhjnojjaaHx6
import Derived.Test.YtbcmjbjhjnojjaaHx7
import Derived.Test.YtbcmjbjhjnojjaaHx8
namespace Go.Proofs.Ytbcmjbjhjnojjaa.H
open Go.RowKit Go.Proofs.YtbcmjbjhjnojjaaW.PrintWords Go.Proofs.YtbcmjbjhjnojjaaW.PrintLast Go.Proofs.YtbcmjbjhjnojjaaW.PrintMore
attribute [local go_sem] max2_int min2_int max_two min_two max_three min_three max_four min_four
set_option linter.unusedVariables false
set_option linter.unusedSimpArgs false
end Go.Proofs.Ytbcmjbjhjnojjaa.H
