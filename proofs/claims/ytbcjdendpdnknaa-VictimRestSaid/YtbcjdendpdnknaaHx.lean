-- PRINTED by print.py (a twelfth state) out of the translation. Not trusted: Lean checks it.
import Derived.Test.YtbcjdendpdnknaaHx0
import Derived.Test.YtbcjdendpdnknaaHx1
import Derived.Test.YtbcjdendpdnknaaHx2
import Derived.Test.YtbcjdendpdnknaaHx3
import Derived.Test.YtbcjdendpdnknaaHx4
import Derived.Test.YtbcjdendpdnknaaHx5
namespace Go.Proofs.Ytbcjdendpdnknaa.H
open Go.RowKit Go.Proofs.YtbcjdendpdnknaaW.PrintWords Go.Proofs.YtbcjdendpdnknaaW.PrintLast Go.Proofs.YtbcjdendpdnknaaW.PrintMore
attribute [local go_sem] max2_int min2_int max_two min_two max_three min_three max_four min_four   -- for this text's walks alone
set_option linter.unusedVariables false
set_option linter.unusedSimpArgs false

end Go.Proofs.Ytbcjdendpdnknaa.H
