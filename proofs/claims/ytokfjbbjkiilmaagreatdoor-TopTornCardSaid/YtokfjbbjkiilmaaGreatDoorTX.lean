/-
The closed facts of TopTorn's row, each a lemma of its own (in one piece the kernel outgrows its lid).
-/
import Derived.Test.YtokfjbbjkiilmaaGreatDoorRows
import Derived.JoinedOf
import Derived.KernelRfl
namespace Go.Proofs.YtokfjbbjkiilmaaGreatDoor.topTorn
set_option maxHeartbeats 40000000 in
theorem closed : joinedFacts Tryz.prog 4 Tryz.f4 Rows.topTornSpec Rows.topTornRow = true := by
 simp only [joinedFacts,Bool.and_eq_true]
 repeat' apply And.intro
 all_goals (as_aux_lemma => kernel_rfl)
end Go.Proofs.YtokfjbbjkiilmaaGreatDoor.topTorn
