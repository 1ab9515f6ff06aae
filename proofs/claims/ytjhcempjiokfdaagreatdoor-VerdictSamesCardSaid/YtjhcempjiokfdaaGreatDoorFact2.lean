/- Closed facts of the law's row over the program's text, part 2. No condition. -/
import Derived.Test.YtjhcempjiokfdaaGreatDoorRows
import Derived.JoinedOf
import Derived.KernelRfl
set_option linter.unusedSimpArgs false
set_option linter.unusedVariables false

-- ---- Fact2
namespace Go.Proofs.YtjhcempjiokfdaaGreatDoor
set_option maxRecDepth 100000
theorem fact10 : ((Rows.verdictSamesRow.unfollowed == Tryz.pinned.checked.prog.unfollowed 3)) = true := by kernel_rfl
end Go.Proofs.YtjhcempjiokfdaaGreatDoor
