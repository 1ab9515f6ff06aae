/- Closed facts of the law's row over the program's text, part 4. No condition. -/
import Derived.Test.YtjhcempjiokfdaaGreatDoorRows
import Derived.JoinedOf
import Derived.KernelRfl
set_option linter.unusedSimpArgs false
set_option linter.unusedVariables false

-- ---- Fact4
namespace Go.Proofs.YtjhcempjiokfdaaGreatDoor
set_option maxRecDepth 100000
theorem fact12 : ((Rows.verdictSamesRow.named == Tryz.pinned.checked.prog.varsNamed 3)) = true := by kernel_rfl
end Go.Proofs.YtjhcempjiokfdaaGreatDoor
