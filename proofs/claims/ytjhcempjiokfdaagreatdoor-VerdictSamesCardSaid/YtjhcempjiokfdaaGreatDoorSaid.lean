/- The law's row for every two reports. Condition: the two tables that the row lists are as it lists them. -/
import Derived.Test.YtjhcempjiokfdaaGreatDoorWit
import Derived.Test.YtjhcempjiokfdaaGreatDoorFact0
import Derived.Test.YtjhcempjiokfdaaGreatDoorFact1
import Derived.Test.YtjhcempjiokfdaaGreatDoorFact2
import Derived.Test.YtjhcempjiokfdaaGreatDoorFact3
import Derived.Test.YtjhcempjiokfdaaGreatDoorFact4
set_option linter.unusedSimpArgs false
set_option linter.unusedVariables false

-- ---- Main3
namespace Go.Proofs.YtjhcempjiokfdaaGreatDoor
open Go.ChangeShapes Go.WideShapes Go.ChangeAt Go.RowKit Go.Proofs.Abs
set_option maxRecDepth 100000
set_option linter.unusedVariables false
set_option linter.unusedSimpArgs false
theorem said : Rows.VerdictSamesSaid :=
  OpenClaim.holds_of_cond 3 Tryz.f3 rfl rfl rfl rfl rfl rfl rfl ⟨rfl, rfl, rfl, rfl, rfl⟩ rfl rfl rfl rfl rfl (by kernel_rfl) Tryz.func3 (joined_of fact0 fact1 fact2 fact3 fact4 fact5 fact6 fact7 fact8 fact9 fact10 fact11 fact12 fact13 fact14 fact15 fact16 fact17 fact18 fact19 fact20 fact21 fact22 fact23 fact24 fact25 fact26 fact27 fact28 fact29 fact30 fact31)
    (of_decide_eq_true (by kernel_rfl)) (by unfold Func.isWrapper; first | (rw [if_pos (by decide +kernel)]; kernel_rfl) | (rw [if_neg (by decide +kernel)]; exact ⟨rfl, rfl⟩))
    (fun os started H enc _ F => by rw [OpenClaim.pre_eq_preRow]; exact lifted os started H enc F)

end Go.Proofs.YtjhcempjiokfdaaGreatDoor
