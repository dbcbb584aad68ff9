/- What the cards ask of the program. -/
import Derived.WalkKit
import Derived.SevenTiedAt
import Derived.Test.YtlfkoimkojbghaaGreatDoorChecked
namespace Go.Proofs.YtlfkoimkojbghaaGreatDoor
set_option linter.unusedVariables false
set_option linter.unusedSimpArgs false
set_option maxRecDepth 100000

theorem seat_main : Tryz.prog.mainIs = some ((true, "8ed97148cf695f543b42e8b197d9f9524c5ff4ad6ae0d9e6b45b99ec10321482").1, (true, "8ed97148cf695f543b42e8b197d9f9524c5ff4ad6ae0d9e6b45b99ec10321482").2.toList) := by kernel_rfl

theorem seat_looks : true = Tryz.prog.looks [] := by kernel_rfl

end Go.Proofs.YtlfkoimkojbghaaGreatDoor
