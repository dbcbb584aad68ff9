/- What the cards ask of the program. -/
import Derived.WalkKit
import Derived.SevenTiedAt
import Derived.Test.YtlkdmbpbjhjkfaaGreatDoorChecked
namespace Go.Proofs.YtlkdmbpbjhjkfaaGreatDoor
set_option linter.unusedVariables false
set_option linter.unusedSimpArgs false
set_option maxRecDepth 100000

theorem seat_main : Tryz.prog.mainIs = some ((true, "042db8cd397699b23d1f30724be7f7fd46a346a9a8aa6dfad5608fe212b22c42").1, (true, "042db8cd397699b23d1f30724be7f7fd46a346a9a8aa6dfad5608fe212b22c42").2.toList) := by kernel_rfl

theorem seat_looks : true = Tryz.prog.looks [] := by kernel_rfl

end Go.Proofs.YtlkdmbpbjhjkfaaGreatDoor
