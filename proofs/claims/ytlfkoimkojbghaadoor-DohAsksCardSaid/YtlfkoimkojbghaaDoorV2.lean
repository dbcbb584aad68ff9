/- What the cards ask of the program. -/
import Derived.WalkKit
import Derived.SevenTiedAt
import Derived.Test.YtlfkoimkojbghaaDoorChecked
namespace Go.Proofs.YtlfkoimkojbghaaDoor
set_option linter.unusedVariables false
set_option linter.unusedSimpArgs false
set_option maxRecDepth 100000

theorem seat_main : Tryd.prog.mainIs = some ((true, "943b7e5e6c988817b5fb0c4e25fe76673e48efc62b8a3200cc9b6f0694dcc4de").1, (true, "943b7e5e6c988817b5fb0c4e25fe76673e48efc62b8a3200cc9b6f0694dcc4de").2.toList) := by kernel_rfl

theorem seat_looks : true = Tryd.prog.looks [] := by kernel_rfl

end Go.Proofs.YtlfkoimkojbghaaDoor
