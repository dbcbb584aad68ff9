/- What the cards ask of the program. -/
import Derived.WalkKit
import Derived.SevenTiedAt
import Derived.Test.YtlkdmbpbjhjkfaaDoorChecked
namespace Go.Proofs.YtlkdmbpbjhjkfaaDoor
set_option linter.unusedVariables false
set_option linter.unusedSimpArgs false
set_option maxRecDepth 100000

theorem seat_main : Tryd.prog.mainIs = some ((true, "113b272c018cbaf87befbe247f24e1371cdd93a73e14f87f7a54592165fc64f2").1, (true, "113b272c018cbaf87befbe247f24e1371cdd93a73e14f87f7a54592165fc64f2").2.toList) := by kernel_rfl

theorem seat_looks : true = Tryd.prog.looks [] := by kernel_rfl

end Go.Proofs.YtlkdmbpbjhjkfaaDoor
