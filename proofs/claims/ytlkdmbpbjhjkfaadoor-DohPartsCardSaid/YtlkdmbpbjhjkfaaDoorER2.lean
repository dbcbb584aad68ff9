/- The answer beside heads: Field. -/
import Derived.Test.YtlkdmbpbjhjkfaaDoorER1
namespace Go.Proofs.YtlkdmbpbjhjkfaaDoor
set_option linter.unusedVariables false
set_option linter.unusedSimpArgs false
set_option maxRecDepth 100000

end Go.Proofs.YtlkdmbpbjhjkfaaDoor
