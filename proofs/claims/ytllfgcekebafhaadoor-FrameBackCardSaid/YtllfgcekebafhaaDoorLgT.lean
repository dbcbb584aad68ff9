/- The types of this program's elements, as values. -/
import Derived.Test.YtllfgcekebafhaaDoorLgP
namespace Go.Proofs.YtllfgcekebafhaaDoor
set_option linter.unusedVariables false
/-- A call of a channel: its kind, its bytes. -/
def tyAct : Ty (Int × Bs) := { val := fun x => .agg #[int x.1, .slice x.2.A x.2.l.length x.2.C], sz := 2, ok := fun _ => rfl, plain := fun x c hc => by simp [int, Value.cells] at hc; rcases hc with rfl | rfl <;> rfl }
end Go.Proofs.YtllfgcekebafhaaDoor
