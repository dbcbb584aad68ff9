/- The types of this program's elements, as values. -/
import Derived.Test.YtlkdmbpbjhjkfaaGreatDoorLgP
namespace Go.Proofs.YtlkdmbpbjhjkfaaGreatDoor
set_option linter.unusedVariables false
/-- A call of a channel: its kind, its bytes. -/
def tyAct : Ty (Int × Bs) := { val := fun x => .agg #[int x.1, .slice x.2.A x.2.l.length x.2.C], sz := 2, ok := fun _ => rfl, plain := fun x c hc => by simp [int, Value.cells] at hc; rcases hc with rfl | rfl <;> rfl }
/-- A field of a head: its name, its value. -/
def tyField : Ty (List UInt8 × List UInt8) := { val := fun x => .agg #[str x.1, str x.2], sz := 2, ok := fun _ => rfl, plain := fun x c hc => by simp [str, Value.cells] at hc; rcases hc with rfl | rfl <;> rfl }
/-- A record: name, type, class, for how long, data. -/
def tyRec : Ty (List UInt8 × Int × Int × Int × List UInt8) := { val := fun x => .agg #[str x.1, int x.2.1, int x.2.2.1, int x.2.2.2.1, str x.2.2.2.2], sz := 5, ok := fun _ => rfl, plain := fun x c hc => by simp [int, str, Value.cells] at hc; rcases hc with rfl | rfl | rfl | rfl | rfl <;> rfl }
/-- A question. -/
def tyQn : Ty (List UInt8 × Int × Int) := { val := fun x => .agg #[str x.1, int x.2.1, int x.2.2], sz := 3, ok := fun _ => rfl, plain := fun x c hc => by simp [int, str, Value.cells] at hc; rcases hc with rfl | rfl | rfl <;> rfl }
/-- A piece of data. -/
def tyPiece : Ty (List UInt8 × Bool) := { val := fun x => .agg #[str x.1, .bool x.2], sz := 2, ok := fun _ => rfl, plain := fun x c hc => by simp [str, Value.cells] at hc; rcases hc with rfl | rfl <;> rfl }
end Go.Proofs.YtlkdmbpbjhjkfaaGreatDoor
