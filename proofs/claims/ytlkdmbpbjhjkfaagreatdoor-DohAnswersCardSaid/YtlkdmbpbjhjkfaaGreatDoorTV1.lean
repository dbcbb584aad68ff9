/- The tables of the program, as the rows list them. -/
import Derived.Lib.LaidU8T
import Derived.Test.YtlkdmbpbjhjkfaaGreatDoorT6
import Derived.Test.YtlkdmbpbjhjkfaaGreatDoorLgV
import Derived.Test.YtlkdmbpbjhjkfaaGreatDoorRows
namespace Go.Proofs.YtlkdmbpbjhjkfaaGreatDoor
set_option linter.unusedVariables false
set_option linter.unusedSimpArgs false
set_option maxRecDepth 100000

/-- A head as a value. -/
def tyHead : Ty (List UInt8 × List UInt8 × Int × Vs (List UInt8 × List UInt8)) := { val := fun x => .agg #[str x.1, str x.2.1, int x.2.2.1, .slice x.2.2.2.A x.2.2.2.l.length x.2.2.2.C], sz := 4, ok := fun _ => rfl, plain := fun x c hc => by simp [int, str, Value.cells] at hc; rcases hc with rfl | rfl | rfl | rfl <;> rfl }

def u8ren : Go.Shelf.Ren := ⟨fun _ => 0, fun | 5 => 5 | 119 => 166 | 138 => 252 | 139 => 253 | _ => 0, fun | 3 => 4 | 4 => 5 | _ => 0⟩
theorem tabs_of {W : World} (hsh : W.ShapedOpen Tryz.prog) {d1 d2 : DataW Unit} (h3 : Go.Lib.VarReads Tryz.prog W "unicode/utf8.first" d1) (h4 : Go.Lib.VarReads Tryz.prog W "unicode/utf8.acceptRanges" d2) (e1 : d1 = Go.Lib.firstData := by kernel_rfl) (e2 : d2 = Go.Lib.acceptData := by kernel_rfl) : Tabs W W.heap.size := by
  subst e1; subst e2
  obtain ⟨m, hm⟩ := cell_of_shapedOpen_int (P := Tryz.prog) (g := 0) (t := 3) (zero := #[.int .i64 0]) hsh (of_decide_eq_true (by kernel_rfl)) (by kernel_rfl) rfl (by kernel_rfl) (by kernel_rfl) Tryz.underlying3
  have hu := Go.Proofs.utf8Tabs_of_readsT (P := Tryz.prog) (ρ := u8ren) { t5 := Tryz.underlying5, t119 := Tryz.underlying166, t138 := Tryz.underlying252, t139 := Tryz.underlying253 } { n3 := by kernel_rfl, n4 := by kernel_rfl, y3 := by kernel_rfl, y4 := by kernel_rfl, c5 := by kernel_rfl, c119 := by kernel_rfl, c138 := by kernel_rfl } h3 h4
  have h1 : ∀ c, c < 256 → W.cell? ⟨4, c, none⟩ = some (.int .u8 (Lib.firstT c)) := hu.1
  have h2 : ∀ i, i < 16 → W.cell? ⟨5, 2 * i, none⟩ = some (.int .u8 (Lib.accLo i)) ∧ W.cell? ⟨5, 2 * i + 1, none⟩ = some (.int .u8 (Lib.accHi i)) := hu.2
  exact ⟨cell_skip (h1 0 (by decide)), cell_skip (h2 0 (by decide)).1, h1, cell_skip hm, ⟨m, hm⟩, h2⟩

end Go.Proofs.YtlkdmbpbjhjkfaaGreatDoor
