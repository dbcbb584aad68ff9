/- The table of powers of ten, as the rows list it. -/
import Derived.Lib.LaidTab
import Derived.LaidLaws
import Derived.Test.YtlkdmbpbjhjkfaaGreatDoorTB3
import Derived.Test.YtlkdmbpbjhjkfaaGreatDoorTV1
namespace Go.Proofs.YtlkdmbpbjhjkfaaGreatDoor
set_option linter.unusedVariables false
set_option linter.unusedSimpArgs false
set_option maxRecDepth 100000

/-- A response as a value. -/
def tyResp : Ty (Int × Vs (List UInt8 × List UInt8) × Vs UInt8 × Bool) := { val := fun x => .agg #[int x.1, .slice x.2.1.A x.2.1.l.length x.2.1.C, .slice x.2.2.1.A x.2.2.1.l.length x.2.2.1.C, .bool x.2.2.2], sz := 4, ok := fun _ => rfl, plain := fun x c hc => by simp [int, Value.cells] at hc; rcases hc with rfl | rfl | rfl | rfl <;> rfl }
theorem tab10_of {W : World} {d : DataW Unit} (h : Go.Lib.VarReads Tryz.prog W "internal/strconv.uint64pow10" d) (e : d = Go.Lib.tabData .u64 Go.Lib.pow10Tab := by kernel_rfl) : Tab10 W W.heap.size := by
  subst e
  have hg : Tryz.prog.globalNamed "internal/strconv.uint64pow10" = some 1 := by kernel_rfl
  have hT : Go.Lib.TabIs Tryz.prog W "internal/strconv.uint64pow10" .u64 Go.Lib.pow10Tab := by
    obtain ⟨g', t', cs, fuel, p, hg', ht', hvar, hd⟩ := h
    obtain rfl := Option.some.inj (hg.symm.trans hg')
    obtain rfl := Option.some.inj ((show (Tryz.prog.globals[1]?).map (·.type) = some 220 by kernel_rfl).symm.trans ht')
    unfold Go.Lib.TabIs
    rw [hvar, ← Go.Lib.cells_of_tab Tryz.underlying220 Tryz.underlying188 (by kernel_rfl) (by kernel_rfl) hd]
  exact ⟨cell_skip (Go.Lib.TabIs.cell hT hg 0 (by decide)), hT⟩

end Go.Proofs.YtlkdmbpbjhjkfaaGreatDoor
