/- The parts of the proof that this law needs, in the order of their texts: the logic of walks, the plain laws, the walks. -/
import Derived.Test.YtdncjmehhahidaaGreatDoorQC10
namespace Go.Proofs.YtdncjmehhahidaaGreatDoor
set_option linter.unusedVariables false
set_option linter.unusedSimpArgs false
set_option maxRecDepth 100000
theorem tab10_of {W : World} {d : DataW Unit} (h : Go.Lib.VarReads Tryz.prog W "internal/strconv.uint64pow10" d) (e : d = Go.Lib.tabData .u64 Go.Lib.pow10Tab := by kernel_rfl) : Tab10 W W.heap.size := by
  subst e
  have hg : Tryz.prog.globalNamed "internal/strconv.uint64pow10" = some 6 := by kernel_rfl
  have hT : Go.Lib.TabIs Tryz.prog W "internal/strconv.uint64pow10" .u64 Go.Lib.pow10Tab := by
    obtain ⟨g', t', cs, fuel, p, hg', ht', hvar, hd⟩ := h
    obtain rfl := Option.some.inj (hg.symm.trans hg')
    obtain rfl := Option.some.inj ((show (Tryz.prog.globals[6]?).map (·.type) = some 725 by kernel_rfl).symm.trans ht')
    unfold Go.Lib.TabIs
    rw [hvar, ← Go.Lib.cells_of_tab Tryz.underlying725 Tryz.underlying558 (by kernel_rfl) (by kernel_rfl) hd]
  exact ⟨cell_skip (Go.Lib.TabIs.cell hT hg 0 (by decide)), hT⟩
end Go.Proofs.YtdncjmehhahidaaGreatDoor
