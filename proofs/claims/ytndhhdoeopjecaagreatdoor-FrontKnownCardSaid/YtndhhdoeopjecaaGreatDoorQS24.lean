/- The parts of the proof that this law needs, in the order of their texts: the logic of walks, the plain laws, the walks. -/
import Derived.Test.YtndhhdoeopjecaaGreatDoorQS23
namespace Go.Proofs.YtndhhdoeopjecaaGreatDoor
open Go.RowKit (Below)
set_option linter.unusedVariables false
set_option maxRecDepth 100000
noncomputable section
def pr2 (g : FuncId) : Option (List LV → Nat → LH → Rs) := match Nat.beq g 13 with
  | true => some closedE
  | false => pr1 g
def cx2 : Cx := cxOf Tryz.prog 774 pr2 noG
end
section
variable {w0 : World} {base : Nat}
theorem pr2_ok (g : FuncId) (p : List LV → Nat → LH → Rs) (h : pr2 g = some p) : PrOk Tryz.prog w0 base g p := by
  unfold pr2 at h
  split at h
  · rename_i hg
    cases h
    rw [beq_iff.1 hg]
    exact awake_pr
  · skip
    exact pr1_ok g p h
theorem cx2_ok : CxF Tryz.prog w0 base cx2 := cx_all pr2_ok
end
theorem run3 : isT (callE cx2 3000000 3 [] 0 .e) = true := by kernel_rfl
theorem main_ok {w0 : World} {base : Nat} : SCalls Tryz.prog 3 [] w0 base [] fun u _ => u = .bool true := callE_true cx2_ok run3
end Go.Proofs.YtndhhdoeopjecaaGreatDoor
