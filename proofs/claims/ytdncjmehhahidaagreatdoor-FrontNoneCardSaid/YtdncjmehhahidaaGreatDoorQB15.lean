/- The parts of the proof that this law needs, in the order of their texts: the logic of walks, the plain laws, the walks. -/
import Derived.Test.YtdncjmehhahidaaGreatDoorQB12
import Derived.Test.YtdncjmehhahidaaGreatDoorQB13
import Derived.Test.YtdncjmehhahidaaGreatDoorQB14
namespace Go.Proofs.YtdncjmehhahidaaGreatDoor
open Go.RowKit (Below)
set_option linter.unusedVariables false
set_option maxRecDepth 100000
noncomputable section
def ml25 : List Memo := [me0]
def ml27 : List Memo := [me1, me2]
def pr1 (g : FuncId) : Option (List LV → Nat → LH → Rs) := match Nat.beq g 25 with
  | true => some (memosE ml25)
  | false => match Nat.beq g 27 with
  | true => some (memosE ml27)
  | false => pr0 g
def cx1 : Cx := cxOf Tryz.prog 822 pr1 noG
end
section
variable {w0 : World} {base : Nat}
theorem ml25_ok : PrOk Tryz.prog w0 base 25 (memosE ml25) := memos_ok fun m hm => by
  unfold ml25 at hm
  simp only [List.mem_cons, List.not_mem_nil, or_false] at hm
  rcases hm with rfl
  · exact mp0
theorem ml27_ok : PrOk Tryz.prog w0 base 27 (memosE ml27) := memos_ok fun m hm => by
  unfold ml27 at hm
  simp only [List.mem_cons, List.not_mem_nil, or_false] at hm
  rcases hm with rfl | rfl
  · exact mp1
  · exact mp2
theorem pr1_ok (g : FuncId) (p : List LV → Nat → LH → Rs) (h : pr1 g = some p) : PrOk Tryz.prog w0 base g p := by
  unfold pr1 at h
  split at h
  · rename_i hg
    cases h
    rw [beq_iff.1 hg]
    exact ml25_ok
  · skip
    split at h
    · rename_i hg
      cases h
      rw [beq_iff.1 hg]
      exact ml27_ok
    · skip
      exact pr0_ok g p h
theorem cx1_ok : CxF Tryz.prog w0 base cx1 := cx_all pr1_ok
end
theorem run8 : isT (callE cx1 3000000 8 [] 0 .e) = true := by kernel_rfl
theorem awake_ok {w0 : World} {base : Nat} : SCalls Tryz.prog 8 [] w0 base [] fun u _ => u = .bool true := callE_true cx1_ok run8
end Go.Proofs.YtdncjmehhahidaaGreatDoor
