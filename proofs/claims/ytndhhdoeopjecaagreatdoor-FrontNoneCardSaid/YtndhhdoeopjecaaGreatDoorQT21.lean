/- The parts of the proof that this law needs, in the order of their texts: the logic of walks, the plain laws, the walks. -/
import Derived.Test.YtndhhdoeopjecaaGreatDoorQT20
namespace Go.Proofs.YtndhhdoeopjecaaGreatDoor
open Go.RowKit (Below)
set_option linter.unusedVariables false
set_option maxRecDepth 100000
noncomputable section
def ml5 : List Memo := [me0]
def ml7 : List Memo := [me1, me2, me3, me4, me5, me6, me7, me8, me9, me10]
def pr1 (g : FuncId) : Option (List LV → Nat → LH → Rs) := match Nat.beq g 5 with
  | true => some (memosE ml5)
  | false => match Nat.beq g 7 with
  | true => some (memosE ml7)
  | false => pr0 g
def cx1 : Cx := cxOf Tryz.prog 774 pr1 noG
end
section
variable {w0 : World} {base : Nat}
theorem ml5_ok : PrOk Tryz.prog w0 base 5 (memosE ml5) := memos_ok fun m hm => by
  unfold ml5 at hm
  simp only [List.mem_cons, List.not_mem_nil, or_false] at hm
  rcases hm with rfl
  · exact mp0
theorem ml7_ok : PrOk Tryz.prog w0 base 7 (memosE ml7) := memos_ok fun m hm => by
  unfold ml7 at hm
  simp only [List.mem_cons, List.not_mem_nil, or_false] at hm
  rcases hm with rfl | rfl | rfl | rfl | rfl | rfl | rfl | rfl | rfl | rfl
  · exact mp1
  · exact mp2
  · exact mp3
  · exact mp4
  · exact mp5
  · exact mp6
  · exact mp7
  · exact mp8
  · exact mp9
  · exact mp10
theorem pr1_ok (g : FuncId) (p : List LV → Nat → LH → Rs) (h : pr1 g = some p) : PrOk Tryz.prog w0 base g p := by
  unfold pr1 at h
  split at h
  · rename_i hg
    cases h
    rw [beq_iff.1 hg]
    exact ml5_ok
  · skip
    split at h
    · rename_i hg
      cases h
      rw [beq_iff.1 hg]
      exact ml7_ok
    · skip
      exact pr0_ok g p h
theorem cx1_ok : CxF Tryz.prog w0 base cx1 := cx_all pr1_ok
end
theorem run13 : isT (callE cx1 3000000 13 [] 0 .e) = true := by kernel_rfl
theorem awake_ok {w0 : World} {base : Nat} : SCalls Tryz.prog 13 [] w0 base [] fun u _ => u = .bool true := callE_true cx1_ok run13
end Go.Proofs.YtndhhdoeopjecaaGreatDoor
