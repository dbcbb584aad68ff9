/- The parts of the proof that this law needs, in the order of their texts: the logic of walks, the plain laws, the walks. -/
import Derived.Test.YtdncjmehhahidaaGreatDoorQA19
import Derived.Test.YtdncjmehhahidaaGreatDoorQA20
import Derived.Test.YtdncjmehhahidaaGreatDoorQA21
import Derived.Test.YtdncjmehhahidaaGreatDoorQA22
import Derived.Test.YtdncjmehhahidaaGreatDoorQA23
import Derived.Test.YtdncjmehhahidaaGreatDoorQA24
import Derived.Test.YtdncjmehhahidaaGreatDoorQA25
import Derived.Test.YtdncjmehhahidaaGreatDoorQA26
namespace Go.Proofs.YtdncjmehhahidaaGreatDoor
open Go.RowKit (Below)
set_option linter.unusedVariables false
set_option maxRecDepth 100000
noncomputable section
def mlb216 : List Memo := [meb0, meb1, meb2, meb3, meb6, meb7, meb8, meb9, meb10, meb11, meb12]
def prb2 (g : FuncId) : Option (List LV → Nat → LH → Rs) := match Nat.beq g 16 with
  | true => some (memosE mlb216)
  | false => match Nat.beq g 15 with
  | true => some closedE
  | false => prb0 g
def cxb2 : Cx := cxOf Tryz.prog 822 prb2 gl10
end
section
variable {w0 : World} {base : Nat}
theorem mlb216_ok (T10 : Tab10 w0 base) : PrOk Tryz.prog w0 base 16 (memosE mlb216) := memos_ok fun m hm => by
  unfold mlb216 at hm
  simp only [List.mem_cons, List.not_mem_nil, or_false] at hm
  rcases hm with rfl | rfl | rfl | rfl | rfl | rfl | rfl | rfl | rfl | rfl | rfl
  · exact mpb0 T10
  · exact mpb1 T10
  · exact mpb2 T10
  · exact mpb3 T10
  · exact mpb6 T10
  · exact mpb7 T10
  · exact mpb8 T10
  · exact mpb9 T10
  · exact mpb10 T10
  · exact mpb11 T10
  · exact mpb12 T10
theorem prb2_ok (T10 : Tab10 w0 base) (g : FuncId) (p : List LV → Nat → LH → Rs) (h : prb2 g = some p) : PrOk Tryz.prog w0 base g p := by
  unfold prb2 at h
  split at h
  · rename_i hg
    cases h
    rw [beq_iff.1 hg]
    exact mlb216_ok T10
  · skip
    split at h
    · rename_i hg
      cases h
      rw [beq_iff.1 hg]
      exact awakeb_pr T10
    · skip
      exact prb0_ok g p h
theorem cxb2_ok (T10 : Tab10 w0 base) : CxF Tryz.prog w0 base cxb2 := cxb_all T10 (prb2_ok T10)
end
theorem runb5 : isT (callE cxb2 3000000 5 [] 0 .e) = true := by kernel_rfl
theorem mainb_ok {w0 : World} {base : Nat} (T10 : Tab10 w0 base) : SCalls Tryz.prog 5 [] w0 base [] fun u _ => u = .bool true := callE_true (cxb2_ok T10) runb5
end Go.Proofs.YtdncjmehhahidaaGreatDoor
