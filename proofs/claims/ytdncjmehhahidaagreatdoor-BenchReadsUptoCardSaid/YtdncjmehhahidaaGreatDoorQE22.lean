/- The parts of the proof that this law needs, in the order of their texts: the logic of walks, the plain laws, the walks. -/
import Derived.Test.YtdncjmehhahidaaGreatDoorQE16
import Derived.Test.YtdncjmehhahidaaGreatDoorQE17
import Derived.Test.YtdncjmehhahidaaGreatDoorQE18
import Derived.Test.YtdncjmehhahidaaGreatDoorQE19
import Derived.Test.YtdncjmehhahidaaGreatDoorQE20
import Derived.Test.YtdncjmehhahidaaGreatDoorQE21
namespace Go.Proofs.YtdncjmehhahidaaGreatDoor
set_option maxHeartbeats 400000
open Go.RowKit (Below)
set_option linter.unusedVariables false
set_option maxRecDepth 100000
noncomputable section
def mlb116:List Memo:=[meb0,meb1,meb2,meb3,meb4,meb5]
def prb1 (g:FuncId):Option (List LV→Nat→LH→Rs):=match Nat.beq g 16 with
 | true => some (memosE mlb116)
 | false => prb0 g
def cxb1:Cx:=cxOf Tryz.prog 822 prb1 gl10
end
section
variable {w0:World}{base:Nat}
theorem mlb116_ok (T10:Tab10 w0 base):PrOk Tryz.prog w0 base 16 (memosE mlb116):=memos_ok fun m hm => by
 unfold mlb116 at hm
 simp only [List.mem_cons,List.not_mem_nil,or_false] at hm
 rcases hm with rfl | rfl | rfl | rfl | rfl | rfl
 ·exact mpb0 T10
 ·exact mpb1 T10
 ·exact mpb2 T10
 ·exact mpb3 T10
 ·exact mpb4 T10
 ·exact mpb5 T10
theorem prb1_ok (T10:Tab10 w0 base) (g:FuncId) (p:List LV→Nat→LH→Rs) (h:prb1 g=some p):PrOk Tryz.prog w0 base g p:=by
 unfold prb1 at h
 split at h
 ·rename_i hg
  cases h
  rw [zaa.1 hg]
  exact mlb116_ok T10
 ·skip
  exact prb0_ok g p h
theorem cxb1_ok (T10:Tab10 w0 base):CxF Tryz.prog w0 base cxb1:=cxb_all T10 (prb1_ok T10)
end
theorem runb15:isT (callE cxb1 3000000 15 [] 0 .e)=true:=by kernel_rfl
theorem awakeb_ok {w0:World}{base:Nat}(T10:Tab10 w0 base):SCalls Tryz.prog 15 [] w0 base [] fun u _ => u = .bool true:=callE_true (cxb1_ok T10) runb15
end Go.Proofs.YtdncjmehhahidaaGreatDoor
