/- Parts of the proof. -/
import Derived.Test.YtjmnjkoekabioaaGreatDoorQC10
import Derived.Test.YtjmnjkoekabioaaGreatDoorQC11
import Derived.Test.YtjmnjkoekabioaaGreatDoorQC12
namespace Go.Proofs.YtjmnjkoekabioaaGreatDoor
set_option maxHeartbeats 400000
open Go.RowKit (Below)
set_option linter.unusedVariables false
set_option maxRecDepth 100000
noncomputable section
def ml19:List Memo:=[me0]
def ml22:List Memo:=[me1,me2]
def pr1 (g:FuncId):Option (List LV→Nat→LH→Rs):=match Nat.beq g 19 with
 | true => some (zi2 ml19)
 | false => match Nat.beq g 22 with
 | true => some (zi2 ml22)
 | false => pr0 g
def cx1:Cx:=cxOf Tryz.prog 769 pr1 noG
end
section
variable {w0:World}{base:Nat}
theorem zzx:PrOk Tryz.prog w0 base 19 (zi2 ml19):=zlc fun m hm => by
 unfold ml19 at hm
 simp only [zDp,zFD,zGr] at hm
 rcases hm with rfl
 ·exact mp0
theorem zzw:PrOk Tryz.prog w0 base 22 (zi2 ml22):=zlc fun m hm => by
 unfold ml22 at hm
 simp only [zDp,zFD,zGr] at hm
 rcases hm with rfl | rfl
 ·exact mp1
 ·exact mp2
theorem zBH (g:FuncId) (p:List LV→Nat→LH→Rs) (h:pr1 g=some p):PrOk Tryz.prog w0 base g p:=by
 unfold pr1 at h
 split at h
 ·rename_i hg
  cases h
  rw [zar.1 hg]
  exact zzx
 ·skip
  split at h
  ·rename_i hg
   cases h
   rw [zar.1 hg]
   exact zzw
  ·skip
   exact zx3 g p h
theorem zCn:CxF Tryz.prog w0 base cx1:=zyk zBH
end
theorem run4:isT (zmV cx1 3000000 4 [] 0 .e)=true:=by kernel_rfl
theorem zxr {w0:World}{base:Nat}:SCalls Tryz.prog 4 [] w0 base [] fun u _ => u = .bool true:=zqU zCn run4
end Go.Proofs.YtjmnjkoekabioaaGreatDoor
