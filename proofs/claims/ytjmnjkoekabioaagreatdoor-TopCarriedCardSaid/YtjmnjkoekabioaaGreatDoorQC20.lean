/- Parts of the proof. -/
import Derived.Test.YtjmnjkoekabioaaGreatDoorQC08
namespace Go.Proofs.YtjmnjkoekabioaaGreatDoor
set_option maxHeartbeats 400000
open Go
set_option maxRecDepth 100000
theorem zzj:Tryz.prog.funcs.toList.all (fun fn => !fn.goes)=true:=by kernel_rfl
theorem ztc {P:Program}(h:P.funcs.toList.all (fun fn => !fn.goes)=true) (f:FuncId):P.goes f=false:=by
 have key:∀ fn:Func,fn ∈ P.funcs.toList→fn.goes=false:=fun fn hm => by
  have:=zDa.1 h fn hm
  simpa using this
 unfold Program.goes
 rw [zEq]
 constructor
 ·rw [zFx]
  intro g _
  cases hg:P.funcs[g]? with
  | none => simp
  | some fn =>
   have:=key fn (by rw [← zDE] at hg; exact zEV hg)
   simp [this]
 ·have:P.funcs.any Func.goes=false:=by
   rw [← Array.any_toList,zFx]
   intro fn hm
   rw [key fn hm]; simp
  rw [this,zFc]
theorem zzR {P:Program}(h:P.funcs.toList.all (fun fn => !fn.goes)=true) (c:OpenClaim):false=c.goesBy P:=by
 unfold OpenClaim.goesBy Program.goesAt Program.goesFrom
 have h1:(P.funcNamed c.func).any P.goes=false:=by
  cases P.funcNamed c.func with
  | none => rfl
  | some f => exact ztc h f
 rw [h1,zFS]
 split
 ·rfl
 ·symm
  rw [zFx]
  intro f _
  rw [ztc h f]; simp
theorem pf3:false=Rows.topCarriedRow.goesBy Tryz.prog:=zzR zzj _
end Go.Proofs.YtjmnjkoekabioaaGreatDoor
