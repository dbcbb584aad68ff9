/- The parts of the proof that this law needs, in the order of their texts: the logic of walks, the plain laws, the walks. -/
import Derived.Test.YtdncjmehhahidaaGreatDoorQE00
namespace Go.Proofs.YtdncjmehhahidaaGreatDoor
set_option maxHeartbeats 400000
open Go
set_option maxRecDepth 100000
theorem no_goes:Tryz.prog.funcs.toList.all (fun fn => !fn.goes)=true:=by kernel_rfl
theorem goes_no {P:Program}(h:P.funcs.toList.all (fun fn => !fn.goes)=true) (f:FuncId):P.goes f=false:=by
 have key:∀ fn:Func,fn ∈ P.funcs.toList→fn.goes=false:=fun fn hm => by
  have:=List.all_eq_true.1 h fn hm
  simpa using this
 unfold Program.goes
 rw [Bool.or_eq_false_iff]
 constructor
 ·rw [List.any_eq_false]
  intro g _
  cases hg:P.funcs[g]? with
  | none => simp
  | some fn =>
   have:=key fn (by rw [← Array.getElem?_toList] at hg; exact List.mem_of_getElem? hg)
   simp [this]
 ·have:P.funcs.any Func.goes=false:=by
   rw [← Array.any_toList,List.any_eq_false]
   intro fn hm
   rw [key fn hm]; simp
  rw [this,Bool.and_false]
theorem goes_of {P:Program}(h:P.funcs.toList.all (fun fn => !fn.goes)=true) (c:OpenClaim):false=c.goesBy P:=by
 unfold OpenClaim.goesBy Program.goesAt Program.goesFrom
 have h1:(P.funcNamed c.func).any P.goes=false:=by
  cases P.funcNamed c.func with
  | none => rfl
  | some f => exact goes_no h f
 rw [h1,Bool.false_or]
 split
 ·rfl
 ·symm
  rw [List.any_eq_false]
  intro f _
  rw [goes_no h f]; simp
theorem pf3:false=Rows.benchKnownRow.goesBy Tryz.prog:=goes_of no_goes _
end Go.Proofs.YtdncjmehhahidaaGreatDoor
