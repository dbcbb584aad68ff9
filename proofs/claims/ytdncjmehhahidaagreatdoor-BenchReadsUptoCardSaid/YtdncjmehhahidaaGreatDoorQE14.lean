/- The parts of the proof that this law needs, in the order of their texts: the logic of walks, the plain laws, the walks. -/
import Derived.Test.YtdncjmehhahidaaGreatDoorQE12
namespace Go.Proofs.YtdncjmehhahidaaGreatDoor
set_option maxHeartbeats 400000
open Go.RowKit (Below)
set_option linter.unusedVariables false
set_option maxRecDepth 100000
noncomputable section
def mI (n:Nat):LV:=.int .i64 (.ofNat n)
def pN:LV:=.nilp
def bT:LV:=.bool true
def bF:LV:=.bool false
def pr0 (g:FuncId):Option (List LV→Nat→LH→Rs):=match Nat.beq g 396 with
 | true => some fromE
 | false => match Nat.beq g 449 with
  | true => some bitsE
  | false => none
end
theorem all_body:Tryz.prog.funcs.toList.all okBody=true:=by kernel_rfl
theorem n_types:decide (Tryz.prog.types.size≤822)=true:=by kernel_rfl
theorem n_funcs:decide (Tryz.prog.funcs.size < 4096)=true:=by kernel_rfl
theorem mixed:Tryz.prog.follows .mixedOrders=true:=by kernel_rfl
section
variable {w0:World}{base:Nat}
theorem pr0_ok (g:FuncId) (p:List LV→Nat→LH→Rs) (h:pr0 g=some p):PrOk Tryz.prog w0 base g p:=by
 unfold pr0 at h
 split at h
 ·rename_i hg
  cases h
  rw [zaa.1 hg]
  exact from_pr fun b w => by rw [run_callFunc_extern Tryz.func396 (by kernel_rfl) (by kernel_rfl) (by kernel_rfl) (e:=Extern.MathFloatBits.float64frombits) (by kernel_rfl)]; rfl
 ·split at h
  ·rename_i hg
   cases h
   rw [zaa.1 hg]
   exact bits_pr fun b w => by rw [run_callFunc_extern Tryz.func449 (by kernel_rfl) (by kernel_rfl) (by kernel_rfl) (e:=Extern.MathFloatBits.float64bits) (by kernel_rfl)]; rfl
  ·cases h
end
theorem law_ofE {P:Program}{f:FuncId}{args:List Value}{W:World}(h:SCalls P f args W W.heap.size [] (fun v _ => v = .bool true)):Calls P f args.toArray W fun e W' => e = .returned (.bool true)∧Below W.heap.size W W' :=
 (h W (Sep.start W)).mono fun _ _ ⟨v,H',he,hv,S⟩ => ⟨by rw [he,hv],S.below⟩
end Go.Proofs.YtdncjmehhahidaaGreatDoor
