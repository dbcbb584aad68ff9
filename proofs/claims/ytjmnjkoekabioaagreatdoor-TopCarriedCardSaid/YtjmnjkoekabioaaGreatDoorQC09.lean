/- Parts of the proof. -/
import Derived.Test.YtjmnjkoekabioaaGreatDoorQC08
namespace Go.Proofs.YtjmnjkoekabioaaGreatDoor
set_option maxHeartbeats 400000
open Go.RowKit (Below)
set_option linter.unusedVariables false
set_option maxRecDepth 100000
noncomputable section
def mI (n:Nat):LV:=.int .i64 (.ofNat n)
def pN:LV:=.nilp
def bT:LV:=.bool true
def bF:LV:=.bool false
def pr0 (g:FuncId):Option (List LV→Nat→LH→Rs):=match Nat.beq g 373 with
 | true => some zzW
 | false => match Nat.beq g 444 with
  | true => some zAG
  | false => none
def noG (g o:Nat):Option LV:=none
def cx0:Cx:=cxOf Tryz.prog 769 pr0 noG
end
theorem zxz:Tryz.prog.funcs.toList.all zo1=true:=by kernel_rfl
theorem zzt:decide (Tryz.prog.types.size≤769)=true:=by kernel_rfl
theorem zzu:decide (Tryz.prog.funcs.size < 4096)=true:=by kernel_rfl
theorem mixed:Tryz.prog.follows .mixedOrders=true:=by kernel_rfl
section
variable {w0:World}{base:Nat}
theorem zx3 (g:FuncId) (p:List LV→Nat→LH→Rs) (h:pr0 g=some p):PrOk Tryz.prog w0 base g p:=by
 unfold pr0 at h
 split at h
 ·rename_i hg
  cases h
  rw [zar.1 hg]
  exact zzV fun b w => by rw [run_callFunc_extern Tryz.func373 kW kW kW (e:=Extern.MathFloatBits.float64frombits) kW]; rfl
 ·split at h
  ·rename_i hg
   cases h
   rw [zar.1 hg]
   exact zAE fun b w => by rw [run_callFunc_extern Tryz.func444 kW kW kW (e:=Extern.MathFloatBits.float64bits) kW]; rfl
  ·cases h
theorem zyk {pr:FuncId→Option (List LV→Nat→LH→Rs)}(hp:∀ g p,pr g=some p→PrOk Tryz.prog w0 base g p):CxF Tryz.prog w0 base (cxOf Tryz.prog 769 pr noG) :=
 cx_ok kE (zDf zzt) (zDf zzu) zxz mixed hp (fun g o v h => by cases h)
theorem ztV:CxF Tryz.prog w0 base cx0:=zyk zx3
end
theorem zzK {P:Program}{f:FuncId}{args:List Value}{W:World}(h:SCalls P f args W W.heap.size [] (fun v _ => v = .bool true)):Calls P f args.toArray W fun e W' => e = .returned (.bool true)∧Below W.heap.size W W' :=
 (h W (zm4 W)).mono fun _ _ ⟨v,H',he,hv,S⟩ => ⟨by rw [he,hv],S.below⟩
end Go.Proofs.YtjmnjkoekabioaaGreatDoor
