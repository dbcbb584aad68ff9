/- The parts of the proof that this law needs, in the order of their texts: the logic of walks, the plain laws, the walks. -/
import Derived.Test.YtdncjmehhahidaaGreatDoorQE15
namespace Go.Proofs.YtdncjmehhahidaaGreatDoor
set_option maxHeartbeats 400000
open Go.RowKit (Below)
set_option linter.unusedVariables false
set_option maxRecDepth 100000
noncomputable section
def meb0:Memo :=
 ⟨[.ptr 0 0,.str 6 58413356902772],1,[(0,.rows 3 1 (.n .e [bT,.nils,pN] .e))],
 .sl 19 0 1 1,20,[(19,.rows 1 1 (.n .e [.str 4 1701736302] .e))]⟩
end
theorem mkb0:chkM (callE cxb0 3000000 16 meb0.args meb0.nx (putK .e meb0.need fun h => h)) meb0=true:=by kernel_rfl
theorem mpb0 {w0:World}{base:Nat}(T10:Tab10 w0 base):PrOk Tryz.prog w0 base 16 (memoE meb0):=zdJ (zdO T10) meb0 ⟨Tryz.f16,Tryz.func16,by kernel_rfl,by kernel_rfl⟩ mkb0
end Go.Proofs.YtdncjmehhahidaaGreatDoor
