/- The parts of the proof that this law needs, in the order of their texts: the logic of walks, the plain laws, the walks. -/
import Derived.Test.YtdncjmehhahidaaGreatDoorQE15
namespace Go.Proofs.YtdncjmehhahidaaGreatDoor
set_option maxHeartbeats 400000
open Go.RowKit (Below)
set_option linter.unusedVariables false
set_option maxRecDepth 100000
noncomputable section
def meb1:Memo :=
 ⟨[.ptr 0 0,.str 9 1016889829400769358184],21,[(0,.rows 3 1 (.n .e [bT,.nils,pN] .e))],
 .sl 50 0 1 1,51,[(0,.rows 3 1 (.n .e [bT,.slo 49 0 1 0,pN] .e)),(49,.rows 2 1 (.n .e [.str 3 26625,.slo 46 0 1 0] .e)),(46,.rows 1 1 (.n .e [mI 7] .e)),(50,.rows 1 1 (.n .e [.str 2 27503] .e))]⟩
end
theorem mkb1:chkM (callE cxb0 3000000 16 meb1.args meb1.nx (putK .e meb1.need fun h => h)) meb1=true:=by kernel_rfl
theorem mpb1 {w0:World}{base:Nat}(T10:Tab10 w0 base):PrOk Tryz.prog w0 base 16 (memoE meb1):=zdJ (zdO T10) meb1 ⟨Tryz.f16,Tryz.func16,by kernel_rfl,by kernel_rfl⟩ mkb1
end Go.Proofs.YtdncjmehhahidaaGreatDoor
