/- The parts of the proof that this law needs, in the order of their texts: the logic of walks, the plain laws, the walks. -/
import Derived.Test.YtdncjmehhahidaaGreatDoorQE15
namespace Go.Proofs.YtdncjmehhahidaaGreatDoor
set_option maxHeartbeats 400000
open Go.RowKit (Below)
set_option linter.unusedVariables false
set_option maxRecDepth 100000
noncomputable section
def meb2:Memo :=
 ⟨[.ptr 0 0,.str 47 29535749722721940361747567926156303690934297896575746408534195610714272316994953113417017875361888119589270680166],52,[(0,.rows 3 1 (.n .e [bT,.slo 49 0 1 0,pN] .e)),(49,.rows 2 1 (.n .e [.str 3 26625,.slo 46 0 1 0] .e)),(46,.rows 1 1 (.n .e [mI 7] .e))],
 .sl 173 0 1 1,174,[(0,.rows 3 1 (.n .e [bT,.slo 49 0 1 0,.ptr 130 0] .e)),(130,.rows 50 1 (.n .e [.slo 49 0 1 0,mI 4,mI 4,mI 2,mI 5,mI 4,mI 100,mI 600,mI 4,mI 1,mI 2,mI 4,mI 4,mI 4,mI 4,mI 4,mI 4,mI 4,mI 4,mI 1,mI 0,bF,.ptr 162 0,.ptr 164 0,.ptr 166 0,.ptr 169 0,.ptr 171 0,.map 127,.map 128,.map 129,mI 0,.nils,.nils,mI 0,mI 0,mI 0,mI 0,mI 0,mI 0,.nilf,.fn 70 [.ptr 130 0] [],.fn 71 [.ptr 130 0] [],.fn 72 [.ptr 130 0] [],.fn 73 [.ptr 130 0] [],.fn 74 [.ptr 130 0] [],.fn 75 [.ptr 130 0] [],.fn 76 [.ptr 130 0] [],.fn 77 [.ptr 130 0] [],.fn 78 [.ptr 130 0] [],.fn 79 [.ptr 130 0] []] .e)),(162,.rows 17 1 (.n .e [.slo 157 0 1 0,mI 4,mI 4,mI 2,mI 5,mI 0,mI 0,.nils,.nils,.map 161,.nils,.nils,mI 0,mI 1024,.ptr 160 0,.nils,.nils] .e)),(157,.rows 2 1 (.n .e [.str 3 26625,.slo 155 0 1 0] .e)),(155,.rows 1 1 (.n .e [mI 7] .e)),(161,.map 0 [] []),(160,.rows 4 1 (.n .e [mI 4,mI 0,.ptr 158 0,.map 159] .e)),(158,.rows 5 1 (.n .e [.nili,.ptr 158 0,.ptr 158 0,pN,mI 0] .e)),(159,.map 0 [] []),(164,.rows 5 1 (.n .e [mI 4,mI 100,mI 600,mI 0,.map 163] .e)),(163,.map 0 [] []),(166,.rows 2 1 (.n .e [mI 4,.map 165] .e)),(165,.map 0 [] []),(169,.rows 8 1 (.n .e [mI 4,mI 4,mI 4,mI 4,.ptr 167 0,.map 168,bF,mI 0] .e)),(167,.rows 5 1 (.n .e [.nili,.ptr 167 0,.ptr 167 0,pN,mI 0] .e)),(168,.map 0 [] []),(171,.rows 7 1 (.n .e [mI 4,mI 4,mI 4,mI 4,mI 0,.map 170,.nils] .e)),(170,.map 0 [] []),(127,.map 0 [] []),(128,.map 0 [] []),(129,.map 0 [] []),(173,.rows 1 1 (.n .e [.str 2 27503] .e))]⟩
end
theorem mkb2:chkM (callE cxb0 3000000 16 meb2.args meb2.nx (putK .e meb2.need fun h => h)) meb2=true:=by kernel_rfl
theorem mpb2 {w0:World}{base:Nat}(T10:Tab10 w0 base):PrOk Tryz.prog w0 base 16 (memoE meb2):=zdJ (zdO T10) meb2 ⟨Tryz.f16,Tryz.func16,by kernel_rfl,by kernel_rfl⟩ mkb2
end Go.Proofs.YtdncjmehhahidaaGreatDoor
