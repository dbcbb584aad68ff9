/- Parts of the proof. -/
import Derived.Test.YtjmnjkoekabioaaGreatDoorQC09
namespace Go.Proofs.YtjmnjkoekabioaaGreatDoor
set_option maxHeartbeats 400000
open Go.RowKit (Below)
set_option linter.unusedVariables false
set_option maxRecDepth 100000
noncomputable section
def me0:Memo :=
 ⟨[.agg [.sl 2 0 1 1,mI 4,mI 4,mI 2,mI 4,mI 4,mI 100,mI 4096,mI 4,mI 1,mI 2,mI 4,mI 4,mI 4,mI 4,mI 4,mI 4,mI 4,mI 4,mI 1]],3,[(2,.rows 2 1 (.n .e [.str 3 26625,.sl 1 0 1 1] .e)),(1,.rows 1 1 (.n .e [mI 7] .e))],
 .tup [.ptr 7 0,mI 0],50,[(7,.rows 50 1 (.n .e [.sl 2 0 1 1,mI 4,mI 4,mI 2,mI 4,mI 4,mI 100,mI 4096,mI 4,mI 1,mI 2,mI 4,mI 4,mI 4,mI 4,mI 4,mI 4,mI 4,mI 4,mI 1,mI 0,bF,.ptr 39 0,.ptr 41 0,.ptr 43 0,.ptr 46 0,.ptr 48 0,.map 4,.map 5,.map 6,mI 0,.nils,.nils,mI 0,mI 0,mI 0,mI 0,mI 0,mI 0,.nilf,.fn 54 [.ptr 7 0] [],.fn 55 [.ptr 7 0] [],.fn 56 [.ptr 7 0] [],.fn 57 [.ptr 7 0] [],.fn 58 [.ptr 7 0] [],.fn 59 [.ptr 7 0] [],.fn 60 [.ptr 7 0] [],.fn 61 [.ptr 7 0] [],.fn 62 [.ptr 7 0] [],.fn 63 [.ptr 7 0] []] .e)),(39,.rows 17 1 (.n .e [.slo 34 0 1 0,mI 4,mI 4,mI 2,mI 4,mI 0,mI 0,.nils,.nils,.map 38,.nils,.nils,mI 0,mI 1024,.ptr 37 0,.nils,.nils] .e)),(34,.rows 2 1 (.n .e [.str 3 26625,.slo 32 0 1 0] .e)),(32,.rows 1 1 (.n .e [mI 7] .e)),(38,.map 0 [] []),(37,.rows 4 1 (.n .e [mI 4,mI 0,.ptr 35 0,.map 36] .e)),(35,.rows 5 1 (.n .e [.nili,.ptr 35 0,.ptr 35 0,pN,mI 0] .e)),(36,.map 0 [] []),(41,.rows 5 1 (.n .e [mI 4,mI 100,mI 4096,mI 0,.map 40] .e)),(40,.map 0 [] []),(43,.rows 2 1 (.n .e [mI 4,.map 42] .e)),(42,.map 0 [] []),(46,.rows 8 1 (.n .e [mI 4,mI 4,mI 4,mI 4,.ptr 44 0,.map 45,bF,mI 0] .e)),(44,.rows 5 1 (.n .e [.nili,.ptr 44 0,.ptr 44 0,pN,mI 0] .e)),(45,.map 0 [] []),(48,.rows 7 1 (.n .e [mI 4,mI 4,mI 4,mI 4,mI 0,.map 47,.nils] .e)),(47,.map 0 [] []),(4,.map 0 [] []),(5,.map 0 [] []),(6,.map 0 [] [])]⟩
end
theorem mk0:chkM (zmV cx0 3000000 19 me0.args me0.nx (putK .e me0.need fun h => h)) me0=true:=by kernel_rfl
theorem mp0 {w0:World}{base:Nat}:PrOk Tryz.prog w0 base 19 (znJ me0):=znI ztV me0 ⟨Tryz.f19,Tryz.func19,by kernel_rfl,by kernel_rfl⟩ mk0
end Go.Proofs.YtjmnjkoekabioaaGreatDoor
