/- The parts of the proof that this law needs, in the order of their texts: the logic of walks, the plain laws, the walks. -/
import Derived.Test.YtdncjmehhahidaaGreatDoorQE22
namespace Go.Proofs.YtdncjmehhahidaaGreatDoor
set_option maxHeartbeats 400000
set_option linter.unusedVariables false
set_option linter.unusedSimpArgs false
set_option maxRecDepth 100000
theorem awakeb_any {w0:World}{base:Nat}{H:List Seg}(T10:Tab10 w0 base):SCalls Tryz.prog 15 [] w0 base H (fun u H' => u = .bool true∧H' = H) :=
 SCalls.of_belowX fun w S => (law_ofE (awakeb_ok (T10.now S))).mono fun e w' ⟨he,hb⟩ => ⟨.bool true,he,rfl,hb⟩
end Go.Proofs.YtdncjmehhahidaaGreatDoor
