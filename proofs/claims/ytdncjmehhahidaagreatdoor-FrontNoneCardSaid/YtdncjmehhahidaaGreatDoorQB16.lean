/- The parts of the proof that this law needs, in the order of their texts: the logic of walks, the plain laws, the walks. -/
import Derived.Test.YtdncjmehhahidaaGreatDoorQB10
namespace Go.Proofs.YtdncjmehhahidaaGreatDoor
open Go.RowKit (Below)
set_option linter.unusedVariables false
set_option linter.unusedSimpArgs false
section rules
variable {X : Pt} {E : Env} {H : List Seg} {ops : Array Oper} {os : List Oper} {k : List Item} {ds : List Deferred} {d : Nat} {ty : TypeId} {pos : String} {after : Array Edge} {g : Option (Nat × Bool)}
end rules
section calls
variable {P : Program} {f : FuncId} {args : List Value} {w0 : World} {base : Nat} {H : List Seg}
theorem SCalls.of_belowX {Q : Value → Prop} (h : ∀ w, Sep w0 base w H → Calls P f args.toArray w fun e w' => ∃ v, e = .returned v ∧ Q v ∧ Below w.heap.size w w') : SCalls P f args w0 base H (fun u H' => Q u ∧ H' = H) :=
  fun w S => (h w S).mono fun e w' ⟨v, he, hq, hw⟩ => ⟨v, H, he, ⟨hq, rfl⟩, S.kept hw⟩
end calls
end Go.Proofs.YtdncjmehhahidaaGreatDoor
