/- A logic for walks: an error that may be nil. -/
import Derived.Test.YtlkdmbpbjhjkfaaGreatDoorLgK
import Derived.Test.YtlkdmbpbjhjkfaaGreatDoorLgQ
namespace Go.Proofs.YtlkdmbpbjhjkfaaGreatDoor
open Go.RowKit (Below)
set_option linter.unusedVariables false
set_option linter.unusedSimpArgs false
/-- An error: nil if all is well, else some pointer's. -/
def errV (te : TypeId) (a : Option Addr) (ok : Bool) : Value := if ok then .nilIface else .iface te (.pointer a)
theorem eqIn_err {P : Program} {w : World} {n : Nat} {t te : TypeId} {a : Option Addr} {ok : Bool} {ms : Array (String × TypeId)} (hu : P.underlying t = some (.interface ms)) : (Op.equalIn (n + 1) t (errV te a ok) .nilIface).run P w = .ok ok w := by
  cases ok with
  | true => exact eqIn_nilIface hu
  | false => exact eqIn_iface_nil hu
section rules
variable {X : Pt} {E : Env} {H : List Seg} {ops : Array Oper} {os : List Oper} {k : List Item} {ds : List Deferred} {d : Nat} {ty : TypeId} {pos : String} {after : Array Edge} {g : Option (Nat × Bool)}
theorem Do.eqErr {tx tz : TypeId} {x : Operand} {ms : Array (String × TypeId)} {te : TypeId} {a : Option Addr} {ok : Bool} (hu : X.P.underlying tx = some (.interface ms)) (hx : ev E x = some (errV te a ok)) : Does X E H (.binOp .eql tx x (.const .nilIface) tz) (Is (.bool ok) H) :=
  Do.eqBy (by cases ok <;> rfl) (by cases ok <;> cases x <;> rfl) hx rfl (fun w => eqIn_err hu)
theorem AtL.eqErr {tx tz : TypeId} {x : Operand} {ms : Array (String × TypeId)} {te : TypeId} {a : Option Addr} {ok : Bool} (hu : X.P.underlying tx = some (.interface ms)) (hg : Wd X ops E g) (hd : Nat.blt d X.n = true) (hx : ev E x = some (errV te a ok)) (hk : AtL X ops os k ((d, .bool ok) :: E) ds H) :
    AtL X ops (⟨some d, .binOp .eql tx x (.const .nilIface) tz, ty, pos, after, g⟩ :: os) k E ds H :=
  AtL.ofIs (Do.eqErr hu hx) hg hd hk
theorem Do.neErr {tx tz : TypeId} {x : Operand} {ms : Array (String × TypeId)} {te : TypeId} {a : Option Addr} {ok : Bool} (hu : X.P.underlying tx = some (.interface ms)) (hx : ev E x = some (errV te a ok)) : Does X E H (.binOp .neq tx x (.const .nilIface) tz) (Is (.bool (!ok)) H) :=
  Do.neBy (by cases ok <;> rfl) (by cases ok <;> cases x <;> rfl) hx rfl (fun w => eqIn_err hu)
theorem AtL.neErr {tx tz : TypeId} {x : Operand} {ms : Array (String × TypeId)} {te : TypeId} {a : Option Addr} {ok : Bool} (hu : X.P.underlying tx = some (.interface ms)) (hg : Wd X ops E g) (hd : Nat.blt d X.n = true) (hx : ev E x = some (errV te a ok)) (hk : AtL X ops os k ((d, .bool (!ok)) :: E) ds H) :
    AtL X ops (⟨some d, .binOp .neq tx x (.const .nilIface) tz, ty, pos, after, g⟩ :: os) k E ds H :=
  AtL.ofIs (Do.neErr hu hx) hg hd hk
end rules
section calls
variable {P : Program} {f : FuncId} {args : List Value} {w0 : World} {base : Nat} {H : List Seg}
theorem SCalls.of_belowX {Q : Value → Prop} (h : ∀ w, Sep w0 base w H → Calls P f args.toArray w fun e w' => ∃ v, e = .returned v ∧ Q v ∧ Below w.heap.size w w') : SCalls P f args w0 base H (fun u H' => Q u ∧ H' = H) :=
  fun w S => (h w S).mono fun e w' ⟨v, he, hq, hw⟩ => ⟨v, H, he, ⟨hq, rfl⟩, S.kept hw⟩
end calls
end Go.Proofs.YtlkdmbpbjhjkfaaGreatDoor
