/- Calls that return or panic. -/
import Derived.Test.YtlkdmbpbjhjkfaaDoorLgR
namespace Go.Proofs.YtlkdmbpbjhjkfaaDoor
set_option linter.unusedVariables false
open Go Machine
/-- The contract of a call that returns or panics. -/
def PCalls (P : Program) (f : FuncId) (args : List Value) (w0 : World) (base : Nat) (H : List Seg) (R : Value → List Seg → Prop) (Q : List PanicEntry → List Seg → Prop) : Prop :=
  ∀ w, Sep w0 base w H → Calls P f args.toArray w fun e w' => (∃ v H', e = .returned v ∧ R v H' ∧ Sep w0 base w' H') ∨ ∃ ch H', e = .panicked ch ∧ Q ch H' ∧ Sep w0 base w' H'
/-- What such a call has reached at its end. -/
def LeftQ (P : Program) (f : FuncId) (cs : List Frame) (w0 : World) (base : Nat) (R : Value → List Seg → Prop) (Q : List PanicEntry → List Seg → Prop) (m : Machine) : Prop :=
  Left P f cs w0 base R m ∨ ∃ ch H' fr w', m = lone fr cs w' ∧ fr.fn = f ∧ fr.leaving P w' (.panicked ch) ∧ Q ch H' ∧ Sep w0 base w' H'
theorem PCalls.of_walk {P : Program} {f : FuncId} {fn : Func} {c : Code} {n : Nat} {args : List Value} {w0 : World} {base : Nat} {H : List Seg} {R : Value → List Seg → Prop} {Q : List PanicEntry → List Seg → Prop}
    (hf : P.funcs[f]? = some fn) (hb : fn.body = some c) (hn : fn.ntmps = n) (hle : Nat.ble args.length n = true)
    (h : ∀ cs, At ⟨P, ⟨f, .normal, none⟩, n, cs, LeftQ P f cs w0 base R Q, w0, base⟩ [.code c] (argsEnv args 0) [] H) : PCalls P f args w0 base H R Q := by
  intro w S cs
  have hle := Nat.le_of_ble_eq_true hle
  have hA : Agree n (args.toArray ++ Array.replicate (n - args.length) undef) (argsEnv args 0) := by
    refine ⟨by simp; omega, fun t v hv => ?_⟩
    obtain ⟨_, h2⟩ := argsEnv_get hv
    rw [Nat.sub_zero] at h2
    have hlt := (List.getElem?_eq_some_iff.1 h2).1
    rw [Array.getD_eq_getD_getElem?, Array.getElem?_append_left (by simpa using hlt)]
    simp [h2]
  have henter : Frame.enter P f args.toArray .normal = Ctx.fr ⟨f, .normal, none⟩ (args.toArray ++ Array.replicate (n - args.length) undef) [] [.code c] := by
    simp [Frame.enter, Ctx.fr, hf, hb, hn]
  obtain ⟨m', hs, hL⟩ := h cs _ w hA S
  rcases hL with ⟨v, H', fr, w', rfl, h1, h2, h3, h4⟩ | ⟨ch, H', fr, w', rfl, h1, h2, h3, h4⟩
  · exact ⟨.returned v, w', fr, .inl ⟨v, H', rfl, h3, h4⟩, by rw [henter]; exact hs, h1, h2⟩
  · exact ⟨.panicked ch, w', fr, .inr ⟨ch, H', rfl, h3, h4⟩, by rw [henter]; exact hs, h1, h2⟩
theorem At.toQ {P : Program} {c : Ctx} {n : Nat} {f : FuncId} {cs : List Frame} {w0 : World} {base : Nat} {R : Value → List Seg → Prop} {Q : List PanicEntry → List Seg → Prop} {k : List Item} {E : Env} {ds : List Deferred} {H : List Seg}
    (h : At ⟨P, c, n, cs, Left P f cs w0 base R, w0, base⟩ k E ds H) : At ⟨P, c, n, cs, LeftQ P f cs w0 base R Q, w0, base⟩ k E ds H := fun a w ha S => by
  obtain ⟨m', h1, h2⟩ := h a w ha S
  exact ⟨m', h1, .inl h2⟩
theorem Un.panicQ {P : Program} {f : FuncId} {fn : Func} {n : Nat} {cs : List Frame} {w0 : World} {base : Nat} {R : Value → List Seg → Prop} {Q : List PanicEntry → List Seg → Prop} {E : Env} {H : List Seg} {ch : List PanicEntry}
    (hf : P.funcs[f]? = some fn) (hQ : Q ch H) : Un ⟨P, ⟨f, .normal, none⟩, n, cs, LeftQ P f cs w0 base R Q, w0, base⟩ (.panicking ch) E [] H := fun a w k ha S =>
  ⟨_, .refl P _, .inr ⟨ch, H, _, w, rfl, rfl, ⟨rfl, rfl, _, hf⟩, hQ, S⟩⟩
theorem AtL.callQ {X : Pt} {k : List Item} {E : Env} {ds : List Deferred} {H : List Seg} {ops : Array Oper} {os : List Oper} {dst : Option Tmp} {ty : TypeId} {pos : String} {after : Array Edge} {g : Option (Nat × Bool)} {R : Value → List Seg → Prop} {Q : List PanicEntry → List Seg → Prop}
    {f : FuncId} {xs : Array Operand} {ts : Array TypeId} {args : List Value} (hb : Body X.P f) (hg : Wd X ops E g) (hd : dstOk X.n dst = true) (hx : evs E xs.toList = some args) (hc : PCalls X.P f args X.w0 X.base H R Q)
    (hp : ∀ ch H', Q ch H' → Un X (.panicking ch) E ds H') (hk : ∀ v H', R v H' → AtL X ops os k (putE E dst v) ds H') :
    AtL X ops (⟨dst, .call ⟨.value (.func f), xs, ts⟩, ty, pos, after, g⟩ :: os) k E ds H := by
  intro is hi a w ha S
  cases is with
  | nil => simp at hi
  | cons i is =>
    simp only [List.map_cons, List.cons.injEq] at hi
    obtain ⟨ho, hi⟩ := hi
    have hρ : ∀ x v, ev E x = some v → evA a x = v := fun x v hx => ha.ev hx
    have hr : (execOp (evA a) ⟨dst, .call ⟨.value (.func f), xs, ts⟩, ty, pos, after, g⟩).run X.P w = .ok (.enter f args.toArray) w := by
      have hf : evA a (.func f) = .func (.func f) #[] #[] := hρ _ _ rfl
      simp [execOp, resolve, hf, Deferred.ofValue, evs_arr hρ hx, invoke, body_run hb]
    obtain ⟨e, w', fr, hR, hcomes, _, hleave⟩ := hc w S (X.c.fr a ds (.inRegion ops (i :: is) :: k) :: X.cs)
    have h1 := go_op_enter (cs := X.cs) (c := X.c) (k := k) (ds := ds) (is := is) ho (hg.wanted (o := ⟨dst, .call ⟨.value (.func f), xs, ts⟩, ty, pos, after, g⟩) ha) (.inl rfl) hr
    rcases hR with ⟨v, H', rfl, hR, S'⟩ | ⟨ch, H', rfl, hQ, S'⟩
    · have h2 := step_leave_returned (cs := X.cs) (c := X.c.fr a ds (.inRegion ops (i :: is) :: k)) hleave
      rw [fr_finish ho] at h2
      exact .steps (.head h1 (Steps.trans hcomes (.one h2))) (hk v H' hR is hi _ _ (ha.put hd v) S')
    · have h2 := step_leave_panicked (cs := X.cs) (c := X.c.fr a ds (.inRegion ops (i :: is) :: k)) hleave
      have h3 : (X.c.fr a ds (.inRegion ops (i :: is) :: k)).raise ch = { X.c.fr a ds (.inRegion ops (i :: is) :: k) with mode := .panicking ch } := rfl
      rw [h3] at h2
      exact .steps (.head h1 (Steps.trans hcomes (.one h2))) (hp ch H' hQ a w' _ ha S')
end Go.Proofs.YtlkdmbpbjhjkfaaDoor
