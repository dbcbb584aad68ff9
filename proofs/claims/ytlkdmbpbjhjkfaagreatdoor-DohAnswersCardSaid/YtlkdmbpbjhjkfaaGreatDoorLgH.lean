/- A logic for walks: results in memory, deferred calls, panics and their recovery, ranges over functions. -/
import Derived.Test.YtlkdmbpbjhjkfaaGreatDoorLgG
namespace Go.Proofs.YtlkdmbpbjhjkfaaGreatDoor
open Go.RowKit (Below)
set_option linter.unusedVariables false
set_option linter.unusedSimpArgs false

/-- A variable reads as this. -/
def LoadsTo (P : Program) (w0 : World) (base : Nat) (H : List Seg) (t : TypeId) (p : Addr) (v : Value) : Prop := ∀ w, Sep w0 base w H → (loadVar t p).run P w = .ok v w
theorem LoadsTo.flat {P : Program} {w0 : World} {base : Nat} {H : List Seg} {t : TypeId} {p : Addr} {v : Value} (hf : flatB P t = true) (hc : Cell w0 base H p v) : LoadsTo P w0 base H t p v := fun w S => by
  simp [loadVar, isAgg_flat hf, hc w S]
theorem LoadsTo.agg {P : Program} {w0 : World} {base : Nat} {H : List Seg} {t n : Nat} {p : Addr} {cs : List Value} (hf : aggN P t = some n) (hn : cs.length = n) (hc : ∀ j v, cs[j]? = some v → Cell w0 base H (p.add j) v) : LoadsTo P w0 base H t p (.agg cs.toArray) := fun w S => by
  subst hn
  simp [loadVar, (isAgg_agg hf w).1, (isAgg_agg hf w).2, run_loadCells_list w p cs (fun j v hv => hc j v hv w S)]
/-- The results, in slots or in memory. -/
def ResP (P : Program) (w0 : World) (base : Nat) (H : List Seg) (E : Env) : List ResultVar → List Value → Prop
  | [], [] => True
  | .tmp t :: rs, v :: vs => Env.get E t = some v ∧ ResP P w0 base H E rs vs
  | .cell x t :: rs, v :: vs => (∃ p, Env.get E x = some (.pointer (some p)) ∧ LoadsTo P w0 base H t p v) ∧ ResP P w0 base H E rs vs
  | _, _ => False
theorem resP_run {P : Program} {n : Nat} {a : Array Value} {E : Env} (ha : Agree n a E) {w0 : World} {base : Nat} {H : List Seg} {w : World} (S : Sep w0 base w H) {rs : List ResultVar} {vs : List Value} (h : ResP P w0 base H E rs vs) :
    (rs.mapM (m := Sem) fun (r : ResultVar) => match r with
      | .tmp t => (Pure.pure (a.getD t undef) : Sem Value)
      | .cell x t => do loadVar t (← asAddr (a.getD x undef))).run P w = .ok vs w := by
  induction rs generalizing vs with
  | nil => cases vs with
    | nil => rfl
    | cons v vs => exact h.elim
  | cons r rs ih =>
    cases vs with
    | nil => cases r <;> exact h.elim
    | cons v vs =>
      cases r with
      | tmp t =>
        obtain ⟨h1, h2⟩ := h
        rw [List.mapM_cons]
        simp only [Sem.run_bind, Sem.run_pure, Result.andThen_ok, ih h2, ha.get t v h1]
      | cell x t =>
        obtain ⟨⟨p, h1, h3⟩, h2⟩ := h
        have hp : (asAddr (a.getD x undef)).run P w = .ok p w := by rw [ha.get x _ h1]; rfl
        rw [List.mapM_cons]
        simp only [Sem.run_bind, Sem.run_pure, Result.andThen_ok, ih h2, hp, h3 w S]
theorem results_run {P : Program} {n : Nat} {a : Array Value} {E : Env} (ha : Agree n a E) {w0 : World} {base : Nat} {H : List Seg} {w : World} (S : Sep w0 base w H) {fn : Func} {vs : List Value} (h : ResP P w0 base H E fn.results.toList vs) :
    (results fn a).run P w = .ok (oneOf vs) w := by
  have := resP_run (P := P) ha S h
  unfold results
  rw [Array.mapM_eq_mapM_toList]
  simp only [Sem.run_bind, map_eq_pure_bind, Sem.run_pure] at this ⊢
  refine Eq.trans ?_ (congrArg (fun r => Result.ok r w) (show (if h : vs.toArray.size = 1 then vs.toArray[0] else .tuple vs.toArray) = oneOf vs from ?_))
  · exact (congrArg (fun r => Result.andThen r _) (congrArg (fun r => Result.andThen r _) this)).trans (by simp [Result.andThen_ok])
  · match vs with
    | [] => rfl
    | [v] => rfl
    | v :: u :: vs => rfl

/-- From a frame that returns or panics the goal is reached. -/
def Un (X : Pt) (m : FrameMode) (E : Env) (ds : List Deferred) (H : List Seg) : Prop :=
  ∀ a w k, Agree X.n a E → Sep X.w0 X.base w H → Ev X.P (lone { X.c.fr a ds k with mode := m } X.cs w) X.G
section
variable {X : Pt} {k : List Item} {E : Env} {ds : List Deferred} {H : List Seg} {ops : Array Oper} {os : List Oper}
theorem Un.mono {m : FrameMode} {E' : Env} (hs : Sub E' E) (h : Un X m E' ds H) : Un X m E ds H := fun a w k ha S => h a w k (ha.sub hs) S
theorem Un.pick {m : FrameMode} {H' : List Seg} (is : List Nat) (q : Nat) (hok : pickOk is q = true) (hH : pickSegs H is q = H') (h : Un X m E ds H') : Un X m E ds H := fun a w k ha S => h a w k ha (hH ▸ S.pick is q hok)
theorem At.retU (hr : X.c.round = none) (h : Un X .returning E ds H) : At X (.code .ret :: k) E ds H := fun a w ha S => .step (go_ret hr) (h a w _ ha S)
theorem At.endU (hr : X.c.round = none) (h : Un X .returning E ds H) : At X [] E ds H := fun a w ha S => .step (go_end hr) (h a w _ ha S)
end
/-- The end of a call. -/
theorem Un.left {P : Program} {f : FuncId} {fn : Func} {n : Nat} {cs : List Frame} {w0 : World} {base : Nat} {H : List Seg} {R : Value → List Seg → Prop} {E : Env} {rs : List ResultVar} {vs : List Value}
    (hf : P.funcs[f]? = some fn) (hrs : fn.results.toList = rs) (hv : ResP P w0 base H E rs vs) (hR : R (oneOf vs) H) : Un ⟨P, ⟨f, .normal, none⟩, n, cs, Left P f cs w0 base R, w0, base⟩ .returning E [] H := by
  intro a w k ha S
  subst hrs
  exact ⟨_, .refl P _, oneOf vs, H, _, w, rfl, rfl, ⟨rfl, rfl, rfl, fn, hf, results_run ha S hv⟩, hR, S⟩
theorem At.retM {P : Program} {f : FuncId} {fn : Func} {n : Nat} {cs : List Frame} {w0 : World} {base : Nat} {H : List Seg} {R : Value → List Seg → Prop} {E : Env} {k : List Item} {rs : List ResultVar} {vs : List Value}
    (hf : P.funcs[f]? = some fn) (hrs : fn.results.toList = rs) (hv : ResP P w0 base H E rs vs) (hR : R (oneOf vs) H) :
    At ⟨P, ⟨f, .normal, none⟩, n, cs, Left P f cs w0 base R, w0, base⟩ (.code .ret :: k) E [] H := At.retU rfl (Un.left hf hrs hv hR)
theorem At.endM {P : Program} {f : FuncId} {fn : Func} {n : Nat} {cs : List Frame} {w0 : World} {base : Nat} {H : List Seg} {R : Value → List Seg → Prop} {E : Env} {rs : List ResultVar} {vs : List Value}
    (hf : P.funcs[f]? = some fn) (hrs : fn.results.toList = rs) (hv : ResP P w0 base H E rs vs) (hR : R (oneOf vs) H) :
    At ⟨P, ⟨f, .normal, none⟩, n, cs, Left P f cs w0 base R, w0, base⟩ [] E [] H := At.endU rfl (Un.left hf hrs hv hR)

section panics
variable {X : Pt} {k : List Item} {E : Env} {ds : List Deferred} {H : List Seg} {ops : Array Oper} {os : List Oper}
  {dst : Option Tmp} {ty : TypeId} {pos : String} {after : Array Edge} {g : Option (Nat × Bool)}
/-- An operation that panics. -/
theorem AtL.panics {op : Op} (hg : Wd X ops E g) (hnd : Op.isDefer op = false)
    (h : ∀ ρ w, (∀ x v, ev E x = some v → ρ x = v) → Sep X.w0 X.base w H → ∃ pv w' H', (execOp ρ ⟨dst, op, ty, pos, after, g⟩).run X.P w = .halt (.panic pv) w' ∧ Sep X.w0 X.base w' H' ∧ Un X (.panicking [{ v := pv, recovered := false }]) E ds H') :
    AtL X ops (⟨dst, op, ty, pos, after, g⟩ :: os) k E ds H := by
  intro is hi a w ha S
  cases is with
  | nil => simp at hi
  | cons i is =>
    simp only [List.map_cons, List.cons.injEq] at hi
    obtain ⟨ho, hi⟩ := hi
    obtain ⟨pv, w', H', hr, S', hk⟩ := h (evA a) w (fun x v hx => ha.ev hx) S
    refine .step (step_lone_go ?_) (hk a w' (.inRegion ops (i :: is) :: k) ha S')
    rw [go_stepG ho (hg.wanted (o := ⟨dst, op, ty, pos, after, g⟩) ha) (.inl hnd)]
    simp [stepG.apply, hr, Frame.raise, Ctx.fr]
theorem bounds_panic {P : Program} {w0 : World} {base : Nat} {w : World} (S : Sep w0 base w H) (kk : IntKind) (x y : Int) (c : BoundsCode) :
    ∃ s w', (boundsPanic (α := Value) kk x y c).run P w = .halt (.panic (.iface P.rt.boundsError (.agg #[.int .i64 (IntKind.i64.wrap x), .int .i64 y, .bool s, .int .u8 (c.toNat : Int)]))) w' ∧ Sep w0 base w' H := by
  unfold boundsPanic
  by_cases hc : (kk != .u64 && decide (0 ≤ x) && decide (x ≤ 31)) = true
  · refine ⟨(Question.extern "runtime.boundsError.signed" 2).cut (w.tape w.drawn (.extern "runtime.boundsError.signed" 2)) == 1, w.drew, ?_, S.drawn _⟩
    rw [if_pos hc]
    have hch : (choose (.extern "runtime.boundsError.signed" 2)).run P w = .ok ((Question.extern "runtime.boundsError.signed" 2).cut (w.tape w.drawn (.extern "runtime.boundsError.signed" 2))) w.drew := rfl
    simp only [Sem.run_bind, Sem.run_map, hch, Result.andThen_ok, runtimePanic, run_program, run_goPanic]
  · refine ⟨kk != .u64, w, ?_, S⟩
    rw [if_neg hc]
    simp only [Sem.run_bind, Sem.run_pure, Result.andThen_ok, runtimePanic, run_program, run_goPanic]
/-- An index out of range. -/
theorem AtL.indexPanics {t e : TypeId} {x ix : Operand} {A : Option Addr} {n C : Nat} {kk : IntKind} {i : Int} (hu : X.P.underlying t = some (.slice e)) (hg : Wd X ops E g) (hx : ev E x = some (.slice A n C)) (hi : ev E ix = some (.int kk i)) (hout : i < 0 ∨ (n : Int) ≤ i)
    (hk : ∀ (m : Int) (s : Bool), Un X (.panicking [{ v := .iface X.P.rt.boundsError (.agg #[.int .i64 (IntKind.i64.wrap i), .int .i64 m, .bool s, .int .u8 0]), recovered := false }]) E ds H) :
    AtL X ops (⟨dst, .indexAddr t x ix, ty, pos, after, g⟩ :: os) k E ds H :=
  AtL.panics hg rfl fun ρ w hρ S => by
    cases A with
    | none =>
      obtain ⟨s, w', hr, S'⟩ := bounds_panic (P := X.P) S kk i 0 .index
      refine ⟨_, w', H, ?_, S', hk 0 s⟩
      simp [execOp, hρ _ _ hx, hρ _ _ hi, Instr.indexAt, asIntOf, run_underlying hu, hr]
      rfl
    | some a =>
      obtain ⟨s, w', hr, S'⟩ := bounds_panic (P := X.P) S kk i n .index
      refine ⟨_, w', H, ?_, S', hk n s⟩
      have hno : ¬ (0 ≤ i ∧ i < (n : Int)) := by omega
      simp only [execOp, hρ _ _ hx, hρ _ _ hi, Instr.indexAt, asIntOf, Sem.run_bind, Sem.run_pure, Result.andThen_ok, run_underlying hu]
      rw [if_neg hno]
      simp only [Bool.and_false, Bool.false_eq_true, if_false, hr, Result.andThen_halt]
      rfl
/-- panic(v). -/
theorem AtL.panicV {x : Operand} {t : TypeId} {v : Value} (hg : Wd X ops E g) (hx : ev E x = some (.iface t v)) (hk : Un X (.panicking [{ v := .iface t v, recovered := false }]) E ds H) : AtL X ops (⟨dst, .panic x, ty, pos, after, g⟩ :: os) k E ds H :=
  AtL.panics hg rfl fun ρ w hρ S => ⟨_, w, H, by simp [execOp, hρ _ _ hx, Instr.panic], S, hk⟩
/-- A call that is put off. -/
theorem AtL.defer {f : FuncId} {x : Operand} {u c : Array Value} {xs : Array Operand} {ts : Array TypeId} {args : List Value} (hr : X.c.round = none) (hg : Wd X ops E g) (hd : dstOk X.n dst = true) (hv : ev E x = some (.func (.func f) u c)) (hx : evs E xs.toList = some args)
    (hk : AtL X ops os k (putE E dst undef) ({ target := .fn (.func f) c, args := u ++ args.toArray } :: ds) H) : AtL X ops (⟨dst, .defer ⟨.value x, xs, ts⟩, ty, pos, after, g⟩ :: os) k E ds H := by
  intro is hi a w ha S
  cases is with
  | nil => simp at hi
  | cons i is =>
    simp only [List.map_cons, List.cons.injEq] at hi
    obtain ⟨ho, hi⟩ := hi
    refine .step (go_op_defer ho (hg.wanted (o := ⟨dst, .defer ⟨.value x, xs, ts⟩, ty, pos, after, g⟩) ha) (.inr hr) ?_) (hk is hi _ _ (ha.put hd undef) S)
    simp [execOp, resolve, Deferred.ofValue, ha.ev hv, evs_arr (fun x v h => ha.ev h) hx]
/-- A type assertion whose run is known. -/
theorem Do.typeAssert {xT aT : TypeId} {ok : Bool} {x : Operand} {v u : Value} (hx : ev E x = some v) (hr : ∀ w, (Instr.typeAssert v xT aT ok).run X.P w = .ok u w) : Does X E H (.typeAssert x xT aT ok) (Is u H) :=
  Does.pureOp rfl fun dst ty pos after g ρ w hρ => by simp [execOp, hρ _ _ hx, hr w]
theorem AtL.typeAssert {d : Nat} {xT aT : TypeId} {ok : Bool} {x : Operand} {v u : Value} (hg : Wd X ops E g) (hd : Nat.blt d X.n = true) (hx : ev E x = some v) (hr : ∀ w, (Instr.typeAssert v xT aT ok).run X.P w = .ok u w) (hk : AtL X ops os k ((d, u) :: E) ds H) :
    AtL X ops (⟨some d, .typeAssert x xT aT ok, ty, pos, after, g⟩ :: os) k E ds H := AtL.ofIs (Do.typeAssert hx hr) hg hd hk
end panics

/-- What becomes of a caller's state when a call that it had put off returns. -/
def afterDef : FrameMode → FrameMode
  | .panicking ({ recovered := true, .. } :: older) => match older.dropWhile (!·.goexit) with
    | [] => .returning
    | rest => .panicking rest
  | m => m
/-- The contract of a call that was put off, its caller in state m. -/
def DCalls (P : Program) (f : FuncId) (args : List Value) (w0 : World) (base : Nat) (H : List Seg) (m : FrameMode) (R : FrameMode → List Seg → Prop) : Prop :=
  ∀ (fr : Frame) (cs : List Frame) (w : World), fr.mode = m → Sep w0 base w H → ∃ m' H' w', R m' H' ∧ Sep w0 base w' H' ∧ Steps P (lone (Frame.enter P f args.toArray .deferred) (fr :: cs) w) (lone { fr with mode := m' } cs w')
def LeftD (fr : Frame) (cs : List Frame) (w0 : World) (base : Nat) (R : FrameMode → List Seg → Prop) (mch : Machine) : Prop :=
  ∃ m' H' w', mch = lone { fr with mode := m' } cs w' ∧ R m' H' ∧ Sep w0 base w' H'
theorem DCalls.of_walk {P : Program} {f : FuncId} {fn : Func} {c : Code} {n : Nat} {args : List Value} {w0 : World} {base : Nat} {H : List Seg} {m : FrameMode} {R : FrameMode → List Seg → Prop}
    (hf : P.funcs[f]? = some fn) (hb : fn.body = some c) (hn : fn.ntmps = n) (hle : Nat.ble args.length n = true)
    (h : ∀ fr cs, At ⟨P, ⟨f, .deferred, none⟩, n, { fr with mode := m } :: cs, LeftD fr cs w0 base R, w0, base⟩ [.code c] (argsEnv args 0) [] H) : DCalls P f args w0 base H m R := by
  intro fr cs w hm S
  subst hm
  have hle := Nat.le_of_ble_eq_true hle
  have hA : Agree n (args.toArray ++ Array.replicate (n - args.length) undef) (argsEnv args 0) := by
    refine ⟨by simp; omega, fun t v hv => ?_⟩
    obtain ⟨_, h2⟩ := argsEnv_get hv
    rw [Nat.sub_zero] at h2
    have hlt := (List.getElem?_eq_some_iff.1 h2).1
    rw [Array.getD_eq_getD_getElem?, Array.getElem?_append_left (by simpa using hlt)]
    simp [h2]
  obtain ⟨m', hs, m1, H', w', rfl, h3, h4⟩ := h fr cs _ w hA S
  refine ⟨m1, H', w', h3, h4, ?_⟩
  have henter : Frame.enter P f args.toArray .deferred = Ctx.fr ⟨f, .deferred, none⟩ (args.toArray ++ Array.replicate (n - args.length) undef) [] [.code c] := by
    simp [Frame.enter, Ctx.fr, hf, hb, hn]
  rw [henter]
  exact hs
/-- The end of a call that was put off. -/
theorem Un.leftD {P : Program} {f : FuncId} {fn : Func} {n : Nat} {fr : Frame} {cs : List Frame} {w0 : World} {base : Nat} {H : List Seg} {m : FrameMode} {R : FrameMode → List Seg → Prop} {E : Env} {vs : List Value} {rs : List ResultVar}
    (hf : P.funcs[f]? = some fn) (hrs : fn.results.toList = rs) (hv : ResP P w0 base H E rs vs) (hR : R (afterDef m) H) : Un ⟨P, ⟨f, .deferred, none⟩, n, { fr with mode := m } :: cs, LeftD fr cs w0 base R, w0, base⟩ .returning E [] H := by
  intro a w k ha S
  subst hrs
  have hres := results_run (P := P) ha S hv
  refine .step (m' := lone { fr with mode := afterDef m } cs w) (step_lone_go ?_) ⟨_, .refl P _, _, H, w, rfl, hR, S⟩
  simp only [Ctx.fr, stepG, unwind, hf, doReturn]
  simp only [Sem.runT_eq, hres, GStep.bare_after]
  cases m with
  | run => rfl
  | returning => rfl
  | panicking ch =>
    cases ch with
    | nil => rfl
    | cons x older =>
      obtain ⟨v, r, gx⟩ := x
      cases r with
      | false => rfl
      | true =>
        simp only [afterDef]
        split <;> simp_all
theorem Un.defer {X : Pt} {m : FrameMode} {E : Env} {ds : List Deferred} {H : List Seg} {f : FuncId} {args c : Array Value} {args' : List Value} {R : FrameMode → List Seg → Prop} (hb : Body X.P f) (hm : (match m with | .run => false | _ => true) = true) (ha' : args.toList ++ c.toList = args') (hc : DCalls X.P f args' X.w0 X.base H m R)
    (hk : ∀ m' H', R m' H' → Un X m' E ds H') : Un X m E ({ target := .fn (.func f) c, args } :: ds) H := by
  intro a w k ha S
  subst ha'
  obtain ⟨m', H', w', hR, S', hs⟩ := hc { X.c.fr a ds k with mode := m } X.cs w rfl S
  have e : args ++ c = (args.toList ++ c.toList).toArray := by
    apply Array.ext'
    simp
  refine .step (m' := lone (Frame.enter X.P f (args.toList ++ c.toList).toArray .deferred) ({ X.c.fr a ds k with mode := m } :: X.cs) w) (step_lone_go ?_) (.steps hs (hk m' H' hR a w' k ha S'))
  have hinv : (invoke (.fn (.func f) c) args).run X.P w = .ok (.enter f (args ++ c)) w := by simp [invoke, body_run hb]
  rw [← e]
  cases m with
  | run => cases hm
  | returning =>
    simp only [stepG, unwind, Ctx.fr, callDeferred, Bool.and_false, Bool.false_eq_true, if_false, Sem.runT_eq, hinv, GStep.bare_after]
    rfl
  | panicking ch =>
    simp only [stepG, unwind, Ctx.fr, callDeferred, Bool.false_and, Bool.false_eq_true, if_false, Sem.runT_eq, hinv, GStep.bare_after]
    rfl

section recover
variable {P : Program} {f : FuncId} {n : Nat} {fr : Frame} {cs : List Frame} {G : Machine → Prop} {w0 : World} {base : Nat} {k : List Item} {E : Env} {ds : List Deferred} {H : List Seg} {ops : Array Oper} {os : List Oper}
  {dst : Option Tmp} {ty : TypeId} {pos : String} {after : Array Edge} {ts : Array TypeId}
theorem AtL.recoverNone (hd : dstOk n dst = true) (hk : AtL ⟨P, ⟨f, .deferred, none⟩, n, { fr with mode := .returning } :: cs, G, w0, base⟩ ops os k (putE E dst .nilIface) ds H) :
    AtL ⟨P, ⟨f, .deferred, none⟩, n, { fr with mode := .returning } :: cs, G, w0, base⟩ ops (⟨dst, .call ⟨.builtin .recover, #[], ts⟩, ty, pos, after, none⟩ :: os) k E ds H := by
  intro is hi a w ha S
  cases is with
  | nil => simp at hi
  | cons i is =>
    simp only [List.map_cons, List.cons.injEq] at hi
    obtain ⟨ho, hi⟩ := hi
    have hr : (execOp (evA a) ⟨dst, .call ⟨.builtin .recover, #[], ts⟩, ty, pos, after, none⟩).run P w = .ok .recover w := by simp [execOp, resolve, invoke, builtin]
    refine .step (step_lone_go ?_) (hk is hi _ _ (ha.put hd .nilIface) S)
    rw [go_stepG ho (by simp [Region.wanted]) (.inl rfl), ← fr_finish ho]
    simp [stepG.apply, hr, Ctx.fr, tryRecover]
theorem AtL.recoverSome {v : Value} {older : List PanicEntry} (hd : dstOk n dst = true) (hk : AtL ⟨P, ⟨f, .deferred, none⟩, n, { fr with mode := .panicking ({ v, recovered := true } :: older) } :: cs, G, w0, base⟩ ops os k (putE E dst v) ds H) :
    AtL ⟨P, ⟨f, .deferred, none⟩, n, { fr with mode := .panicking ({ v, recovered := false } :: older) } :: cs, G, w0, base⟩ ops (⟨dst, .call ⟨.builtin .recover, #[], ts⟩, ty, pos, after, none⟩ :: os) k E ds H := by
  intro is hi a w ha S
  cases is with
  | nil => simp at hi
  | cons i is =>
    simp only [List.map_cons, List.cons.injEq] at hi
    obtain ⟨ho, hi⟩ := hi
    have hr : (execOp (evA a) ⟨dst, .call ⟨.builtin .recover, #[], ts⟩, ty, pos, after, none⟩).run P w = .ok .recover w := by simp [execOp, resolve, invoke, builtin]
    refine .step (step_lone_go ?_) (hk is hi _ _ (ha.put hd v) S)
    rw [go_stepG ho (by simp [Region.wanted]) (.inl rfl), ← fr_finish ho]
    simp [stepG.apply, hr, Ctx.fr, tryRecover]
end recover
end Go.Proofs.YtlkdmbpbjhjkfaaGreatDoor
