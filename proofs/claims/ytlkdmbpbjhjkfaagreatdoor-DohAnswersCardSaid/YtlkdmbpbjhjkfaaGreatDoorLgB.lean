/- A logic for walks: the judgement, the rules of control, of calls and of returns. -/
import Derived.Test.YtlkdmbpbjhjkfaaGreatDoorLgA
namespace Go.Proofs.YtlkdmbpbjhjkfaaGreatDoor
open Go.RowKit (Below)
set_option linter.unusedVariables false
set_option linter.unusedSimpArgs false

structure Ctx where
  fn : FuncId
  kind : CallKind
  round : Option Nat
def Ctx.fr (c : Ctx) (a : Array Value) (ds : List Deferred) (k : List Item) : Frame :=
  { fn := c.fn, tmps := a, todo := k, defers := ds, mode := .run, kind := c.kind, roundOf := c.round }
def Ev (P : Program) (m : Machine) (G : Machine → Prop) : Prop := ∃ m', Steps P m m' ∧ G m'
theorem Ev.step {P : Program} {m m' : Machine} {G : Machine → Prop} (h : step P m = .next m') (h' : Ev P m' G) : Ev P m G :=
  let ⟨m2, s, g⟩ := h'; ⟨m2, .head h s, g⟩
theorem Ev.steps {P : Program} {m m' : Machine} {G : Machine → Prop} (h : Steps P m m') (h' : Ev P m' G) : Ev P m G :=
  let ⟨m2, s, g⟩ := h'; ⟨m2, h.trans s, g⟩

/-- What stays the same in a walk: the program, the frame's call, how many slots it has, who called it, what is to be reached, the world in which the call began. -/
structure Pt where
  P : Program
  c : Ctx
  n : Nat
  cs : List Frame
  G : Machine → Prop
  w0 : World
  base : Nat
/-- From this todo, with these slots and this memory, the goal is reached. -/
def At (X : Pt) (k : List Item) (E : Env) (ds : List Deferred) (H : List Seg) : Prop :=
  ∀ a w, Agree X.n a E → Sep X.w0 X.base w H → Ev X.P (lone (X.c.fr a ds k) X.cs w) X.G
/-- Likewise, within a region: the operations that are left, in their order. -/
def AtL (X : Pt) (ops : Array Oper) (os : List Oper) (k : List Item) (E : Env) (ds : List Deferred) (H : List Seg) : Prop :=
  ∀ is : List Nat, is.map (fun i => ops[i]?) = os.map some → At X (.inRegion ops is :: k) E ds H

section steps
variable {P : Program} {c : Ctx} {a : Array Value} {ds : List Deferred} {k : List Item} {cs : List Frame} {w : World}
theorem fr_eval (x : Operand) : (c.fr a ds k).eval x = evA a x := by cases x <;> rfl
theorem fr_eval' : (c.fr a ds k).eval = evA a := funext fr_eval
theorem go_skip : step P (lone (c.fr a ds (.code .skip :: k)) cs w) = .next (lone (c.fr a ds k) cs w) :=
  step_lone_go (by simp [stepG, stepG.exec, Ctx.fr])
theorem go_label {l : Nat} : step P (lone (c.fr a ds (.code (.label l) :: k)) cs w) = .next (lone (c.fr a ds k) cs w) :=
  step_lone_go (by simp [stepG, stepG.exec, Ctx.fr])
theorem go_inBlock {id : Nat} : step P (lone (c.fr a ds (.inBlock id :: k)) cs w) = .next (lone (c.fr a ds k) cs w) :=
  step_lone_go (by simp [stepG, stepG.exec, Ctx.fr])
theorem go_inScope {b : Code} : step P (lone (c.fr a ds (.inScope b :: k)) cs w) = .next (lone (c.fr a ds k) cs w) :=
  step_lone_go (by simp [stepG, stepG.exec, Ctx.fr])
theorem go_seq {x y : Code} : step P (lone (c.fr a ds (.code (.seq x y) :: k)) cs w) = .next (lone (c.fr a ds (.code x :: .code y :: k)) cs w) :=
  step_lone_go (by simp [stepG, stepG.exec, Ctx.fr])
theorem go_cond {o : Operand} {x y : Code} {t : Bool} (h : evA a o = .bool t) :
    step P (lone (c.fr a ds (.code (.cond o x y) :: k)) cs w) = .next (lone (c.fr a ds (.code (if t then x else y) :: k)) cs w) :=
  step_lone_go (by
    have := fr_eval (c := c) (a := a) (ds := ds) (k := .code (.cond o x y) :: k) o
    simp only [Ctx.fr] at this
    simp [stepG, stepG.exec, Ctx.fr, this, h])
theorem go_block {id : Nat} {b : Code} : step P (lone (c.fr a ds (.code (.block id b) :: k)) cs w) = .next (lone (c.fr a ds (.code b :: .inBlock id :: k)) cs w) :=
  step_lone_go (by simp [stepG, stepG.exec, Ctx.fr])
theorem go_scope {b : Code} : step P (lone (c.fr a ds (.code (.scope b) :: k)) cs w) = .next (lone (c.fr a ds (.code b :: .inScope b :: k)) cs w) :=
  step_lone_go (by simp [stepG, stepG.exec, Ctx.fr])
theorem go_loop {b : Code} : step P (lone (c.fr a ds (.code (.loop b) :: k)) cs w) = .next (lone (c.fr a ds (.code b :: .inLoop b :: k)) cs w) :=
  step_lone_go (by simp [stepG, stepG.exec, Ctx.fr])
theorem go_inLoop {b : Code} : step P (lone (c.fr a ds (.inLoop b :: k)) cs w) = .next (lone (c.fr a ds (.code b :: .inLoop b :: k)) cs w) :=
  step_lone_go (by simp [stepG, stepG.exec, Ctx.fr])
theorem go_exit {id : Nat} {k' : List Item} (h : exitTo id k = some k') : step P (lone (c.fr a ds (.code (.exit id) :: k)) cs w) = .next (lone (c.fr a ds k') cs w) :=
  step_lone_go (by simp [stepG, stepG.exec, Ctx.fr, h])
theorem go_goto {l : Nat} {k' : List Item} (h : gotoIn l k = some k') : step P (lone (c.fr a ds (.code (.goto l) :: k)) cs w) = .next (lone (c.fr a ds k') cs w) :=
  step_lone_go (by simp [stepG, stepG.exec, Ctx.fr, h])
theorem go_ret (hr : c.round = none) : step P (lone (c.fr a ds (.code .ret :: k)) cs w) = .next (lone { c.fr a ds (.code .ret :: k) with mode := .returning } cs w) :=
  step_lone_go (by simp [stepG, stepG.exec, Ctx.fr, hr])
theorem go_end (hr : c.round = none) : step P (lone (c.fr a ds []) cs w) = .next (lone { c.fr a ds [] with mode := .returning } cs w) :=
  step_lone_go (by simp [stepG, stepG.exec, Ctx.fr, hr])
theorem go_region {id : Nat} {ops : Array Oper} : step P (lone (c.fr a ds (.code (.region id ops false) :: k)) cs w) = .next (lone (c.fr a ds (.inRegion ops (List.range ops.size) :: k)) cs w) :=
  step_lone_go (by simp [stepG, stepG.exec, Ctx.fr])
theorem go_region_draw {id : Nat} {ops : Array Oper} :
    step P (lone (c.fr a ds (.code (.region id ops true) :: k)) cs w) =
      .next (lone (c.fr a ds (.inRegion ops (Region.schedule (P.follows .mixedOrders) ops (w.tape w.drawn (.order c.fn id))) :: k)) cs { w with drawn := w.drawn + 1 }) :=
  step_lone_go (by simp [stepG, stepG.exec, Ctx.fr, choose, Sem.run, Question.forced, Question.cut])
theorem go_region_end {ops : Array Oper} : step P (lone (c.fr a ds (.inRegion ops [] :: k)) cs w) = .next (lone (c.fr a ds k) cs w) :=
  step_lone_go (by simp [stepG, stepG.exec, Ctx.fr])
def Op.isDefer : Op → Bool
  | .defer _ => true
  | _ => false
theorem go_stepG {ops : Array Oper} {i : Nat} {is : List Nat} {o : Oper} (ho : ops[i]? = some o) (hw : Region.wanted o (yielded ops a) = true) (hnd : Op.isDefer o.op = false ∨ c.round = none) :
    stepG P true { frame := c.fr a ds (.inRegion ops (i :: is) :: k), callers := cs, status := .running, dying := none } w =
      stepG.apply P true (c.fr a ds (.inRegion ops (i :: is) :: k)) cs none (execOp (evA a) o) w := by
  have he := fr_eval' (c := c) (a := a) (ds := ds) (k := .inRegion ops (i :: is) :: k)
  simp only [Ctx.fr] at he
  simp only [stepG, stepG.exec, stepG.oper, Frame.oper?, Ctx.fr, ho, hw, he, Option.map_some, Option.getD_some, if_true]
  split
  · rename_i l cc hl hd
    rcases hnd with h | h
    · rw [hd] at h; cases h
    · rw [h] at hl; cases hl
  · rfl
theorem go_op_skip {ops : Array Oper} {i : Nat} {is : List Nat} {o : Oper} (ho : ops[i]? = some o) (hw : Region.wanted o (yielded ops a) = false) :
    step P (lone (c.fr a ds (.inRegion ops (i :: is) :: k)) cs w) = .next (lone (c.fr (putA a o.dst undef) ds (.inRegion ops is :: k)) cs w) := by
  refine step_lone_go ?_
  have e : (c.fr a ds (.inRegion ops (i :: is) :: k)).finish undef = c.fr (putA a o.dst undef) ds (.inRegion ops is :: k) := by
    cases hd : o.dst <;> simp [Frame.finish, Ctx.fr, ho, hd, putA]
  rw [← e]
  simp [stepG, stepG.exec, Ctx.fr, ho, hw]
theorem fr_finish {ops : Array Oper} {i : Nat} {is : List Nat} {o : Oper} (ho : ops[i]? = some o) (v : Value) :
    (c.fr a ds (.inRegion ops (i :: is) :: k)).finish v = c.fr (putA a o.dst v) ds (.inRegion ops is :: k) := by
  cases hd : o.dst <;> simp [Frame.finish, Ctx.fr, ho, hd, putA]
theorem go_op_value {ops : Array Oper} {i : Nat} {is : List Nat} {o : Oper} {v : Value} {w' : World} (ho : ops[i]? = some o) (hw : Region.wanted o (yielded ops a) = true) (hnd : Op.isDefer o.op = false ∨ c.round = none)
    (hr : (execOp (evA a) o).run P w = .ok (.value v) w') :
    step P (lone (c.fr a ds (.inRegion ops (i :: is) :: k)) cs w) = .next (lone (c.fr (putA a o.dst v) ds (.inRegion ops is :: k)) cs w') := by
  refine step_lone_go ?_
  rw [go_stepG ho hw hnd, ← fr_finish ho]
  simp [stepG.apply, hr]
theorem go_op_unit {ops : Array Oper} {i : Nat} {is : List Nat} {o : Oper} {w' : World} (ho : ops[i]? = some o) (hw : Region.wanted o (yielded ops a) = true) (hnd : Op.isDefer o.op = false ∨ c.round = none)
    (hr : (execOp (evA a) o).run P w = .ok .skip w') :
    step P (lone (c.fr a ds (.inRegion ops (i :: is) :: k)) cs w) = .next (lone (c.fr (putA a o.dst undef) ds (.inRegion ops is :: k)) cs w') := by
  refine step_lone_go ?_
  rw [go_stepG ho hw hnd, ← fr_finish ho]
  simp [stepG.apply, hr]
theorem go_op_defer {ops : Array Oper} {i : Nat} {is : List Nat} {o : Oper} {d : Deferred} {w' : World} (ho : ops[i]? = some o) (hw : Region.wanted o (yielded ops a) = true) (hnd : Op.isDefer o.op = false ∨ c.round = none)
    (hr : (execOp (evA a) o).run P w = .ok (.defer d) w') :
    step P (lone (c.fr a ds (.inRegion ops (i :: is) :: k)) cs w) = .next (lone (c.fr (putA a o.dst undef) (d :: ds) (.inRegion ops is :: k)) cs w') := by
  refine step_lone_go ?_
  rw [go_stepG ho hw hnd]
  have := fr_finish (c := c) (a := a) (ds := d :: ds) (k := k) (is := is) ho undef
  rw [← this]
  simp [stepG.apply, hr, Ctx.fr]
theorem go_op_enter {ops : Array Oper} {i : Nat} {is : List Nat} {o : Oper} {f : FuncId} {args : Array Value} {w' : World} (ho : ops[i]? = some o) (hw : Region.wanted o (yielded ops a) = true) (hnd : Op.isDefer o.op = false ∨ c.round = none)
    (hr : (execOp (evA a) o).run P w = .ok (.enter f args) w') :
    step P (lone (c.fr a ds (.inRegion ops (i :: is) :: k)) cs w) = .next (lone (Frame.enter P f args .normal) (c.fr a ds (.inRegion ops (i :: is) :: k) :: cs) w') := by
  refine step_lone_go ?_
  rw [go_stepG ho hw hnd]
  simp [stepG.apply, hr, Ctx.fr]
end steps

/-- A contract: called so in any world of this memory it returns, and leaves this. -/
def SCalls (P : Program) (f : FuncId) (args : List Value) (w0 : World) (base : Nat) (H : List Seg) (R : Value → List Seg → Prop) : Prop :=
  ∀ w, Sep w0 base w H → Calls P f args.toArray w fun e w' => ∃ v H', e = .returned v ∧ R v H' ∧ Sep w0 base w' H'

theorem SCalls.mono {P : Program} {f : FuncId} {args : List Value} {w0 : World} {base : Nat} {H : List Seg} {R R' : Value → List Seg → Prop} (h : SCalls P f args w0 base H R) (hr : ∀ v H', R v H' → R' v H') : SCalls P f args w0 base H R' :=
  fun w S => (h w S).mono fun _ _ ⟨v, H', he, hR, hS⟩ => ⟨v, H', he, hr _ _ hR, hS⟩
/-- What only computes. -/
theorem SCalls.of_pure {P : Program} {f : FuncId} {args : List Value} {w0 : World} {base : Nat} {H : List Seg} {v : Value} (h : ∀ w, Calls P f args.toArray w fun e w' => e = .returned v ∧ w = w') : SCalls P f args w0 base H (fun u H' => u = v ∧ H' = H) :=
  fun w S => (h w).mono fun _ _ ⟨he, hw⟩ => ⟨v, H, he, ⟨rfl, rfl⟩, hw ▸ S⟩

section rules
variable {X : Pt} {k : List Item} {E : Env} {ds : List Deferred} {H : List Seg} {ops : Array Oper} {os : List Oper}

theorem At.mono {E' : Env} (hs : Sub E' E) (h : At X k E' ds H) : At X k E ds H := fun a w ha S => h a w (ha.sub hs) S
theorem AtL.mono {E' : Env} (hs : Sub E' E) (h : AtL X ops os k E' ds H) : AtL X ops os k E ds H := fun is hi a w ha S => h is hi a w (ha.sub hs) S
theorem At.pick {H' : List Seg} (is : List Nat) (m : Nat) (hok : pickOk is m = true) (hH : pickSegs H is m = H') (h : At X k E ds H') : At X k E ds H := fun a w ha S => h a w ha (hH ▸ S.pick is m hok)
theorem AtL.pick {H' : List Seg} (is : List Nat) (m : Nat) (hok : pickOk is m = true) (hH : pickSegs H is m = H') (h : AtL X ops os k E ds H') : AtL X ops os k E ds H := fun is' hi a w ha S => h is' hi a w ha (hH ▸ S.pick is m hok)
theorem At.nil (h : At X k E ds ([] :: H)) : At X k E ds H := fun a w ha S => h a w ha S.nil
theorem AtL.nil (h : AtL X ops os k E ds ([] :: H)) : AtL X ops os k E ds H := fun is hi a w ha S => h is hi a w ha S.nil

theorem At.skip (h : At X k E ds H) : At X (.code .skip :: k) E ds H := fun a w ha S => .step go_skip (h a w ha S)
theorem At.label {l : Nat} (h : At X k E ds H) : At X (.code (.label l) :: k) E ds H := fun a w ha S => .step go_label (h a w ha S)
theorem At.inBlock {id : Nat} (h : At X k E ds H) : At X (.inBlock id :: k) E ds H := fun a w ha S => .step go_inBlock (h a w ha S)
theorem At.inScope {b : Code} (h : At X k E ds H) : At X (.inScope b :: k) E ds H := fun a w ha S => .step go_inScope (h a w ha S)
theorem At.seq {x y : Code} (h : At X (.code x :: .code y :: k) E ds H) : At X (.code (.seq x y) :: k) E ds H := fun a w ha S => .step go_seq (h a w ha S)
theorem At.block {id : Nat} {b : Code} (h : At X (.code b :: .inBlock id :: k) E ds H) : At X (.code (.block id b) :: k) E ds H := fun a w ha S => .step go_block (h a w ha S)
theorem At.scope {b : Code} (h : At X (.code b :: .inScope b :: k) E ds H) : At X (.code (.scope b) :: k) E ds H := fun a w ha S => .step go_scope (h a w ha S)
theorem At.exit {id : Nat} {k' : List Item} (he : exitTo id k = some k') (h : At X k' E ds H) : At X (.code (.exit id) :: k) E ds H := fun a w ha S => .step (go_exit he) (h a w ha S)
theorem At.goto {l : Nat} {k' : List Item} (he : gotoIn l k = some k') (h : At X k' E ds H) : At X (.code (.goto l) :: k) E ds H := fun a w ha S => .step (go_goto he) (h a w ha S)
theorem At.condT {o : Operand} {x y : Code} (hc : ev E o = some (.bool true)) (h : At X (.code x :: k) E ds H) : At X (.code (.cond o x y) :: k) E ds H :=
  fun a w ha S => .step (go_cond (ha.ev hc)) (h a w ha S)
theorem At.condF {o : Operand} {x y : Code} (hc : ev E o = some (.bool false)) (h : At X (.code y :: k) E ds H) : At X (.code (.cond o x y) :: k) E ds H :=
  fun a w ha S => .step (go_cond (ha.ev hc)) (h a w ha S)
theorem At.cond {o : Operand} {x y : Code} {t : Bool} (hc : ev E o = some (.bool t)) (ht : t = true → At X (.code x :: k) E ds H) (hf : t = false → At X (.code y :: k) E ds H) : At X (.code (.cond o x y) :: k) E ds H :=
  fun a w ha S => by
    cases t with
    | true => exact .step (go_cond (ha.ev hc)) (ht rfl a w ha S)
    | false => exact .step (go_cond (ha.ev hc)) (hf rfl a w ha S)
/-- A test whose answer is known. -/
theorem At.condIs {o : Operand} {x y : Code} {t : Bool} (b : Bool) (hc : ev E o = some (.bool t)) (hb : t = b) (h : At X (.code (match b with | true => x | false => y) :: k) E ds H) : At X (.code (.cond o x y) :: k) E ds H :=
  fun a w ha S => by
    subst hb
    cases t with
    | true => exact .step (go_cond (ha.ev hc)) (h a w ha S)
    | false => exact .step (go_cond (ha.ev hc)) (h a w ha S)
theorem At.region {id : Nat} {rops : Array Oper} (h : AtL X rops rops.toList k E ds H) : At X (.code (.region id rops false) :: k) E ds H :=
  fun a w ha S => .step go_region (h (List.range rops.size) (by
    apply List.ext_getElem
    · simp
    · intro i h1 h2
      simp at h1 h2 ⊢) a w ha S)
theorem AtL.done (h : At X k E ds H) : AtL X ops [] k E ds H := fun is hi a w ha S => by
  have : is = [] := by simpa using hi
  subst this
  exact .step go_region_end (h a w ha S)

/-- A loop, by a measure; its head's state is told by one parameter. -/
theorem At.loop {b : Code} {ι : Type} (Ei : ι → Env) (Hi : ι → List Seg) (I : ι → Prop) (μ : ι → Nat) (x0 : ι) (h0 : I x0) (hE : Sub (Ei x0) E) (hH : Hi x0 = H)
    (hr : ∀ x, I x → (∀ x', I x' → μ x' < μ x → ∀ E', Sub (Ei x') E' → At X (.inLoop b :: k) E' ds (Hi x')) → At X (.code b :: .inLoop b :: k) (Ei x) ds (Hi x)) : At X (.code (.loop b) :: k) E ds H := by
  have key : ∀ n x, μ x = n → I x → At X (.code b :: .inLoop b :: k) (Ei x) ds (Hi x) := by
    intro n
    induction n using Nat.strongRecOn with
    | _ n ih =>
      intro x hx hI
      refine hr x hI fun x' hI' hlt E' hE' => ?_
      exact fun a w ha S => .step go_inLoop (ih (μ x') (hx ▸ hlt) x' rfl hI' a w (ha.sub hE') S)
  subst hH
  exact fun a w ha S => .step go_loop (key _ x0 rfl h0 a w (ha.sub hE) S)

/-- Loops whose head's state is told by several parameters. -/
theorem At.loop0 {b : Code} (Ei : Env) (Hi : List Seg) (I : Prop) (h0 : I) (hE : Sub Ei E) (hH : Hi = H)
    (hr : I → At X (.code b :: .inLoop b :: k) Ei ds Hi) : At X (.code (.loop b) :: k) E ds H :=
  At.loop (ι := Unit) (fun _ => Ei) (fun _ => Hi) (fun _ => I) (fun _ => 0) () h0 hE hH fun _ hI _ => hr hI
theorem At.loop2 {b : Code} {α β : Type} (Ei : α → β → Env) (Hi : α → β → List Seg) (I : α → β → Prop) (μ : α → β → Nat) (x : α) (y : β) (h0 : I x y) (hE : Sub (Ei x y) E) (hH : Hi x y = H)
    (hr : ∀ x y, I x y → (∀ x' y', I x' y' → μ x' y' < μ x y → ∀ E', Sub (Ei x' y') E' → At X (.inLoop b :: k) E' ds (Hi x' y')) → At X (.code b :: .inLoop b :: k) (Ei x y) ds (Hi x y)) : At X (.code (.loop b) :: k) E ds H :=
  At.loop (ι := α × β) (fun p => Ei p.1 p.2) (fun p => Hi p.1 p.2) (fun p => I p.1 p.2) (fun p => μ p.1 p.2) (x, y) h0 hE hH fun p hI ih => hr p.1 p.2 hI fun x' y' => ih (x', y')
theorem At.loop3 {b : Code} {α β γ : Type} (Ei : α → β → γ → Env) (Hi : α → β → γ → List Seg) (I : α → β → γ → Prop) (μ : α → β → γ → Nat) (x : α) (y : β) (z : γ) (h0 : I x y z) (hE : Sub (Ei x y z) E) (hH : Hi x y z = H)
    (hr : ∀ x y z, I x y z → (∀ x' y' z', I x' y' z' → μ x' y' z' < μ x y z → ∀ E', Sub (Ei x' y' z') E' → At X (.inLoop b :: k) E' ds (Hi x' y' z')) → At X (.code b :: .inLoop b :: k) (Ei x y z) ds (Hi x y z)) : At X (.code (.loop b) :: k) E ds H :=
  At.loop (ι := α × β × γ) (fun p => Ei p.1 p.2.1 p.2.2) (fun p => Hi p.1 p.2.1 p.2.2) (fun p => I p.1 p.2.1 p.2.2) (fun p => μ p.1 p.2.1 p.2.2) (x, y, z) h0 hE hH fun p hI ih => hr p.1 p.2.1 p.2.2 hI fun x' y' z' => ih (x', y', z')
theorem At.loop4 {b : Code} {α β γ δ : Type} (Ei : α → β → γ → δ → Env) (Hi : α → β → γ → δ → List Seg) (I : α → β → γ → δ → Prop) (μ : α → β → γ → δ → Nat) (x : α) (y : β) (z : γ) (u : δ) (h0 : I x y z u) (hE : Sub (Ei x y z u) E) (hH : Hi x y z u = H)
    (hr : ∀ x y z u, I x y z u → (∀ x' y' z' u', I x' y' z' u' → μ x' y' z' u' < μ x y z u → ∀ E', Sub (Ei x' y' z' u') E' → At X (.inLoop b :: k) E' ds (Hi x' y' z' u')) → At X (.code b :: .inLoop b :: k) (Ei x y z u) ds (Hi x y z u)) : At X (.code (.loop b) :: k) E ds H :=
  At.loop (ι := α × β × γ × δ) (fun p => Ei p.1 p.2.1 p.2.2.1 p.2.2.2) (fun p => Hi p.1 p.2.1 p.2.2.1 p.2.2.2) (fun p => I p.1 p.2.1 p.2.2.1 p.2.2.2) (fun p => μ p.1 p.2.1 p.2.2.1 p.2.2.2) (x, y, z, u) h0 hE hH fun p hI ih => hr p.1 p.2.1 p.2.2.1 p.2.2.2 hI fun x' y' z' u' => ih (x', y', z', u')
theorem At.loop5 {b : Code} {α β γ δ ε : Type} (Ei : α → β → γ → δ → ε → Env) (Hi : α → β → γ → δ → ε → List Seg) (I : α → β → γ → δ → ε → Prop) (μ : α → β → γ → δ → ε → Nat) (x : α) (y : β) (z : γ) (u : δ) (v : ε) (h0 : I x y z u v) (hE : Sub (Ei x y z u v) E) (hH : Hi x y z u v = H)
    (hr : ∀ x y z u v, I x y z u v → (∀ x' y' z' u' v', I x' y' z' u' v' → μ x' y' z' u' v' < μ x y z u v → ∀ E', Sub (Ei x' y' z' u' v') E' → At X (.inLoop b :: k) E' ds (Hi x' y' z' u' v')) → At X (.code b :: .inLoop b :: k) (Ei x y z u v) ds (Hi x y z u v)) : At X (.code (.loop b) :: k) E ds H :=
  At.loop (ι := α × β × γ × δ × ε) (fun p => Ei p.1 p.2.1 p.2.2.1 p.2.2.2.1 p.2.2.2.2) (fun p => Hi p.1 p.2.1 p.2.2.1 p.2.2.2.1 p.2.2.2.2) (fun p => I p.1 p.2.1 p.2.2.1 p.2.2.2.1 p.2.2.2.2) (fun p => μ p.1 p.2.1 p.2.2.1 p.2.2.2.1 p.2.2.2.2) (x, y, z, u, v) h0 hE hH
    fun p hI ih => hr p.1 p.2.1 p.2.2.1 p.2.2.2.1 p.2.2.2.2 hI fun x' y' z' u' v' => ih (x', y', z', u', v')
theorem At.loop6 {b : Code} {α β γ δ ε ζ : Type} (Ei : α → β → γ → δ → ε → ζ → Env) (Hi : α → β → γ → δ → ε → ζ → List Seg) (I : α → β → γ → δ → ε → ζ → Prop) (μ : α → β → γ → δ → ε → ζ → Nat) (x : α) (y : β) (z : γ) (u : δ) (v : ε) (q : ζ) (h0 : I x y z u v q) (hE : Sub (Ei x y z u v q) E) (hH : Hi x y z u v q = H)
    (hr : ∀ x y z u v q, I x y z u v q → (∀ x' y' z' u' v' q', I x' y' z' u' v' q' → μ x' y' z' u' v' q' < μ x y z u v q → ∀ E', Sub (Ei x' y' z' u' v' q') E' → At X (.inLoop b :: k) E' ds (Hi x' y' z' u' v' q')) → At X (.code b :: .inLoop b :: k) (Ei x y z u v q) ds (Hi x y z u v q)) : At X (.code (.loop b) :: k) E ds H :=
  At.loop (ι := α × β × γ × δ × ε × ζ) (fun p => Ei p.1 p.2.1 p.2.2.1 p.2.2.2.1 p.2.2.2.2.1 p.2.2.2.2.2) (fun p => Hi p.1 p.2.1 p.2.2.1 p.2.2.2.1 p.2.2.2.2.1 p.2.2.2.2.2) (fun p => I p.1 p.2.1 p.2.2.1 p.2.2.2.1 p.2.2.2.2.1 p.2.2.2.2.2) (fun p => μ p.1 p.2.1 p.2.2.1 p.2.2.2.1 p.2.2.2.2.1 p.2.2.2.2.2) (x, y, z, u, v, q) h0 hE hH
    fun p hI ih => hr p.1 p.2.1 p.2.2.1 p.2.2.2.1 p.2.2.2.2.1 p.2.2.2.2.2 hI fun x' y' z' u' v' q' => ih (x', y', z', u', v', q')
theorem bnot_true {b : Bool} (h : (!b) = true) : b = false := by cases b <;> simp_all
theorem bnot_false {b : Bool} (h : (!b) = false) : b = true := by cases b <;> simp_all

/-- An operation that is carried out: it has no guard, or its guard is met. -/
def Wd (X : Pt) (ops : Array Oper) (E : Env) (g : Option (Nat × Bool)) : Prop :=
  g = none ∨ ∃ j want t, g = some (j, want) ∧ (ops[j]?).bind (·.dst) = some t ∧ Nat.blt t X.n = true ∧ Env.get E t = some (.bool want)
theorem yielded_of {n : Nat} {a : Array Value} {j t : Nat} {b : Bool} (ha : Agree n a E) (hj : (ops[j]?).bind (·.dst) = some t) (ht : Nat.blt t n = true) (hb : Env.get E t = some (.bool b)) : yielded ops a j = some b := by
  have hlt := blt_lt ht
  have hv := ha.get t _ hb
  unfold yielded
  rw [hj]
  have hs : t < a.size := by rw [ha.size]; exact hlt
  simp only [Option.bind_some, Array.getElem?_eq_getElem hs]
  rw [Array.getD_eq_getD_getElem?, Array.getElem?_eq_getElem hs] at hv
  simp at hv
  rw [hv]
theorem Wd.wanted {o : Oper} (h : Wd X ops E o.guard) {a : Array Value} (ha : Agree X.n a E) : Region.wanted o (yielded ops a) = true := by
  rcases h with h | ⟨j, want, t, hg, hj, ht, hb⟩
  · simp [Region.wanted, h]
  · simp [Region.wanted, hg, yielded_of ha hj ht hb]
/-- What an operation does to memory like this, whatever stands around it: it has a value, and leaves memory so. -/
def Does (X : Pt) (E : Env) (H : List Seg) (op : Op) (R : Value → List Seg → Prop) : Prop :=
  ∀ (dst : Option Tmp) (ty : TypeId) (pos : String) (after : Array Edge) (g : Option (Nat × Bool)) (ops : Array Oper) (i : Nat) (is : List Nat) (k : List Item) (ds : List Deferred) (a : Array Value) (w : World),
    ops[i]? = some ⟨dst, op, ty, pos, after, g⟩ → Region.wanted ⟨dst, op, ty, pos, after, g⟩ (yielded ops a) = true → (∀ x v, ev E x = some v → evA a x = v) → Sep X.w0 X.base w H →
    ∃ v H' w', R v H' ∧ Sep X.w0 X.base w' H' ∧ Steps X.P (lone (X.c.fr a ds (.inRegion ops (i :: is) :: k)) X.cs w) (lone (X.c.fr (putA a dst v) ds (.inRegion ops is :: k)) X.cs w')
def Is (v : Value) (H : List Seg) : Value → List Seg → Prop := fun u H' => u = v ∧ H' = H
theorem Does.mono {op : Op} {R R' : Value → List Seg → Prop} (h : Does X E H op R) (hr : ∀ v H', R v H' → R' v H') : Does X E H op R' := by
  intro dst ty pos after g ops i is k ds a w ho hw ha S
  obtain ⟨v, H', w', hR, S', hs⟩ := h dst ty pos after g ops i is k ds a w ho hw ha S
  exact ⟨v, H', w', hr _ _ hR, S', hs⟩
theorem AtL.of {dst : Option Tmp} {op : Op} {ty : TypeId} {pos : String} {after : Array Edge} {g : Option (Nat × Bool)} {R : Value → List Seg → Prop} (h : Does X E H op R) (hg : Wd X ops E g) (hd : dstOk X.n dst = true)
    (hk : ∀ v H', R v H' → AtL X ops os k (putE E dst v) ds H') : AtL X ops (⟨dst, op, ty, pos, after, g⟩ :: os) k E ds H := by
  intro is hi a w ha S
  cases is with
  | nil => simp at hi
  | cons i is =>
    simp only [List.map_cons, List.cons.injEq] at hi
    obtain ⟨ho, hi⟩ := hi
    obtain ⟨v, H', w', hR, S', hs⟩ := h dst ty pos after g ops i is k ds a w ho (hg.wanted (o := ⟨dst, op, ty, pos, after, g⟩) ha) (fun x v hx => ha.ev hx) S
    exact .steps hs (hk v H' hR is hi _ _ (ha.put hd v) S')
theorem AtL.ofIs {d : Nat} {op : Op} {ty : TypeId} {pos : String} {after : Array Edge} {g : Option (Nat × Bool)} {v : Value} (h : Does X E H op (Is v H)) (hg : Wd X ops E g) (hd : Nat.blt d X.n = true)
    (hk : AtL X ops os k ((d, v) :: E) ds H) : AtL X ops (⟨some d, op, ty, pos, after, g⟩ :: os) k E ds H :=
  AtL.of h hg hd fun _ _ ⟨hv, hH⟩ => by subst hv; subst hH; exact hk
/-- An operation that runs to a value. -/
theorem Does.core {op : Op} {R : Value → List Seg → Prop} (hnd : Op.isDefer op = false)
    (h : ∀ dst ty pos after g ρ w, (∀ x v, ev E x = some v → ρ x = v) → Sep X.w0 X.base w H → ∃ v w' H', (execOp ρ ⟨dst, op, ty, pos, after, g⟩).run X.P w = .ok (.value v) w' ∧ Sep X.w0 X.base w' H' ∧ R v H') : Does X E H op R := by
  intro dst ty pos after g ops i is k ds a w ho hw ha S
  obtain ⟨v, w', H', hr, S', hR⟩ := h dst ty pos after g (evA a) w ha S
  exact ⟨v, H', w', hR, S', .one (go_op_value ho hw (.inl hnd) hr)⟩
/-- An operation that writes, and has no value. -/
theorem Does.coreU {op : Op} {R : Value → List Seg → Prop} (hnd : Op.isDefer op = false)
    (h : ∀ dst ty pos after g ρ w, (∀ x v, ev E x = some v → ρ x = v) → Sep X.w0 X.base w H → ∃ w' H', (execOp ρ ⟨dst, op, ty, pos, after, g⟩).run X.P w = .ok .skip w' ∧ Sep X.w0 X.base w' H' ∧ R undef H') : Does X E H op R := by
  intro dst ty pos after g ops i is k ds a w ho hw ha S
  obtain ⟨w', H', hr, S', hR⟩ := h dst ty pos after g (evA a) w ha S
  exact ⟨undef, H', w', hR, S', .one (go_op_unit ho hw (.inl hnd) hr)⟩
theorem Does.pureOp {op : Op} {v : Value} (hnd : Op.isDefer op = false)
    (h : ∀ dst ty pos after g ρ w, (∀ x v, ev E x = some v → ρ x = v) → (execOp ρ ⟨dst, op, ty, pos, after, g⟩).run X.P w = .ok (.value v) w) : Does X E H op (Is v H) :=
  Does.core hnd fun dst ty pos after g ρ w hρ S => ⟨v, w, H, h dst ty pos after g ρ w hρ, S, rfl, rfl⟩
/-- A call whose contract is known. -/
theorem Does.enter {op : Op} {f : FuncId} {args : List Value} {R : Value → List Seg → Prop} (hnd : Op.isDefer op = false)
    (h : ∀ dst ty pos after g ρ w, (∀ x v, ev E x = some v → ρ x = v) → (execOp ρ ⟨dst, op, ty, pos, after, g⟩).run X.P w = .ok (.enter f args.toArray) w)
    (hc : SCalls X.P f args X.w0 X.base H R) : Does X E H op R := by
  intro dst ty pos after g ops i is k ds a w ho hw ha S
  have hr := h dst ty pos after g (evA a) w ha
  obtain ⟨e, w', fr, ⟨v, H', rfl, hR, S'⟩, hcomes, _, hleave⟩ := hc w S (X.c.fr a ds (.inRegion ops (i :: is) :: k) :: X.cs)
  refine ⟨v, H', w', hR, S', .head (go_op_enter ho hw (.inl hnd) hr) (Steps.trans hcomes (.one ?_))⟩
  have := step_leave_returned (cs := X.cs) (c := X.c.fr a ds (.inRegion ops (i :: is) :: k)) hleave
  rw [fr_finish ho] at this
  exact this
/-- A guarded operation that is not carried out. -/
theorem AtL.skipped {o : Oper} {j t : Nat} {want : Bool} {b : Bool} (hg : o.guard = some (j, want)) (hj : (ops[j]?).bind (·.dst) = some t) (ht : Nat.blt t X.n = true) (hb : Env.get E t = some (.bool b)) (hw : (b == want) = false) (hd : dstOk X.n o.dst = true)
    (h : AtL X ops os k (putE E o.dst undef) ds H) : AtL X ops (o :: os) k E ds H := by
  intro is hi a w ha S
  cases is with
  | nil => simp at hi
  | cons i is =>
    simp only [List.map_cons, List.cons.injEq] at hi
    obtain ⟨ho, hi⟩ := hi
    refine .step (go_op_skip ho ?_) (h is hi _ _ (ha.put hd undef) S)
    have := yielded_of ha hj ht hb
    simp [Region.wanted, hg, this]
    cases b <;> cases want <;> simp_all
/-- A slot's bool is parted. -/
theorem AtL.split {t : Nat} {b : Bool} (hb : Env.get E t = some (.bool b)) (ht : b = true → AtL X ops os k ((t, .bool true) :: E) ds H) (hf : b = false → AtL X ops os k ((t, .bool false) :: E) ds H) : AtL X ops os k E ds H := by
  have hs : ∀ (a : Array Value) (w : World), Agree X.n a E → Agree X.n a ((t, .bool b) :: E) := by
    intro a w ha
    refine ⟨ha.size, fun u v hu => ?_⟩
    simp only [Env.get] at hu
    by_cases e : t = u
    · subst e
      simp at hu
      subst hu
      exact ha.get t _ hb
    · rw [beq_no e] at hu
      exact ha.get u v hu
  cases b with
  | true => exact fun is hi a w ha S => ht rfl is hi a w (hs a w ha) S
  | false => exact fun is hi a w ha S => hf rfl is hi a w (hs a w ha) S
end rules

/-- What a call has reached when it returns. -/
def Left (P : Program) (f : FuncId) (cs : List Frame) (w0 : World) (base : Nat) (R : Value → List Seg → Prop) (m : Machine) : Prop :=
  ∃ v H' fr w', m = lone fr cs w' ∧ fr.fn = f ∧ fr.leaving P w' (.returned v) ∧ R v H' ∧ Sep w0 base w' H'
def argsEnv : List Value → Nat → Env
  | [], _ => []
  | v :: vs, i => (i, v) :: argsEnv vs (i + 1)
theorem argsEnv_get {vs : List Value} {i t : Nat} {v : Value} (h : Env.get (argsEnv vs i) t = some v) : i ≤ t ∧ vs[t - i]? = some v := by
  induction vs generalizing i with
  | nil => simp [argsEnv, Env.get] at h
  | cons u vs ih =>
    simp only [argsEnv, Env.get] at h
    by_cases e : i = t
    · subst e
      simp at h
      simp [h]
    · rw [beq_no e] at h
      obtain ⟨h1, h2⟩ := ih h
      refine ⟨by omega, ?_⟩
      have : t - i = (t - (i + 1)) + 1 := by omega
      rw [this, List.getElem?_cons_succ]
      exact h2
/-- A function's contract, by a walk through its text. -/
theorem SCalls.of_walk {P : Program} {f : FuncId} {fn : Func} {c : Code} {n : Nat} {args : List Value} {w0 : World} {base : Nat} {H : List Seg} {R : Value → List Seg → Prop}
    (hf : P.funcs[f]? = some fn) (hb : fn.body = some c) (hn : fn.ntmps = n) (hle : Nat.ble args.length n = true)
    (h : ∀ cs, At ⟨P, ⟨f, .normal, none⟩, n, cs, Left P f cs w0 base R, w0, base⟩ [.code c] (argsEnv args 0) [] H) : SCalls P f args w0 base H R := by
  intro w S cs
  have hle := Nat.le_of_ble_eq_true hle
  have hA : Agree n (args.toArray ++ Array.replicate (n - args.length) undef) (argsEnv args 0) := by
    refine ⟨by simp; omega, fun t v hv => ?_⟩
    obtain ⟨_, h2⟩ := argsEnv_get hv
    rw [Nat.sub_zero] at h2
    have hlt := (List.getElem?_eq_some_iff.1 h2).1
    rw [Array.getD_eq_getD_getElem?, Array.getElem?_append_left (by simpa using hlt)]
    simp [h2]
  obtain ⟨m', hs, v, H', fr, w', rfl, h1, h2, h3, h4⟩ := h cs _ w hA S
  refine ⟨.returned v, w', fr, ⟨v, H', rfl, h3, h4⟩, ?_, h1, h2⟩
  have henter : Frame.enter P f args.toArray .normal = Ctx.fr ⟨f, .normal, none⟩ (args.toArray ++ Array.replicate (n - args.length) undef) [] [.code c] := by
    simp [Frame.enter, Ctx.fr, hf, hb, hn]
  rw [henter]
  exact hs
/-- The results, all in slots. -/
def resV (E : Env) : List ResultVar → Option (List Value)
  | [] => some []
  | .tmp t :: rs => match Env.get E t with
    | some v => (resV E rs).map (v :: ·)
    | none => none
  | .cell _ _ :: _ => none
def oneOf : List Value → Value
  | [v] => v
  | vs => .tuple vs.toArray
theorem res_run {P : Program} {n : Nat} {a : Array Value} {E : Env} (ha : Agree n a E) {w : World} {rs : List ResultVar} {vs : List Value} (h : resV E rs = some vs) :
    (rs.mapM (m := Sem) fun (r : ResultVar) => match r with
      | .tmp t => (Pure.pure (a.getD t undef) : Sem Value)
      | .cell x t => do loadVar t (← asAddr (a.getD x undef))).run P w = .ok vs w := by
  induction rs generalizing vs with
  | nil => simp only [resV, Option.some.injEq] at h; subst h; rfl
  | cons r rs ih =>
    cases r with
    | cell x t => simp [resV] at h
    | tmp t =>
      simp only [resV] at h
      cases hg : Env.get E t with
      | none => rw [hg] at h; cases h
      | some v =>
        rw [hg] at h
        cases hr : resV E rs with
        | none => rw [hr] at h; cases h
        | some us =>
          rw [hr] at h
          simp only [Option.map_some, Option.some.injEq] at h
          subst h
          rw [List.mapM_cons]
          simp only [Sem.run_bind, Sem.run_pure, Result.andThen_ok, ih hr, ha.get t v hg]
theorem At.ret_core {P : Program} {f : FuncId} {fn : Func} {n : Nat} {cs : List Frame} {w0 : World} {base : Nat} {H : List Seg} {R : Value → List Seg → Prop} {E : Env} {k : List Item} {rs : List ResultVar} {vs : List Value}
    (hf : P.funcs[f]? = some fn) (hrs : fn.results.toList = rs) (hv : resV E rs = some vs) (hR : R (oneOf vs) H)
    (hk : ∀ (a : Array Value) (w : World), ∃ todo, step P (lone (Ctx.fr ⟨f, .normal, none⟩ a [] k) cs w) = .next (lone { Ctx.fr ⟨f, .normal, none⟩ a [] todo with mode := .returning } cs w)) :
    At ⟨P, ⟨f, .normal, none⟩, n, cs, Left P f cs w0 base R, w0, base⟩ k E [] H := by
  intro a w ha S
  obtain ⟨todo, hs⟩ := hk a w
  refine ⟨_, .one hs, oneOf vs, H, _, w, rfl, rfl, ⟨rfl, rfl, rfl, fn, hf, ?_⟩, hR, S⟩
  have := res_run (P := P) ha (w := w) hv
  unfold results
  rw [Array.mapM_eq_mapM_toList, hrs]
  simp only [Sem.run_bind, map_eq_pure_bind, Sem.run_pure] at this ⊢
  refine Eq.trans ?_ (congrArg (fun r => Result.ok r w) (show (if h : vs.toArray.size = 1 then vs.toArray[0] else .tuple vs.toArray) = oneOf vs from ?_))
  · exact (congrArg (fun r => Result.andThen r _) (congrArg (fun r => Result.andThen r _) this)).trans (by simp [Result.andThen_ok])
  · match vs with
    | [] => rfl
    | [v] => rfl
    | v :: u :: vs => rfl
theorem At.ret {P : Program} {f : FuncId} {fn : Func} {n : Nat} {cs : List Frame} {w0 : World} {base : Nat} {H : List Seg} {R : Value → List Seg → Prop} {E : Env} {k : List Item} {rs : List ResultVar} {vs : List Value}
    (hf : P.funcs[f]? = some fn) (hrs : fn.results.toList = rs) (hv : resV E rs = some vs) (hR : R (oneOf vs) H) :
    At ⟨P, ⟨f, .normal, none⟩, n, cs, Left P f cs w0 base R, w0, base⟩ (.code .ret :: k) E [] H :=
  At.ret_core hf hrs hv hR fun a w => ⟨_, go_ret rfl⟩
theorem At.end_ {P : Program} {f : FuncId} {fn : Func} {n : Nat} {cs : List Frame} {w0 : World} {base : Nat} {H : List Seg} {R : Value → List Seg → Prop} {E : Env} {rs : List ResultVar} {vs : List Value}
    (hf : P.funcs[f]? = some fn) (hrs : fn.results.toList = rs) (hv : resV E rs = some vs) (hR : R (oneOf vs) H) :
    At ⟨P, ⟨f, .normal, none⟩, n, cs, Left P f cs w0 base R, w0, base⟩ [] E [] H :=
  At.ret_core hf hrs hv hR fun a w => ⟨_, go_end rfl⟩
end Go.Proofs.YtlkdmbpbjhjkfaaGreatDoor
