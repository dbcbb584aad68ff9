/- A logic for walks: ranges over functions. -/
import Derived.Test.YtlkdmbpbjhjkfaaGreatDoorLgH
namespace Go.Proofs.YtlkdmbpbjhjkfaaGreatDoor
open Go.RowKit (Below)
set_option linter.unusedVariables false
set_option linter.unusedSimpArgs false

theorem perm_flat {H H' : List Seg} (h : H.Perm H') : H.flatten.Perm H'.flatten := by
  induction h with
  | nil => exact .refl _
  | cons s _ ih => exact List.Perm.append_left s ih
  | swap a b l =>
    simp only [List.flatten_cons, ← List.append_assoc]
    exact List.Perm.append_right _ List.perm_append_comm
  | trans _ _ ih1 ih2 => exact ih1.trans ih2
theorem Sep.perm {w0 : World} {base : Nat} {w : World} {H H' : List Seg} (S : Sep w0 base w H) (h : H.Perm H') : Sep w0 base w H' :=
  ⟨S.below, S.le, fun p hp => S.mem p ((perm_flat h).mem_iff.2 hp), ((perm_flat h).map _).nodup_iff.1 S.nodup⟩
theorem perm1 {α : Type} (a : α) (X T : List α) : (a :: (X ++ T)).Perm (X ++ (a :: T)) := List.perm_middle.symm
theorem perm2 {α : Type} (a b : α) (X T : List α) : (a :: b :: (X ++ T)).Perm (X ++ (a :: b :: T)) := ((perm1 b X T).cons a).trans (perm1 a X (b :: T))
theorem perm3 {α : Type} (a b c : α) (X T : List α) : (a :: b :: c :: (X ++ T)).Perm (X ++ (a :: b :: c :: T)) := ((perm2 b c X T).cons a).trans (perm1 a X (b :: c :: T))

/-- The contract of a yield: the round of the loop whose block is l. -/
def YCalls (P : Program) (l : Nat) (args : List Value) (w0 : World) (base : Nat) (H : List Seg) (R : Value → List Seg → Prop) : Prop :=
  ∀ w, Sep w0 base w H → ∃ f tmps assign body, (Instr.yield l args.toArray).run P w = .ok (.round l f tmps assign body) w ∧
    ∀ c cs, ∃ v H' w', R v H' ∧ Sep w0 base w' H' ∧ Steps P (lone (Frame.round l f tmps assign body .normal) (c :: cs) w) (lone (Frame.finish c v) cs w')
theorem YCalls.mono {P : Program} {l : Nat} {args : List Value} {w0 : World} {base : Nat} {H : List Seg} {R R' : Value → List Seg → Prop} (h : YCalls P l args w0 base H R) (hr : ∀ v H', R v H' → R' v H') : YCalls P l args w0 base H R' := by
  intro w S
  obtain ⟨f, tmps, assign, body, h1, h2⟩ := h w S
  refine ⟨f, tmps, assign, body, h1, fun c cs => ?_⟩
  obtain ⟨v, H', w', hR, S', hs⟩ := h2 c cs
  exact ⟨v, H', w', hr _ _ hR, S', hs⟩
def LeftY (c : Frame) (cs : List Frame) (w0 : World) (base : Nat) (R : Value → List Seg → Prop) (m : Machine) : Prop :=
  ∃ v H' w', m = lone (Frame.finish c v) cs w' ∧ R v H' ∧ Sep w0 base w' H'
def putsE (E : Env) : List Tmp → List Value → Env
  | t :: ts, v :: vs => putsE ((t, v) :: E) ts vs
  | _, _ => E
theorem getLoop_run {P : Program} {w : World} {l : Nat} {L : Loop} (h : w.heap[l]? = some (.loop L)) : (Instr.getLoop l).run P w = .ok L w := by
  simp [Instr.getLoop, getObj, Sem.run, h]
def isCellsO : Obj → Bool
  | .cells _ _ _ => true
  | _ => false
theorem setObj_run {P : Program} {w : World} {l : Nat} {o o' : Obj} (h : w.heap[l]? = some o) (hc : isCellsO o = false) : (setObj l o').run P w = .ok () { w with heap := w.heap.setIfInBounds l o' } := by
  cases o <;> first | (cases hc; done) | simp [setObj, Sem.run, h]
theorem Sep.setObj {w0 : World} {base : Nat} {w : World} {H : List Seg} (S : Sep w0 base w H) {i j : Nat} {s : Seg} {b : Nat} {o : Obj} (hi : H[i]? = some s) (hj : s[j]? = some (b, o)) (o' : Obj) :
    Sep w0 base { w with heap := w.heap.setIfInBounds b o' } (H.set i (s.set j (b, o'))) := by
  have hb := (S.at_ hi hj).1
  have hlt := (Array.getElem?_eq_some_iff.1 hb).1
  refine S.write hi hj o' rfl rfl rfl (by simp) ?_ (fun k hk => ?_)
  · simp [hlt]
  · simp [Array.getElem?_setIfInBounds, Ne.symm hk]
theorem YCalls.of_walk {P : Program} {l n i j : Nat} {args : List Value} {w0 : World} {base : Nat} {H : List Seg} {R : Value → List Seg → Prop} {s : Seg} {L : Loop} {E : Env} {ps : List Tmp}
    (hi : H[i]? = some s) (hj : s[j]? = some (l, .loop L)) (hA : Agree n L.tmps E) (hp : L.params.toList = ps) (hlen : args.length = ps.length) (hps : ps.all (fun t => Nat.blt t n) = true)
    (h : ∀ c cs, At ⟨P, ⟨L.fn, .normal, some l⟩, n, c :: cs, LeftY c cs w0 base R, w0, base⟩ [.code L.assign, .beginRound, .code L.body] (putsE E ps args) [] H) : YCalls P l args w0 base H R := by
  intro w S
  have hb := (S.at_ hi hj).1
  have hsz : args.toArray.size = L.params.size := by
    have : L.params.size = ps.length := by rw [← hp]; simp
    simp [this, hlen]
  refine ⟨L.fn, (L.params.zip args.toArray).foldl (fun tmps (t, a) => tmps.setIfInBounds t a) L.tmps, L.assign, L.body, ?_, fun c cs => ?_⟩
  · unfold Instr.yield
    simp only [Sem.run_bind, getLoop_run hb, Result.andThen_ok]
    rw [if_neg (by simpa using hsz)]
    rfl
  · have key : ∀ (ps : List Tmp) (vs : List Value) (a : Array Value) (E : Env), ps.all (fun t => Nat.blt t n) = true → Agree n a E → Agree n ((ps.zip vs).foldl (fun tmps p => tmps.setIfInBounds p.1 p.2) a) (putsE E ps vs) := by
      intro ps
      induction ps with
      | nil => intro vs a E _ ha; exact ha
      | cons t ts ih =>
        intro vs a E hps ha
        cases vs with
        | nil => exact ha
        | cons v vs =>
          simp only [List.all_cons, Bool.and_eq_true] at hps
          exact ih vs _ _ hps.2 (ha.put (d := some t) hps.1 v)
    have hA' : Agree n ((L.params.zip args.toArray).foldl (fun tmps (t, a) => tmps.setIfInBounds t a) L.tmps) (putsE E ps args) := by
      have := key ps args L.tmps E hps hA
      rw [← hp] at this ⊢
      rw [← Array.foldl_toList, Array.toList_zip]
      exact this
    obtain ⟨m', hs, v, H', w', rfl, hR, S'⟩ := h c cs _ w hA' S
    exact ⟨v, H', w', hR, S', hs⟩
section
variable {X : Pt} {k : List Item} {E : Env} {ds : List Deferred} {H : List Seg} {ops : Array Oper} {os : List Oper}
theorem AtL.perm {H' : List Seg} (hp : H.Perm H') (h : AtL X ops os k E ds H') : AtL X ops os k E ds H := fun is hi a w ha S => h is hi a w ha (S.perm hp)
theorem At.perm {H' : List Seg} (hp : H.Perm H') (h : At X k E ds H') : At X k E ds H := fun a w ha S => h a w ha (S.perm hp)
/-- A call of a loop's yield. -/
theorem Do.yield {l : Nat} {x : Operand} {xs : Array Operand} {ts : Array TypeId} {args : List Value} {R : Value → List Seg → Prop} (hv : ev E x = some (.func (.yield l) #[] #[])) (hx : evs E xs.toList = some args) (hc : YCalls X.P l args X.w0 X.base H R) : Does X E H (.call ⟨.value x, xs, ts⟩) R := by
  intro dst ty pos after g ops i is k ds a w ho hw ha S
  obtain ⟨f, tmps, assign, body, hy, hr⟩ := hc w S
  obtain ⟨v, H', w', hR, S', hs⟩ := hr (X.c.fr a ds (.inRegion ops (i :: is) :: k)) X.cs
  refine ⟨v, H', w', hR, S', .head (m₁ := lone (Frame.round l f tmps assign body .normal) (X.c.fr a ds (.inRegion ops (i :: is) :: k) :: X.cs) w) (step_lone_go ?_) ?_⟩
  · rw [go_stepG ho hw (.inl rfl)]
    have hrun : (execOp (evA a) ⟨dst, .call ⟨.value x, xs, ts⟩, ty, pos, after, g⟩).run X.P w = .ok (.round l f tmps assign body) w := by
      simp [execOp, resolve, ha _ _ hv, Deferred.ofValue, evs_arr ha hx, invoke, hy]
    simp [stepG.apply, hrun, Ctx.fr]
  · rw [fr_finish ho] at hs
    exact hs
theorem AtL.yield {dst : Option Tmp} {ty : TypeId} {pos : String} {after : Array Edge} {g : Option (Nat × Bool)} {l : Nat} {x : Operand} {xs : Array Operand} {ts : Array TypeId} {args : List Value} {R : Value → List Seg → Prop} (hg : Wd X ops E g) (hd : dstOk X.n dst = true) (hv : ev E x = some (.func (.yield l) #[] #[])) (hx : evs E xs.toList = some args) (hc : YCalls X.P l args X.w0 X.base H R)
    (hk : ∀ v H', R v H' → AtL X ops os k (putE E dst v) ds H') : AtL X ops (⟨dst, .call ⟨.value x, xs, ts⟩, ty, pos, after, g⟩ :: os) k E ds H := AtL.of (Do.yield hv hx hc) hg hd hk
/-- A round begins. -/
theorem At.beginRound {l i j : Nat} {s : Seg} {L : Loop} {H' : List Seg} (hr : X.c.round = some l) (hi : H[i]? = some s) (hj : s[j]? = some (l, .loop L)) (hs : L.state = .ready) (hH : H.set i (s.set j (l, .loop { L with state := .busy })) = H') (h : At X k E ds H') : At X (.beginRound :: k) E ds H := by
  intro a w ha S
  have hb := (S.at_ hi hj).1
  have hrun : (Instr.beginRound l).run X.P w = .ok () { w with heap := w.heap.setIfInBounds l (.loop { L with state := .busy }) } := by
    unfold Instr.beginRound
    simp only [Sem.run_bind, getLoop_run hb, Result.andThen_ok, setObj_run hb rfl, hs, Sem.run_pure]
  refine .step (m' := lone (X.c.fr a ds k) X.cs { w with heap := w.heap.setIfInBounds l (.loop { L with state := .busy }) }) (step_lone_go ?_) (h a _ ha (hH ▸ S.setObj hi hj _))
  have hr2 : (do (Instr.beginRound l); pure .skip : Sem Next).run X.P w = .ok .skip { w with heap := w.heap.setIfInBounds l (.loop { L with state := .busy }) } := by
    simp only [Sem.run_bind, hrun, Result.andThen_ok, Sem.run_pure]
  simp only [stepG, stepG.exec, Ctx.fr, hr, Option.elim_some, stepG.apply, Sem.runT_eq, if_true, hr2, GStep.bare_after, Frame.finish]
  rfl
section ends
variable {P : Program} {f : FuncId} {n l i j : Nat} {c : Frame} {cs : List Frame} {w0 : World} {base : Nat} {R : Value → List Seg → Prop} {s : Seg} {L : Loop} {H' : List Seg}
theorem endRound_run {w : World} (hb : w.heap[l]? = some (.loop L)) (jump : Option Code) : (Instr.endRound l jump).run P w = .ok (.bool jump.isNone) { w with heap := w.heap.setIfInBounds l (.loop { L with state := if jump.isNone then .ready else .done, pending := jump }) } := by
  unfold Instr.endRound
  simp only [Sem.run_bind, getLoop_run hb, Result.andThen_ok, setObj_run hb rfl, Sem.run_pure]
/-- A round ends. -/
theorem At.roundEnd (hi : H[i]? = some s) (hj : s[j]? = some (l, .loop L)) (hH : H.set i (s.set j (l, .loop { L with state := .ready, pending := none })) = H') (hR : R (.bool true) H') :
    At ⟨P, ⟨f, .normal, some l⟩, n, c :: cs, LeftY c cs w0 base R, w0, base⟩ [] E ds H := by
  intro a w ha S
  have hb := (S.at_ hi hj).1
  have hrun := endRound_run (P := P) hb none
  have S' := hH ▸ S.setObj hi hj (.loop { L with state := .ready, pending := none })
  refine .step (m' := lone (c.finish (.bool true)) cs { w with heap := w.heap.setIfInBounds l (.loop { L with state := .ready, pending := none }) }) (step_lone_go ?_) ⟨_, .refl P _, _, H', _, rfl, hR, S'⟩
  simp only [stepG, stepG.exec, Ctx.fr, Sem.runT_eq, hrun, GStep.bare_after, doReturn]
  rfl
/-- A round leaves its loop. -/
theorem At.roundExit {id : Nat} (hx : exitTo id k = none) (hi : H[i]? = some s) (hj : s[j]? = some (l, .loop L)) (hH : H.set i (s.set j (l, .loop { L with state := .done, pending := some (.exit id) })) = H') (hR : R (.bool false) H') :
    At ⟨P, ⟨f, .normal, some l⟩, n, c :: cs, LeftY c cs w0 base R, w0, base⟩ (.code (.exit id) :: k) E ds H := by
  intro a w ha S
  have hb := (S.at_ hi hj).1
  have hrun := endRound_run (P := P) hb (some (.exit id))
  have S' := hH ▸ S.setObj hi hj (.loop { L with state := .done, pending := some (.exit id) })
  refine .step (m' := lone (c.finish (.bool false)) cs { w with heap := w.heap.setIfInBounds l (.loop { L with state := .done, pending := some (.exit id) }) }) (step_lone_go ?_) ⟨_, .refl P _, _, H', _, rfl, hR, S'⟩
  simp only [stepG, stepG.exec, Ctx.fr, hx, Option.elim_none, Sem.runT_eq, hrun, GStep.bare_after, doReturn]
  rfl
theorem At.roundRet (hi : H[i]? = some s) (hj : s[j]? = some (l, .loop L)) (hH : H.set i (s.set j (l, .loop { L with state := .done, pending := some .ret })) = H') (hR : R (.bool false) H') :
    At ⟨P, ⟨f, .normal, some l⟩, n, c :: cs, LeftY c cs w0 base R, w0, base⟩ (.code .ret :: k) E ds H := by
  intro a w ha S
  have hb := (S.at_ hi hj).1
  have hrun := endRound_run (P := P) hb (some .ret)
  have S' := hH ▸ S.setObj hi hj (.loop { L with state := .done, pending := some .ret })
  refine .step (m' := lone (c.finish (.bool false)) cs { w with heap := w.heap.setIfInBounds l (.loop { L with state := .done, pending := some .ret }) }) (step_lone_go ?_) ⟨_, .refl P _, _, H', _, rfl, hR, S'⟩
  simp only [stepG, stepG.exec, Ctx.fr, Sem.runT_eq, hrun, GStep.bare_after, doReturn]
  rfl
end ends
/-- A range over a function. -/
theorem At.rangeFunc {f : Operand} {params : Array Tmp} {assign body : Code} {gf : FuncId} {u c : Array Value} {R : Array Value → Nat → Nat → Value → List Seg → Prop} (hr : X.c.round = none) (hb : Body X.P gf) (hf : ev E f = some (.func (.func gf) u c))
    (hc : ∀ (a : Array Value) (l r : Nat), Agree X.n a E → SCalls X.P gf (u.toList ++ [.func (.yield l) #[] #[]] ++ c.toList) X.w0 X.base ([(l, .loop ⟨.ready, none, X.c.fn, a, params, assign, body, r⟩)] :: [(r, .deferred (some []))] :: H) (R a l r))
    (hk : ∀ a l r v H1, Agree X.n a E → R a l r v H1 → ∃ i j s L, ∃ H' : List Seg, H1[i]? = some s ∧ s[j]? = some (l, .loop L) ∧ L.state ≠ .busy ∧ H1.set i (s.set j (l, .loop { L with state := .exhausted })) = H' ∧
      At X ((L.pending.map Item.code).toList ++ k) E ({ target := .collected r, args := #[] } :: ds) H') : At X (.code (.rangeFunc f params assign body) :: k) E ds H := by
  intro a w ha S
  have S1 := (S.alloc (.deferred (some []))).alloc (.loop ⟨.ready, none, X.c.fn, a, params, assign, body, w.heap.size⟩)
  have hsz : (w.alloc (.deferred (some []))).heap.size = w.heap.size + 1 := by simp
  have henter : (Instr.enterLoop X.c.fn a params assign body none).run X.P w = .ok (w.heap.size + 1, [{ target := .collected w.heap.size, args := #[] }]) ((w.alloc (.deferred (some []))).alloc (.loop ⟨.ready, none, X.c.fn, a, params, assign, body, w.heap.size⟩)) := by
    unfold Instr.enterLoop
    simp only [Sem.run_bind, run_newObj, Result.andThen_ok, Sem.run_pure]
    show Result.ok ((w.heap.push _).size, _) _ = _
    rw [Array.size_push]
    rfl
  rw [hsz] at S1
  have hcall := hc a (w.heap.size + 1) w.heap.size ha _ S1
  obtain ⟨e, w', fr, ⟨v, H1, rfl, hR, S'⟩, hcomes, _, hleave⟩ := hcall (X.c.fr a ({ target := .collected w.heap.size, args := #[] } :: ds) (.inRangeFunc (w.heap.size + 1) :: k) :: X.cs)
  obtain ⟨i, j, s, L, H', hi, hj, hns, hH, hat⟩ := hk a _ _ v H1 ha hR
  have hbk := (S'.at_ hi hj).1
  obtain ⟨Y, hY⟩ : ∃ Y : List Value, Y = [Value.func (Fn.yield (w.heap.size + 1)) #[] #[]] := ⟨_, rfl⟩
  have e1 : (u ++ Y.toArray ++ c) = (u.toList ++ Y ++ c.toList).toArray := by
    apply Array.ext'
    simp
  rw [← hY] at hcomes
  refine .step (m' := lone (Frame.enter X.P gf (u.toList ++ Y ++ c.toList).toArray .normal) (X.c.fr a ({ target := .collected w.heap.size, args := #[] } :: ds) (.inRangeFunc (w.heap.size + 1) :: k) :: X.cs) ((w.alloc (.deferred (some []))).alloc (.loop ⟨.ready, none, X.c.fn, a, params, assign, body, w.heap.size⟩))) (step_lone_go ?_) (.steps hcomes (.step (step_leave_returned hleave) ?_))
  · have hfe := fr_eval' (c := X.c) (a := a) (ds := { target := .collected w.heap.size, args := #[] } :: ds) (k := .inRangeFunc (w.heap.size + 1) :: k)
    have hfv := ha.ev hf
    simp only [Ctx.fr] at hfe
    rw [hr] at hfe
    simp only [stepG, stepG.exec, Ctx.fr, hr, Sem.runT_eq, henter, GStep.bare_after, List.singleton_append, hfe]
    have hrun : ∀ (y : Value) (w : World), (do let d ← resolve (evA a) { callee := .value f, args := #[.const y], argTypes := #[] } 0; invoke d.target d.args : Sem Next).run X.P w = .ok (.enter gf (u ++ #[y] ++ c)) w := by
      intro y w
      have hcy : evA a (.const y) = y := rfl
      simp [resolve, hfv, Deferred.ofValue, invoke, body_run hb, hcy]
    simp only [stepG.apply, Sem.runT_eq, if_true, hrun, GStep.bare_after]
    rw [← e1, hY]
    rfl
  · have hend : (Instr.endLoop (w.heap.size + 1)).run X.P w' = .ok L.pending { w' with heap := w'.heap.setIfInBounds (w.heap.size + 1) (.loop { L with state := .exhausted }) } := by
      have hnb : (L.state == LoopState.busy) = false := by simpa using hns
      unfold Instr.endLoop
      simp only [Sem.run_bind, getLoop_run hbk, Result.andThen_ok, hnb, Bool.false_eq_true, if_false, setObj_run hbk rfl, Sem.run_pure]
    refine .step (m' := lone (X.c.fr a ({ target := .collected w.heap.size, args := #[] } :: ds) ((L.pending.map Item.code).toList ++ k)) X.cs { w' with heap := w'.heap.setIfInBounds (w.heap.size + 1) (.loop { L with state := .exhausted }) }) (step_lone_go ?_) (hat a _ ha (hH ▸ S'.setObj hi hj _))
    have hfin : (X.c.fr a ({ target := .collected w.heap.size, args := #[] } :: ds) (.inRangeFunc (w.heap.size + 1) :: k)).finish v = X.c.fr a ({ target := .collected w.heap.size, args := #[] } :: ds) (.endRangeFunc (w.heap.size + 1) :: k) := rfl
    rw [hfin]
    simp only [stepG, stepG.exec, Ctx.fr, Sem.runT_eq, hend, GStep.bare_after]
    rfl
/-- What a loop had gathered is taken at the end. -/
theorem Un.collected {m : FrameMode} {r i j : Nat} {ds0 : List Deferred} {s : Seg} {H' : List Seg} {args : Array Value} (hm : (match m with | .run => false | _ => true) = true) (hi : H[i]? = some s) (hj : s[j]? = some (r, .deferred (some ds0))) (hH : H.set i (s.set j (r, .deferred none)) = H') (h : Un X m E (ds0 ++ ds) H') :
    Un X m E ({ target := .collected r, args } :: ds) H := by
  intro a w k ha S
  have hb := (S.at_ hi hj).1
  have hrun : (Instr.takeDeferred r).run X.P w = .ok ds0 { w with heap := w.heap.setIfInBounds r (.deferred none) } := by
    unfold Instr.takeDeferred
    have h1 : (getObj r).run X.P w = .ok (.deferred (some ds0)) w := by simp [getObj, Sem.run, hb]
    simp only [Sem.run_bind, h1, Result.andThen_ok, setObj_run hb rfl, Sem.run_pure]
  refine .step (m' := lone { X.c.fr a (ds0 ++ ds) k with mode := m } X.cs { w with heap := w.heap.setIfInBounds r (.deferred none) }) (step_lone_go ?_) (h a _ k ha (hH ▸ S.setObj hi hj _))
  cases m with
  | run => cases hm
  | returning => simp only [stepG, unwind, Ctx.fr, Sem.runT_eq, hrun, GStep.bare_after]; rfl
  | panicking ch => simp only [stepG, unwind, Ctx.fr, Sem.runT_eq, hrun, GStep.bare_after]; rfl
end
end Go.Proofs.YtlkdmbpbjhjkfaaGreatDoor
