/- A logic for walks: ranges over functions in a handy form; contracts with other orders of memory; nil interfaces. -/
import Derived.Test.YtlkdmbpbjhjkfaaGreatDoorLgJ
namespace Go.Proofs.YtlkdmbpbjhjkfaaGreatDoor
open Go.RowKit (Below)
set_option linter.unusedVariables false
set_option linter.unusedSimpArgs false

theorem SCalls.pick {P : Program} {f : FuncId} {args : List Value} {w0 : World} {base : Nat} {H H' : List Seg} {R : Value → List Seg → Prop} (is : List Nat) (m : Nat) (hok : pickOk is m = true) (hH : pickSegs H is m = H') (h : SCalls P f args w0 base H' R) : SCalls P f args w0 base H R :=
  fun w S => h w (hH ▸ S.pick is m hok)
theorem SCalls.perm {P : Program} {f : FuncId} {args : List Value} {w0 : World} {base : Nat} {H H' : List Seg} {R : Value → List Seg → Prop} (hp : H.Perm H') (h : SCalls P f args w0 base H' R) : SCalls P f args w0 base H R :=
  fun w S => h w (S.perm hp)
theorem YCalls.pick {P : Program} {l : Nat} {args : List Value} {w0 : World} {base : Nat} {H H' : List Seg} {R : Value → List Seg → Prop} (is : List Nat) (m : Nat) (hok : pickOk is m = true) (hH : pickSegs H is m = H') (h : YCalls P l args w0 base H' R) : YCalls P l args w0 base H R :=
  fun w S => h w (hH ▸ S.pick is m hok)
theorem YCalls.perm {P : Program} {l : Nat} {args : List Value} {w0 : World} {base : Nat} {H H' : List Seg} {R : Value → List Seg → Prop} (hp : H.Perm H') (h : YCalls P l args w0 base H' R) : YCalls P l args w0 base H R :=
  fun w S => h w (S.perm hp)
/-- What is left of memory may be put in another order. -/
theorem SCalls.permR {P : Program} {f : FuncId} {args : List Value} {w0 : World} {base : Nat} {H : List Seg} {R R' : Value → List Seg → Prop} (h : SCalls P f args w0 base H R) (hr : ∀ v H1, R v H1 → ∃ H2, H1.Perm H2 ∧ R' v H2) : SCalls P f args w0 base H R' :=
  fun w S => (h w S).mono fun _ _ ⟨v, H1, he, hR, hS⟩ => let ⟨H2, hp, hR2⟩ := hr v H1 hR; ⟨v, H2, he, hR2, hS.perm hp⟩
theorem YCalls.permR {P : Program} {l : Nat} {args : List Value} {w0 : World} {base : Nat} {H : List Seg} {R R' : Value → List Seg → Prop} (h : YCalls P l args w0 base H R) (hr : ∀ v H1, R v H1 → ∃ H2, H1.Perm H2 ∧ R' v H2) : YCalls P l args w0 base H R' := by
  intro w S
  obtain ⟨f, tmps, assign, body, h1, h2⟩ := h w S
  refine ⟨f, tmps, assign, body, h1, fun c cs => ?_⟩
  obtain ⟨v, H', w', hR, S', hs⟩ := h2 c cs
  obtain ⟨H2, hp, hR2⟩ := hr v H' hR
  exact ⟨v, H2, w', hR2, S'.perm hp, hs⟩

/-- A loop over a function, between its rounds. -/
structure IsLoop (n : Nat) (f : FuncId) (E : Env) (params : Array Tmp) (assign body : Code) (L : Loop) : Prop where
  fn : L.fn = f
  agree : Agree n L.tmps E
  params : L.params = params
  assign : L.assign = assign
  body : L.body = body
  state : L.state = .ready
  pending : L.pending = none
def busyL (L : Loop) : Loop := { L with state := .busy }
def leftL (L : Loop) (c : Code) : Loop := { L with state := .done, pending := some c }
def overL (L : Loop) : Loop := { L with state := .exhausted }
theorem ready_busy {L : Loop} (h1 : L.state = .ready) (h2 : L.pending = none) : { busyL L with state := .ready, pending := none } = L := by
  cases L; simp_all [busyL]

section
variable {X : Pt} {k : List Item} {E : Env} {ds : List Deferred} {H : List Seg} {ops : Array Oper} {os : List Oper}
/-- A range over a function. -/
theorem At.rangeF {f : Operand} {params : Array Tmp} {assign body : Code} {gf : FuncId} {u c : Array Value} {args : List Value} {R : Loop → Nat → Nat → Value → List Seg → Prop} (hr : X.c.round = none) (hb : Body X.P gf) (hf : ev E f = some (.func (.func gf) u c))
    (ha : ∀ l : Nat, u.toList ++ [.func (.yield l) #[] #[]] ++ c.toList = .func (.yield l) #[] #[] :: args)
    (hc : ∀ (L : Loop) (l r : Nat), IsLoop X.n X.c.fn E params assign body L → SCalls X.P gf (.func (.yield l) #[] #[] :: args) X.w0 X.base ([(l, .loop L)] :: [(r, .deferred (some []))] :: H) (R L l r))
    (hk : ∀ (L : Loop) (l r : Nat) (v : Value) (H1 : List Seg), IsLoop X.n X.c.fn E params assign body L → R L l r v H1 → ∃ i j s L', ∃ H' : List Seg, H1[i]? = some s ∧ s[j]? = some (l, .loop L') ∧ L'.state ≠ .busy ∧ H1.set i (s.set j (l, .loop (overL L'))) = H' ∧
      At X ((L'.pending.map Item.code).toList ++ k) E ({ target := .collected r, args := #[] } :: ds) H') : At X (.code (.rangeFunc f params assign body) :: k) E ds H :=
  At.rangeFunc (R := fun a l r => R ⟨.ready, none, X.c.fn, a, params, assign, body, r⟩ l r) hr hb hf
    (fun a l r hA => ha l ▸ hc _ l r ⟨rfl, hA, rfl, rfl, rfl, rfl, rfl⟩)
    (fun a l r v H1 hA hR => hk _ l r v H1 ⟨rfl, hA, rfl, rfl, rfl, rfl, rfl⟩ hR)
end
/-- A round of a loop, walked. -/
theorem YCalls.walkL {P : Program} {l n i j : Nat} {f : FuncId} {args : List Value} {w0 : World} {base : Nat} {H : List Seg} {R : Value → List Seg → Prop} {s : Seg} {L : Loop} {E : Env} {params : Array Tmp} {assign body : Code} {ps : List Tmp}
    (hL : IsLoop n f E params assign body L) (hi : H[i]? = some s) (hj : s[j]? = some (l, .loop L)) (hp : params.toList = ps) (hlen : args.length = ps.length) (hps : ps.all (fun t => Nat.blt t n) = true)
    (h : ∀ c cs, At ⟨P, ⟨f, .normal, some l⟩, n, c :: cs, LeftY c cs w0 base R, w0, base⟩ [.code assign, .beginRound, .code body] (putsE E ps args) [] H) : YCalls P l args w0 base H R := by
  have h1 := hL.fn
  have h2 := hL.assign
  have h3 := hL.body
  have h4 := hL.params
  refine YCalls.of_walk hi hj hL.agree (h4 ▸ hp) hlen hps fun c cs => ?_
  rw [h1, h2, h3]
  exact h c cs
theorem At.beginL {X : Pt} {k : List Item} {E E0 : Env} {ds : List Deferred} {H : List Seg} {n : Nat} {f : FuncId} {params : Array Tmp} {assign body : Code} {l : Nat} (i j : Nat) {s : Seg} {L : Loop} {H' : List Seg} (hL : IsLoop n f E0 params assign body L) (hr : X.c.round = some l) (hi : H[i]? = some s) (hj : s[j]? = some (l, .loop L)) (hH : H.set i (s.set j (l, .loop (busyL L))) = H') (h : At X k E ds H') : At X (.beginRound :: k) E ds H :=
  At.beginRound hr hi hj hL.state hH h
section ends
variable {P : Program} {f f0 : FuncId} {n n0 l : Nat} {c : Frame} {cs : List Frame} {w0 : World} {base : Nat} {R : Value → List Seg → Prop} {s : Seg} {L : Loop} {H H' : List Seg} {E E0 : Env} {params : Array Tmp} {assign body : Code} {k : List Item} {ds : List Deferred}
theorem At.roundEndL (i j : Nat) (hL : IsLoop n0 f0 E0 params assign body L) (hi : H[i]? = some s) (hj : s[j]? = some (l, .loop (busyL L))) (hH : H.set i (s.set j (l, .loop L)) = H') (hR : R (.bool true) H') :
    At ⟨P, ⟨f, .normal, some l⟩, n, c :: cs, LeftY c cs w0 base R, w0, base⟩ [] E ds H :=
  At.roundEnd hi hj (by rw [ready_busy hL.state hL.pending]; exact hH) hR
theorem At.roundExitL (i j : Nat) {id : Nat} (hx : exitTo id k = none) (hi : H[i]? = some s) (hj : s[j]? = some (l, .loop (busyL L))) (hH : H.set i (s.set j (l, .loop (leftL L (.exit id)))) = H') (hR : R (.bool false) H') :
    At ⟨P, ⟨f, .normal, some l⟩, n, c :: cs, LeftY c cs w0 base R, w0, base⟩ (.code (.exit id) :: k) E ds H :=
  At.roundExit hx hi hj hH hR
theorem At.roundRetL (i j : Nat) (hi : H[i]? = some s) (hj : s[j]? = some (l, .loop (busyL L))) (hH : H.set i (s.set j (l, .loop (leftL L .ret))) = H') (hR : R (.bool false) H') :
    At ⟨P, ⟨f, .normal, some l⟩, n, c :: cs, LeftY c cs w0 base R, w0, base⟩ (.code .ret :: k) E ds H :=
  At.roundRet hi hj hH hR
end ends
theorem loop_ready {n : Nat} {f : FuncId} {E : Env} {params : Array Tmp} {assign body : Code} {L : Loop} (h : IsLoop n f E params assign body L) : L.state ≠ .busy := by rw [h.state]; decide
theorem loop_left {L : Loop} {c : Code} : (leftL L c).state ≠ .busy := by simp [leftL]
/-- The loop has run dry: on behind it. -/
theorem loop_dry {n : Nat} {f : FuncId} {E : Env} {params : Array Tmp} {assign body : Code} {L : Loop} (h : IsLoop n f E params assign body L) (k : List Item) : (L.pending.map Item.code).toList ++ k = k := by rw [h.pending]; rfl

theorem bv_of_nat (n : Nat) (h : n < 2 ^ 63) : (BitVec.ofInt 64 (n : Int)).toNat = n := by
  rw [BitVec.toNat_ofInt]
  omega
/-- The or of numbers that share no bits. -/
theorem or_add {a b : Int} (k : Nat) (q r : Nat) (ha : a = (q : Int) * 2 ^ k) (hb : b = (r : Int)) (hr : r < 2 ^ k) (hm : (q * 2 ^ k + r : Nat) < 2 ^ 63) : IntKind.i64.wrap ((BitVec.ofInt IntKind.i64.bits a ||| BitVec.ofInt IntKind.i64.bits b).toNat : Int) = a + b := by
  have e : a = ((q * 2 ^ k : Nat) : Int) := by rw [ha]; push_cast; rfl
  subst hb
  rw [e]
  show IntKind.i64.wrap ((BitVec.ofInt 64 _ ||| BitVec.ofInt 64 _).toNat : Int) = _
  rw [BitVec.toNat_or, bv_of_nat _ (by omega), bv_of_nat _ (by omega)]
  have h := Nat.shiftLeft_add_eq_or_of_lt hr q
  rw [Nat.shiftLeft_eq] at h
  rw [← h]
  rw [w64 (by omega) (by omega)]
  push_cast
  rfl
theorem u8_le (x : UInt8) : x.toNat ≤ 255 := by have := x.toNat_lt; omega
theorem u8_i64 (x : UInt8) : IntKind.i64.wrap (x.toNat : Int) = (x.toNat : Int) := by have := u8_le x; exact w64 (by omega) (by omega)
theorem subl_getD {α : Type} {l : List α} {i j k : Nat} {d : α} (hk : k < j - i) : (subl l i j).getD k d = l.getD (i + k) d := by
  simp only [subl, List.getD]
  rw [List.getElem?_take_of_lt (by omega), List.getElem?_drop]
theorem subl_gets {l : List UInt8} {i j k : Nat} (hk : k < j - i) : (subl l i j).getD k 0 = l.getD (i + k) 0 := subl_getD hk
/-- The lowest bits. -/
theorem and_mask {a b : Int} (k : Nat) (q : Nat) (ha : a = (q : Int)) (hb : b = ((2 ^ k - 1 : Nat) : Int)) (hk : k < 63) (hm : q < 2 ^ 63) : IntKind.i64.wrap ((BitVec.ofInt IntKind.i64.bits a &&& BitVec.ofInt IntKind.i64.bits b).toNat : Int) = ((q % 2 ^ k : Nat) : Int) := by
  subst ha; subst hb
  have h1 : (2 : Nat) ^ k < 2 ^ 63 := Nat.pow_lt_pow_right (by omega) hk
  have h2 : 0 < (2 : Nat) ^ k := Nat.pow_pos (by omega)
  show IntKind.i64.wrap ((BitVec.ofInt 64 _ &&& BitVec.ofInt 64 _).toNat : Int) = _
  rw [BitVec.toNat_and, bv_of_nat _ hm, bv_of_nat _ (by omega), Nat.and_two_pow_sub_one_eq_mod]
  have h3 := Nat.mod_lt q h2
  exact w64 (by omega) (by omega)
/-- A slice of its own, with what it holds. -/
structure Sl {α : Type} (T : Ty α) (e : TypeId) where
  A : Option Addr
  C : Nat
  l : List α
  s : Seg
  own : Own T e A C l s
def Sl.nil {α : Type} {T : Ty α} {e : TypeId} : Sl T e := ⟨none, 0, [], [], Own.nil T e⟩
/-- A slice that reads as a list, with its proof. -/
structure Vw {α : Type} (T : Ty α) (w0 : World) (base : Nat) (H : List Seg) where
  A : Option Addr
  C : Nat
  l : List α
  rd : Rd T w0 base H A C l
/-- A slice that reads as a list, without its proof: a slice as an element of something. -/
structure Vs (α : Type) where
  A : Option Addr
  C : Nat
  l : List α
def tyVs (α : Type) : Ty (Vs α) := { val := fun v => .slice v.A v.l.length v.C, sz := 1, ok := fun _ => rfl, plain := fun x c hc => by simp [Value.cells] at hc; subst hc; rfl }
abbrev Bs := Vs UInt8
abbrev tyL : Ty Bs := tyVs UInt8
section drops
variable {P : Program} {f : FuncId} {fn : Func} {n : Nat} {cs : List Frame} {w0 : World} {base : Nat} {H H2 : List Seg} {R : Value → List Seg → Prop} {E : Env} {k : List Item} {rs : List ResultVar} {vs : List Value}
/-- The end of a call whose results stand in memory; some blocks are let go. -/
theorem Un.leftP (is : List Nat) (q : Nat) (hok : pickOk is q = true) (hH : pickSegs H is q = H2) (hf : P.funcs[f]? = some fn) (hrs : fn.results.toList = rs) (hv : ResP P w0 base H E rs vs) (hR : R (oneOf vs) H2) : Un ⟨P, ⟨f, .normal, none⟩, n, cs, Left P f cs w0 base R, w0, base⟩ .returning E [] H := by
  intro a w k ha S
  subst hrs
  exact ⟨_, .refl P _, oneOf vs, H2, _, w, rfl, rfl, ⟨rfl, rfl, rfl, fn, hf, results_run ha S hv⟩, hR, hH ▸ S.pick is q hok⟩
theorem At.retMP (is : List Nat) (q : Nat) (hok : pickOk is q = true) (hH : pickSegs H is q = H2) (hf : P.funcs[f]? = some fn) (hrs : fn.results.toList = rs) (hv : ResP P w0 base H E rs vs) (hR : R (oneOf vs) H2) :
    At ⟨P, ⟨f, .normal, none⟩, n, cs, Left P f cs w0 base R, w0, base⟩ (.code .ret :: k) E [] H := At.retU rfl (Un.leftP is q hok hH hf hrs hv hR)
theorem At.endMP (is : List Nat) (q : Nat) (hok : pickOk is q = true) (hH : pickSegs H is q = H2) (hf : P.funcs[f]? = some fn) (hrs : fn.results.toList = rs) (hv : ResP P w0 base H E rs vs) (hR : R (oneOf vs) H2) :
    At ⟨P, ⟨f, .normal, none⟩, n, cs, Left P f cs w0 base R, w0, base⟩ [] E [] H := At.endU rfl (Un.leftP is q hok hH hf hrs hv hR)
end drops

section joins
variable {X : Pt} {k : List Item} {E : Env} {ds ds' : List Deferred} {H H' : List Seg} {ops : Array Oper} {os os' : List Oper}
/-- Ways that meet within a region. -/
theorem AtL.join (m : Nat) {E' : Env} (h : (∀ E2, Sub E' E2 → AtL X ops (os.drop m) k E2 ds H') → AtL X ops os k E ds H) (K : AtL X ops (os.drop m) k E' ds H') : AtL X ops os k E ds H := h fun _ hs => AtL.mono hs K
/-- Ways that meet behind a choice. -/
theorem At.join {k' : List Item} {E' : Env} (h : (∀ E2, Sub E' E2 → At X k' E2 ds' H') → At X k E ds H) (K : At X k' E' ds' H') : At X k E ds H := h fun _ hs => At.mono hs K
theorem At.join1 {α : Type} {k' : List Item} (E' : α → Env) (H' : α → List Seg) (Q : α → Prop) (h : (∀ x E2, Q x → Sub (E' x) E2 → At X k' E2 ds' (H' x)) → At X k E ds H) (K : ∀ x, Q x → At X k' (E' x) ds' (H' x)) : At X k E ds H := h fun x _ q hs => At.mono hs (K x q)
theorem boolIs {v b : Bool} (h : v = b) : some (Value.bool v) = some (Value.bool b) := by rw [h]
end joins
section skips
variable {X : Pt} {k : List Item} {E : Env} {ds : List Deferred} {H : List Seg} {ops : Array Oper} {os : List Oper}
/-- A guarded operation whose guard was not carried out. -/
theorem AtL.skippedU {o : Oper} {j t : Nat} {want : Bool} (hg : o.guard = some (j, want)) (hj : (ops[j]?).bind (·.dst) = some t) (ht : Nat.blt t X.n = true) (hb : Env.get E t = some undef) (hd : dstOk X.n o.dst = true)
    (h : AtL X ops os k (putE E o.dst undef) ds H) : AtL X ops (o :: os) k E ds H := by
  intro is hi a w ha S
  cases is with
  | nil => simp at hi
  | cons i is =>
    simp only [List.map_cons, List.cons.injEq] at hi
    obtain ⟨ho, hi⟩ := hi
    refine .step (go_op_skip ho ?_) (h is hi _ _ (ha.put hd undef) S)
    have hv := ha.get t _ hb
    have hs : t < a.size := by rw [ha.size]; exact blt_lt ht
    have : yielded ops a j = none := by
      unfold yielded
      rw [hj]
      simp only [Option.bind_some, Array.getElem?_eq_getElem hs]
      rw [Array.getD_eq_getD_getElem?, Array.getElem?_eq_getElem hs] at hv
      simp at hv
      rw [hv]
      rfl
    simp [Region.wanted, hg, this]
end skips
section mins
variable {X : Pt} {E : Env} {H : List Seg} {ops : Array Oper} {os : List Oper} {k : List Item} {ds : List Deferred} {d : Nat} {ty : TypeId} {pos : String} {after : Array Edge} {g : Option (Nat × Bool)} {ts : Array TypeId} {x y : Operand} {kk : IntKind} {a b z : Int}
theorem Do.minZ (hx : ev E x = some (.int kk a)) (hy : ev E y = some (.int kk b)) (hz : (if b < a then b else a) = z) : Does X E H (.call ⟨.builtin .min, #[x, y], ts⟩) (Is (.int kk z) H) := hz ▸ Do.min2 hx hy
theorem Do.maxZ (hx : ev E x = some (.int kk a)) (hy : ev E y = some (.int kk b)) (hz : (if a < b then b else a) = z) : Does X E H (.call ⟨.builtin .max, #[x, y], ts⟩) (Is (.int kk z) H) := hz ▸ Do.max2 hx hy
theorem AtL.minZ (hg : Wd X ops E g) (hd : Nat.blt d X.n = true) (hx : ev E x = some (.int kk a)) (hy : ev E y = some (.int kk b)) (hz : (if b < a then b else a) = z) (hk : AtL X ops os k ((d, .int kk z) :: E) ds H) :
    AtL X ops (⟨some d, .call ⟨.builtin .min, #[x, y], ts⟩, ty, pos, after, g⟩ :: os) k E ds H := AtL.ofIs (Do.minZ hx hy hz) hg hd hk
theorem AtL.maxZ (hg : Wd X ops E g) (hd : Nat.blt d X.n = true) (hx : ev E x = some (.int kk a)) (hy : ev E y = some (.int kk b)) (hz : (if a < b then b else a) = z) (hk : AtL X ops os k ((d, .int kk z) :: E) ds H) :
    AtL X ops (⟨some d, .call ⟨.builtin .max, #[x, y], ts⟩, ty, pos, after, g⟩ :: os) k E ds H := AtL.ofIs (Do.maxZ hx hy hz) hg hd hk
end mins
section nils
variable {X : Pt} {E : Env} {H : List Seg} {ops : Array Oper} {os : List Oper} {k : List Item} {ds : List Deferred}
  {d : Nat} {ty : TypeId} {pos : String} {after : Array Edge} {g : Option (Nat × Bool)}
theorem eqIn_nilIface {P : Program} {w : World} {n : Nat} {t : TypeId} {ms : Array (String × TypeId)} (hu : P.underlying t = some (.interface ms)) : (Op.equalIn (n + 1) t .nilIface .nilIface).run P w = .ok true w := by
  simp [Op.equalIn, run_underlying hu]
theorem Do.eqNilIface {tx tz : TypeId} {x : Operand} {ms : Array (String × TypeId)} (hu : X.P.underlying tx = some (.interface ms)) (hx : ev E x = some .nilIface) : Does X E H (.binOp .eql tx x (.const .nilIface) tz) (Is (.bool true) H) :=
  Do.eqBy rfl (by cases x <;> rfl) hx rfl (fun w => eqIn_nilIface hu)
theorem AtL.eqNilIface {tx tz : TypeId} {x : Operand} {ms : Array (String × TypeId)} (hu : X.P.underlying tx = some (.interface ms)) (hg : Wd X ops E g) (hd : Nat.blt d X.n = true) (hx : ev E x = some .nilIface) (hk : AtL X ops os k ((d, .bool true) :: E) ds H) :
    AtL X ops (⟨some d, .binOp .eql tx x (.const .nilIface) tz, ty, pos, after, g⟩ :: os) k E ds H :=
  AtL.ofIs (Do.eqNilIface hu hx) hg hd hk
theorem Do.neNilIface {tx tz : TypeId} {x : Operand} {ms : Array (String × TypeId)} (hu : X.P.underlying tx = some (.interface ms)) (hx : ev E x = some .nilIface) : Does X E H (.binOp .neq tx x (.const .nilIface) tz) (Is (.bool false) H) :=
  Do.neBy rfl (by cases x <;> rfl) hx rfl (fun w => eqIn_nilIface hu)
theorem AtL.neNilIface {tx tz : TypeId} {x : Operand} {ms : Array (String × TypeId)} (hu : X.P.underlying tx = some (.interface ms)) (hg : Wd X ops E g) (hd : Nat.blt d X.n = true) (hx : ev E x = some .nilIface) (hk : AtL X ops os k ((d, .bool false) :: E) ds H) :
    AtL X ops (⟨some d, .binOp .neq tx x (.const .nilIface) tz, ty, pos, after, g⟩ :: os) k E ds H :=
  AtL.ofIs (Do.neNilIface hu hx) hg hd hk
end nils
end Go.Proofs.YtlkdmbpbjhjkfaaGreatDoor
